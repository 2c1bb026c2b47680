import PyProof.Rows.All
import Wide.All
import OpenK.AllK
import Wide.FinOn
import PySem.Challenge.RW_whichpass_k01_lots_meetings
import KE.KStateDown
import Lean
import HandS.ForMost
import HandS.Walk
import HandS.Wide
import HandS.WideBits
import HandS.TupAny
import HandS.TupMul
import HandS.IsInst
import HandS.Flow
import HandS.Style
import HandS.CallSlots
import HandS.ForExc
import HandS.Conv
import HandS.Rev
import HandS.SortInts
import HandS.Deep
import HandS.RaiseMore
import HandS.StrMore
import HandS.Small
import PyProof.LongRange
import HandS.Defaults
import PyProof.Draws
import PyProof.EnumMake
import PyProof.ListRange
import HandS.Ends
import HandS.Words
import HandS.WordsExc
import HandS.Head0
import HandS.Head1
import HandS.Head2
import HandS.HeadEnd
import HandS.HeadHook1
import HandS.HeadHook2
import HandS.Base
import HandS.Call
import HandS.More
set_option Elab.async false
set_option linter.all false
set_option maxRecDepth 100000
set_option maxHeartbeats 4000000
set_option exponentiation.threshold 256
/-! Ivy, part A: plain data, a small language over it, its evaluator. -/
namespace Ivy

abbrev Tx := List Nat
abbrev Ky := Sum Int Tx

/-- data: tuples are trees; rol: a list that nobody changes; lst, dct: fresh ones that nobody else holds; ref: a cell -/
inductive D where
  | non | bl (b : Bool) | int (i : Int) | str (x : Tx) | tup (xs : List D) | rol (xs : List D)
  | lst (xs : List D) | dct (kvs : List (Ky × D)) | ref (n : Nat) | exc (c : Nat) (fs : List (Tx × D))
instance : Inhabited D := ⟨.non⟩

inductive C where
  | lst (xs : List D) | dct (kvs : List (Ky × D)) | ins (c : Nat) (fs : List (Tx × D))

abbrev Hh := List C
abbrev Sl := List (Option D)

inductive R (α : Type) where
  | ok (a : α) (h : Hh) | err (c : Nat) (fs : List (Tx × D)) (h : Hh) | no

def R.bind {α β : Type} (r : R α) (k : α → Hh → R β) : R β := match r with
  | .ok a h => k a h
  | .err c fs h => .err c fs h
  | .no => .no

/-- nothing is raised -/
def R.calm {α : Type} (r : R α) : R α := match r with
  | .err _ _ _ => .no
  | r => r

def D.isNon : D → Bool
  | .non => true
  | _ => false
def D.pers : D → Bool
  | .lst _ => false
  | .dct _ => false
  | .exc _ _ => false
  | _ => true

mutual
def D.low (n : Nat) : D → Bool
  | .tup xs => D.lowL n xs
  | .rol xs => D.lowL n xs
  | .lst xs => D.lowL n xs
  | .dct kvs => D.lowK n kvs
  | .ref m => decide (m < n)
  | .exc _ fs => D.lowF n fs
  | _ => true
def D.lowL (n : Nat) : List D → Bool
  | [] => true
  | d :: ds => D.low n d && D.lowL n ds
def D.lowK (n : Nat) : List (Ky × D) → Bool
  | [] => true
  | (_, d) :: ds => D.low n d && D.lowK n ds
def D.lowF (n : Nat) : List (Tx × D) → Bool
  | [] => true
  | (_, d) :: ds => D.low n d && D.lowF n ds
end
def C.low (n : Nat) : C → Bool
  | .lst xs => D.lowL n xs
  | .dct kvs => D.lowK n kvs
  | .ins _ fs => D.lowF n fs

mutual
def D.beq : D → D → Bool
  | .non, .non => true
  | .bl a, .bl b => a == b
  | .int a, .int b => decide (a = b)
  | .str a, .str b => decide (a = b)
  | .tup a, .tup b => D.beqL a b
  | .rol a, .rol b => D.beqL a b
  | .lst a, .lst b => D.beqL a b
  | .dct a, .dct b => D.beqK a b
  | .ref a, .ref b => a == b
  | .exc c a, .exc d b => c == d && D.beqF a b
  | _, _ => false
def D.beqL : List D → List D → Bool
  | [], [] => true
  | a :: as, b :: bs => D.beq a b && D.beqL as bs
  | _, _ => false
def D.beqK : List (Ky × D) → List (Ky × D) → Bool
  | [], [] => true
  | (j, a) :: as, (k, b) :: bs => decide (j = k) && (D.beq a b && D.beqK as bs)
  | _, _ => false
def D.beqF : List (Tx × D) → List (Tx × D) → Bool
  | [], [] => true
  | (j, a) :: as, (k, b) :: bs => decide (j = k) && (D.beq a b && D.beqF as bs)
  | _, _ => false
end
def C.beq : C → C → Bool
  | .lst a, .lst b => D.beqL a b
  | .dct a, .dct b => D.beqK a b
  | .ins c a, .ins d b => c == d && D.beqF a b
  | _, _ => false

/-- the first cells of g are those of h, or name only old cells -/
def trimOk (n : Nat) : Hh → Hh → Bool
  | [], _ => true
  | c :: h, c' :: g => (C.beq c c' || C.low n c') && trimOk n h g
  | _ :: _, [] => false
/-- a fresh list or dict, if a new cell is handed back -/
def lift (n : Nat) (g : Hh) : D → D
  | .ref m => if n ≤ m then (match g[m]? with
    | some (.lst xs) => .lst xs
    | some (.dct kvs) => .dct kvs
    | _ => .ref m) else .ref m
  | d => d
/-- a call's end: cells that nobody names any more are dropped -/
def finish (h : Hh) (d : D) (g : Hh) : R D :=
  if g.length = h.length then .ok d g
  else if D.low h.length (lift h.length g d) && trimOk h.length h g then .ok (lift h.length g d) (g.take h.length)
  else .ok d g
def finishX (h : Hh) (c : Nat) (fs : List (Tx × D)) (g : Hh) : R D :=
  if g.length = h.length then .err c fs g
  else if D.lowF h.length fs && trimOk h.length h g then .err c fs (g.take h.length)
  else .err c fs g

/-! ### operations on values -/
def lsD (h : Hh) : D → Option (List D)
  | .lst xs => some xs
  | .rol xs => some xs
  | .ref n => (match h[n]? with
    | some (.lst xs) => some xs
    | _ => none)
  | _ => none
/-- a list that may be changed, or a fresh one -/
def lmD (h : Hh) : D → Option (List D)
  | .lst xs => some xs
  | .ref n => (match h[n]? with
    | some (.lst xs) => some xs
    | _ => none)
  | _ => none
def sqD (h : Hh) : D → Option (List D)
  | .tup xs => some xs
  | d => lsD h d
def dcD (h : Hh) : D → Option (List (Ky × D))
  | .dct kvs => some kvs
  | .ref n => (match h[n]? with
    | some (.dct kvs) => some kvs
    | _ => none)
  | _ => none
def kyD : D → Option Ky
  | .int i => some (.inl i)
  | .str x => some (.inr x)
  | _ => none
def kD : Ky → D
  | .inl i => .int i
  | .inr x => .str x
def kGet (kvs : List (Ky × D)) (k : Ky) : Option D := match kvs with
  | [] => none
  | (j, d) :: r => if j = k then some d else kGet r k
def kPut (kvs : List (Ky × D)) (k : Ky) (d : D) : List (Ky × D) := if (kvs.any fun p => decide (p.1 = k)) = true then kvs.map (fun p => if p.1 = k then (p.1, d) else p) else kvs ++ [(k, d)]
def kDrop (kvs : List (Ky × D)) (k : Ky) : List (Ky × D) := match kvs with
  | [] => []
  | (j, e) :: r => if j = k then kDrop r k else (j, e) :: kDrop r k
def fGet (fs : List (Tx × D)) (x : Tx) : Option D := match fs with
  | [] => none
  | (y, d) :: r => if y = x then some d else fGet r x
def fPut (fs : List (Tx × D)) (x : Tx) (d : D) : List (Tx × D) := match fs with
  | [] => [(x, d)]
  | (y, e) :: r => if y = x then (y, d) :: r else (y, e) :: fPut r x d

/-- Python's place of an index -/
def ixP (n : Nat) (i : Int) : Option Nat := if 0 ≤ i then (if i < n then some i.toNat else none) else if -(n : Int) ≤ i then some (i + n).toNat else none
def atP {α : Type} (xs : List α) (i : Int) : Option α := match ixP xs.length i with
  | some j => xs[j]?
  | none => none
/-- a slice's end, brought within -/
def clip (n d : Nat) : Option Int → Nat
  | none => d
  | some v => if v < 0 then (v + (n : Int)).toNat else min v.toNat n
def cut {α : Type} (xs : List α) (lo hi : Option Int) : List α := (xs.drop (clip xs.length 0 lo)).take (clip xs.length xs.length hi - clip xs.length 0 lo)

def big : Nat := 2 ^ 500000
def bigD : Nat := 2 ^ 9000
abbrev cells : Nat := 16777216

/-- lists told by their cells, three deep -/
def told : Nat → Hh → D → D
  | k + 1, h, .ref n => (match h[n]? with
    | some (.lst xs) => .lst (xs.map (told k h))
    | _ => .ref n)
  | k + 1, h, .lst xs => .lst (xs.map (told k h))
  | _, _, d => d
def okTx (x : Tx) : Bool := x.all fun c => decide (c < 1114112)
mutual
/-- data that == may look at, at most k deep -/
def D.dat : Nat → D → Bool
  | _, .non => true
  | _, .bl _ => true
  | _, .int _ => true
  | _, .str x => okTx x
  | k + 1, .tup xs => D.datL k xs
  | k + 1, .rol xs => D.datL k xs
  | k + 1, .lst xs => D.datL k xs
  | _, _ => false
def D.datL : Nat → List D → Bool
  | _, [] => true
  | k, d :: ds => D.dat k d && D.datL k ds
end
mutual
def D.eqv : D → D → Bool
  | .non, .non => true
  | .bl a, .bl b => a == b
  | .bl a, .int b => decide ((if a then 1 else 0) = b)
  | .int a, .bl b => decide (a = (if b then 1 else 0))
  | .int a, .int b => decide (a = b)
  | .str a, .str b => decide (a = b)
  | .tup a, .tup b => D.eqvL a b
  | .rol a, .rol b => D.eqvL a b
  | .rol a, .lst b => D.eqvL a b
  | .lst a, .rol b => D.eqvL a b
  | .lst a, .lst b => D.eqvL a b
  | _, _ => false
def D.eqvL : List D → List D → Bool
  | [], [] => true
  | a :: as, b :: bs => D.eqv a b && D.eqvL as bs
  | _, _ => false
end
/-- two flat data, none a bool beside an int -/
def scalD : D → D → Bool
  | .non, .non => true
  | .non, .int _ => true
  | .int _, .non => true
  | .non, .bl _ => true
  | .bl _, .non => true
  | .non, .str _ => true
  | .str _, .non => true
  | .int _, .int _ => true
  | .bl _, .bl _ => true
  | .str _, .str _ => true
  | .int _, .str _ => true
  | .str _, .int _ => true
  | .bl _, .str _ => true
  | .str _, .bl _ => true
  | _, _ => false
def eqD (h : Hh) (a b : D) : Option Bool := if scalD a b then some (D.eqv a b) else if D.dat 60 (told 3 h a) && D.dat 60 (told 3 h b) then some (D.eqv (told 3 h a) (told 3 h b)) else none

/-! ### texts -/
def ltL : List Nat → List Nat → Bool
  | [], [] => false
  | [], _ :: _ => true
  | _ :: _, [] => false
  | a :: as, b :: bs => if a = b then ltL as bs else decide (a < b)
def preL : List Nat → List Nat → Bool
  | [], _ => true
  | _ :: _, [] => false
  | a :: as, b :: bs => decide (a = b) && preL as bs
/-- y stands somewhere in x -/
def inL (y : List Nat) : List Nat → Bool
  | [] => preL y []
  | c :: x => preL y (c :: x) || inL y x
/-- x parted at each sign c -/
def splL (c : Nat) : List Nat → List (List Nat)
  | [] => [[]]
  | a :: x => if a = c then [] :: splL c x else match splL c x with
    | [] => [[a]]
    | w :: ws => (a :: w) :: ws
def joinT (sep : List Nat) : List (List Nat) → List Nat
  | [] => []
  | [w] => w
  | w :: ws => w ++ (sep ++ joinT sep ws)
def strI (i : Int) : Tx := if i < 0 then 45 :: (Nat.toDigits 10 i.natAbs).map Char.toNat else (Nat.toDigits 10 i.natAbs).map Char.toNat
/-- int(x) of a text -/
def intT (x : Tx) : Option Int := PySem.intText? ⟨x.toArray⟩

/-! ### operations -/
inductive Ty where
  | int | bool | str | tuple | list | dict | none | cls (c : Nat)
inductive Op where
  | add | sub | mul | fdiv | mod | pow | shl | shr | band | neg | iadd | imul
  | lt | le | gt | ge | eq | ne | isNone | notNone | isB | notB | isIn | notIn
  | idx | slice (lo hi : Bool) | sliceRev | tup | lst | dict
  | len | abs | int | str | bool | tuple | list | all | any | sum | min2 | max2 | minL | maxL | sorted | bits | ord | chr
  | isi (ts : List Ty)
  | append | extend | pop | popAt | insert | index | count | reverse | setItem | getF (f : Tx) | setF (f : Tx)
  | tupRng | listRng | tupRev | listRev
  | get1 | get2 | join | split | words | strip | startswith | endswith | fstr (pieces : List (Option Tx))

def intsL : List D → Option (List Int)
  | [] => some []
  | .int i :: ds => (intsL ds).map (i :: ·)
  | _ => none
def boolsL : List D → Option (List Bool)
  | [] => some []
  | .bl b :: ds => (boolsL ds).map (b :: ·)
  | _ => none
def strsL : List D → Option (List Tx)
  | [] => some []
  | .str b :: ds => (strsL ds).map (b :: ·)
  | _ => none
def persL (ds : List D) : Bool := ds.all D.pers

def mulOk (i j : Int) : Bool := decide (i.natAbs < 18446744073709551616) || decide (j.natAbs < 18446744073709551616) || (decide (i.natAbs < big) && decide (j.natAbs < big))
def intR (i : Int) (h : Hh) : R D := .ok (.int i) h
def blR (b : Bool) (h : Hh) : R D := .ok (.bl b) h
def whenR {α : Type} (b : Bool) (r : R α) : R α := if b = true then r else .no

def opAdd (h : Hh) : D → D → R D
  | .int i, .int j => .ok (.int (i + j)) h
  | .str x, .str y => whenR (decide (x.length + y.length ≤ cells)) (.ok (.str (x ++ y)) h)
  | .tup x, .tup y => whenR (decide (x.length + y.length ≤ cells)) (.ok (.tup (x ++ y)) h)
  | a, b => match lmD h a, lmD h b with
    | some x, some y => whenR (decide (x.length + y.length ≤ cells)) (.ok (.lst (x ++ y)) h)
    | _, _ => .no
def opMul (h : Hh) : D → D → R D
  | .int i, .int j => whenR (mulOk i j) (.ok (.int (i * j)) h)
  | a, .int k => match lmD h a with
    | some x => whenR (decide (-9223372036854775808 ≤ k) && decide (k < 9223372036854775808) && decide (x.length * k.toNat ≤ cells)) (.ok (.lst (List.replicate k.toNat x).flatten) h)
    | none => match a with
      | .tup x => whenR (!x.isEmpty && decide (2 ≤ k) && decide (k ≤ 1000) && decide (x.length ≤ 1000)) (.ok (.tup (List.replicate k.toNat x).flatten) h)
      | _ => .no
  | _, _ => .no
def opCmp (h : Hh) (f : Int → Int → Bool) (g : Tx → Tx → Bool) : D → D → R D
  | .int i, .int j => blR (f i j) h
  | .str x, .str y => blR (g x y) h
  | _, _ => .no
def flatD : D → Bool
  | .non => true
  | .bl _ => true
  | .int _ => true
  | .str _ => true
  | _ => false
def opIn (h : Hh) (neg : Bool) : D → D → R D
  | .str x, .str y => (match x with
    | [c] => blR (if neg then !decide (c ∈ y) else decide (c ∈ y)) h
    | _ => .no)
  | a, b => match dcD h b with
    | some kvs => (match kyD a with
      | some k => blR (if neg then !(kGet kvs k).isSome else (kGet kvs k).isSome) h
      | none => .no)
    | none => match sqD h b with
      | some ys => if flatD a && ys.all flatD then blR (if neg then !ys.any (fun y => D.eqv y a) else ys.any (fun y => D.eqv y a)) h
        else match lsD h b with
          | some ys => if D.pers a && (D.dat 60 a && D.datL 59 ys) then blR (if neg then !ys.any (fun y => D.eqv y a) else ys.any (fun y => D.eqv y a)) h else .no
          | none => .no
      | none => .no
def opIdx (h : Hh) : D → D → R D
  | .str x, .int i => whenR (decide (x.length ≤ cells)) (match atP x i with
    | some c => .ok (.str [c]) h
    | none => .no)
  | a, b => match dcD h a with
    | some kvs => (match kyD b with
      | some k => (match kGet kvs k with
        | some d => .ok d h
        | none => .no)
      | none => .no)
    | none => match sqD h a, b with
      | some xs, .int i => (match atP xs i with
        | some d => .ok d h
        | none => .no)
      | _, _ => .no
def opSlice (h : Hh) (a : D) (lo hi : Option Int) : R D := match a with
  | .str x => whenR (decide (x.length ≤ cells)) (.ok (.str (cut x lo hi)) h)
  | .tup x => .ok (.tup (cut x lo hi)) h
  | a => match lsD h a with
    | some x => .ok (.lst (cut x lo hi)) h
    | none => .no
/-- a datum's type: a built-in one, or a class -/
def tyD (h : Hh) : D → Option (Sum Ty Nat)
  | .non => some (.inl .none)
  | .bl _ => some (.inl .bool)
  | .int _ => some (.inl .int)
  | .str _ => some (.inl .str)
  | .tup _ => some (.inl .tuple)
  | .rol _ => some (.inl .list)
  | .lst _ => some (.inl .list)
  | .dct _ => some (.inl .dict)
  | .ref n => (match h[n]? with
    | some (.lst _) => some (.inl .list)
    | some (.dct _) => some (.inl .dict)
    | some (.ins c _) => some (.inr c)
    | none => none)
  | .exc _ _ => none
def isB (s t : Ty) : Bool := match s, t with
  | .none, .none => true
  | .bool, .bool => true
  | .bool, .int => true
  | .int, .int => true
  | .str, .str => true
  | .tuple, .tuple => true
  | .list, .list => true
  | .dict, .dict => true
  | _, _ => false
def tyIs (sub : Nat → Nat → Bool) (k : Sum Ty Nat) (t : Ty) : Bool := match k with
  | .inl s => isB s t
  | .inr c => match t with
    | .cls k => sub c k
    | _ => false
/-- a cell's list changed -/
def chg (h : Hh) (n : Nat) (xs : List D) (d : D) : R D := .ok d (h.set n (.lst xs))
def insB (x : Int) : List Int → List Int
  | [] => [x]
  | y :: ys => if x ≤ y then x :: y :: ys else y :: insB x ys
def sortI : List Int → List Int
  | [] => []
  | x :: xs => insB x (sortI xs)
def insS (x : Tx) : List Tx → List Tx
  | [] => [x]
  | y :: ys => if ltL y x then y :: insS x ys else x :: y :: ys
def sortS : List Tx → List Tx
  | [] => []
  | x :: xs => insS x (sortS xs)
def firstAt (y : D) : Nat → List D → Option Nat
  | _, [] => none
  | k, z :: zs => if D.eqv z y then some k else firstAt y (k + 1) zs
def piecesT : List (Option Tx) → List D → Option Tx
  | [], [] => some []
  | some x :: ps, ds => (piecesT ps ds).map (x ++ ·)
  | none :: ps, .int i :: ds => (piecesT ps ds).map (strI i ++ ·)
  | none :: ps, .str y :: ds => (piecesT ps ds).map (y ++ ·)
  | _, _ => none
def pairsD : List D → Option (List (Ky × D))
  | [] => some []
  | k :: v :: r => (match kyD k, pairsD r with
    | some k, some kvs => if D.pers v then some ((k, v) :: kvs) else none
    | _, _ => none)
  | _ => none
def bitLen (i : Int) : Nat := if i = 0 then 0 else i.natAbs.log2 + 1

structure Src where
  ds : List D
  gd : List (Nat × C)
def rangeL (lo : Int) (n : Nat) (st : Int) : List D := (List.range n).map fun (k : Nat) => D.int (lo + (k : Int) * st)
def rangeN (lo hi st : Int) : Nat := if st > 0 then (if lo < hi then ((hi - lo - 1) / st + 1).toNat else 0) else (if lo > hi then ((lo - hi - 1) / (-st) + 1).toNat else 0)
def rngS : List D → Option Src
  | [.int j] => some ⟨rangeL 0 (rangeN 0 j 1) 1, []⟩
  | [.int i, .int j] => some ⟨rangeL i (rangeN i j 1) 1, []⟩
  | [.int i, .int j, .int c] => if c ≠ 0 ∧ c.natAbs < bigD then some ⟨rangeL i (rangeN i j c) c, []⟩ else none
  | _ => none
def opApp (sub : Nat → Nat → Bool) (o : Op) (ds : List D) (h : Hh) : R D := match o, ds with
  | .add, [a, b] => opAdd h a b
  | .sub, [.int i, .int j] => intR (i - j) h
  | .iadd, [.int i, .int j] => intR (i + j) h
  | .iadd, [.str x, .str y] => whenR (decide (x.length + y.length ≤ cells)) (.ok (.str (x ++ y)) h)
  | .imul, [.int i, .int j] => whenR (mulOk i j) (intR (i * j) h)
  | .mul, [a, b] => opMul h a b
  | .fdiv, [.int i, .int j] => whenR (decide (j ≠ 0) && decide (j.natAbs < bigD)) (intR (i.fdiv j) h)
  | .mod, [.int i, .int j] => whenR (decide (j ≠ 0)) (intR (i.fmod j) h)
  | .pow, [.int i, .int j] => whenR (decide (0 ≤ j) && decide (j ≤ 1000000) && decide (i.natAbs < 18446744073709551616)) (intR (i ^ j.toNat) h)
  | .shl, [.int i, .int j] => whenR (decide (0 ≤ j) && decide (j ≤ 1000000) && decide (i.natAbs < big)) (intR (i * 2 ^ j.toNat) h)
  | .shr, [.int i, .int j] => whenR (decide (0 ≤ j)) (intR (i / 2 ^ j.toNat) h)
  | .neg, [.int i] => intR (-i) h
  | .lt, [a, b] => opCmp h (fun i j => decide (i < j)) (fun x y => ltL x y) a b
  | .le, [a, b] => opCmp h (fun i j => decide (i ≤ j)) (fun x y => !ltL y x) a b
  | .gt, [a, b] => opCmp h (fun i j => decide (j < i)) (fun x y => ltL y x) a b
  | .ge, [a, b] => opCmp h (fun i j => decide (j ≤ i)) (fun x y => !ltL x y) a b
  | .eq, [a, b] => (match eqD h a b with
    | some k => blR k h
    | none => .no)
  | .ne, [a, b] => (match eqD h a b with
    | some k => blR (!k) h
    | none => .no)
  | .isNone, [a] => blR (D.isNon a) h
  | .notNone, [a] => blR (!D.isNon a) h
  | .isB, [.bl a, .bl b] => blR (a == b) h
  | .notB, [.bl a, .bl b] => blR (!(a == b)) h
  | .isIn, [a, b] => opIn h false a b
  | .notIn, [a, b] => opIn h true a b
  | .idx, [a, b] => opIdx h a b
  | .slice false false, [a] => opSlice h a none none
  | .slice true false, [a, .int i] => opSlice h a (some i) none
  | .slice false true, [a, .int j] => opSlice h a none (some j)
  | .slice true true, [a, .int i, .int j] => opSlice h a (some i) (some j)
  | .sliceRev, [a] => (match lsD h a with
    | some xs => .ok (.lst xs.reverse) h
    | none => .no)
  | .tup, ds => whenR (persL ds && decide (ds.length ≤ cells)) (.ok (.tup ds) h)
  | .lst, ds => whenR (persL ds && decide (ds.length ≤ cells)) (.ok (.lst ds) h)
  | .dict, ds => (match pairsD ds with
    | some kvs => .ok (.dct (kvs.foldl (fun acc kv => kPut acc kv.1 kv.2) [])) h
    | none => .no)
  | .len, [.str x] => whenR (decide (x.length ≤ cells)) (intR x.length h)
  | .len, [a] => (match sqD h a with
    | some xs => intR xs.length h
    | none => match dcD h a with
      | some kvs => intR kvs.length h
      | none => .no)
  | .abs, [.int i] => intR (if i < 0 then -i else i) h
  | .int, [.int i] => intR i h
  | .int, [.bl b] => intR (if b then 1 else 0) h
  | .int, [.str x] => whenR (decide (x.length ≤ 640)) (match intT x with
    | some i => intR i h
    | none => .no)
  | .str, [.int i] => whenR (decide (i.natAbs.log2 < 1920)) (.ok (.str (strI i)) h)
  | .str, [.str x] => .ok (.str x) h
  | .bool, [.int i] => blR (i != 0) h
  | .bool, [.bl b] => blR b h
  | .tuple, [.tup xs] => .ok (.tup xs) h
  | .tuple, [a] => (match lsD h a with
    | some xs => .ok (.tup xs) h
    | none => .no)
  | .list, [a] => (match sqD h a with
    | some xs => .ok (.lst xs) h
    | none => .no)
  | .all, [a] => (match (lsD h a).bind boolsL with
    | some bs => blR (bs.all id) h
    | none => .no)
  | .any, [a] => (match (lsD h a).bind boolsL with
    | some bs => blR (bs.any id) h
    | none => .no)
  | .sum, [a] => (match (lsD h a).bind intsL with
    | some ns => intR ns.sum h
    | none => .no)
  | .min2, [.int i, .int j] => intR (if j < i then j else i) h
  | .max2, [.int i, .int j] => intR (if j > i then j else i) h
  | .minL, [a] => (match (lsD h a).bind intsL with
    | some (n :: ns) => intR (ns.foldl min n) h
    | _ => .no)
  | .maxL, [a] => (match (lsD h a).bind intsL with
    | some (n :: ns) => intR (ns.foldl max n) h
    | _ => .no)
  | .sorted, [a] => (match lsD h a with
    | some xs => (match intsL xs with
      | some ns => whenR (decide (ns.length ≤ cells)) (.ok (.lst ((sortI ns).map .int)) h)
      | none => .no)
    | none => .no)
  | .bits, [.int i] => intR (bitLen i) h
  | .isi ts, [a] => (match tyD h a with
    | some k => blR (ts.any (tyIs sub k)) h
    | none => .no)
  | .append, [.ref n, d] => (match h[n]? with
    | some (.lst xs) => whenR (D.pers d && decide (xs.length < cells)) (chg h n (xs ++ [d]) .non)
    | _ => .no)
  | .extend, [.ref n, a] => (match h[n]?, lmD h a with
    | some (.lst xs), some ys => whenR (decide (xs.length + ys.length ≤ cells)) (chg h n (xs ++ ys) .non)
    | _, _ => .no)
  | .pop, [.ref n] => (match h[n]? with
    | some (.lst xs) => (match xs[xs.length - 1]? with
      | some d => chg h n xs.dropLast d
      | none => .no)
    | _ => .no)
  | .popAt, [.ref n, .int i] => (match h[n]? with
    | some (.lst xs) => (match ixP xs.length i with
      | some k => (match xs[k]? with
        | some d => chg h n (xs.eraseIdx k) d
        | none => .no)
      | none => .no)
    | _ => .no)
  | .insert, [.ref n, .int i, d] => (match h[n]? with
    | some (.lst xs) => whenR (D.pers d && decide (xs.length < cells)) (chg h n (xs.take (clip xs.length 0 (some i)) ++ d :: xs.drop (clip xs.length 0 (some i))) .non)
    | _ => .no)
  | .reverse, [.ref n] => (match h[n]? with
    | some (.lst xs) => chg h n xs.reverse .non
    | _ => .no)
  | .index, [.str x, .str [c]] => (match x.idxOf? c with
    | some k => intR k h
    | none => .no)
  | .index, [a, b] => (match sqD h a with
    | some ys => if (flatD b && ys.all flatD) || (D.dat 60 b && ys.all (D.dat 60)) then (match firstAt b 0 ys with
      | some k => intR k h
      | none => .no) else .no
    | none => .no)
  | .count, [.str x, .str [c]] => intR (x.count c) h
  | .setItem, [d, .ref n, b] => (match h[n]?, b with
    | some (.lst xs), .int i => (match ixP xs.length i with
      | some k => whenR (D.pers d) (chg h n (xs.set k d) .non)
      | none => .no)
    | some (.dct kvs), b => (match kyD b with
      | some k => whenR (D.pers d && decide (kvs.length < cells)) (.ok .non (h.set n (.dct (kPut kvs k d))))
      | none => .no)
    | _, _ => .no)
  | .getF f, [.ref n] => (match h[n]? with
    | some (.ins _ fs) => (match fGet fs f with
      | some d => .ok d h
      | none => .no)
    | _ => .no)
  | .getF f, [.exc _ fs] => (match fGet fs f with
    | some d => .ok d h
    | none => .no)
  | .setF f, [d, .ref n] => (match h[n]? with
    | some (.ins c fs) => whenR (D.pers d && decide (fs.length < 900)) (.ok .non (h.set n (.ins c (fPut fs f d))))
    | _ => .no)
  | .get1, [a, b] => (match dcD h a, kyD b with
    | some kvs, some k => .ok ((kGet kvs k).getD .non) h
    | _, _ => .no)
  | .get2, [a, b, d] => (match dcD h a, kyD b with
    | some kvs, some k => whenR (D.pers d) (.ok ((kGet kvs k).getD d) h)
    | _, _ => .no)
  | .join, [.str x, a] => (match (sqD h a).bind strsL with
    | some ys => whenR (decide ((ys.map (·.length)).sum + ys.length * x.length ≤ cells)) (.ok (.str (joinT x ys)) h)
    | none => .no)
  | .split, [.str x, .str [c]] => whenR (decide (x.length + 2 ≤ cells)) (.ok (.lst ((splL c x).map .str)) h)
  | .startswith, [.str x, .str y] => blR (preL y x) h
  | .tupRng, ds => (match rngS ds with
    | some s => whenR (decide (s.ds.length ≤ cells)) (.ok (.tup s.ds) h)
    | none => .no)
  | .listRng, ds => (match rngS ds with
    | some s => whenR (decide (s.ds.length ≤ cells)) (.ok (.lst s.ds) h)
    | none => .no)
  | .tupRev, [a] => (match lsD h a with
    | some xs => .ok (.tup xs.reverse) h
    | none => .no)
  | .listRev, [a] => (match lsD h a with
    | some xs => .ok (.lst xs.reverse) h
    | none => .no)
  | .fstr ps, ds => (match piecesT ps ds with
    | some x => whenR (decide (x.length ≤ 100000)) (.ok (.str x) h)
    | none => .no)
  | _, _ => .no

/-! ### the language -/
inductive Tg where
  | name (i : Nat) | tup (ts : List Tg)
mutual
inductive Ex where
  | var (i : Nat) | lit (d : D) | glob (k : Nat)
  | op (o : Op) (es : List Ex)
  | box (e : Ex) | ck (k : Nat) (e : Ex)
  | call (f : Nat) (es : List Ex) (perm : List Nat)
  | mk (c f : Nat) (es : List Ex)
  | meth (c f : Nat) (m : Tx) (o : Ex) (es : List Ex)
  | and (a b : Ex) | or (a b : Ex) | not (t : Te) | ifx (t : Te) (a b : Ex)
  | chain (o p : Op) (a b c : Ex)
  | comp (own : List Nat) (t : Tg) (it : It) (cs : List Te) (e : Ex)
  | comp2 (own : List Nat) (t : Tg) (it : It) (cs : List Te) (own2 : List Nat) (t2 : Tg) (it2 : It) (cs2 : List Te) (e : Ex)
/-- tests -/
inductive Te where
  | ex (e : Ex) | and (a b : Te) | or (a b : Te) | not (a : Te)
/-- what a loop walks -/
inductive It where
  | seq (e : Ex) | rng (es : List Ex) | enum (e : Ex) | zip (a b : Ex) | rev (e : Ex) | items (e : Ex)
end
mutual
inductive St where
  | asg (t : Tg) (e : Ex) | augI (o : Op) (a i e : Ex) | augF (o : Op) (f : Tx) (a e : Ex)
  | ex (e : Ex) | ret (e : Ex) | retN
  | ite (c : Te) (a b : List St) | whl (c : Te) (b : List St) (ks : List Nat) | for (t : Tg) (it : It) (b : List St) (ks : List Nat)
  | raise (c : Nat) (fs : List Tx) (es : List Ex) | try (b : List St) (hs : List Hd) | thru (b : List St)
  | pass | brk | cont
inductive Hd where
  | mk (c : Nat) (i : Option Nat) (b : List St)
end
structure G where
  fn : Nat → List D → Hh → R D
  cs : Nat → D
  sub : Nat → Nat → Bool
  w : Nat

mutual
def putT : Tg → D → Sl → Option Sl
  | .name i, d, δ => if D.pers d then some (δ.set i (some d)) else none
  | .tup ts, .tup ds, δ => putTs ts ds δ
  | _, _, _ => none
def putTs : List Tg → List D → Sl → Option Sl
  | [], [], δ => some δ
  | t :: ts, d :: ds, δ => (match putT t d δ with
    | some δ' => putTs ts ds δ'
    | none => none)
  | _, _, _ => none
end
def wipeS (δ : Sl) : List Nat → Sl
  | [] => δ
  | i :: is => (wipeS δ is).set i none
def boxR : D → Hh → R D
  | .lst xs, h => .ok (.ref h.length) (h ++ [.lst xs])
  | .dct kvs, h => .ok (.ref h.length) (h ++ [.dct kvs])
  | d, h => .ok d h
/-- a checked int (0), list's cell (1), dict's cell (2) -/
def ckR (k : Nat) (d : D) (h : Hh) : R D := match d with
  | .int i => whenR (k == 0) (.ok (.int i) h)
  | .ref n => (match h[n]? with
    | some (.lst _) => whenR (k == 1) (.ok (.ref n) h)
    | some (.dct _) => whenR (k == 2) (.ok (.ref n) h)
    | _ => .no)
  | _ => .no
def truD (h : Hh) : D → R Bool
  | .non => .ok false h
  | .bl b => .ok b h
  | .int i => .ok (i != 0) h
  | .str x => whenR (decide (x.length ≤ cells)) (.ok (!x.isEmpty) h)
  | d => match sqD h d with
    | some xs => .ok (!xs.isEmpty) h
    | none => match dcD h d with
      | some kvs => .ok (!kvs.isEmpty) h
      | none => .no
def gdOk (h : Hh) : List (Nat × C) → Bool
  | [] => true
  | (n, c) :: r => (match h[n]? with
    | some c' => C.beq c c'
    | none => false) && gdOk h r
def srcL (h : Hh) : D → Option Src
  | .lst xs => some ⟨xs, []⟩
  | .rol xs => some ⟨xs, []⟩
  | .ref n => (match h[n]? with
    | some (.lst xs) => some ⟨xs, [(n, .lst xs)]⟩
    | _ => none)
  | _ => none
def srcD (h : Hh) : D → Option Src
  | .tup xs => some ⟨xs, []⟩
  | .str x => some ⟨x.map fun c => .str [c], []⟩
  | d => srcL h d
def srcT (h : Hh) : D → Option Src
  | .tup xs => some ⟨xs, []⟩
  | d => srcL h d
def enumL : Nat → List D → List D
  | _, [] => []
  | k, d :: ds => .tup [.int (k : Int), d] :: enumL (k + 1) ds
def zipL : List D → List D → List D
  | a :: as, b :: bs => .tup [a, b] :: zipL as bs
  | _, _ => []
def lpC (gd : List (Nat × C)) (step : D → Hh → R (Option D)) : List D → Hh → R (List D)
  | [], h => whenR (gdOk h gd) (.ok [] h)
  | x :: xs, h => whenR (gdOk h gd) (((step x h).calm).bind fun y h => (lpC gd step xs h).bind fun ys h => .ok (match y with
    | some y => y :: ys
    | none => ys) h)
def lpC2 (gd : List (Nat × C)) (step : D → Hh → R (List D)) : List D → Hh → R (List D)
  | [], h => whenR (gdOk h gd) (.ok [] h)
  | x :: xs, h => whenR (gdOk h gd) (((step x h).calm).bind fun y h => (lpC2 gd step xs h).bind fun ys h => .ok (y ++ ys) h)
def pick (ds : List D) (perm : List Nat) : List D := perm.filterMap fun i => ds[i]?

mutual
def evE (g : G) : Ex → Sl → Hh → R D
  | .var i, δ, h => (match δ[i]? with
    | some (some d) => .ok d h
    | _ => .no)
  | .lit d, _, h => .ok d h
  | .glob k, _, h => .ok (g.cs k) h
  | .op o es, δ, h => (evEs g es δ h).bind fun ds h => opApp g.sub o ds h
  | .box e, δ, h => (evE g e δ h).bind fun d h => boxR d h
  | .ck k e, δ, h => (evE g e δ h).bind fun d h => ckR k d h
  | .call f es perm, δ, h => (evEs g es δ h).bind fun ds h => whenR (persL ds) (g.fn f (match perm with
    | [] => ds
    | _ => pick ds perm) h)
  | .mk c f es, δ, h => (evEs g es δ h).bind fun ds h => whenR (persL ds) ((g.fn f (.ref h.length :: ds) (h ++ [.ins c []])).bind fun d h2 => match d with
    | .non => .ok (.ref h.length) h2
    | _ => .no)
  | .meth c f m o es, δ, h => (evE g o δ h).bind fun x h => match x with
    | .ref n => (match h[n]? with
      | some (.ins c' fs) => if c' = c ∧ (fGet fs m).isNone then (evEs g es δ h).bind fun ds h => whenR (persL ds) (g.fn f (.ref n :: ds) h) else .no
      | _ => .no)
    | _ => .no
  | .and a b, δ, h => (evE g a δ h).bind fun x h => match x with
    | .bl k => if k = true then evE g b δ h else .ok (.bl false) h
    | _ => .no
  | .or a b, δ, h => (evE g a δ h).bind fun x h => match x with
    | .bl k => if k = true then .ok (.bl true) h else evE g b δ h
    | _ => .no
  | .not t, δ, h => (evT g t δ h).bind fun k h => .ok (.bl (!k)) h
  | .ifx t a b, δ, h => (evT g t δ h).bind fun k h => if k = true then evE g a δ h else evE g b δ h
  | .chain o p a b c, δ, h => (evE g a δ h).bind fun x h => (evE g b δ h).bind fun y h => (opApp g.sub o [x, y] h).bind fun z h => match z with
    | .bl k => if k = true then (evE g c δ h).bind fun w h => opApp g.sub p [y, w] h else .ok (.bl false) h
    | _ => .no
  | .comp own t it cs e, δ, h => (evI g it δ h).bind fun src h => (lpC src.gd (fun x h => match putT t x (wipeS δ own) with
    | some δ' => (evTs g cs δ' h).bind fun k h => if k = true then (evE g e δ' h).bind fun y h => whenR (D.pers y) (.ok (some y) h) else .ok none h
    | none => .no) src.ds h).bind fun ys h => whenR (decide (ys.length ≤ cells)) (.ok (.lst ys) h)
  | .comp2 own t it cs own2 t2 it2 cs2 e, δ, h => (evI g it δ h).bind fun src h => (lpC2 src.gd (fun x h => match putT t x (wipeS δ own) with
    | some δ' => (evTs g cs δ' h).bind fun k h => if k = true then (evI g it2 δ' h).bind fun src2 h => lpC src2.gd (fun x h => match putT t2 x (wipeS δ' own2) with
      | some δ2 => (evTs g cs2 δ2 h).bind fun k h => if k = true then (evE g e δ2 h).bind fun y h => whenR (D.pers y) (.ok (some y) h) else .ok none h
      | none => .no) src2.ds h else .ok [] h
    | none => .no) src.ds h).bind fun ys h => whenR (decide (ys.length ≤ cells)) (.ok (.lst ys) h)
def evEs (g : G) : List Ex → Sl → Hh → R (List D)
  | [], _, h => .ok [] h
  | e :: es, δ, h => (evE g e δ h).bind fun x h => (evEs g es δ h).bind fun xs h => .ok (x :: xs) h
def evT (g : G) : Te → Sl → Hh → R Bool
  | .ex e, δ, h => (evE g e δ h).bind fun x h => truD h x
  | .and a b, δ, h => (evT g a δ h).bind fun k h => if k = true then evT g b δ h else .ok false h
  | .or a b, δ, h => (evT g a δ h).bind fun k h => if k = true then .ok true h else evT g b δ h
  | .not a, δ, h => (evT g a δ h).bind fun k h => .ok (!k) h
def evTs (g : G) : List Te → Sl → Hh → R Bool
  | [], _, h => .ok true h
  | t :: ts, δ, h => (evT g t δ h).bind fun k h => if k = true then evTs g ts δ h else .ok false h
def evI (g : G) : It → Sl → Hh → R Src
  | .seq e, δ, h => (evE g e δ h).bind fun x h => match srcD h x with
    | some s => .ok s h
    | none => .no
  | .rng es, δ, h => (evEs g es δ h).bind fun xs h => match rngS xs with
    | some s => .ok s h
    | none => .no
  | .enum e, δ, h => (evE g e δ h).bind fun x h => match srcT h x with
    | some s => .ok ⟨enumL 0 s.ds, s.gd⟩ h
    | none => .no
  | .zip a b, δ, h => (evE g a δ h).bind fun x h => (evE g b δ h).bind fun y h => match srcT h x, srcT h y with
    | some s, some s' => .ok ⟨zipL s.ds s'.ds, s.gd ++ s'.gd⟩ h
    | _, _ => .no
  | .rev e, δ, h => (evE g e δ h).bind fun x h => match srcT h x with
    | some s => .ok ⟨s.ds.reverse, s.gd⟩ h
    | none => .no
  | .items e, δ, h => .no
end

inductive Rs where
  | nx (δ : Sl) (h : Hh) | ret (d : D) (h : Hh) | brk (δ : Sl) (h : Hh) | cont (δ : Sl) (h : Hh)
  | err (c : Nat) (fs : List (Tx × D)) (δ : Sl) (h : Hh) | no
/-- an expression's answer, then more -/
def R.go {α : Type} (r : R α) (δ : Sl) (k : α → Hh → Rs) : Rs := match r with
  | .ok a h => k a h
  | .err c fs h => .err c fs δ h
  | .no => .no
def lpF (gd : List (Nat × C)) (t : Tg) (ks : List Nat) (body : Sl → Hh → Rs) : List D → Sl → Hh → Rs
  | [], δ, h => if gdOk h gd = true then .nx (wipeS δ ks) h else .no
  | x :: xs, δ, h => if gdOk h gd = true then (match putT t x δ with
    | some δ' => (match body δ' h with
      | .nx δ2 h2 => lpF gd t ks body xs (wipeS δ2 ks) h2
      | .cont δ2 h2 => lpF gd t ks body xs (wipeS δ2 ks) h2
      | .brk δ2 h2 => .nx (wipeS δ2 ks) h2
      | r => r)
    | none => .no) else .no
def lpW (test : Sl → Hh → R Bool) (ks : List Nat) (body : Sl → Hh → Rs) : Nat → Sl → Hh → Rs
  | 0, _, _ => .no
  | n + 1, δ, h => (test δ h).go δ fun k h => if k = true then (match body δ h with
    | .nx δ2 h2 => lpW test ks body n (wipeS δ2 ks) h2
    | .cont δ2 h2 => lpW test ks body n (wipeS δ2 ks) h2
    | .brk δ2 h2 => .nx (wipeS δ2 ks) h2
    | r => r) else .nx (wipeS δ ks) h
/-- a suite's end: the name of its exception goes -/
def offS (i : Option Nat) : Rs → Rs
  | .nx δ h => .nx (match i with | some i => δ.set i none | none => δ) h
  | .brk δ h => .brk (match i with | some i => δ.set i none | none => δ) h
  | .cont δ h => .cont (match i with | some i => δ.set i none | none => δ) h
  | r => r
mutual
def evS (g : G) : St → Sl → Hh → Rs
  | .asg t e, δ, h => (evE g e δ h).go δ fun x h => match putT t x δ with
    | some δ' => .nx δ' h
    | none => .no
  | .augI o a i e, δ, h => (evE g a δ h).go δ fun x h => (evE g i δ h).go δ fun y h => (opApp g.sub .idx [x, y] h).go δ fun z h => (evE g e δ h).go δ fun v h =>
    (opApp g.sub o [z, v] h).go δ fun r h => (opApp g.sub .setItem [r, x, y] h).go δ fun _ h => .nx δ h
  | .augF o f a e, δ, h => (evE g a δ h).go δ fun x h => (opApp g.sub (.getF f) [x] h).go δ fun z h => (evE g e δ h).go δ fun v h =>
    (opApp g.sub o [z, v] h).go δ fun r h => (opApp g.sub (.setF f) [r, x] h).go δ fun _ h => .nx δ h
  | .ex e, δ, h => (evE g e δ h).go δ fun _ h => .nx δ h
  | .ret e, δ, h => (evE g e δ h).go δ fun x h => .ret x h
  | .retN, _, h => .ret .non h
  | .ite c a b, δ, h => (evT g c δ h).go δ fun k h => if k = true then evSs g a δ h else evSs g b δ h
  | .whl c b ks, δ, h => lpW (evT g c) ks (evSs g b) g.w (wipeS δ ks) h
  | .for t it b ks, δ, h => (evI g it δ h).go δ fun s h => lpF s.gd t ks (evSs g b) s.ds (wipeS δ ks) h
  | .raise c fs es, δ, h => (evEs g es δ h).go δ fun ds h => if persL ds = true then .err c (fs.zip ds) δ h else .no
  | .try b hs, δ, h => (match evSs g b δ h with
    | .err c fs δ2 h2 => evH g hs c fs δ2 h2
    | r => r)
  | .thru b, δ, h => (match evSs g b δ h with
    | .err _ _ _ _ => .no
    | r => r)
  | .pass, δ, h => .nx δ h
  | .brk, δ, h => .brk δ h
  | .cont, δ, h => .cont δ h
def evSs (g : G) : List St → Sl → Hh → Rs
  | [], δ, h => .nx δ h
  | s :: ss, δ, h => (match evS g s δ h with
    | .nx δ2 h2 => evSs g ss δ2 h2
    | r => r)
def evH (g : G) : List Hd → Nat → List (Tx × D) → Sl → Hh → Rs
  | [], c, fs, δ, h => .err c fs δ h
  | .mk c i b :: hs, k, fs, δ, h => if g.sub k c = true then offS i (evSs g b (match i with | some i => δ.set i (some (.exc k fs)) | none => δ) h) else evH g hs k fs δ h
end
structure Fn where
  np : Nat
  ns : Nat
  body : List St
/-- what a def's body leaves -/
def endF (h : Hh) : Rs → R D
  | .nx _ g => finish h .non g
  | .ret d g => finish h d g
  | .err c fs _ g => finishX h c fs g
  | _ => .no
def startS (fn : Fn) (ds : List D) : Sl := ds.map some ++ List.replicate (fn.ns - ds.length) none
def runF (g : G) (fn : Fn) (ds : List D) (h : Hh) : R D := if ds.length = fn.np then endF h (evSs g fn.body (startS fn ds) h) else .no
structure Pg where
  fns : List Fn
  cs : Nat → D
  sub : Nat → Nat → Bool
  w : Nat
def callF (P : Pg) : Nat → Nat → List D → Hh → R D
  | 0, _, _, _ => .no
  | n + 1, f, ds, h => match P.fns[f]? with
    | some fn => runF ⟨callF P n, P.cs, P.sub, P.w⟩ fn ds h
    | none => .no
def Pg.g (P : Pg) (n : Nat) : G := ⟨callF P n, P.cs, P.sub, P.w⟩
end Ivy

/-! Ivy, part B: how plain data lies in the layer's heap. -/
namespace Ivy
open PySem PySem.Spec PyProof.Rows L2

def tx (x : Tx) : Str := ⟨x.toArray⟩
theorem tx_inj {x y : Tx} (h : tx x = tx y) : x = y := by
  have h2 : x.toArray = y.toArray := congrArg Str.cps h
  simpa using congrArg Array.toList h2
def kyV : Ky → Key
  | .inl i => .inl i
  | .inr x => .inr (tx x)
theorem kyV_inj {j k : Ky} (h : kyV j = kyV k) : j = k := by
  cases j <;> cases k <;> simp only [kyV, Sum.inl.injEq, Sum.inr.injEq, reduceCtorEq] at h
  · rw [h]
  · rw [tx_inj h]

/-- what is fixed: the written part, the classes' addresses, which of them have instances, the exception at hand (its object, its dict) -/
structure Ev where
  K : PySem.W.Frag
  ca : Nat → Addr
  ic : Nat → Bool
  xo : Option (Addr × Nat × Option Addr)

/-- a list that nobody changes -/
def RoL (K : PySem.W.Frag) (H : Hp) (a : Addr) (xs : List V) : Prop :=
  (∃ o, H a = some (.frz o (.lst xs))) ∨
    ∃ (o : Obj) (its : Array Value) (n : Nat), K.lookup a = some o ∧ o.cls = .type "list" ∧ o.dict = none ∧ o.data = .seq its n ∧ its.size ≤ sizeLine ∧ Vals xs its.toList
theorem RoL.sq {K : PySem.W.Frag} {H : Hp} {a : Addr} {xs : List V} (h : RoL K H a xs) : SqL K H a xs := by
  rcases h with ⟨o, h⟩ | h
  · exact .inl (.inr ⟨o, h⟩)
  · exact .inr h

mutual
/-- a lasting datum and its value -/
inductive RP (v : Ev) (ι : List Addr) (H : Hp) : D → V → Prop
  | non : RP v ι H .non .non
  | bl (b : Bool) : RP v ι H (.bl b) (.bl b)
  | int (i : Int) : RP v ι H (.int i) (.int i)
  | str (x : Tx) : RP v ι H (.str x) (.str (tx x))
  | tup {ds : List D} {a : Addr} {vs : List V} : SqT v.K H a vs → RPs v ι H ds vs → RP v ι H (.tup ds) (.ref a)
  | rol {ds : List D} {a : Addr} {vs : List V} : RoL v.K H a vs → RPs v ι H ds vs → RP v ι H (.rol ds) (.ref a)
  | ref {n : Nat} {a : Addr} : ι[n]? = some a → RP v ι H (.ref n) (.ref a)
  | exc {c : Nat} {fs : List (Tx × D)} {a : Addr} : v.xo = some (a, c, none) → RP v ι H (.exc c []) (.ref a)
  | exd {c : Nat} {fs : List (Tx × D)} {a d : Addr} {fvs : List (Str × V)} {vs : List V} : v.xo = some (a, c, some d) → H d = some (.xd fvs) →
      (∀ (k : Nat) (f : Tx) (x : D), fs[k]? = some (f, x) → fGet fs f = some x → ∃ y, vs[k]? = some y ∧ fvs.lookup (tx f) = some y) → RPs v ι H (fs.map (·.2)) vs → RP v ι H (.exc c fs) (.ref a)
inductive RPs (v : Ev) (ι : List Addr) (H : Hp) : List D → List V → Prop
  | nil : RPs v ι H [] []
  | cons {d : D} {ds : List D} {x : V} {xs : List V} : RP v ι H d x → RPs v ι H ds xs → RPs v ι H (d :: ds) (x :: xs)
end

/-- the kind of an object -/
def kd : HO → Nat
  | .lst _ => 0
  | .dK _ => 1
  | .ins _ _ _ => 2
  | .frz _ u => kd u
  | _ => 3
/-- what an expression may do: new cells behind the old ones; what is no changeable cell of ours stays -/
structure Ext (ι : List Addr) (H : Hp) (ι' : List Addr) (H' : Hp) : Prop where
  pre : ∃ more, ι' = ι ++ more ∧ ∀ b ∈ more, H b = none ∧ b ∉ ι
  fix : ∀ p o, H p = some o → (p ∈ ι → ¬ Mut (some o)) → H' p = some o
  kin : ∀ p o, p ∈ ι → H p = some o → ∃ o', H' p = some o' ∧ kd o' = kd o

section
variable {v : Ev} {ι ι' ι2 : List Addr} {H H' H2 : Hp}
theorem Ext.refl : Ext ι H ι H := ⟨⟨[], by simp, fun _ h => nomatch h⟩, fun _ _ h _ => h, fun _ o _ h => ⟨o, h, rfl⟩⟩
theorem Ext.trans (e : Ext ι H ι' H') (f : Ext ι' H' ι2 H2) : Ext ι H ι2 H2 := by
  obtain ⟨m1, rfl, h1⟩ := e.pre
  obtain ⟨m2, rfl, h2⟩ := f.pre
  refine ⟨⟨m1 ++ m2, by simp, fun b hb => ?_⟩, fun p o hp hm => ?_, fun p o hin hp => ?_⟩
  · rcases List.mem_append.mp hb with hb | hb
    · exact h1 b hb
    · have q := h2 b hb
      have nb : b ∉ ι := fun z => q.2 (List.mem_append_left _ z)
      refine ⟨?_, nb⟩
      cases r : H b with
      | none => rfl
      | some o =>
        have := e.fix b o r fun z => absurd z nb
        rw [q.1] at this; cases this
  · refine f.fix p o (e.fix p o hp hm) fun z => ?_
    rcases List.mem_append.mp z with z | z
    · exact hm z
    · rw [(h1 p z).1] at hp; cases hp
  · obtain ⟨o1, q1, k1⟩ := e.kin p o hin hp
    obtain ⟨o2, q2, k2⟩ := f.kin p o1 (List.mem_append_left _ hin) q1
    exact ⟨o2, q2, k2.trans k1⟩
theorem Ext.at {n : Nat} {a : Addr} (e : Ext ι H ι' H') (h : ι[n]? = some a) : ι'[n]? = some a := by
  obtain ⟨m, rfl, _⟩ := e.pre
  have hn : n < ι.length := (List.getElem?_eq_some_iff.mp h).1
  rw [List.getElem?_append_left hn]; exact h
theorem Ext.mem {a : Addr} (e : Ext ι H ι' H') (h : a ∈ ι) : a ∈ ι' := by
  obtain ⟨m, rfl, _⟩ := e.pre
  exact List.mem_append_left _ h
theorem Ext.sqT {K : PySem.W.Frag} {a : Addr} {xs : List V} (e : Ext ι H ι' H') (h : SqT K H a xs) : SqT K H' a xs := by
  rcases h with (h | ⟨o, h⟩) | h
  · exact .inl (.inl (e.fix a _ h fun _ z => z))
  · exact .inl (.inr ⟨o, e.fix a _ h fun _ z => z⟩)
  · exact .inr h
theorem Ext.roL {K : PySem.W.Frag} {a : Addr} {xs : List V} (e : Ext ι H ι' H') (h : RoL K H a xs) : RoL K H' a xs := by
  rcases h with ⟨o, h⟩ | h
  · exact .inl ⟨o, e.fix a _ h fun _ z => z⟩
  · exact .inr h
mutual
theorem RP.mono (e : Ext ι H ι' H') : ∀ {d : D} {x : V}, RP v ι H d x → RP v ι' H' d x
  | _, _, .non => .non
  | _, _, .bl b => .bl b
  | _, _, .int i => .int i
  | _, _, .str x => .str x
  | _, _, .tup h r => .tup (e.sqT h) (RPs.mono e r)
  | _, _, .rol h r => .rol (e.roL h) (RPs.mono e r)
  | _, _, .ref h => .ref (e.at h)
  | _, _, .exc (fs := fs) h => .exc (fs := fs) h
  | _, _, .exd h1 h2 h3 r => .exd h1 (e.fix _ _ h2 fun _ z => z) h3 (RPs.mono e r)
theorem RPs.mono (e : Ext ι H ι' H') : ∀ {ds : List D} {xs : List V}, RPs v ι H ds xs → RPs v ι' H' ds xs
  | _, _, .nil => .nil
  | _, _, .cons h r => .cons (RP.mono e h) (RPs.mono e r)
end
theorem RPs.length : ∀ {ds : List D} {xs : List V}, RPs v ι H ds xs → ds.length = xs.length
  | _, _, .nil => rfl
  | _, _, .cons _ r => congrArg (· + 1) r.length
theorem RPs.get : ∀ {ds : List D} {xs : List V} {i : Nat} {d : D}, RPs v ι H ds xs → ds[i]? = some d → ∃ x, xs[i]? = some x ∧ RP v ι H d x
  | _, _, _, _, .nil, e => by simp at e
  | _, _, 0, _, .cons r _, e => by simp at e; subst e; exact ⟨_, rfl, r⟩
  | _, _, i + 1, d, .cons _ t, e => by
    obtain ⟨x, h1, h2⟩ := RPs.get (i := i) (d := d) t (by simpa using e)
    exact ⟨x, by simpa using h1, h2⟩
theorem RPs.app : ∀ {ds es : List D} {xs ys : List V}, RPs v ι H ds xs → RPs v ι H es ys → RPs v ι H (ds ++ es) (xs ++ ys)
  | _, _, _, _, .nil, s => s
  | _, _, _, _, .cons r t, s => .cons r (RPs.app t s)
theorem RPs.set {d : D} {x : V} (r : RP v ι H d x) : ∀ {ds : List D} {xs : List V} (i : Nat), RPs v ι H ds xs → RPs v ι H (ds.set i d) (xs.set i x)
  | _, _, _, .nil => .nil
  | _, _, 0, .cons _ t => .cons r t
  | _, _, i + 1, .cons q t => .cons q (RPs.set r i t)
theorem RPs.take : ∀ {ds : List D} {xs : List V} (n : Nat), RPs v ι H ds xs → RPs v ι H (ds.take n) (xs.take n)
  | _, _, 0, _ => .nil
  | _, _, _ + 1, .nil => .nil
  | _, _, n + 1, .cons r t => .cons r (RPs.take n t)
theorem RPs.drop : ∀ {ds : List D} {xs : List V} (n : Nat), RPs v ι H ds xs → RPs v ι H (ds.drop n) (xs.drop n)
  | _, _, 0, r => r
  | _, _, _ + 1, .nil => .nil
  | _, _, n + 1, .cons _ t => RPs.drop n t
theorem RPs.rev {ds : List D} {xs : List V} (r : RPs v ι H ds xs) : RPs v ι H ds.reverse xs.reverse := by
  induction ds generalizing xs with
  | nil => cases r; exact .nil
  | cons d ds ih =>
    cases r with
    | cons h t => simp only [List.reverse_cons]; exact (ih t).app (.cons h .nil)
theorem RP.pers {d : D} {x : V} (r : RP v ι H d x) (h : D.pers d = true) : RP v ι H d x := r
end

/-- names and data of a dict, of an instance -/
def RK (v : Ev) (ι : List Addr) (H : Hp) (kvs : List (Ky × D)) (kvs' : List (Key × V)) : Prop := kvs'.map (·.1) = kvs.map (fun p => kyV p.1) ∧ RPs v ι H (kvs.map (·.2)) (kvs'.map (·.2))
def RF (v : Ev) (ι : List Addr) (H : Hp) (fs : List (Tx × D)) (fs' : List (Str × V)) : Prop := fs'.map (·.1) = fs.map (fun p => tx p.1) ∧ RPs v ι H (fs.map (·.2)) (fs'.map (·.2))
def CR (v : Ev) (ι : List Addr) (H : Hp) (a : Addr) : C → Prop
  | .lst ds => ∃ vs, H a = some (.lst vs) ∧ RPs v ι H ds vs
  | .dct kvs => ∃ kvs', H a = some (.dK kvs') ∧ RK v ι H kvs kvs'
  | .ins c fs => ∃ dx fs', v.ic c = true ∧ H a = some (.ins (v.ca c) dx fs') ∧ RF v ι H fs fs'
structure HR (v : Ev) (ι : List Addr) (H : Hp) (h : Hh) : Prop where
  len : ι.length = h.length
  nd : ι.Nodup
  cell : ∀ (n : Nat) (a : Addr) (c : C), ι[n]? = some a → h[n]? = some c → CR v ι H a c
/-- the names' values -/
def SR (v : Ev) (ι : List Addr) (H : Hp) (δ : Sl) (σ : L2.St) : Prop := δ.length = σ.length ∧ ∀ (i : Nat) (d : D), δ[i]? = some (some d) → ∃ x, σ[i]? = some (some x) ∧ RP v ι H d x
/-- an expression's answer -/
def RV (v : Ev) (ι : List Addr) (H : Hp) (d : D) (x : V) : Prop := match d with
  | .lst ds => ∃ a vs, x = .ref a ∧ a ∉ ι ∧ H a = some (.lst vs) ∧ RPs v ι H ds vs
  | .dct kvs => ∃ a kvs', x = .ref a ∧ a ∉ ι ∧ H a = some (.dK kvs') ∧ RK v ι H kvs kvs'
  | d => RP v ι H d x
/-- a fresh one is newer than H -/
def New (H : Hp) (d : D) (x : V) : Prop := match d with
  | .lst _ => ∀ a, x = .ref a → H a = none
  | .dct _ => ∀ a, x = .ref a → H a = none
  | _ => True

section
variable {v : Ev} {ι ι' ι2 : List Addr} {H H' H2 : Hp} {h : Hh}
theorem RK.mono (e : Ext ι H ι' H') {kvs : List (Ky × D)} {kvs' : List (Key × V)} (r : RK v ι H kvs kvs') : RK v ι' H' kvs kvs' := ⟨r.1, r.2.mono e⟩
theorem RF.mono (e : Ext ι H ι' H') {fs : List (Tx × D)} {fs' : List (Str × V)} (r : RF v ι H fs fs') : RF v ι' H' fs fs' := ⟨r.1, r.2.mono e⟩
theorem SR.mono (e : Ext ι H ι' H') {δ : Sl} {σ : L2.St} (r : SR v ι H δ σ) : SR v ι' H' δ σ := ⟨r.1, fun i d hd =>
  let ⟨x, h1, h2⟩ := r.2 i d hd
  ⟨x, h1, h2.mono e⟩⟩
theorem RV.of {d : D} {x : V} (r : RP v ι H d x) (hp : D.pers d = true ∨ D.pers d = false ∧ ∃ c fs, d = .exc c fs) : RV v ι H d x := by
  cases d <;> first | exact r | (rcases hp with hp | ⟨_, _, _, hp⟩ <;> cases hp)
theorem RV.rp {d : D} {x : V} (r : RV v ι H d x) (hp : D.pers d = true) : RP v ι H d x := by
  cases d <;> first | exact r | cases hp
theorem New.pers {d : D} {x : V} (hp : D.pers d = true) : New H d x := by
  cases d <;> first | trivial | cases hp
theorem HR.tracked {a : Addr} (r : HR v ι H h) (ha : a ∈ ι) : ∃ o, H a = some o ∧ Mut (some o) := by
  obtain ⟨n, hn, e⟩ := List.getElem_of_mem ha
  have e1 : ι[n]? = some a := by rw [List.getElem?_eq_getElem hn, e]
  have hl : n < h.length := by rw [← r.len]; exact hn
  have c := r.cell n a h[n] e1 (List.getElem?_eq_getElem hl)
  cases q : h[n] with
  | lst ds => rw [q] at c; obtain ⟨vs, z, _⟩ := c; exact ⟨_, z, trivial⟩
  | dct kvs => rw [q] at c; obtain ⟨vs, z, _⟩ := c; exact ⟨_, z, trivial⟩
  | ins c' fs => rw [q] at c; obtain ⟨dx, vs, _, z, _⟩ := c; exact ⟨_, z, trivial⟩
theorem HR.notIn {a : Addr} (r : HR v ι H h) (ha : H a = none) : a ∉ ι := fun z => by
  obtain ⟨o, e, _⟩ := r.tracked z
  rw [ha] at e; cases e
theorem Ext.back {a : Addr} (e : Ext ι H ι' H') (r : HR v ι' H' h) (ha : H' a = none) : H a = none := by
  cases q : H a with
  | none => rfl
  | some o =>
    by_cases z : a ∈ ι
    · obtain ⟨o', e', _⟩ := r.tracked (e.mem z)
      rw [ha] at e'; cases e'
    · have := e.fix a o q fun y => absurd y z
      rw [ha] at this; cases this
theorem RV.mono (e : Ext ι H ι' H') {d : D} {x : V} (r : RV v ι H d x) : RV v ι' H' d x := by
  have out : ∀ (a : Addr) (o : HO), a ∉ ι → H a = some o → a ∉ ι' := fun a o ha ho => by
    obtain ⟨m, rfl, hm⟩ := e.pre
    intro z
    rcases List.mem_append.mp z with z | z
    · exact ha z
    · rw [(hm a z).1] at ho; cases ho
  cases d with
  | lst ds =>
    obtain ⟨a, vs, h1, h2, h3, h4⟩ := r
    exact ⟨a, vs, h1, out a _ h2 h3, e.fix a _ h3 fun z => absurd z h2, h4.mono e⟩
  | dct ds =>
    obtain ⟨a, vs, h1, h2, h3, h4⟩ := r
    exact ⟨a, vs, h1, out a _ h2 h3, e.fix a _ h3 fun z => absurd z h2, h4.mono e⟩
  | non => exact RP.mono e (show RP v ι H .non x from r)
  | bl b => exact RP.mono e (show RP v ι H (.bl b) x from r)
  | int b => exact RP.mono e (show RP v ι H (.int b) x from r)
  | str b => exact RP.mono e (show RP v ι H (.str b) x from r)
  | tup b => exact RP.mono e (show RP v ι H (.tup b) x from r)
  | rol b => exact RP.mono e (show RP v ι H (.rol b) x from r)
  | ref b => exact RP.mono e (show RP v ι H (.ref b) x from r)
  | exc c b => exact RP.mono e (show RP v ι H (.exc c b) x from r)

/-! ### changes -/
theorem ext_new {p : Addr} {o : HO} (hp : H p = none) : Ext ι H ι (upd H p o) :=
  ⟨⟨[], by simp, fun _ z => nomatch z⟩, fun q o' hq _ => by rw [upd_ne (ne_of_none hq hp)]; exact hq, fun q o' _ hq => ⟨o', by rw [upd_ne (ne_of_none hq hp)]; exact hq, rfl⟩⟩
theorem ext_cell {n : Nat} {a : Addr} {o o0 : HO} (r : HR v ι H h) (ha : ι[n]? = some a) (h0 : H a = some o0) (hk : kd o = kd o0) : Ext ι H ι (upd H a o) :=
  ⟨⟨[], by simp, fun _ z => nomatch z⟩, fun q o' hq hm => by
    have hin : a ∈ ι := List.mem_of_getElem? ha
    have ne : q ≠ a := fun z => by
      subst z
      obtain ⟨o2, e2, m2⟩ := r.tracked hin
      rw [hq] at e2; cases e2
      exact hm hin m2
    rw [upd_ne ne]; exact hq, fun q o' _ hq => by
    by_cases z : q = a
    · subst z
      rw [h0] at hq; cases hq
      exact ⟨o, upd_same, hk⟩
    · exact ⟨o', by rw [upd_ne z]; exact hq, rfl⟩⟩
theorem HR.other (r : HR v ι H h) (e : Ext ι H ι H') (k : ∀ (n : Nat) (a : Addr), ι[n]? = some a → H' a = H a) : HR v ι H' h := ⟨r.len, r.nd, fun n a c h1 h2 => by
  have q := r.cell n a c h1 h2
  have ka := k n a h1
  cases c with
  | lst ds => obtain ⟨vs, z1, z2⟩ := q; exact ⟨vs, by rw [ka]; exact z1, z2.mono e⟩
  | dct ds => obtain ⟨vs, z1, z2⟩ := q; exact ⟨vs, by rw [ka]; exact z1, z2.mono e⟩
  | ins c' ds => obtain ⟨dx, vs, z0, z1, z2⟩ := q; exact ⟨dx, vs, z0, by rw [ka]; exact z1, z2.mono e⟩⟩
/-- a new object that is no cell -/
theorem HR.new {p : Addr} {o : HO} (r : HR v ι H h) (hp : H p = none) : HR v ι (upd H p o) h :=
  r.other (ext_new hp) fun n a ha => by
    rw [upd_ne]
    intro z
    subst z
    exact r.notIn hp (List.mem_of_getElem? ha)
theorem nodup_ixA {α : Type} {l : List α} (hN : l.Nodup) {i j : Nat} {x : α} (a : l[i]? = some x) (b : l[j]? = some x) : i = j := by
  obtain ⟨h1, e1⟩ := List.getElem?_eq_some_iff.mp a
  obtain ⟨h2, e2⟩ := List.getElem?_eq_some_iff.mp b
  exact (List.getElem_inj hN).mp (e1.trans e2.symm)
/-- a cell changed -/
theorem HR.set {n : Nat} {a : Addr} {o : HO} {c : C} (r : HR v ι H h) (ha : ι[n]? = some a) (e : Ext ι H ι (upd H a o)) (hc : CR v ι (upd H a o) a c) : HR v ι (upd H a o) (h.set n c) := by
  refine ⟨by rw [List.length_set]; exact r.len, r.nd, fun m b c' h1 h2 => ?_⟩
  by_cases hm : m = n
  · subst hm
    rw [ha] at h1; cases h1
    have hl : m < h.length := by rw [← r.len]; exact (List.getElem?_eq_some_iff.mp ha).1
    rw [List.getElem?_set_self hl] at h2; cases h2
    exact hc
  · have hb : b ≠ a := fun z => hm (nodup_ixA r.nd h1 (z ▸ ha))
    rw [List.getElem?_set_ne (Ne.symm hm)] at h2
    have q := r.cell m b c' h1 h2
    cases c' with
    | lst ds => obtain ⟨vs, z1, z2⟩ := q; exact ⟨vs, by rw [upd_ne hb]; exact z1, z2.mono e⟩
    | dct ds => obtain ⟨vs, z1, z2⟩ := q; exact ⟨vs, by rw [upd_ne hb]; exact z1, z2.mono e⟩
    | ins c' ds => obtain ⟨dx, vs, z0, z1, z2⟩ := q; exact ⟨dx, vs, z0, by rw [upd_ne hb]; exact z1, z2.mono e⟩
/-- a fresh object becomes a cell -/
theorem ext_box {H0 : Hp} {p : Addr} (e : Ext ι H0 ι' H) (hp : p ∉ ι') (h0 : H0 p = none) : Ext ι H0 (ι' ++ [p]) H := by
  obtain ⟨m, rfl, hm⟩ := e.pre
  refine ⟨⟨m ++ [p], by simp, fun b hb => ?_⟩, e.fix, e.kin⟩
  rcases List.mem_append.mp hb with hb | hb
  · exact hm b hb
  · have : b = p := by simpa using hb
    subst this
    exact ⟨h0, fun z => hp (List.mem_append_left _ z)⟩
mutual
theorem RP.more (key : ∀ (n : Nat) (a : Addr), ι[n]? = some a → ι'[n]? = some a) : ∀ {d : D} {x : V}, RP v ι H d x → RP v ι' H d x
  | _, _, .non => .non
  | _, _, .bl b => .bl b
  | _, _, .int i => .int i
  | _, _, .str x => .str x
  | _, _, .tup h r => .tup h (RPs.more key r)
  | _, _, .rol h r => .rol h (RPs.more key r)
  | _, _, .ref h => .ref (key _ _ h)
  | _, _, .exc (fs := fs) h => .exc (fs := fs) h
  | _, _, .exd h1 h2 h3 r => .exd h1 h2 h3 (RPs.more key r)
theorem RPs.more (key : ∀ (n : Nat) (a : Addr), ι[n]? = some a → ι'[n]? = some a) : ∀ {ds : List D} {xs : List V}, RPs v ι H ds xs → RPs v ι' H ds xs
  | _, _, .nil => .nil
  | _, _, .cons h r => .cons (RP.more key h) (RPs.more key r)
end
theorem key_app {p : Addr} : ∀ (n : Nat) (a : Addr), ι[n]? = some a → (ι ++ [p])[n]? = some a := fun n a ha => by
  rw [List.getElem?_append_left (List.getElem?_eq_some_iff.mp ha).1]; exact ha
theorem HR.box {p : Addr} {c : C} (r : HR v ι H h) (hp : p ∉ ι) (hc : CR v ι H p c) : HR v (ι ++ [p]) H (h ++ [c]) := by
  have wide : ∀ (a : Addr) (c : C), CR v ι H a c → CR v (ι ++ [p]) H a c := fun a c q => by
    cases c with
    | lst ds => obtain ⟨vs, z1, z2⟩ := q; exact ⟨vs, z1, z2.more key_app⟩
    | dct ds => obtain ⟨vs, z1, z2, z3⟩ := q; exact ⟨vs, z1, z2, z3.more key_app⟩
    | ins c' ds => obtain ⟨dx, vs, z0, z1, z2, z3⟩ := q; exact ⟨dx, vs, z0, z1, z2, z3.more key_app⟩
  refine ⟨by simp [r.len], ?_, fun n a c' h1 h2 => ?_⟩
  · rw [List.nodup_append]
    exact ⟨r.nd, by simp, fun a ha b hb => by simp at hb; subst hb; rintro rfl; exact hp ha⟩
  · by_cases hn : n < ι.length
    · rw [List.getElem?_append_left hn] at h1
      rw [List.getElem?_append_left (by rw [← r.len]; exact hn)] at h2
      exact wide a c' (r.cell n a c' h1 h2)
    · have hn2 : n = ι.length := by
        have := (List.getElem?_eq_some_iff.mp h1).1
        simp at this; omega
      subst hn2
      simp at h1
      rw [r.len] at h2
      simp at h2
      subst h1 h2
      exact wide _ _ hc
end
end Ivy

/-! Ivy, part C: readings by the evaluator; names, operators, tests. -/
namespace Ivy
open PySem PySem.Spec PyProof.Rows L2

/-! ### answers -/
theorem R.assoc {α β γ : Type} (r : R α) (k : α → Hh → R β) (l : β → Hh → R γ) : (r.bind k).bind l = r.bind fun a h => (k a h).bind l := by cases r <;> rfl
theorem R.okb {α β : Type} (a : α) (h : Hh) (k : α → Hh → R β) : (R.ok a h).bind k = k a h := rfl
/-- how an exception of ours lies -/
def XR (v : Ev) (ι : List Addr) (H : Hp) (c : Nat) (fs : List (Tx × D)) (cls : Value) (dd : Option Addr) : Prop :=
  cls = .ref (v.ca c) ∧ match dd with
    | none => fs = []
    | some d => ∃ fvs vs, H d = some (.xd fvs) ∧ (∀ (k : Nat) (f : Tx) (x : D), fs[k]? = some (f, x) → fGet fs f = some x → ∃ y, vs[k]? = some y ∧ fvs.lookup (tx f) = some y) ∧ RPs v ι H (fs.map (·.2)) vs
abbrev RRel (α β : Type) := List Addr → Hp → Hp → α → β → Prop
def rrE (v : Ev) : RRel D V := fun ι H0 H d x => RV v ι H d x ∧ New H0 d x
inductive rrL (v : Ev) (ι : List Addr) (H0 H : Hp) : List D → List V → Prop
  | nil : rrL v ι H0 H [] []
  | cons {d : D} {ds : List D} {x : V} {xs : List V} : rrE v ι H0 H d x → rrL v ι H0 H ds xs → rrL v ι H0 H (d :: ds) (x :: xs)
def rrB : RRel Bool Bool := fun _ _ _ a b => b = a
class Back {α β : Type} (RR : RRel α β) : Prop where
  back : ∀ {ι : List Addr} {H0 H1 H : Hp} {a : α} {b : β}, (∀ p, H1 p = none → H0 p = none) → RR ι H1 H a b → RR ι H0 H a b
theorem New.back {H0 H1 : Hp} {d : D} {x : V} (k : ∀ p, H1 p = none → H0 p = none) (n : New H1 d x) : New H0 d x := by
  cases d <;> first | trivial | exact fun a e => k a (n a e)
instance {v : Ev} : Back (rrE v) := ⟨fun k r => ⟨r.1, r.2.back k⟩⟩
theorem rrL.back {v : Ev} {ι : List Addr} {H0 H1 H : Hp} (k : ∀ p, H1 p = none → H0 p = none) : ∀ {ds : List D} {xs : List V}, rrL v ι H1 H ds xs → rrL v ι H0 H ds xs
  | _, _, .nil => .nil
  | _, _, .cons a t => .cons ⟨a.1, a.2.back k⟩ (t.back k)
instance {v : Ev} : Back (rrL v) := ⟨fun k r => r.back k⟩
instance : Back rrB := ⟨fun _ r => r⟩

def Go {α β : Type} (RR : RRel α β) (v : Ev) (ι : List Addr) (H : Hp) (r : R α) (Q : β → Hp → Prop) (E : XK) : Prop := match r with
  | .ok d h' => ∀ ι' H' x, Ext ι H ι' H' → HR v ι' H' h' → RR ι' H H' d x → Q x H'
  | .err c fs h' => ∀ ι' H' cls dd, Ext ι H ι' H' → HR v ι' H' h' → XR v ι' H' c fs cls dd → E cls dd H'
  | .no => False

section
variable {v : Ev} {ι ι1 : List Addr} {H H1 : Hp} {h h1 : Hh} {α β γ ζ : Type} {RR : RRel α β} {SS : RRel γ ζ} {Q : β → Hp → Prop} {E : XK}
theorem Go.shift [Back RR] {r : R α} (e : Ext ι H ι1 H1) (hr : HR v ι1 H1 h1) (g : Go RR v ι H r Q E) : Go RR v ι1 H1 r Q E := by
  cases r with
  | ok d h' => exact fun ι' H' x e' r' q => g ι' H' x (e.trans e') r' (Back.back (fun p hp => e.back hr hp) q)
  | err c fs h' => exact fun ι' H' cls dd e' r' q => g ι' H' cls dd (e.trans e') r' q
  | no => exact g
/-- an answer, then more -/
theorem Go.bind [Back RR] {r : R γ} {k : γ → Hh → R α} {Q' : ζ → Hp → Prop} (g : Go RR v ι H (r.bind k) Q E)
    (step : ∀ d h1 ι1 H1 x, r = .ok d h1 → Ext ι H ι1 H1 → HR v ι1 H1 h1 → SS ι1 H H1 d x → Go RR v ι1 H1 (k d h1) Q E → Q' x H1) : Go SS v ι H r Q' E := by
  cases r with
  | ok d h1 => exact fun ι1 H1 x e r' q => step d h1 ι1 H1 x rfl e r' q (Go.shift e r' g)
  | err c fs h1 => exact g
  | no => exact g
theorem Go.imp {r : R α} {Q' : β → Hp → Prop} {E' : XK} (g : Go RR v ι H r Q E) (q : ∀ x H, Q x H → Q' x H) (e : ∀ c d H, E c d H → E' c d H) : Go RR v ι H r Q' E' := by
  cases r with
  | ok d h' => exact fun ι' H' x a b c => q _ _ (g ι' H' x a b c)
  | err c fs h' => exact fun ι' H' x y a b c => e _ _ _ (g ι' H' x y a b c)
  | no => exact g
/-- the answer at hand -/
theorem Go.here {d : α} {x : β} (g : Go RR v ι H (.ok d h) Q E) (hr : HR v ι H h) (q : RR ι H H d x) : Q x H := g ι H x .refl hr q
end

/-! ### the readings -/
section
variable (v : Ev) (g : G) (W : WX)
def tE (e : Ex) : TE := fun σ H Q => ∃ ι δ h, HR v ι H h ∧ SR v ι H δ σ ∧ Go (rrE v) v ι H (evE g e δ h) Q (fun c d H' => W c d σ H')
def tL (es : List Ex) : TA := fun σ H Q => ∃ ι δ h, HR v ι H h ∧ SR v ι H δ σ ∧ Go (rrL v) v ι H (evEs g es δ h) Q (fun c d H' => W c d σ H')
def tT (t : Te) : TT := fun σ H Q => ∃ ι δ h, HR v ι H h ∧ SR v ι H δ σ ∧ Go rrB v ι H (evT g t δ h) Q (fun c d H' => W c d σ H')
def tTs (t : List Te) : TT := fun σ H Q => ∃ ι δ h, HR v ι H h ∧ SR v ι H δ σ ∧ Go rrB v ι H (evTs g t δ h) Q (fun c d H' => W c d σ H')
end
/-- what every place has -/
structure Cb (X : Cx) (v : Ev) (W : WX) : Prop where
  hK : X.K = v.K
  tk : Takes X W
  nd : X.N.Nodup
  hu : X.A.units + 80 < cLine
theorem Cb.hu64 {X : Cx} {v : Ev} {W : WX} (h : Cb X v W) : X.A.units + 64 < cLine := by have := h.hu; omega
/-- outside an except suite -/
structure Cc (X : Cx) (v : Ev) (W : WX) : Prop extends Cb X v W where
  calm : X.calm = true
  po : PassesOwn (model X.prog X.w) X.A X.env X.xe

theorem PE.imp {X : Cx} {e : Expr} {t t' : TE} (h : PE X e t) (k : ∀ σ H Q, t' σ H Q → t σ H Q) : PE X e t' := ⟨fun pins s σ H Q I q => h.run pins s σ H Q I (k σ H Q q)⟩
theorem PT.imp {X : Cx} {e : Expr} {t t' : TT} (h : PT X e t) (k : ∀ σ H Q, t' σ H Q → t σ H Q) : PT X e t' := ⟨fun pins s σ H Q I q => h.run pins s σ H Q I (k σ H Q q)⟩
theorem PA.imp {X : Cx} {e : List Expr} {t t' : TA} (h : PA X e t) (k : ∀ σ H Q, t' σ H Q → t σ H Q) : PA X e t' := ⟨fun pos pins s σ H Q I q => h.run pos pins s σ H Q I (k σ H Q q)⟩
theorem PS.imp {X : Cx} {e : Stmt} {t t' : TS} (h : PS X e t) (k : ∀ D σ H, t' D σ H → t D σ H) : PS X e t' := ⟨fun pins s σ H D I q => h.run pins s σ H D I (k D σ H q)⟩
theorem PSs.imp {X : Cx} {e : List Stmt} {t t' : TS} (h : PSs X e t) (k : ∀ D σ H, t' D σ H → t D σ H) : PSs X e t' := ⟨fun pins s σ H D I q => h.run pins s σ H D I (k D σ H q)⟩
theorem PE.or {X : Cx} {e : Expr} {t t' : TE} (h : PE X e t) (h' : PE X e t') : PE X e (fun σ H Q => t σ H Q ∨ t' σ H Q) :=
  ⟨fun pins s σ H Q I q => q.elim (h.run pins s σ H Q I) (h'.run pins s σ H Q I)⟩
theorem opr_or {X : Cx} {f : Value → Value → Sem Value} {r r' : R2} (h : OpR X f r) (h' : OpR X f r') : OpR X f (fun x y H Q => r x y H Q ∨ r' x y H Q) :=
  fun pins s σ H x y v u Q I rx ry q => q.elim (h pins s σ H x y v u Q I rx ry) (h' pins s σ H x y v u Q I rx ry)

section
variable {X : Cx} {v : Ev} {g : G} {W : WX} {a b c : Expr} {e1 e2 e3 : Ex} {pos : Pos}

theorem evE_op1 {o : Op} {δ : Sl} {h : Hh} : evE g (.op o [e1]) δ h = (evE g e1 δ h).bind fun x h => opApp g.sub o [x] h := by
  simp only [evE, evEs, R.assoc, R.okb]
theorem evE_op2 {o : Op} {δ : Sl} {h : Hh} : evE g (.op o [e1, e2]) δ h = (evE g e1 δ h).bind fun x h => (evE g e2 δ h).bind fun y h => opApp g.sub o [x, y] h := by
  simp only [evE, evEs, R.assoc, R.okb]
theorem evE_op3 {o : Op} {δ : Sl} {h : Hh} : evE g (.op o [e1, e2, e3]) δ h = (evE g e1 δ h).bind fun x h => (evE g e2 δ h).bind fun y h => (evE g e3 δ h).bind fun z h => opApp g.sub o [x, y, z] h := by
  simp only [evE, evEs, R.assoc, R.okb]

/-! ### names, constants -/
theorem e_var {i : Nat} {x : Str} (hN : X.N[i]? = some x := by rfl) (hv : Vis X.env.scope x := by first | exact Or.inl rfl | exact Or.inr (Or.inl rfl) | exact Or.inr (Or.inr rfl))
    (hd : (x == ("__debug__" : Str)) = false := by decide) (hcd : (x == ("__classdict__" : Str)) = false := by decide) : PE X (.Name x pos) (tE v g W (.var i)) := by
  refine PE.imp (pe_var hN hv hd hcd) fun σ H Q ⟨ι, δ, h, hr, hs, go⟩ => ?_
  unfold evE at go
  cases q : δ[i]? with
  | none => rw [q] at go; exact go.elim
  | some o =>
    cases o with
    | none => rw [q] at go; exact go.elim
    | some d =>
      rw [q] at go
      obtain ⟨x, h1, h2⟩ := hs.2 i d q
      refine ⟨x, h1, go.here hr ?_⟩
      cases d with
      | lst ds => cases h2
      | dct ds => cases h2
      | _ => exact ⟨h2, trivial⟩
theorem e_int {i : Int} {j : Nat} : PE X (.Constant (.int i) j pos) (tE v g W (.lit (.int i))) := PE.imp pe_int fun σ H Q ⟨ι, δ, h, hr, hs, go⟩ => go.here hr ⟨.int i, trivial⟩
theorem e_bl {i : Bool} {j : Nat} : PE X (.Constant (.bool i) j pos) (tE v g W (.lit (.bl i))) := PE.imp pe_bl fun σ H Q ⟨ι, δ, h, hr, hs, go⟩ => go.here hr ⟨.bl i, trivial⟩
theorem e_non {j : Nat} : PE X (.Constant .none j pos) (tE v g W (.lit .non)) := PE.imp pe_non fun σ H Q ⟨ι, δ, h, hr, hs, go⟩ => go.here hr ⟨.non, trivial⟩
theorem e_str {x : Str} {i : Tx} {j : Nat} (hx : x = tx i := by rfl) : PE X (.Constant (.str x) j pos) (tE v g W (.lit (.str i))) := by
  subst hx
  exact PE.imp pe_str fun σ H Q ⟨ι, δ, h, hr, hs, go⟩ => go.here hr ⟨.str i, trivial⟩

/-! ### operators -/
/-- an operator's rule, and what it asks of our data -/
def Op2 (v : Ev) (g : G) (o : Op) (r : R2) : Prop := ∀ (ι : List Addr) (H H0 H1 : Hp) (h : Hh) (d e : D) (x y : V) (Q : VK) (E : XK), HR v ι H h → rrE v ι H0 H d x → rrE v ι H1 H e y → Go (rrE v) v ι H (opApp g.sub o [d, e] h) Q E → r x y H Q
def Op1 (v : Ev) (g : G) (o : Op) (r : V → Hp → VK → Prop) : Prop := ∀ (ι : List Addr) (H H0 : Hp) (h : Hh) (d : D) (x : V) (Q : VK) (E : XK), HR v ι H h → rrE v ι H0 H d x → Go (rrE v) v ι H (opApp g.sub o [d] h) Q E → r x H Q
theorem rrE.mono {ι ι' : List Addr} {H0 H H' : Hp} {d : D} {x : V} (e : Ext ι H ι' H') (r : rrE v ι H0 H d x) : rrE v ι' H0 H' d x := ⟨r.1.mono e, r.2⟩
theorem l_op2 {o : Op} {r : R2} (val : Op2 v g o r) {σ : L2.St} {H : Hp} {Q : VK} (t : tE v g W (.op o [e1, e2]) σ H Q) : tOp r (tE v g W e1) (tE v g W e2) σ H Q := by
  obtain ⟨ι, δ, h, hr, hs, go⟩ := t
  rw [evE_op2] at go
  refine ⟨ι, δ, h, hr, hs, Go.bind (SS := rrE v) go fun d h1 ι1 H1 x _ ex1 hr1 rx1 go1 => ?_⟩
  refine ⟨ι1, δ, h1, hr1, hs.mono ex1, Go.bind (SS := rrE v) go1 fun e h2 ι2 H2 y _ ex2 hr2 ry2 go2 => ?_⟩
  exact val ι2 H2 H H1 h2 d e x y Q _ hr2 (rx1.mono ex2) ry2 go2
theorem l_op1 {o : Op} {r : V → Hp → VK → Prop} (val : Op1 v g o r) {σ : L2.St} {H : Hp} {Q : VK} (t : tE v g W (.op o [e1]) σ H Q) : tUn r (tE v g W e1) σ H Q := by
  obtain ⟨ι, δ, h, hr, hs, go⟩ := t
  rw [evE_op1] at go
  refine ⟨ι, δ, h, hr, hs, Go.bind (SS := rrE v) go fun d h1 ι1 H1 x _ ex1 hr1 rx1 go1 => ?_⟩
  exact val ι1 H1 H h1 d x Q _ hr1 rx1 go1
theorem e_bin {op : Operator} {o : Op} {r : R2} (ho : OpR X (binaryOp op) r) (val : Op2 v g o r) (ha : PE X a (tE v g W e1)) (hb : PE X b (tE v g W e2)) : PE X (.BinOp a op b pos) (tE v g W (.op o [e1, e2])) :=
  PE.imp (pe_op ho ha hb) fun σ H Q t => l_op2 val t
theorem e_un {op : UnaryOp} {o : Op} {r : V → Hp → VK → Prop} (ho : UnR X (unaryOp op) r) (val : Op1 v g o r) (ha : PE X a (tE v g W e1)) : PE X (.UnaryOp op a pos) (tE v g W (.op o [e1])) :=
  PE.imp (pe_un ho ha) fun σ H Q t => l_op1 val t
theorem PC.imp {op : CmpOp} {t t' : TE} (h : PC X op a b t) (k : ∀ σ H Q, t' σ H Q → t σ H Q) : PC X op a b t' := ⟨fun pins s σ H Q I q => h.run pins s σ H Q I (k σ H Q q)⟩
theorem PC.or {op : CmpOp} {t t' : TE} (h : PC X op a b t) (h' : PC X op a b t') : PC X op a b (fun σ H Q => t σ H Q ∨ t' σ H Q) :=
  ⟨fun pins s σ H Q I q => q.elim (h.run pins s σ H Q I) (h'.run pins s σ H Q I)⟩
theorem pc_opr {op : CmpOp} {r : R2} {ta tb : TE} (ho : OpR X (compareOp op) r) (ha : PE X a ta) (hb : PE X b tb) : PC X op a b (tOp r ta tb) :=
  ⟨fun pins s σ H Q I q => L2.bin ha hb I q fun u1 u2 s2 x y H2 I2 r1 r2 z => ho pins s2 σ H2 x y u1 u2 Q I2 r1 r2 z⟩
theorem c_cmp {op : CmpOp} {o : Op} {r : R2} (ho : OpR X (compareOp op) r) (val : Op2 v g o r) (ha : PE X a (tE v g W e1)) (hb : PE X b (tE v g W e2)) : PC X op a b (tE v g W (.op o [e1, e2])) :=
  PC.imp (pc_opr ho ha hb) fun σ H Q t => l_op2 val t
theorem e_c {op : CmpOp} {e : Ex} (h : PC X op a b (tE v g W e)) (hm : behindInMarks op b = false := by first | exact nobehind _ (by decide) (by decide) | rfl) : PE X (.Compare a [op] [b] pos) (tE v g W e) := pe_cmp h hm
end
end Ivy

/-! Ivy, part D: the operations, by values. -/
namespace Ivy
open PySem PySem.Spec PyProof.Rows L2

section
variable {v : Ev} {g : G} {ι : List Addr} {H H0 : Hp} {h : Hh} {d : D} {ds : List D} {x : V} {vs : List V} {Q : VK} {E : XK}

theorem go_when {α β : Type} {RR : RRel α β} {b : Bool} {r : R α} {Q : β → Hp → Prop} (go : Go RR v ι H (whenR b r) Q E) : b = true ∧ Go RR v ι H r Q E := by
  cases b with
  | true => exact ⟨rfl, go⟩
  | false => exact go.elim
theorem go_fresh {p : Addr} (go : Go (rrE v) v ι H (.ok (.lst ds) h) Q E) (hr : HR v ι H h) (r : RPs v ι H ds vs) (hp : H p = none) : Q (.ref p) (upd H p (.lst vs)) :=
  go ι _ _ (ext_new hp) (hr.new hp) ⟨⟨p, vs, rfl, hr.notIn hp, upd_same, r.mono (ext_new hp)⟩, fun a e => by cases e; exact hp⟩
theorem go_tup {p : Addr} (go : Go (rrE v) v ι H (.ok (.tup ds) h) Q E) (hr : HR v ι H h) (r : RPs v ι H ds vs) (hp : H p = none) : Q (.ref p) (upd H p (.tup vs)) :=
  go ι _ _ (ext_new hp) (hr.new hp) ⟨.tup (SqT.of upd_same) (r.mono (ext_new hp)), trivial⟩
theorem go_tupS {a : Addr} (go : Go (rrE v) v ι H (.ok (.tup ds) h) Q E) (hr : HR v ι H h) (r : RPs v ι H ds vs) (ht : SqT v.K H a vs) : Q (.ref a) H := go.here hr ⟨.tup ht r, trivial⟩
theorem go_int {i : Int} (go : Go (rrE v) v ι H (intR i h) Q E) (hr : HR v ι H h) : Q (.int i) H := go.here hr ⟨.int i, trivial⟩
theorem go_bl {i : Bool} (go : Go (rrE v) v ι H (blR i h) Q E) (hr : HR v ι H h) : Q (.bl i) H := go.here hr ⟨.bl i, trivial⟩
theorem go_str {i : Tx} (go : Go (rrE v) v ι H (.ok (.str i) h) Q E) (hr : HR v ι H h) : Q (.str (tx i)) H := go.here hr ⟨.str i, trivial⟩
theorem go_rp (go : Go (rrE v) v ι H (.ok d h) Q E) (hr : HR v ι H h) (r : RP v ι H d x) (hp : D.pers d = true) : Q x H :=
  go.here hr ⟨RV.of r (.inl hp), New.pers hp⟩

theorem rv_int {i : Int} (r : rrE v ι H0 H (.int i) x) : x = .int i := by cases (show RP v ι H (.int i) x from r.1); rfl
theorem rv_bl {i : Bool} (r : rrE v ι H0 H (.bl i) x) : x = .bl i := by cases (show RP v ι H (.bl i) x from r.1); rfl
theorem rv_str {i : Tx} (r : rrE v ι H0 H (.str i) x) : x = .str (tx i) := by cases (show RP v ι H (.str i) x from r.1); rfl
theorem rv_non (r : rrE v ι H0 H .non x) : x = .non := by cases (show RP v ι H .non x from r.1); rfl
theorem rv_tup (r : rrE v ι H0 H (.tup ds) x) : ∃ a vs, x = .ref a ∧ SqT v.K H a vs ∧ RPs v ι H ds vs := by
  cases (show RP v ι H (.tup ds) x from r.1) with
  | tup h1 h2 => exact ⟨_, _, rfl, h1, h2⟩
theorem rv_ref {n : Nat} (r : rrE v ι H0 H (.ref n) x) : ∃ a, x = .ref a ∧ ι[n]? = some a := by
  cases (show RP v ι H (.ref n) x from r.1) with
  | ref h1 => exact ⟨_, rfl, h1⟩
theorem rp_pers {d : D} {x : V} (r : RP v ι H d x) : D.pers d = true ∨ ∃ c fs, d = .exc c fs := by
  cases r <;> first | exact .inl rfl | exact .inr ⟨_, _, rfl⟩
theorem lm_ok (hr : HR v ι H h) (r : rrE v ι H0 H d x) (e : lmD h d = some ds) : ∃ a vs, x = .ref a ∧ H a = some (.lst vs) ∧ RPs v ι H ds vs := by
  unfold lmD at e
  split at e
  · cases e
    obtain ⟨a, vs, h1, _, h3, h4⟩ := (show RV v ι H (.lst _) x from r.1)
    exact ⟨a, vs, h1, h3, h4⟩
  · rename_i n
    obtain ⟨a, rfl, ha⟩ := rv_ref r
    split at e
    · rename_i xs q
      cases e
      obtain ⟨vs, h1, h2⟩ := (show CR v ι H a (.lst _) from hr.cell n a _ ha q)
      exact ⟨a, vs, rfl, h1, h2⟩
    · cases e
  · cases e
theorem ls_ok (hr : HR v ι H h) (r : rrE v ι H0 H d x) (e : lsD h d = some ds) : ∃ a vs, x = .ref a ∧ SqL v.K H a vs ∧ RPs v ι H ds vs := by
  unfold lsD at e
  split at e
  · cases e
    obtain ⟨a, vs, h1, _, h3, h4⟩ := (show RV v ι H (.lst _) x from r.1)
    exact ⟨a, vs, h1, SqL.of h3, h4⟩
  · cases e
    cases (show RP v ι H (.rol _) x from r.1) with
    | rol h1 h2 => exact ⟨_, _, rfl, h1.sq, h2⟩
  · rename_i n
    obtain ⟨a, rfl, ha⟩ := rv_ref r
    split at e
    · rename_i xs q
      cases e
      obtain ⟨vs, h1, h2⟩ := (show CR v ι H a (.lst _) from hr.cell n a _ ha q)
      exact ⟨a, vs, rfl, SqL.of h1, h2⟩
    · cases e
  · cases e
theorem sq_ok (hr : HR v ι H h) (r : rrE v ι H0 H d x) (e : sqD h d = some ds) : ∃ a vs, x = .ref a ∧ (SqL v.K H a vs ∨ SqT v.K H a vs) ∧ RPs v ι H ds vs := by
  unfold sqD at e
  split at e
  · cases e
    obtain ⟨a, vs, h1, h2, h3⟩ := rv_tup r
    exact ⟨a, vs, h1, .inr h2, h3⟩
  · obtain ⟨a, vs, h1, h2, h3⟩ := ls_ok hr r e
    exact ⟨a, vs, h1, .inl h2, h3⟩
theorem dc_ok {kvs : List (Ky × D)} (hr : HR v ι H h) (r : rrE v ι H0 H d x) (e : dcD h d = some kvs) : ∃ a kvs', x = .ref a ∧ H a = some (.dK kvs') ∧ RK v ι H kvs kvs' := by
  unfold dcD at e
  split at e
  · cases e
    obtain ⟨a, vs, h1, _, h3, h4⟩ := (show RV v ι H (.dct _) x from r.1)
    exact ⟨a, vs, h1, h3, h4⟩
  · rename_i n
    obtain ⟨a, rfl, ha⟩ := rv_ref r
    split at e
    · rename_i xs q
      cases e
      obtain ⟨vs, h1, h2⟩ := (show CR v ι H a (.dct _) from hr.cell n a _ ha q)
      exact ⟨a, vs, rfl, h1, h2⟩
    · cases e
  · cases e
theorem cells_eq : cells = sizeLine := by rw [sizeLine_eq]
theorem tx_len (x : Tx) : (tx x).length = x.length := by show x.toArray.size = _; simp
theorem tx_app (x y : Tx) : tx x ++ tx y = tx (x ++ y) := by show Str.append _ _ = _; simp [Str.append, tx]

/-! ### arithmetic -/
def rAdd4 (K : PySem.W.Frag) : R2 := fun x y H Q => rI0 (fun i j => .int (i + j)) x y H Q ∨ ((∃ i j, x = .str i ∧ y = .str j ∧ i.length + j.length ≤ sizeLine ∧ Q (.str (i ++ j)) H) ∨ (rCatA K x y H Q ∨ rCat x y H Q))
theorem o_add {X : Cx} (hK : X.K = v.K) : OpR X (binaryOp .Add) (rAdd4 v.K) := by
  rw [← hK]
  exact opr_or op_add (opr_or op_add_str (opr_or op_catA op_cat))
theorem v_add : Op2 v g .add (rAdd4 v.K) := by
  intro ι H H0 H1 h d e x y Q E hr rx ry go
  have go : Go (rrE v) v ι H (opAdd h d e) Q E := go
  unfold opAdd at go
  split at go
  · rw [rv_int rx, rv_int ry]
    exact .inl ⟨_, _, rfl, rfl, go_int go hr⟩
  · obtain ⟨c, go⟩ := go_when go
    rw [rv_str rx, rv_str ry]
    refine .inr (.inl ⟨_, _, rfl, rfl, ?_, ?_⟩)
    · rw [tx_len, tx_len, ← cells_eq]; exact of_decide_eq_true c
    · rw [tx_app]; exact go_str go hr
  · obtain ⟨c, go⟩ := go_when go
    obtain ⟨a, xs, rfl, h1, h2⟩ := rv_tup rx
    obtain ⟨b, ys, rfl, h3, h4⟩ := rv_tup ry
    refine .inr (.inr (.inl ⟨a, b, xs, ys, rfl, rfl, h1, h3, ?_, fun e => ?_, fun _ e => ?_, fun _ _ p hp => go_tup go hr (h2.app h4) hp⟩))
    · rw [← h2.length, ← h4.length, ← cells_eq]; exact of_decide_eq_true c
    · subst e; cases h2; exact go_tupS go hr h4 h3
    · subst e; cases h4
      rw [List.append_nil] at go
      exact go_tupS go hr h2 h1
  · split at go
    · rename_i e1 e2
      obtain ⟨c, go⟩ := go_when go
      obtain ⟨a, xs, rfl, h1, h2⟩ := lm_ok hr rx e1
      obtain ⟨b, ys, rfl, h3, h4⟩ := lm_ok hr ry e2
      refine .inr (.inr (.inr ⟨a, b, xs, ys, rfl, rfl, h1, h3, ?_, fun p hp => go_fresh go hr (h2.app h4) hp⟩))
      rw [← h2.length, ← h4.length, ← cells_eq]; exact of_decide_eq_true c
    · exact go.elim
theorem v_sub : Op2 v g .sub (rI0 fun i j => .int (i - j)) := by
  intro ι H H0 H1 h d e x y Q E hr rx ry go
  cases d <;> cases e <;> first | exact go.elim | skip
  rw [rv_int rx, rv_int ry]
  exact ⟨_, _, rfl, rfl, go_int (show Go _ _ _ _ (intR _ _) _ _ from go) hr⟩
theorem big_log {i : Int} (h : i.natAbs < big) : i.natAbs.log2 < 500000 := by
  by_cases z : i.natAbs = 0
  · rw [z]; decide
  · exact (Nat.log2_lt z).mpr h
def CMul3 (i j : Int) : Prop := CMul i j ∨ CMulW i j
theorem o_mulI {X : Cx} : OpR X (binaryOp .Mult) (rI CMul3 fun i j => .int (i * j)) := fun pins s σ H x y v u Q I rx ry ⟨i, j, ex, ey, hc, q⟩ =>
  hc.elim (fun c => op_mul pins s σ H x y v u Q I rx ry ⟨i, j, ex, ey, c, q⟩) fun c => op_mulW pins s σ H x y v u Q I rx ry ⟨i, j, ex, ey, c, q⟩
theorem mul_ok {i j : Int} (h : mulOk i j = true) : CMul3 i j := by
  unfold mulOk at h
  rw [Bool.or_eq_true, Bool.or_eq_true, Bool.and_eq_true] at h
  rcases h with (h | h) | h
  · have := of_decide_eq_true h
    exact .inl (.inl ⟨by omega, by omega⟩)
  · have := of_decide_eq_true h
    exact .inl (.inr ⟨by omega, by omega⟩)
  · have h1 := big_log (of_decide_eq_true h.1)
    have h2 := big_log (of_decide_eq_true h.2)
    exact .inr (show _ + _ < 1000000 by omega)
theorem RPs.rep (r : RPs v ι H ds vs) : ∀ n : Nat, RPs v ι H (List.replicate n ds).flatten (List.replicate n vs).flatten
  | 0 => .nil
  | n + 1 => by
    rw [List.replicate_succ, List.replicate_succ, List.flatten_cons, List.flatten_cons]
    exact r.app (RPs.rep r n)
def rMul3 (K : PySem.W.Frag) : R2 := fun x y H Q => rI CMul3 (fun i j => .int (i * j)) x y H Q ∨ (rRep x y H Q ∨ rRepT K x y H Q)
theorem o_mul {X : Cx} (hK : X.K = v.K) : OpR X (binaryOp .Mult) (rMul3 v.K) := by
  rw [← hK]
  exact opr_or o_mulI (opr_or op_rep op_repT)
theorem v_mul : Op2 v g .mul (rMul3 v.K) := by
  intro ι H H0 H1 h d e x y Q E hr rx ry go
  have go : Go (rrE v) v ι H (opMul h d e) Q E := go
  unfold opMul at go
  split at go
  · obtain ⟨c, go⟩ := go_when go
    rw [rv_int rx, rv_int ry]
    exact .inl ⟨_, _, rfl, rfl, mul_ok c, go_int go hr⟩
  · split at go
    · rename_i k _ xs e1
      obtain ⟨c, go⟩ := go_when go
      rw [Bool.and_eq_true, Bool.and_eq_true] at c
      obtain ⟨a, vs, rfl, h1, h2⟩ := lm_ok hr rx e1
      rw [rv_int ry]
      have c1 := of_decide_eq_true c.1.1
      have c2 := of_decide_eq_true c.1.2
      have c3 := of_decide_eq_true c.2
      refine .inr (.inl ⟨a, _, vs, rfl, rfl, h1, by omega, by omega, ?_, fun p hp => go_fresh go hr (h2.rep _) hp⟩)
      rw [← h2.length, ← cells_eq]; exact c3
    · split at go
      · rename_i k _ _ xs
        obtain ⟨c, go⟩ := go_when go
        rw [Bool.and_eq_true, Bool.and_eq_true, Bool.and_eq_true] at c
        obtain ⟨a, vs, rfl, h1, h2⟩ := rv_tup rx
        rw [rv_int ry]
        refine .inr (.inr ⟨a, _, vs, rfl, rfl, h1, ?_, of_decide_eq_true c.1.1.2, of_decide_eq_true c.1.2, ?_, fun p hp => go_tup go hr (h2.rep _) hp⟩)
        · intro z
          subst z
          cases h2
          cases c.1.1.1
        · rw [← h2.length]; exact of_decide_eq_true c.2
      · exact go.elim
  · exact go.elim
def CDivB (i j : Int) : Prop := j ≠ 0 ∧ j.natAbs.log2 < 9000
theorem o_fdiv {X : Cx} : OpR X (binaryOp .FloorDiv) (rI CDivB fun i j => .int (i.fdiv j)) := opI fun i j _ _ _ _ _ hc q => floordiv_int hc.1 q (.inl (PyProof.noPylong_of_log2 hc.2))
theorem v_fdiv : Op2 v g .fdiv (rI CDivB fun i j => .int (i.fdiv j)) := by
  intro ι H H0 H1 h d e x y Q E hr rx ry go
  cases d <;> cases e <;> first | exact go.elim | skip
  rename_i i j
  obtain ⟨c, go⟩ := go_when (show Go _ _ _ _ (whenR _ (intR (i.fdiv j) h)) _ _ from go)
  rw [Bool.and_eq_true] at c
  rw [rv_int rx, rv_int ry]
  have c1 := of_decide_eq_true c.1
  refine ⟨_, _, rfl, rfl, ⟨c1, ?_⟩, go_int go hr⟩
  exact (Nat.log2_lt (by omega)).mpr (of_decide_eq_true c.2)
theorem v_mod : Op2 v g .mod (rI (fun _ j => j ≠ 0) fun i j => .int (i.fmod j)) := by
  intro ι H H0 H1 h d e x y Q E hr rx ry go
  cases d <;> cases e <;> first | exact go.elim | skip
  rename_i i j
  obtain ⟨c, go⟩ := go_when (show Go _ _ _ _ (whenR _ (intR (i.fmod j) h)) _ _ from go)
  rw [rv_int rx, rv_int ry]
  exact ⟨_, _, rfl, rfl, of_decide_eq_true c, go_int go hr⟩
theorem v_pow : Op2 v g .pow (rI CPow fun i j => .int (i ^ j.toNat)) := by
  intro ι H H0 H1 h d e x y Q E hr rx ry go
  cases d <;> cases e <;> first | exact go.elim | skip
  rename_i i j
  obtain ⟨c, go⟩ := go_when (show Go _ _ _ _ (whenR _ (intR (i ^ j.toNat) h)) _ _ from go)
  rw [Bool.and_eq_true, Bool.and_eq_true] at c
  rw [rv_int rx, rv_int ry]
  have c3 := of_decide_eq_true c.2
  exact ⟨_, _, rfl, rfl, ⟨of_decide_eq_true c.1.1, of_decide_eq_true c.1.2, by omega⟩, go_int go hr⟩
theorem v_shl : Op2 v g .shl (rI CShl fun i j => .int (i * 2 ^ j.toNat)) := by
  intro ι H H0 H1 h d e x y Q E hr rx ry go
  cases d <;> cases e <;> first | exact go.elim | skip
  rename_i i j
  obtain ⟨c, go⟩ := go_when (show Go _ _ _ _ (whenR _ (intR (i * 2 ^ j.toNat) h)) _ _ from go)
  rw [Bool.and_eq_true, Bool.and_eq_true] at c
  rw [rv_int rx, rv_int ry]
  have c1 := of_decide_eq_true c.1.1
  have c2 := of_decide_eq_true c.1.2
  have c3 := big_log (of_decide_eq_true c.2)
  refine ⟨_, _, rfl, rfl, ⟨c1, ?_⟩, go_int go hr⟩
  have b : Builtin.Int.intBits i ≤ i.natAbs.log2 + 1 := by
    unfold Builtin.Int.intBits
    split <;> omega
  omega
theorem v_shr : Op2 v g .shr (rI (fun _ j => 0 ≤ j) fun i j => .int (i / 2 ^ j.toNat)) := by
  intro ι H H0 H1 h d e x y Q E hr rx ry go
  cases d <;> cases e <;> first | exact go.elim | skip
  rename_i i j
  obtain ⟨c, go⟩ := go_when (show Go _ _ _ _ (whenR _ (intR (i / 2 ^ j.toNat) h)) _ _ from go)
  rw [rv_int rx, rv_int ry]
  exact ⟨_, _, rfl, rfl, of_decide_eq_true c, go_int go hr⟩
theorem v_neg : Op1 v g .neg (rU fun i => .int (-i)) := by
  intro ι H H0 h d x Q E hr rx go
  cases d <;> first | exact go.elim | skip
  rw [rv_int rx]
  exact ⟨_, rfl, go_int (show Go _ _ _ _ (intR _ _) _ _ from go) hr⟩

/-! ### order -/
theorem ltL_iff : ∀ x y : List Nat, ltL x y = decide (x < y)
  | [], [] => rfl
  | [], _ :: _ => by simp [ltL]
  | _ :: _, [] => by simp [ltL]
  | a :: as, b :: bs => by
    unfold ltL
    rw [ltL_iff as bs]
    by_cases e : a = b
    · rw [if_pos e]; subst e; simp [List.cons_lt_cons_iff]
    · rw [if_neg e]; simp [List.cons_lt_cons_iff, e]
theorem tx_list (x : Tx) : (tx x).cps.toList = x := by simp [tx]
def rCmp (f : Int → Int → Bool) (g : Tx → Tx → Bool) : R2 := fun x y H Q => rI0 (fun i j => .bl (f i j)) x y H Q ∨ ∃ i j, x = .str i ∧ y = .str j ∧ Q (.bl (g i.cps.toList j.cps.toList)) H
theorem o_lt {X : Cx} : OpR X (compareOp .Lt) (rCmp (fun i j => decide (i < j)) fun x y => ltL x y) := opr_or op_lt fun pins s σ H x y v u Q I rx ry ⟨i, j, ex, ey, q⟩ => op_lt_str pins s σ H x y v u Q I rx ry ⟨i, j, ex, ey, by simp only [ltL_iff] at q; exact q⟩
theorem o_le {X : Cx} : OpR X (compareOp .LtE) (rCmp (fun i j => decide (i ≤ j)) fun x y => !ltL y x) := opr_or op_le fun pins s σ H x y v u Q I rx ry ⟨i, j, ex, ey, q⟩ => op_le_str pins s σ H x y v u Q I rx ry ⟨i, j, ex, ey, by simp only [ltL_iff] at q; exact q⟩
theorem o_gt {X : Cx} : OpR X (compareOp .Gt) (rCmp (fun i j => decide (j < i)) fun x y => ltL y x) := opr_or op_gt fun pins s σ H x y v u Q I rx ry ⟨i, j, ex, ey, q⟩ => op_gt_str pins s σ H x y v u Q I rx ry ⟨i, j, ex, ey, by simp only [ltL_iff] at q; exact q⟩
theorem o_ge {X : Cx} : OpR X (compareOp .GtE) (rCmp (fun i j => decide (j ≤ i)) fun x y => !ltL x y) := opr_or op_ge fun pins s σ H x y v u Q I rx ry ⟨i, j, ex, ey, q⟩ => op_ge_str pins s σ H x y v u Q I rx ry ⟨i, j, ex, ey, by simp only [ltL_iff] at q; exact q⟩
theorem v_cmp {o : Op} {f : Int → Int → Bool} {k : Tx → Tx → Bool} (he : ∀ (d e : D) (h : Hh), opApp g.sub o [d, e] h = opCmp h f k d e) : Op2 v g o (rCmp f k) := by
  intro ι H H0 H1 h d e x y Q E hr rx ry go
  rw [he] at go
  cases d <;> cases e <;> first | exact go.elim | skip
  · rw [rv_int rx, rv_int ry]
    exact .inl ⟨_, _, rfl, rfl, go_bl (show Go _ _ _ _ (blR _ _) _ _ from go) hr⟩
  · rw [rv_str rx, rv_str ry]
    refine .inr ⟨_, _, rfl, rfl, ?_⟩
    rw [tx_list, tx_list]
    exact go_bl (show Go _ _ _ _ (blR _ _) _ _ from go) hr
theorem v_lt : Op2 v g .lt (rCmp (fun i j => decide (i < j)) fun x y => ltL x y) := v_cmp fun _ _ _ => rfl
theorem v_le : Op2 v g .le (rCmp (fun i j => decide (i ≤ j)) fun x y => !ltL y x) := v_cmp fun _ _ _ => rfl
theorem v_gt : Op2 v g .gt (rCmp (fun i j => decide (j < i)) fun x y => ltL y x) := v_cmp fun _ _ _ => rfl
theorem v_ge : Op2 v g .ge (rCmp (fun i j => decide (j ≤ i)) fun x y => !ltL x y) := v_cmp fun _ _ _ => rfl

/-! ### equality -/
mutual
def pyD : D → PyData
  | .bl b => .bool b
  | .int i => .int i
  | .str x => .str (tx x)
  | .tup xs => .tuple (pyL xs)
  | .rol xs => .list (pyL xs)
  | .lst xs => .list (pyL xs)
  | _ => .none
def pyL : List D → List PyData
  | [] => []
  | d :: ds => pyD d :: pyL ds
end
theorem beq_dec {α : Type} [BEq α] [LawfulBEq α] [DecidableEq α] (a b : α) : (a == b) = decide (a = b) := by
  by_cases e : a = b
  · subst e; simp
  · simp [e]
theorem tx_beq (x y : Tx) : (tx x == tx y) = decide (x = y) := by
  rw [beq_dec]
  by_cases e : x = y
  · subst e; simp
  · rw [decide_eq_false e, decide_eq_false fun z => e (tx_inj z)]
mutual
theorem eqv_py : ∀ {k j : Nat} (d e : D), D.dat k d = true → D.dat j e = true → D.eqv d e = PyData.eqv (pyD d) (pyD e)
  | k, j, d, e, hd, he => by
    cases d with
    | tup xs =>
      cases k with
      | zero => cases hd
      | succ k =>
        cases e with
        | tup ys =>
          cases j with
          | zero => cases he
          | succ j => exact eqvL_py xs ys hd he
        | _ => first | rfl | (cases j <;> cases he)
    | rol xs =>
      cases k with
      | zero => cases hd
      | succ k =>
        cases e with
        | rol ys =>
          cases j with
          | zero => cases he
          | succ j => exact eqvL_py xs ys hd he
        | lst ys =>
          cases j with
          | zero => cases he
          | succ j => exact eqvL_py xs ys hd he
        | _ => first | rfl | (cases j <;> cases he)
    | lst xs =>
      cases k with
      | zero => cases hd
      | succ k =>
        cases e with
        | rol ys =>
          cases j with
          | zero => cases he
          | succ j => exact eqvL_py xs ys hd he
        | lst ys =>
          cases j with
          | zero => cases he
          | succ j => exact eqvL_py xs ys hd he
        | _ => first | rfl | (cases j <;> cases he)
    | non => cases e <;> first | rfl | (cases j <;> cases he)
    | bl b => cases e <;> first | rfl | (cases j <;> cases he) | exact (beq_dec _ _).symm
    | int b => cases e <;> first | rfl | (cases j <;> cases he) | exact (beq_dec _ _).symm
    | str b => cases e <;> first | rfl | (cases j <;> cases he) | exact (tx_beq _ _).symm
    | dct b => cases k <;> cases hd
    | ref b => cases k <;> cases hd
    | exc a b => cases k <;> cases hd
theorem eqvL_py : ∀ {k j : Nat} (d e : List D), D.datL k d = true → D.datL j e = true → D.eqvL d e = PyData.eqvAll (pyL d) (pyL e)
  | k, j, [], [], hd, he => by rfl
  | k, j, [], y :: ys, hd, he => by rfl
  | k, j, x :: xs, [], hd, he => by rfl
  | k, j, x :: xs, y :: ys, hd, he => by
    have h1 := Bool.and_eq_true_iff.mp (show (D.dat k x && D.datL k xs) = true by rw [← hd]; cases k <;> rfl)
    have h2 := Bool.and_eq_true_iff.mp (show (D.dat j y && D.datL j ys) = true by rw [← he]; cases j <;> rfl)
    show (D.eqv x y && D.eqvL xs ys) = (PyData.eqv (pyD x) (pyD y) && PyData.eqvAll (pyL xs) (pyL ys))
    rw [eqv_py x y h1.1 h2.1, eqvL_py xs ys h1.2 h2.2]
end
mutual
theorem lay_ok : ∀ {k : Nat} (d : D), D.dat k d = true → PyData.canLay0 (pyD d) = true ∧ PyData.depth (pyD d) ≤ k
  | k, .non, _ => ⟨rfl, Nat.zero_le _⟩
  | k, .bl _, _ => ⟨rfl, Nat.zero_le _⟩
  | k, .int _, _ => ⟨rfl, Nat.zero_le _⟩
  | k, .str x, h => ⟨by
      have h2 : okTx x = true := by cases k <;> exact h
      show (tx x).cps.all (fun c => decide (c < 0x110000)) = true
      unfold tx
      unfold okTx at h2
      rw [← Array.all_toList]
      exact h2, Nat.zero_le _⟩
  | 0, .tup xs, h => by cases h
  | k + 1, .tup xs, h => let q := layL_ok (k := k) xs h; ⟨q.1, Nat.succ_le_succ q.2⟩
  | 0, .rol xs, h => by cases h
  | k + 1, .rol xs, h => let q := layL_ok (k := k) xs h; ⟨q.1, Nat.succ_le_succ q.2⟩
  | 0, .lst xs, h => by cases h
  | k + 1, .lst xs, h => let q := layL_ok (k := k) xs h; ⟨q.1, Nat.succ_le_succ q.2⟩
  | k, .dct _, h => by cases k <;> cases h
  | k, .ref _, h => by cases k <;> cases h
  | k, .exc _ _, h => by cases k <;> cases h
theorem layL_ok : ∀ {k : Nat} (ds : List D), D.datL k ds = true → PyData.canLayAll0 (pyL ds) = true ∧ PyData.depthAll (pyL ds) ≤ k
  | k, [], _ => ⟨rfl, Nat.zero_le _⟩
  | k, d :: ds, h => by
    have h1 := Bool.and_eq_true_iff.mp (show (D.dat k d && D.datL k ds) = true by rw [← h]; cases k <;> rfl)
    have q1 := lay_ok d h1.1
    have q2 := layL_ok ds h1.2
    refine ⟨?_, Nat.max_le.mpr ⟨q1.2, q2.2⟩⟩
    show (PyData.canLay0 (pyD d) && PyData.canLayAll0 (pyL ds)) = true
    rw [q1.1, q2.1]; rfl
end
theorem shaped_ok {d : D} (h : D.dat 60 d = true) : SeqAt.shaped (pyD d) = true := by
  have q := lay_ok d h
  unfold SeqAt.shaped
  rw [q.1, decide_eq_true (show PyData.depth (pyD d) ≤ 64 by omega)]; rfl
mutual
theorem dp_rp : ∀ {k : Nat} {d : D} {x : V}, RP v ι H d x → D.dat k d = true → Dp v.K H x (pyD d)
  | _, _, _, .non, _ => .non
  | _, _, _, .bl b, _ => .bl b
  | _, _, _, .int b, _ => .int b
  | _, _, _, .str b, _ => .str _
  | 0, _, _, .tup h r, q => by cases q
  | k + 1, _, _, .tup h r, q => .tup h (dp_rps (k := k) r q)
  | 0, _, _, .rol h r, q => by cases q
  | k + 1, _, _, .rol h r, q => .lst h.sq (dp_rps (k := k) r q)
  | k, _, _, .ref _, q => by cases k <;> cases q
  | k, _, _, .exc _, q => by cases k <;> cases q
  | k, _, _, .exd _ _ _ _, q => by cases k <;> cases q
theorem dp_rps : ∀ {k : Nat} {ds : List D} {xs : List V}, RPs v ι H ds xs → D.datL k ds = true → DpAll v.K H xs (pyL ds)
  | _, _, _, .nil, _ => .nil
  | k, d :: ds, _, .cons r t, q => by
    have h1 := Bool.and_eq_true_iff.mp (show (D.dat k d && D.datL k ds) = true by rw [← q]; cases k <;> rfl)
    exact .cons (dp_rp r h1.1) (dp_rps t h1.2)
end
theorem dp_told (hr : HR v ι H h) : ∀ (j : Nat) {k : Nat} {d : D} {x : V}, RP v ι H d x → D.dat k (told j h d) = true → Dp v.K H x (pyD (told j h d))
  | 0, k, d, x, r, q => by
    have e : told 0 h d = d := by unfold told; rfl
    rw [e] at q ⊢
    exact dp_rp r q
  | j + 1, k, d, x, r, q => by
    cases r with
    | @ref n a ha =>
      cases e : h[n]? with
      | none =>
        have e2 : told (j + 1) h (.ref n) = .ref n := by unfold told; rw [e]
        rw [e2] at q; cases k <;> cases q
      | some c =>
        cases c with
        | lst ds =>
          have e2 : told (j + 1) h (.ref n) = .lst (ds.map (told j h)) := by unfold told; rw [e]
          rw [e2] at q ⊢
          obtain ⟨vs, h1, h2⟩ := (show CR v ι H a (.lst ds) from hr.cell n a _ ha e)
          cases k with
          | zero => cases q
          | succ k =>
            refine .lst (SqL.of h1) ?_
            have q2 : D.datL k (ds.map (told j h)) = true := q
            clear e e2 q h1
            induction ds generalizing vs with
            | nil => cases h2; exact .nil
            | cons d ds ih =>
              cases h2 with
              | cons r t =>
                have h3 := Bool.and_eq_true_iff.mp (show (D.dat k (told j h d) && D.datL k (ds.map (told j h))) = true by rw [← q2]; cases k <;> rfl)
                exact .cons (dp_told hr j r h3.1) (ih _ t h3.2)
        | dct ds =>
          have e2 : told (j + 1) h (.ref n) = .ref n := by unfold told; rw [e]
          rw [e2] at q; cases k <;> cases q
        | ins c ds =>
          have e2 : told (j + 1) h (.ref n) = .ref n := by unfold told; rw [e]
          rw [e2] at q; cases k <;> cases q
    | non => exact dp_rp (k := k) (RP.non (ι := ι)) q
    | bl b => exact dp_rp (k := k) (RP.bl (ι := ι) b) q
    | int b => exact dp_rp (k := k) (RP.int (ι := ι) b) q
    | str b => exact dp_rp (k := k) (RP.str (ι := ι) b) q
    | tup h1 h2 => exact dp_rp (k := k) (.tup h1 h2) q
    | rol h1 h2 => exact dp_rp (k := k) (.rol h1 h2) q
    | exc h1 => cases k <;> cases q
    | exd h1 h2 h3 h4 => cases k <;> cases q
theorem dp_any (hr : HR v ι H h) (r : rrE v ι H0 H d x) (q : D.dat 60 (told 3 h d) = true) : Dp v.K H x (pyD (told 3 h d)) := by
  by_cases hp : D.pers d = true
  · exact dp_told hr 3 (r.1.rp hp) q
  · cases d with
    | lst ds =>
      obtain ⟨a, vs, rfl, _, h1, h2⟩ := (show RV v ι H (.lst ds) x from r.1)
      refine .lst (SqL.of h1) ?_
      have q2 : D.datL 59 (ds.map (told 2 h)) = true := q
      clear q r hp h1
      induction ds generalizing vs with
      | nil => cases h2; exact .nil
      | cons d ds ih =>
        cases h2 with
        | cons r t =>
          have h3 := Bool.and_eq_true_iff.mp (show (D.dat 59 (told 2 h d) && D.datL 59 (ds.map (told 2 h))) = true from q2)
          exact .cons (dp_told hr 2 r h3.1) (ih _ t h3.2)
    | dct ds => cases q
    | exc c fs => cases q
    | _ => exact absurd rfl hp
def rEq2 (K : PySem.W.Frag) : R2 := fun x y H Q => rEq x y H Q ∨ rEqD K x y H Q
def rNe2 (K : PySem.W.Frag) : R2 := fun x y H Q => rNe x y H Q ∨ rNeD K x y H Q
theorem o_eq {X : Cx} (hK : X.K = v.K) (hu : X.A.units + 64 < cLine) : OpR X (compareOp .Eq) (rEq2 v.K) := by
  rw [← hK]
  exact opr_or op_eq (op_eqD hu)
theorem o_ne {X : Cx} (hK : X.K = v.K) (hu : X.A.units + 64 < cLine) : OpR X (compareOp .NotEq) (rNe2 v.K) := by
  rw [← hK]
  exact opr_or op_ne (op_neD hu)
theorem scal_ok {ι1 : List Addr} {H1 : Hp} {e : D} {y : V} (rx : rrE v ι H0 H d x) (ry : rrE v ι H1 H e y) (c : scalD d e = true) : scal x y = true ∧ decide (x = y) = D.eqv d e := by
  cases d <;> cases e <;> first | cases c | skip
  all_goals first
    | (rw [rv_non rx, rv_non ry]; exact ⟨rfl, rfl⟩)
    | (rw [rv_non rx, rv_bl ry]; exact ⟨rfl, rfl⟩)
    | (rw [rv_non rx, rv_int ry]; exact ⟨rfl, rfl⟩)
    | (rw [rv_non rx, rv_str ry]; exact ⟨rfl, rfl⟩)
    | (rw [rv_bl rx, rv_non ry]; exact ⟨rfl, rfl⟩)
    | (rw [rv_int rx, rv_non ry]; exact ⟨rfl, rfl⟩)
    | (rw [rv_str rx, rv_non ry]; exact ⟨rfl, rfl⟩)
    | (rw [rv_int rx, rv_int ry]; exact ⟨rfl, by simp [D.eqv]⟩)
    | (rw [rv_bl rx, rv_bl ry]; exact ⟨rfl, by simp [D.eqv, beq_dec]⟩)
    | (rw [rv_int rx, rv_str ry]; exact ⟨rfl, rfl⟩)
    | (rw [rv_str rx, rv_int ry]; exact ⟨rfl, rfl⟩)
    | (rw [rv_bl rx, rv_str ry]; exact ⟨rfl, rfl⟩)
    | (rw [rv_str rx, rv_bl ry]; exact ⟨rfl, rfl⟩)
    | (rw [rv_str rx, rv_str ry]
       refine ⟨rfl, ?_⟩
       show decide (V.str (tx _) = V.str (tx _)) = decide _
       apply decide_eq_decide.mpr
       exact ⟨fun z => tx_inj (V.str.inj z), fun z => by rw [z]⟩)
theorem eqD_ok {ι1 : List Addr} {H1 : Hp} {e : D} {y : V} {k : Bool} (hr : HR v ι H h) (rx : rrE v ι H0 H d x) (ry : rrE v ι H1 H e y) (c : eqD h d e = some k) :
    (scal x y = true ∧ decide (x = y) = k) ∨ ∃ p q, Dp v.K H x p ∧ Dp v.K H y q ∧ SeqAt.shaped p = true ∧ SeqAt.shaped q = true ∧ PyData.eqv p q = k := by
  unfold eqD at c
  split at c
  · rename_i z
    cases c
    exact .inl (scal_ok (ι1 := ι1) rx ry z)
  · split at c
    · rename_i z
      cases c
      obtain ⟨z1, z2⟩ := Bool.and_eq_true_iff.mp z
      exact .inr ⟨_, _, dp_any hr rx z1, dp_any hr ry z2, shaped_ok z1, shaped_ok z2, (eqv_py _ _ z1 z2).symm⟩
    · cases c
theorem v_eq : Op2 v g .eq (rEq2 v.K) := by
  intro ι H H0 H1 h d e x y Q E hr rx ry go
  have go : Go (rrE v) v ι H (match eqD h d e with | some k => blR k h | none => .no) Q E := go
  cases c : eqD h d e with
  | none => rw [c] at go; exact go.elim
  | some k =>
    rw [c] at go
    have q := go_bl go hr
    rcases eqD_ok (ι1 := ι) hr rx ry c with ⟨h1, h2⟩ | ⟨p, r, h1, h2, h3, h4, h5⟩
    · exact .inl ⟨h1, by rw [h2]; exact q⟩
    · exact .inr ⟨p, r, h1, h2, h3, h4, by rw [h5]; exact q⟩
theorem v_ne : Op2 v g .ne (rNe2 v.K) := by
  intro ι H H0 H1 h d e x y Q E hr rx ry go
  have go : Go (rrE v) v ι H (match eqD h d e with | some k => blR (!k) h | none => .no) Q E := go
  cases c : eqD h d e with
  | none => rw [c] at go; exact go.elim
  | some k =>
    rw [c] at go
    have q := go_bl go hr
    rcases eqD_ok (ι1 := ι) hr rx ry c with ⟨h1, h2⟩ | ⟨p, r, h1, h2, h3, h4, h5⟩
    · exact .inl ⟨h1, by rw [h2]; exact q⟩
    · exact .inr ⟨p, r, h1, h2, h3, h4, by rw [h5]; exact q⟩
end
end Ivy

/-! Ivy, part E: expressions of each form. -/
namespace Ivy
open PySem PySem.Spec PyProof.Rows L2

section
variable {X : Cx} {v : Ev} {g : G} {W : WX} {a b c : Expr} {e1 e2 e3 : Ex} {pos : Pos}

/-! ### is -/
theorem rr_isnon {ι : List Addr} {H0 H : Hp} {d : D} {x : V} (r : rrE v ι H0 H d x) : decide (x = .non) = D.isNon d := by
  cases d with
  | non => cases rv_non r; rfl
  | bl b => cases rv_bl r; rfl
  | int b => cases rv_int r; rfl
  | str b => cases rv_str r; rfl
  | tup b => obtain ⟨a, vs, rfl, _⟩ := rv_tup r; rfl
  | rol b => cases (show RP v ι H (.rol b) x from r.1); rfl
  | lst b => obtain ⟨a, vs, rfl, _⟩ := (show RV v ι H (.lst b) x from r.1); rfl
  | dct b => obtain ⟨a, vs, rfl, _⟩ := (show RV v ι H (.dct b) x from r.1); rfl
  | ref b => obtain ⟨a, rfl, _⟩ := rv_ref r; rfl
  | exc c b => cases (show RP v ι H (.exc c b) x from r.1) <;> rfl
theorem c_isN {j : Nat} {pos' : Pos} (ha : PE X a (tE v g W e1)) : PC X .Is a (.Constant .none j pos') (tE v g W (.op .isNone [e1])) :=
  PC.imp (pc_isN ha) fun σ H Q t => l_op1 (r := fun x H Q => Q (.bl (decide (x = .non))) H) (fun ι H H0 h d x Q E hr rx go => by
    show Q (.bl (decide (x = .non))) H
    rw [rr_isnon rx]; exact go_bl (show Go _ _ _ _ (blR _ _) _ _ from go) hr) t
theorem c_notN {j : Nat} {pos' : Pos} (ha : PE X a (tE v g W e1)) : PC X .IsNot a (.Constant .none j pos') (tE v g W (.op .notNone [e1])) :=
  PC.imp (pc_notN ha) fun σ H Q t => l_op1 (r := fun x H Q => Q (.bl (!decide (x = .non))) H) (fun ι H H0 h d x Q E hr rx go => by
    show Q (.bl (!decide (x = .non))) H
    rw [rr_isnon rx]; exact go_bl (show Go _ _ _ _ (blR _ _) _ _ from go) hr) t
theorem v_isB : Op2 v g .isB rIsB := by
  intro ι H H0 H1 h d e x y Q E hr rx ry go
  cases d <;> cases e <;> first | exact go.elim | skip
  rw [rv_bl rx, rv_bl ry]
  have q := go_bl (show Go _ _ _ _ (blR _ _) _ _ from go) hr
  rw [beq_dec] at q
  exact ⟨_, _, rfl, rfl, q⟩
theorem v_notB : Op2 v g .notB rNotB := by
  intro ι H H0 H1 h d e x y Q E hr rx ry go
  cases d <;> cases e <;> first | exact go.elim | skip
  rw [rv_bl rx, rv_bl ry]
  have q := go_bl (show Go _ _ _ _ (blR _ _) _ _ from go) hr
  rw [beq_dec] at q
  exact ⟨_, _, rfl, rfl, q⟩

/-! ### items -/
theorem ixP_eq (n : Nat) (i : Int) : ixP n i = ixN n i := rfl
theorem atP_get {α : Type} {xs : List α} {i : Int} {x : α} (h : atP xs i = some x) : ∃ j, ixN xs.length i = some j ∧ xs[j]? = some x := by
  unfold atP at h
  rw [ixP_eq] at h
  cases e : ixN xs.length i with
  | none => rw [e] at h; cases h
  | some j => rw [e] at h; exact ⟨j, rfl, h⟩
theorem at_rps {ι : List Addr} {H : Hp} {ds : List D} {vs : List V} {i : Int} {d : D} (r : RPs v ι H ds vs) (h : atP ds i = some d) : ∃ x, atI vs i = some x ∧ RP v ι H d x := by
  obtain ⟨j, h1, h2⟩ := atP_get h
  obtain ⟨x, h3, h4⟩ := r.get h2
  refine ⟨x, ?_, h4⟩
  unfold atI
  rw [← r.length, h1]
  exact h3
theorem rp_flat {ι : List Addr} {H : Hp} {d : D} {x : V} (r : RP v ι H d x) : D.pers d = true ∨ D.pers d = false := by cases D.pers d <;> simp
theorem go_item {ι : List Addr} {H : Hp} {h : Hh} {d : D} {x : V} {Q : VK} {E : XK} (go : Go (rrE v) v ι H (.ok d h) Q E) (hr : HR v ι H h) (r : RP v ι H d x) : Q x H := by
  refine go.here hr ?_
  cases d with
  | lst ds => cases r
  | dct ds => cases r
  | _ => exact ⟨r, trivial⟩
theorem val_k {ι : List Addr} {H : Hp} {kvs : List (Ky × D)} {kvs' : List (Key × V)} {k : Ky} (r : RK v ι H kvs kvs') :
    match kGet kvs k with
    | some d => ∃ x, valV kvs' (kyV k) = some x ∧ RP v ι H d x
    | none => valV kvs' (kyV k) = none := by
  obtain ⟨r1, r2⟩ := r
  induction kvs generalizing kvs' with
  | nil =>
    cases kvs' with
    | nil => rfl
    | cons p q => simp at r1
  | cons p kvs ih =>
    cases kvs' with
    | nil => simp at r1
    | cons p' kvs' =>
      obtain ⟨j, d⟩ := p
      obtain ⟨j', x⟩ := p'
      simp only [List.map_cons, List.cons.injEq] at r1
      obtain ⟨e, r1⟩ := r1
      subst e
      cases r2 with
      | cons ra rb =>
        unfold kGet
        by_cases z : j = k
        · rw [if_pos z]; subst z
          exact ⟨x, by simp [valV], ra⟩
        · rw [if_neg z]
          have z2 : ¬ kyV j = kyV k := fun q => z (kyV_inj q)
          have key : valV ((kyV j, x) :: kvs') (kyV k) = valV kvs' (kyV k) := by simp [valV, List.find?_cons, z2]
          rw [key]
          exact ih r1 rb
theorem ky_rr {ι : List Addr} {H0 H : Hp} {d : D} {k : Ky} {x : V} (e : kyD d = some k) (r : rrE v ι H0 H d x) : x = kV (kyV k) := by
  cases d <;> first | cases e | skip
  · exact rv_int r
  · exact rv_str r
def rIxD : R2 := fun x y H Q => ∃ a z, x = .ref a ∧ DGet H a y (some z) ∧ Q z H
theorem e_idx (hb : Cb X v W) (ha : PE X a (tE v g W e1)) (hi : PE X b (tE v g W e2)) (hs : PlainIx b := by exact fun _ _ => rfl) : PE X (.Subscript a b pos) (tE v g W (.op .idx [e1, e2])) := by
  refine PE.imp (PE.or (pe_ix (ix_seq) ha hi hs) (pe_dget (by have := hb.hu; omega) ha hi hs)) fun σ H Q ⟨ι, δ, h, hr, hs, go⟩ => ?_
  rw [evE_op2] at go
  by_cases isd : ∃ d1 h1 d2 h2 kvs, evE g e1 δ h = .ok d1 h1 ∧ evE g e2 δ h1 = .ok d2 h2 ∧ dcD h2 d1 = some kvs
  · obtain ⟨d1, h1, d2, h2, kvs, q1, q2, q3⟩ := isd
    refine .inr ⟨ι, δ, h, hr, hs, Go.bind (SS := rrE v) go fun d h1' ι1 H1 x r1 ex1 hr1 rx1 go1 => ?_⟩
    rw [q1] at r1; cases r1
    refine ⟨ι1, δ, _, hr1, hs.mono ex1, Go.bind (SS := rrE v) go1 fun e h2' ι2 H2 y r2 ex2 hr2 ry2 go2 => ?_⟩
    rw [q2] at r2; cases r2
    obtain ⟨p, kvs', rfl, h3, h4⟩ := dc_ok hr2 (rx1.mono ex2) q3
    have go2 : Go (rrE v) v ι2 H2 (opIdx _ d1 d2) Q _ := go2
    unfold opIdx at go2
    split at go2
    · cases q3
    · rw [q3] at go2
      simp only at go2
      split at go2
      · rename_i k ek
        have kk := val_k (k := k) h4
        split at go2
        · rename_i d ed
          rw [ed] at kk
          obtain ⟨x, h5, h6⟩ := kk
          rw [ky_rr ek ry2]
          exact ⟨p, x, rfl, .inl ⟨kvs', kyV k, .inl h3, rfl, h5.symm⟩, go_item go2 hr2 h6⟩
        · exact go2.elim
      · exact go2.elim
  · refine .inl ⟨ι, δ, h, hr, hs, Go.bind (SS := rrE v) go fun d h1 ι1 H1 x r1 ex1 hr1 rx1 go1 => ?_⟩
    refine ⟨ι1, δ, h1, hr1, hs.mono ex1, Go.bind (SS := rrE v) go1 fun e h2 ι2 H2 y r2 ex2 hr2 ry2 go2 => ?_⟩
    have rx2 := rx1.mono ex2
    have go2 : Go (rrE v) v ι2 H2 (opIdx h2 d e) Q _ := go2
    unfold opIdx at go2
    rw [hb.hK]
    split at go2
    · obtain ⟨cz, go2⟩ := go_when go2
      split at go2
      · rename_i c ec
        rw [rv_str rx2, rv_int ry2]
        obtain ⟨j, z1, z2⟩ := atP_get ec
        refine .inr (.inr ⟨_, _, c, rfl, rfl, ?_, ?_, go_str (i := [c]) go2 hr2⟩)
        · rw [tx_len, ← cells_eq]; exact of_decide_eq_true cz
        · rw [tx_list]
          unfold atI
          rw [z1]; exact z2
      · exact go2.elim
    · split at go2
      · rename_i kvs q
        exact absurd ⟨d, h1, e, h2, kvs, r1, r2, q⟩ isd
      · split at go2
        · split at go2
          · rename_i z ez
            obtain ⟨p, vs, rfl, h3, h4⟩ := sq_ok hr2 rx2 ‹sqD h2 d = some _›
            obtain ⟨x, h5, h6⟩ := at_rps h4 ez
            rw [rv_int ry2]
            rcases h3 with h3 | h3
            · exact .inl ⟨p, vs, _, x, rfl, rfl, h3, h5, go_item go2 hr2 h6⟩
            · exact .inr (.inl ⟨p, vs, _, x, rfl, rfl, h3, h5, go_item go2 hr2 h6⟩)
          · exact go2.elim
        · exact go2.elim

/-! ### in -/
theorem flat_rp {ι : List Addr} {H : Hp} {d : D} {x : V} (r : RP v ι H d x) (hf : flatD d = true) : flatV x = true := by
  cases r <;> first | rfl | cases hf
theorem eqv_flat {ι : List Addr} {H : Hp} {d e : D} {x y : V} (r : RP v ι H d x) (q : RP v ι H e y) (hd : flatD d = true) (he : flatD e = true) : eqV x y = D.eqv d e := by
  cases r <;> cases q <;> first | rfl | exact (beq_dec _ _) | exact tx_beq _ _ | cases hd | cases he
theorem any_flat {ι : List Addr} {H : Hp} {d : D} {x : V} (r : RP v ι H d x) (hd : flatD d = true) : ∀ {ds : List D} {xs : List V}, RPs v ι H ds xs → ds.all flatD = true →
    xs.all flatV = true ∧ inV x xs = ds.any fun y => D.eqv y d
  | _, _, .nil, _ => ⟨rfl, rfl⟩
  | _, _, .cons q t, h => by
    rw [List.all_cons, Bool.and_eq_true] at h
    obtain ⟨h1, h2⟩ := any_flat r hd t h.2
    refine ⟨by rw [List.all_cons, flat_rp q h.1, h1]; rfl, ?_⟩
    unfold inV at h2 ⊢
    rw [List.any_cons, List.any_cons, h2, eqv_flat q r h.1 hd]
theorem any_dat {d : D} {k : Nat} (hd : D.dat k d = true) : ∀ {j : Nat} {ds : List D}, D.datL j ds = true → ((pyL ds).any fun z => PyData.eqv z (pyD d)) = ds.any fun y => D.eqv y d
  | _, [], _ => rfl
  | j, e :: ds, h => by
    have h1 := Bool.and_eq_true_iff.mp (show (D.dat j e && D.datL j ds) = true by rw [← h]; cases j <;> rfl)
    show (PyData.eqv (pyD e) (pyD d) || (pyL ds).any _) = _
    rw [List.any_cons, any_dat hd h1.2, eqv_py e d h1.1 hd]
def rIn4 (K : PySem.W.Frag) (n : Bool) : R2 := fun x y H Q => (∃ (c : Nat) (z : Str), x = .str ⟨#[c]⟩ ∧ y = .str z ∧ Q (.bl (if n then !decide (c ∈ z.cps.toList) else decide (c ∈ z.cps.toList))) H) ∨ (rIn K n x y H Q ∨
  ∃ d ds, Dp K H x d ∧ Dp K H y (.list ds) ∧ SeqAt.shaped d = true ∧ SeqAt.shaped (.list ds) = true ∧ Q (.bl (if n then !(ds.any fun z => PyData.eqv z d) else ds.any fun z => PyData.eqv z d)) H)
theorem o_in (hb : Cb X v W) : OpR X (compareOp .In) (rIn4 v.K false) := by
  rw [← hb.hK]
  exact opr_or op_in_sign (opr_or op_in_seq (op_inD (by have := hb.hu; omega)))
theorem o_notIn (hb : Cb X v W) : OpR X (compareOp .NotIn) (rIn4 v.K true) := by
  rw [← hb.hK]
  exact opr_or op_notIn_sign (opr_or op_notIn_seq (op_notInD (by have := hb.hu; omega)))
theorem in_val {o : Op} {n : Bool} (he : ∀ (d e : D) (h : Hh), opApp g.sub o [d, e] h = opIn h n d e) {ι : List Addr} {H H0 H1 : Hp} {h : Hh} {d e : D} {x y : V} {Q : VK} {E : XK} (hr : HR v ι H h) (rx : rrE v ι H0 H d x) (ry : rrE v ι H1 H e y)
    (go : Go (rrE v) v ι H (opApp g.sub o [d, e] h) Q E) (nd : dcD h e = none) : rIn4 v.K n x y H Q := by
  rw [he] at go
  unfold opIn at go
  split at go
  · split at go
    · rename_i c
      rw [rv_str rx, rv_str ry]
      refine .inl ⟨c, _, rfl, rfl, ?_⟩
      rw [tx_list]
      exact go_bl go hr
    · exact go.elim
  · rw [nd] at go
    simp only at go
    split at go
    · rename_i ys q
      split at go
      · rename_i c
        rw [Bool.and_eq_true] at c
        obtain ⟨p, vs, rfl, h3, h4⟩ := sq_ok hr ry q
        have rx2 : RP v ι H d x := rx.1.rp (by cases d <;> first | rfl | cases c.1)
        obtain ⟨h5, h6⟩ := any_flat rx2 c.1 h4 c.2
        refine .inr (.inl ⟨p, vs, rfl, h3, flat_rp rx2 c.1, h5, ?_⟩)
        rw [h6]
        exact go_bl go hr
      · split at go
        · rename_i ys2 q2
          split at go
          · rename_i c
            rw [Bool.and_eq_true, Bool.and_eq_true] at c
            obtain ⟨cp, c⟩ := c
            obtain ⟨p, vs, rfl, h3, h4⟩ := ls_ok hr ry q2
            have rx2 : RP v ι H d x := rx.1.rp cp
            refine .inr (.inr ⟨pyD d, pyL ys2, dp_rp rx2 c.1, .lst h3 (dp_rps h4 c.2), shaped_ok c.1, ?_, ?_⟩)
            · have := shaped_ok (d := .lst ys2) (show D.dat 60 (.lst ys2) = true from c.2)
              exact this
            · rw [any_dat c.1 c.2]
              exact go_bl go hr
          · exact go.elim
        · exact go.elim
    · exact go.elim
theorem c_inG {op : CmpOp} {o : Op} {n : Bool} (hb : Cb X v W) (he : ∀ (d e : D) (h : Hh), opApp g.sub o [d, e] h = opIn h n d e) (h1 : PC X op a b (tOp (rIn4 v.K n) (tE v g W e1) (tE v g W e2)))
    (h2 : PC X op a b (fun σ H Q => tE v g W e1 σ H fun y H1 => tE v g W e2 σ H1 fun x H2 => ∃ a o, x = .ref a ∧ DGet H2 a y o ∧ Q (.bl (if n then !o.isSome else o.isSome)) H2)) :
    PC X op a b (tE v g W (.op o [e1, e2])) := by
  refine PC.imp (PC.or h1 h2) fun σ H Q ⟨ι, δ, h, hr, hs, go⟩ => ?_
  rw [evE_op2] at go
  by_cases isd : ∃ d1 h1 d2 h2 kvs, evE g e1 δ h = .ok d1 h1 ∧ evE g e2 δ h1 = .ok d2 h2 ∧ dcD h2 d2 = some kvs
  · obtain ⟨d1, h1, d2, h2, kvs, q1, q2, q3⟩ := isd
    refine .inr ⟨ι, δ, h, hr, hs, Go.bind (SS := rrE v) go fun d h1' ι1 H1 x r1 ex1 hr1 rx1 go1 => ?_⟩
    rw [q1] at r1; cases r1
    refine ⟨ι1, δ, _, hr1, hs.mono ex1, Go.bind (SS := rrE v) go1 fun e h2' ι2 H2 y r2 ex2 hr2 ry2 go2 => ?_⟩
    rw [q2] at r2; cases r2
    obtain ⟨p, kvs', rfl, h3, h4⟩ := dc_ok hr2 ry2 q3
    rw [he] at go2
    unfold opIn at go2
    split at go2
    · cases q3
    · rw [q3] at go2
      simp only at go2
      split at go2
      · rename_i k ek
        have kk := val_k (k := k) h4
        have rx2 := rx1.mono ex2
        rw [ky_rr ek rx2]
        refine ⟨p, (valV kvs' (kyV k)), rfl, .inl ⟨kvs', kyV k, .inl h3, rfl, rfl⟩, ?_⟩
        have e : (valV kvs' (kyV k)).isSome = (kGet kvs k).isSome := by
          cases z : kGet kvs k with
          | none => rw [z] at kk; rw [kk]; rfl
          | some d => rw [z] at kk; obtain ⟨x, h5, _⟩ := kk; rw [h5]; rfl
        rw [e]
        exact go_bl go2 hr2
      · exact go2.elim
  · refine .inl ⟨ι, δ, h, hr, hs, Go.bind (SS := rrE v) go fun d h1 ι1 H1 x r1 ex1 hr1 rx1 go1 => ?_⟩
    refine ⟨ι1, δ, h1, hr1, hs.mono ex1, Go.bind (SS := rrE v) go1 fun e h2 ι2 H2 y r2 ex2 hr2 ry2 go2 => ?_⟩
    refine in_val he hr2 (rx1.mono ex2) ry2 go2 ?_
    cases q : dcD h2 e with
    | none => rfl
    | some kvs => exact absurd ⟨d, h1, e, h2, kvs, r1, r2, q⟩ isd
theorem c_in (hb : Cb X v W) (ha : PE X a (tE v g W e1)) (hi : PE X b (tE v g W e2)) : PC X .In a b (tE v g W (.op .isIn [e1, e2])) :=
  c_inG hb (fun _ _ _ => rfl) (pc_opr (o_in hb) ha hi) (PC.imp (pc_din (by have := hb.hu; omega) ha hi) fun σ H Q t => t)
theorem c_notIn (hb : Cb X v W) (ha : PE X a (tE v g W e1)) (hi : PE X b (tE v g W e2)) : PC X .NotIn a b (tE v g W (.op .notIn [e1, e2])) :=
  c_inG hb (fun _ _ _ => rfl) (pc_opr (o_notIn hb) ha hi) (PC.imp (pc_dnotin (by have := hb.hu; omega) ha hi) fun σ H Q t => t)

/-! ### slices -/
theorem clip_eq (n d : Nat) (o : Option Int) : clip n d o = HT.sIx n d o := by cases o <;> rfl
theorem RPs.cut {ι : List Addr} {H : Hp} {ds : List D} {vs : List V} (r : RPs v ι H ds vs) (lo hi : Option Int) : RPs v ι H (cut ds lo hi) (cutV vs lo hi) := by
  unfold Ivy.cut cutV
  rw [clip_eq, clip_eq, r.length]
  exact (r.drop _).take _
def rSl3 (K : PySem.W.Frag) : V → Option Int → Option Int → Hp → VK → Prop := fun x lo hi H Q => rSlS x lo hi H Q ∨ (rSlA K x lo hi H Q ∨ rSlL K x lo hi H Q)
theorem slr_or {r r' : V → Option Int → Option Int → Hp → VK → Prop} (h : SlR X r) (h' : SlR X r') : SlR X (fun x l u H Q => r x l u H Q ∨ r' x l u H Q) :=
  fun pins s σ H x v vl vu lo hi sl Q I rx is pl pu q => q.elim (h pins s σ H x v vl vu lo hi sl Q I rx is pl pu) (h' pins s σ H x v vl vu lo hi sl Q I rx is pl pu)
theorem o_sl (hb : Cb X v W) : SlR X (rSl3 v.K) := by
  rw [← hb.hK]
  exact slr_or sl_str (slr_or sl_tupA sl_list)
theorem v_sl {ι : List Addr} {H H0 : Hp} {h : Hh} {d : D} {x : V} {lo hi : Option Int} {Q : VK} {E : XK} (hr : HR v ι H h) (rx : rrE v ι H0 H d x) (go : Go (rrE v) v ι H (opSlice h d lo hi) Q E) : rSl3 v.K x lo hi H Q := by
  unfold opSlice at go
  split at go
  · obtain ⟨c, go⟩ := go_when go
    rw [rv_str rx]
    refine .inl ⟨_, rfl, ?_, ?_⟩
    · rw [tx_len, ← cells_eq]; exact of_decide_eq_true c
    · have e : ∀ z : Tx, cutS (tx z) lo hi = tx (Ivy.cut z lo hi) := fun z => by
        unfold cutS Ivy.cut
        rw [tx_list, tx_len, clip_eq, clip_eq]; rfl
      rw [e]
      exact go_str go hr
  · obtain ⟨a, vs, rfl, h1, h2⟩ := rv_tup rx
    refine .inr (.inl ⟨a, vs, rfl, h1, fun z => ?_, fun _ p hp => go_tup go hr (h2.cut lo hi) hp⟩)
    rename_i ds
    have e : Ivy.cut ds lo hi = ds := by
      unfold Ivy.cut
      rw [clip_eq, clip_eq, h2.length, z.1, z.2, List.drop_zero, Nat.sub_zero, ← h2.length, List.take_length]
    rw [e] at go
    exact go_tupS go hr h2 h1
  · split at go
    · obtain ⟨a, vs, rfl, h1, h2⟩ := ls_ok hr rx ‹lsD h d = some _›
      exact .inr (.inr ⟨a, vs, rfl, h1, fun p hp => go_fresh go hr (h2.cut lo hi) hp⟩)
    · exact go.elim
theorem e_sl00 {p2 : Pos} (hb : Cb X v W) (ha : PE X a (tE v g W e1)) : PE X (.Subscript a (.Slice none none none p2) pos) (tE v g W (.op (.slice false false) [e1])) :=
  PE.imp (pe_slice (o_sl hb) ha po_none po_none) fun σ H Q ⟨ι, δ, h, hr, hs, go⟩ => by
    rw [evE_op1] at go
    exact ⟨ι, δ, h, hr, hs, Go.bind (SS := rrE v) go fun d h1 ι1 H1 x r1 ex1 hr1 rx1 go1 => v_sl hr1 rx1 go1⟩
theorem e_sl10 {p2 : Pos} (hb : Cb X v W) (ha : PE X a (tE v g W e1)) (hi : PE X b (tE v g W e2)) : PE X (.Subscript a (.Slice (some b) none none p2) pos) (tE v g W (.op (.slice true false) [e1, e2])) :=
  PE.imp (pe_slice (o_sl hb) ha (po_some hi) po_none) fun σ H Q ⟨ι, δ, h, hr, hs, go⟩ => by
    rw [evE_op2] at go
    refine ⟨ι, δ, h, hr, hs, Go.bind (SS := rrE v) go fun d h1 ι1 H1 x r1 ex1 hr1 rx1 go1 => ?_⟩
    refine ⟨ι1, δ, h1, hr1, hs.mono ex1, Go.bind (SS := rrE v) go1 fun e h2 ι2 H2 y r2 ex2 hr2 ry2 go2 => ?_⟩
    cases e <;> first | exact go2.elim | skip
    exact ⟨_, rv_int ry2, v_sl hr2 (rx1.mono ex2) (show Go _ _ _ _ (opSlice h2 d (some _) none) _ _ from go2)⟩
theorem e_sl01 {p2 : Pos} (hb : Cb X v W) (ha : PE X a (tE v g W e1)) (hi : PE X b (tE v g W e2)) : PE X (.Subscript a (.Slice none (some b) none p2) pos) (tE v g W (.op (.slice false true) [e1, e2])) :=
  PE.imp (pe_slice (o_sl hb) ha po_none (po_some hi)) fun σ H Q ⟨ι, δ, h, hr, hs, go⟩ => by
    rw [evE_op2] at go
    refine ⟨ι, δ, h, hr, hs, Go.bind (SS := rrE v) go fun d h1 ι1 H1 x r1 ex1 hr1 rx1 go1 => ?_⟩
    refine ⟨ι1, δ, h1, hr1, hs.mono ex1, Go.bind (SS := rrE v) go1 fun e h2 ι2 H2 y r2 ex2 hr2 ry2 go2 => ?_⟩
    cases e <;> first | exact go2.elim | skip
    exact ⟨_, rv_int ry2, v_sl hr2 (rx1.mono ex2) (show Go _ _ _ _ (opSlice h2 d none (some _)) _ _ from go2)⟩
theorem ck_int (d : D) (h : Hh) : ckR 0 d h = (match d with
    | .int i => .ok (.int i) h
    | _ => .no) := by
  cases d <;> first | rfl | skip
  rename_i n
  show (match h[n]? with
    | some (.lst _) => whenR (0 == 1) (.ok (D.ref n) h)
    | some (.dct _) => whenR (0 == 2) (.ok (D.ref n) h)
    | _ => .no : R D) = _
  cases q : h[n]? with
  | none => rfl
  | some c => cases c <;> rfl
theorem e_sl11 {p2 : Pos} (hb : Cb X v W) (ha : PE X a (tE v g W e1)) (hi : PE X b (tE v g W e2)) (hj : PE X c (tE v g W e3)) : PE X (.Subscript a (.Slice (some b) (some c) none p2) pos) (tE v g W (.op (.slice true true) [e1, .ck 0 e2, e3])) :=
  PE.imp (pe_slice (o_sl hb) ha (po_some hi) (po_some hj)) fun σ H Q ⟨ι, δ, h, hr, hs, go⟩ => by
    rw [evE_op3] at go
    refine ⟨ι, δ, h, hr, hs, Go.bind (SS := rrE v) go fun d h1 ι1 H1 x r1 ex1 hr1 rx1 go1 => ?_⟩
    have e : evE g (.ck 0 e2) δ h1 = (evE g e2 δ h1).bind fun d h => ckR 0 d h := by simp only [evE]
    rw [e, R.assoc] at go1
    refine ⟨ι1, δ, h1, hr1, hs.mono ex1, Go.bind (SS := rrE v) go1 fun e h2 ι2 H2 y r2 ex2 hr2 ry2 go2 => ?_⟩
    rw [ck_int] at go2
    cases e <;> first | exact go2.elim | skip
    refine ⟨_, rv_int ry2, ι2, δ, h2, hr2, (hs.mono ex1).mono ex2, Go.bind (SS := rrE v) go2 fun w h3 ι3 H3 z r3 ex3 hr3 rz3 go3 => ?_⟩
    cases w <;> first | exact go3.elim | skip
    exact ⟨_, rv_int rz3, v_sl hr3 ((rx1.mono ex2).mono ex3) (show Go _ _ _ _ (opSlice h3 d (some _) (some _)) _ _ from go3)⟩
end
end Ivy

/-! Ivy, part F: displays, tests, calls of built-ins. -/
namespace Ivy
open PySem PySem.Spec PyProof.Rows L2

section
variable {X : Cx} {v : Ev} {g : G} {W : WX} {a b c : Expr} {e1 e2 e3 : Ex} {es rest : List Expr} {fs : List Ex} {pos : Pos} {t1 t2 : Te}

/-! ### lists of expressions -/
theorem rrL.mono {ι ι' : List Addr} {H0 H H' : Hp} (e : Ext ι H ι' H') : ∀ {ds : List D} {xs : List V}, rrL v ι H0 H ds xs → rrL v ι' H0 H' ds xs
  | _, _, .nil => .nil
  | _, _, .cons a t => .cons (a.mono e) (t.mono e)
theorem rrL.rps {ι : List Addr} {H0 H : Hp} : ∀ {ds : List D} {xs : List V}, rrL v ι H0 H ds xs → persL ds = true → RPs v ι H ds xs
  | _, _, .nil, _ => .nil
  | _, _, .cons a t, h => by
    unfold persL at h
    rw [List.all_cons, Bool.and_eq_true] at h
    exact .cons (a.1.rp h.1) (t.rps h.2)
theorem a_nil : PA X [] (tL v g W []) := PA.imp pa_nil fun σ H Q ⟨ι, δ, h, hr, hs, go⟩ => go.here hr .nil
theorem l_cons {σ : L2.St} {H : Hp} {Q : List V → Hp → Prop} (t : tL v g W (e1 :: fs) σ H Q) : tCons (tE v g W e1) (tL v g W fs) σ H Q := by
  obtain ⟨ι, δ, h, hr, hs, go⟩ := t
  have e : evEs g (e1 :: fs) δ h = (evE g e1 δ h).bind fun x h => (evEs g fs δ h).bind fun xs h => .ok (x :: xs) h := by simp only [evEs]
  rw [e] at go
  refine ⟨ι, δ, h, hr, hs, Go.bind (SS := rrE v) go fun d h1 ι1 H1 x r1 ex1 hr1 rx1 go1 => ?_⟩
  refine ⟨ι1, δ, h1, hr1, hs.mono ex1, Go.bind (SS := rrL v) go1 fun ds h2 ι2 H2 xs r2 ex2 hr2 rx2 _ => ?_⟩
  rw [r1, R.okb, r2, R.okb] at go
  exact go ι2 H2 _ (ex1.trans ex2) hr2 (.cons ⟨rx1.1.mono ex2, rx1.2⟩ (rx2.back fun p hp => ex1.back hr1 hp))
theorem a_cons (ha : PE X a (tE v g W e1)) (hr : PA X es (tL v g W fs)) (hs : starEach (a :: es) X.env = (false, eval a X.env) :: starEach es X.env := by rfl) : PA X (a :: es) (tL v g W (e1 :: fs)) :=
  PA.imp (pa_cons ha hr hs) fun σ H Q t => l_cons t

/-! ### displays -/
theorem evE_op {o : Op} {δ : Sl} {h : Hh} : evE g (.op o fs) δ h = (evEs g fs δ h).bind fun ds h => opApp g.sub o ds h := by simp only [evE]
/-- an operation over arguments: what a rule for it asks -/
def OpN (v : Ev) (g : G) (o : Op) (r : List V → Hp → VK → Prop) : Prop := ∀ (ι : List Addr) (H H0 : Hp) (h : Hh) (ds : List D) (xs : List V) (Q : VK) (E : XK), HR v ι H h → rrL v ι H0 H ds xs → Go (rrE v) v ι H (opApp g.sub o ds h) Q E → r xs H Q
theorem l_opN {o : Op} {r : List V → Hp → VK → Prop} (val : OpN v g o r) {σ : L2.St} {H : Hp} {Q : VK} (t : tE v g W (.op o fs) σ H Q) : tL v g W fs σ H fun xs H1 => r xs H1 Q := by
  obtain ⟨ι, δ, h, hr, hs, go⟩ := t
  rw [evE_op] at go
  exact ⟨ι, δ, h, hr, hs, Go.bind (SS := rrL v) go fun ds h1 ι1 H1 xs r1 ex1 hr1 rx1 go1 => val ι1 H1 H h1 ds xs Q _ hr1 rx1 go1⟩
theorem v_tup : OpN v g .tup (fun xs H Q => xs.length ≤ sizeLine ∧ ∀ p, H p = none → Q (.ref p) (upd H p (.tup xs))) := by
  intro ι H H0 h ds xs Q E hr rx go
  have go : Go (rrE v) v ι H (whenR (persL ds && decide (ds.length ≤ cells)) (.ok (.tup ds) h)) Q E := go
  obtain ⟨c, go⟩ := go_when go
  rw [Bool.and_eq_true] at c
  have r := rx.rps c.1
  refine ⟨?_, fun p hp => go_tup go hr r hp⟩
  rw [← r.length, ← cells_eq]; exact of_decide_eq_true c.2
theorem v_lst : OpN v g .lst (fun xs H Q => xs.length ≤ sizeLine ∧ ∀ p, H p = none → Q (.ref p) (upd H p (.lst xs))) := by
  intro ι H H0 h ds xs Q E hr rx go
  have go : Go (rrE v) v ι H (whenR (persL ds && decide (ds.length ≤ cells)) (.ok (.lst ds) h)) Q E := go
  obtain ⟨c, go⟩ := go_when go
  rw [Bool.and_eq_true] at c
  have r := rx.rps c.1
  refine ⟨?_, fun p hp => go_fresh go hr r hp⟩
  rw [← r.length, ← cells_eq]; exact of_decide_eq_true c.2
theorem e_tup {j : Nat} (h : PA X es (tL v g W fs)) : PE X (.Tuple es j pos) (tE v g W (.op .tup fs)) := PE.imp (pe_tup h) fun σ H Q t => l_opN v_tup t
theorem e_lst (h : PA X es (tL v g W fs)) : PE X (.List es pos) (tE v g W (.op .lst fs)) := PE.imp (pe_lst h) fun σ H Q t => l_opN v_lst t

/-! ### a fresh list or dict gets its cell; a checked int -/
theorem l_box {σ : L2.St} {H : Hp} {Q : VK} (t : tE v g W (.box e1) σ H Q) : tE v g W e1 σ H Q := by
  obtain ⟨ι, δ, h, hr, hs, go⟩ := t
  have e : evE g (.box e1) δ h = (evE g e1 δ h).bind fun d h => boxR d h := by simp only [evE]
  rw [e] at go
  refine ⟨ι, δ, h, hr, hs, ?_⟩
  cases q : evE g e1 δ h with
  | no => rw [q] at go; exact go
  | err c fs h' => rw [q] at go; exact go
  | ok d h' =>
    rw [q] at go
    intro ι' H' x ex hr' rx
    have go : Go (rrE v) v ι H (boxR d h') Q _ := go
    cases d with
    | lst xs =>
      obtain ⟨p, vs, rfl, h2, h3, h4⟩ := (show RV v ι' H' (.lst xs) x from rx.1)
      refine go (ι' ++ [p]) H' _ (ext_box ex h2 (rx.2 p rfl)) (hr'.box h2 ⟨vs, h3, h4⟩) ⟨.ref ?_, trivial⟩
      rw [← hr'.len]; simp
    | dct xs =>
      obtain ⟨p, vs, rfl, h2, h3, h4⟩ := (show RV v ι' H' (.dct xs) x from rx.1)
      refine go (ι' ++ [p]) H' _ (ext_box ex h2 (rx.2 p rfl)) (hr'.box h2 ⟨vs, h3, h4⟩) ⟨.ref ?_, trivial⟩
      rw [← hr'.len]; simp
    | _ => exact go ι' H' x ex hr' rx
theorem e_box (h : PE X a (tE v g W e1)) : PE X a (tE v g W (.box e1)) := PE.imp h fun σ H Q t => l_box t

/-! ### and, or, not, if, chains: as values -/
theorem evE_and {δ : Sl} {h : Hh} : evE g (.and e1 e2) δ h = (evE g e1 δ h).bind fun x h => match x with
    | .bl k => if k = true then evE g e2 δ h else .ok (.bl false) h
    | _ => .no := by simp only [evE] <;> rfl
theorem evE_or {δ : Sl} {h : Hh} : evE g (.or e1 e2) δ h = (evE g e1 δ h).bind fun x h => match x with
    | .bl k => if k = true then .ok (.bl true) h else evE g e2 δ h
    | _ => .no := by simp only [evE] <;> rfl
theorem e_and (ha : PE X a (tE v g W e1)) (hb : PE X (.BoolOp .And (b :: rest) pos) (tE v g W e2)) : PE X (.BoolOp .And (a :: b :: rest) pos) (tE v g W (.and e1 e2)) :=
  PE.imp (pe_and ha hb) fun σ H Q ⟨ι, δ, h, hr, hs, go⟩ => by
    rw [evE_and] at go
    refine ⟨ι, δ, h, hr, hs, Go.bind (SS := rrE v) go fun d h1 ι1 H1 x r1 ex1 hr1 rx1 go1 => ?_⟩
    cases d <;> first | exact go1.elim | skip
    rename_i k
    refine ⟨k, rv_bl rx1, ?_⟩
    cases k with
    | true => exact ⟨ι1, δ, h1, hr1, hs.mono ex1, go1⟩
    | false => exact go_bl (show Go _ _ _ _ (blR false h1) _ _ from go1) hr1
theorem e_or (ha : PE X a (tE v g W e1)) (hb : PE X (.BoolOp .Or (b :: rest) pos) (tE v g W e2)) : PE X (.BoolOp .Or (a :: b :: rest) pos) (tE v g W (.or e1 e2)) :=
  PE.imp (pe_or ha hb) fun σ H Q ⟨ι, δ, h, hr, hs, go⟩ => by
    rw [evE_or] at go
    refine ⟨ι, δ, h, hr, hs, Go.bind (SS := rrE v) go fun d h1 ι1 H1 x r1 ex1 hr1 rx1 go1 => ?_⟩
    cases d <;> first | exact go1.elim | skip
    rename_i k
    refine ⟨k, rv_bl rx1, ?_⟩
    cases k with
    | true => exact go_bl (show Go _ _ _ _ (blR true h1) _ _ from go1) hr1
    | false => exact ⟨ι1, δ, h1, hr1, hs.mono ex1, go1⟩
theorem e_one {op : PySem.BoolOp} (h : PE X a (tE v g W e1)) : PE X (.BoolOp op [a] pos) (tE v g W e1) := pe_one h
theorem tru_ok2 {ι : List Addr} {H H0 : Hp} {h : Hh} {d : D} {x : V} {Q : Bool → Hp → Prop} {E : XK} (hb : Cb X v W) (hr : HR v ι H h) (rx : rrE v ι H0 H d x) (go : Go rrB v ι H (truD h d) Q E) : ∃ k, TruV X.K x H k ∧ Q k H := by
  rw [hb.hK]
  have seq : ∀ {d : D}, rrE v ι H0 H d x → (∀ ds, sqD h d = some ds → Go rrB v ι H (.ok (!ds.isEmpty) h) Q E) → (sqD h d = none → ∀ ds, dcD h d = some ds → Go rrB v ι H (.ok (!ds.isEmpty) h) Q E) → (sqD h d = none → dcD h d = none → False) → ∃ k, TruV v.K x H k ∧ Q k H := by
    intro d rx h1 h2 h3
    cases q : sqD h d with
    | some ds =>
      obtain ⟨p, vs, rfl, s, r⟩ := sq_ok hr rx q
      have e : (!ds.isEmpty) = !vs.isEmpty := by cases r <;> rfl
      refine ⟨!vs.isEmpty, ?_, (by rw [← e]; exact (h1 ds q).here hr rfl)⟩
      rcases s with s | s
      · exact .inl ⟨vs, s, rfl⟩
      · exact .inr (.inl ⟨vs, s, rfl⟩)
    | none =>
      cases q2 : dcD h d with
      | some ds =>
        obtain ⟨p, vs, rfl, s, r⟩ := dc_ok hr rx q2
        have e : (!ds.isEmpty) = !vs.isEmpty := by
          have := r.1
          cases ds <;> cases vs <;> first | rfl | simp at this
        exact ⟨!vs.isEmpty, .inr (.inr ⟨vs, s, rfl⟩), (by rw [← e]; exact (h2 q ds q2).here hr rfl)⟩
      | none => exact (h3 q q2).elim
  cases d with
  | non => rw [rv_non rx]; exact ⟨false, rfl, go.here hr rfl⟩
  | bl k => rw [rv_bl rx]; exact ⟨k, rfl, go.here hr rfl⟩
  | int i => rw [rv_int rx]; exact ⟨_, rfl, go.here hr rfl⟩
  | str x =>
    obtain ⟨c, go⟩ := go_when (show Go rrB v ι H (whenR _ (.ok (!x.isEmpty) h)) Q E from go)
    rw [rv_str rx]
    refine ⟨!x.isEmpty, ⟨?_, ?_⟩, go.here hr rfl⟩
    · rw [tx_len, ← cells_eq]; exact of_decide_eq_true c
    · rw [tx_len]; cases x <;> simp <;> omega
  | exc c fs => exact go.elim
  | _ =>
    refine seq rx (fun ds q => ?_) (fun q1 ds q => ?_) fun q1 q2 => ?_
    · unfold truD at go; simp only [q] at go; exact go
    · unfold truD at go; simp only [q1, q] at go; exact go
    · unfold truD at go; simp only [q1, q2] at go; exact go
theorem e_notE (hb : Cb X v W) (h : PE X a (tE v g W e1)) : PE X (.UnaryOp .Not a pos) (tE v g W (.not (.ex e1))) :=
  PE.imp (pe_notT h) fun σ H Q ⟨ι, δ, h, hr, hs, go⟩ => by
    have e : evE g (.not (.ex e1)) δ h = (evE g e1 δ h).bind fun x h => (truD h x).bind fun k h => .ok (.bl (!k)) h := by simp only [evE, evT, R.assoc]
    rw [e] at go
    refine ⟨ι, δ, h, hr, hs, Go.bind (SS := rrE v) go fun d h1 ι1 H1 x r1 ex1 hr1 rx1 go1 => ?_⟩
    exact tru_ok2 (E := fun c d H' => W c d σ H') hb hr1 rx1 (Go.bind (SS := rrB) go1 fun k h2 ι2 H2 z r2 ex2 hr2 rz go2 => by
      cases (show z = k from rz)
      exact go_bl (show Go _ _ _ _ (blR (!k) h2) _ _ from go2) hr2)
theorem e_ifx {c : Expr} (hc : PT X c (tT v g W t1)) (ha : PE X a (tE v g W e1)) (hb : PE X b (tE v g W e2)) : PE X (.IfExp c a b pos) (tE v g W (.ifx t1 e1 e2)) :=
  PE.imp (pe_ifExp hc ha hb) fun σ H Q ⟨ι, δ, h, hr, hs, go⟩ => by
    have e : evE g (.ifx t1 e1 e2) δ h = (evT g t1 δ h).bind fun k h => if k = true then evE g e1 δ h else evE g e2 δ h := by simp only [evE]
    rw [e] at go
    refine ⟨ι, δ, h, hr, hs, Go.bind (SS := rrB) go fun d h1 ι1 H1 x r1 ex1 hr1 rx1 go1 => ?_⟩
    cases (show x = d from rx1)
    cases d with
    | true => exact ⟨ι1, δ, h1, hr1, hs.mono ex1, go1⟩
    | false => exact ⟨ι1, δ, h1, hr1, hs.mono ex1, go1⟩
theorem l_chain {o o' : Op} {r r' : R2} (val : Op2 v g o r) (val' : Op2 v g o' r') {σ : L2.St} {H : Hp} {Q : VK} (t : tE v g W (.chain o o' e1 e2 e3) σ H Q) : tChain r r' (tE v g W e1) (tE v g W e2) (tE v g W e3) σ H Q := by
  obtain ⟨ι, δ, h, hr, hs, go⟩ := t
  have e : evE g (.chain o o' e1 e2 e3) δ h = (evE g e1 δ h).bind fun x h => (evE g e2 δ h).bind fun y h => (opApp g.sub o [x, y] h).bind fun z h => match z with
    | .bl k => if k = true then (evE g e3 δ h).bind fun w h => opApp g.sub o' [y, w] h else .ok (.bl false) h
    | _ => .no := by simp only [evE] <;> rfl
  rw [e] at go
  refine ⟨ι, δ, h, hr, hs, Go.bind (SS := rrE v) go fun d h1 ι1 H1 x r1 ex1 hr1 rx1 go1 => ?_⟩
  refine ⟨ι1, δ, h1, hr1, hs.mono ex1, Go.bind (SS := rrE v) go1 fun e h2 ι2 H2 y r2 ex2 hr2 ry2 go2 => ?_⟩
  refine val ι2 H2 H H1 h2 d e x y _ _ hr2 (rx1.mono ex2) ry2 (Go.bind (SS := rrE v) go2 fun z h3 ι3 H3 u r3 ex3 hr3 rz3 go3 => ?_)
  cases z <;> first | exact go3.elim | skip
  rename_i k
  refine ⟨k, rv_bl rz3, ?_⟩
  cases k with
  | true =>
    simp only [↓reduceIte] at go3 ⊢
    refine ⟨ι3, δ, h3, hr3, ((hs.mono ex1).mono ex2).mono ex3, Go.bind (SS := rrE v) go3 fun w h4 ι4 H4 q r4 ex4 hr4 rw4 go4 => ?_⟩
    exact val' ι4 H4 H1 H3 h4 e w y q Q _ hr4 ((ry2.mono ex3).mono ex4) rw4 go4
  | false => exact go_bl (show Go _ _ _ _ (blR false h3) _ _ from go3) hr3
theorem e_chain {op op' : CmpOp} {o o' : Op} {r r' : R2} (ho : OpR X (compareOp op) r) (ho' : OpR X (compareOp op') r') (val : Op2 v g o r) (val' : Op2 v g o' r') (ha : PE X a (tE v g W e1)) (hb : PE X b (tE v g W e2)) (hc : PE X c (tE v g W e3))
    (hm : lastMarks [op, op'] [b, c] = false := by with_unfolding_all rfl) : PE X (.Compare a [op, op'] [b, c] pos) (tE v g W (.chain o o' e1 e2 e3)) := PE.imp (pe_chain ho ho' ha hb hc hm) fun σ H Q t => l_chain val val' t

/-! ### tests -/
theorem t_ex (hb : Cb X v W) (ha : PE X a (tE v g W e1)) (he : ∀ whole, isTrue a X.env whole = (do let v ← whole; standAt a.pos; holding [v] (truthy v)) := by intro _; rfl) : PT X a (tT v g W (.ex e1)) :=
  PT.imp (pt_truth ha he) fun σ H Q ⟨ι, δ, h, hr, hs, go⟩ => by
    have e : evT g (.ex e1) δ h = (evE g e1 δ h).bind fun x h => truD h x := by simp only [evT]
    rw [e] at go
    exact ⟨ι, δ, h, hr, hs, Go.bind (SS := rrE v) go fun d h1 ι1 H1 x r1 ex1 hr1 rx1 go1 => tru_ok2 hb hr1 rx1 go1⟩
/-- an operation that answers with a bool -/
def OpB (g : G) (o : Op) : Prop := ∀ ds h d h', opApp g.sub o ds h = .ok d h' → ∃ k, d = .bl k
theorem t_c {op : CmpOp} {o : Op} (ob : OpB g o) (h : PC X op a b (tE v g W (.op o fs))) (h1 : behindInMarks op b = false := by first | exact nobehind _ (by decide) (by decide) | rfl) : PT X (.Compare a [op] [b] pos) (tT v g W (.ex (.op o fs))) :=
  PT.imp (pt_cmp h h1) fun σ H Q ⟨ι, δ, h, hr, hs, go⟩ => by
    have e : evT g (.ex (.op o fs)) δ h = (evE g (.op o fs) δ h).bind fun x h => truD h x := by simp only [evT]
    rw [e] at go
    refine ⟨ι, δ, h, hr, hs, Go.bind (SS := rrE v) go fun d h1 ι1 H1 x r1 ex1 hr1 rx1 go1 => ?_⟩
    have ek : ∃ k, d = .bl k := by
      rw [evE_op] at r1
      cases q : evEs g fs δ h with
      | ok ds h2 => rw [q] at r1; exact ob ds h2 d h1 r1
      | err _ _ _ => rw [q] at r1; cases r1
      | no => rw [q] at r1; cases r1
    obtain ⟨k, rfl⟩ := ek
    exact ⟨k, rv_bl rx1, Go.here (RR := rrB) (show Go rrB v ι1 H1 (.ok k h1) Q _ from go1) hr1 rfl⟩
theorem t_chain {op op' : CmpOp} {o o' : Op} {r r' : R2} (ob : OpB g o') (ho : OpR X (compareOp op) r) (ho' : OpR X (compareOp op') r') (val : Op2 v g o r) (val' : Op2 v g o' r') (ha : PE X a (tE v g W e1)) (hb : PE X b (tE v g W e2)) (hc : PE X c (tE v g W e3))
    (hm : lastMarks [op, op'] [b, c] = false := by with_unfolding_all rfl) : PT X (.Compare a [op, op'] [b, c] pos) (tT v g W (.ex (.chain o o' e1 e2 e3))) :=
  PT.imp (pt_chain ho ho' ha hb hc hm) fun σ H Q ⟨ι, δ, h, hr, hs, go⟩ => by
    have e : evT g (.ex (.chain o o' e1 e2 e3)) δ h = (evE g (.chain o o' e1 e2 e3) δ h).bind fun x h => truD h x := by simp only [evT]
    rw [e] at go
    refine l_chain val val' ⟨ι, δ, h, hr, hs, Go.bind (SS := rrE v) go fun d h1 ι1 H1 x r1 ex1 hr1 rx1 go1 => ?_⟩
    have ek : ∃ k, d = .bl k := by
      have e : evE g (.chain o o' e1 e2 e3) δ h = (evE g e1 δ h).bind fun x h => (evE g e2 δ h).bind fun y h => (opApp g.sub o [x, y] h).bind fun z h => match z with
        | .bl k => if k = true then (evE g e3 δ h).bind fun w h => opApp g.sub o' [y, w] h else .ok (.bl false) h
        | _ => .no := by simp only [evE] <;> rfl
      rw [e] at r1
      cases q : evE g e1 δ h with
      | err _ _ _ => rw [q] at r1; cases r1
      | no => rw [q] at r1; cases r1
      | ok y1 g1 =>
      rw [q, R.okb] at r1
      cases q : evE g e2 δ g1 with
      | err _ _ _ => rw [q] at r1; cases r1
      | no => rw [q] at r1; cases r1
      | ok y2 g2 =>
      rw [q, R.okb] at r1
      cases q : opApp g.sub o [y1, y2] g2 with
      | err _ _ _ => rw [q] at r1; cases r1
      | no => rw [q] at r1; cases r1
      | ok y3 g3 =>
      rw [q, R.okb] at r1
      cases y3 <;> first | cases r1 | skip
      rename_i k
      cases k with
      | false => cases r1; exact ⟨_, rfl⟩
      | true =>
        cases q : evE g e3 δ g3 with
        | err _ _ _ => simp only [q, if_true] at r1; cases r1
        | no => simp only [q, if_true] at r1; cases r1
        | ok y4 g4 => simp only [q, if_true] at r1; exact ob _ _ _ _ r1
    obtain ⟨k, rfl⟩ := ek
    exact ⟨k, rv_bl rx1, Go.here (RR := rrB) (show Go rrB v ι1 H1 (.ok k h1) Q _ from go1) hr1 rfl⟩
theorem w_one {op : PySem.BoolOp} (h : PT X a (tT v g W t1)) : PW X (.BoolOp op [a] pos) (tT v g W t1) := by
  cases op with
  | And => exact pw_and1 h
  | Or => exact pw_or1 h
theorem PW.imp {X : Cx} {e : Expr} {t t' : TT} (h : PW X e t) (k : ∀ σ H Q, t' σ H Q → t σ H Q) : PW X e t' := ⟨fun w pins s σ H Q I q => h.run w pins s σ H Q I (k σ H Q q)⟩
theorem w_and (ha : PT X a (tT v g W t1)) (hb : PW X (.BoolOp .And (b :: rest) pos) (tT v g W t2)) : PW X (.BoolOp .And (a :: b :: rest) pos) (tT v g W (.and t1 t2)) :=
  PW.imp (pw_and ha hb) fun σ H Q ⟨ι, δ, h, hr, hs, go⟩ => by
    have e : evT g (.and t1 t2) δ h = (evT g t1 δ h).bind fun k h => if k = true then evT g t2 δ h else .ok false h := by simp only [evT]
    rw [e] at go
    refine ⟨ι, δ, h, hr, hs, Go.bind (SS := rrB) go fun d h1 ι1 H1 x r1 ex1 hr1 rx1 go1 => ?_⟩
    cases (show x = d from rx1)
    cases d with
    | true => exact ⟨ι1, δ, h1, hr1, hs.mono ex1, go1⟩
    | false => exact Go.here (RR := rrB) (show Go rrB v ι1 H1 (.ok false h1) Q _ from go1) hr1 rfl
theorem w_or (ha : PT X a (tT v g W t1)) (hb : PW X (.BoolOp .Or (b :: rest) pos) (tT v g W t2)) : PW X (.BoolOp .Or (a :: b :: rest) pos) (tT v g W (.or t1 t2)) :=
  PW.imp (pw_or ha hb) fun σ H Q ⟨ι, δ, h, hr, hs, go⟩ => by
    have e : evT g (.or t1 t2) δ h = (evT g t1 δ h).bind fun k h => if k = true then .ok true h else evT g t2 δ h := by simp only [evT]
    rw [e] at go
    refine ⟨ι, δ, h, hr, hs, Go.bind (SS := rrB) go fun d h1 ι1 H1 x r1 ex1 hr1 rx1 go1 => ?_⟩
    cases (show x = d from rx1)
    cases d with
    | true => exact Go.here (RR := rrB) (show Go rrB v ι1 H1 (.ok true h1) Q _ from go1) hr1 rfl
    | false => exact ⟨ι1, δ, h1, hr1, hs.mono ex1, go1⟩
theorem t_w (h : PW X a (tT v g W t1)) : PT X a (tT v g W t1) := h.pt
theorem t_not (ha : PT X a (tT v g W t1)) : PT X (.UnaryOp .Not a pos) (tT v g W (.not t1)) :=
  PT.imp (pt_not ha) fun σ H Q ⟨ι, δ, h, hr, hs, go⟩ => by
    have e : evT g (.not t1) δ h = (evT g t1 δ h).bind fun k h => .ok (!k) h := by simp only [evT]
    rw [e] at go
    refine ⟨ι, δ, h, hr, hs, Go.bind (SS := rrB) go fun d h1 ι1 H1 x r1 ex1 hr1 rx1 go1 => ?_⟩
    cases (show x = d from rx1)
    exact Go.here (RR := rrB) go1 hr1 rfl
end
end Ivy

/-! Ivy, part G: calls of built-ins. -/
namespace Ivy
open PySem PySem.Spec PyProof.Rows L2

section
variable {X : Cx} {v : Ev} {g : G} {W : WX} {a b c : Expr} {e1 e2 e3 : Ex} {es rest : List Expr} {fs : List Ex} {pos p : Pos} {t1 t2 : Te} {o : Op} {x : Str} {id : String}

theorem e_callB {r : List V → Hp → VK → Prop} (hc : CallR X (.builtin id) r) (val : OpN v g o r) (hg : Gl X x) (hm : X.mg x = none) (hv : bootBuiltins x = some (.builtin id)) (ha : PA X (a :: es) (tL v g W fs))
    (hn : x ≠ "__name__" := by decide) (hdb : (x == ("__debug__" : Str)) = false := by decide) (he : starEach (a :: es) X.env = (false, eval a X.env) :: starEach es X.env := by rfl) (hpl : (backTo pos (starEach es X.env)).any (·.1) = false := by rfl) :
    PE X (.Call (.Name x p) (a :: es) [] pos) (tE v g W (.op o fs)) := PE.imp (pe_callB hc hg hm hv ha hn hdb he hpl) fun σ H Q t => l_opN val t
theorem e_callT {r : List V → Hp → VK → Prop} (hc : CallR X (.type id) r) (val : OpN v g o r) (hg : Gl X x) (hm : X.mg x = none) (hv : bootBuiltins x = some (.type id)) (ha : PA X (a :: es) (tL v g W fs))
    (hn : x ≠ "__name__" := by decide) (hdb : (x == ("__debug__" : Str)) = false := by decide) (he : starEach (a :: es) X.env = (false, eval a X.env) :: starEach es X.env := by rfl) (hpl : (backTo pos (starEach es X.env)).any (·.1) = false := by rfl) :
    PE X (.Call (.Name x p) (a :: es) [] pos) (tE v g W (.op o fs)) := PE.imp (pe_callTy hc hg hm hv ha hn hdb he hpl) fun σ H Q t => l_opN val t

/-- one argument -/
theorem one_arg' {r : List V → Hp → VK → Prop} (h0 : ∀ h, opApp g.sub o [] h = .no) (h2 : ∀ d e ds h, opApp g.sub o (d :: e :: ds) h = .no)
    (h1 : ∀ (ι : List Addr) (H H0 : Hp) (h : Hh) (d : D) (x : V) (Q : VK) (E : XK), HR v ι H h → rrE v ι H0 H d x → Go (rrE v) v ι H (opApp g.sub o [d] h) Q E → r [x] H Q) : OpN v g o r := by
  intro ι H H0 h ds xs Q E hr rx go
  cases rx with
  | nil => rw [h0] at go; exact go.elim
  | cons r1 t =>
    cases t with
    | nil => exact h1 ι H H0 h _ _ Q E hr r1 go
    | cons _ _ => rw [h2] at go; exact go.elim
theorem n_len (hK : X.K = v.K) : OpN v g .len (fun xs H Q => (∃ x n, xs = [x] ∧ LenV X.K x H n ∧ Q (.int n) H) ∨ ∃ a kvs, xs = [V.ref a] ∧ H a = some (.dK kvs) ∧ Q (.int kvs.length) H) := by
  refine one_arg' (fun _ => rfl) (fun d _ _ _ => by cases d <;> rfl) fun ι H H0 h d x Q E hr rx go => ?_
  rw [hK]
  have seq : (opApp g.sub .len [d] h = match sqD h d with
    | some xs => intR xs.length h
    | none => match dcD h d with
      | some kvs => intR kvs.length h
      | none => .no) → (∃ z n, [x] = [z] ∧ LenV v.K z H n ∧ Q (.int n) H) ∨ ∃ a kvs, [x] = [V.ref a] ∧ H a = some (.dK kvs) ∧ Q (.int kvs.length) H := fun e => by
    rw [e] at go
    split at go
    · rename_i ds q
      obtain ⟨p, vs, rfl, s, r⟩ := sq_ok hr rx q
      refine .inl ⟨_, vs.length, rfl, ?_, by rw [← r.length]; exact go_int go hr⟩
      rcases s with s | s
      · exact .inl ⟨vs, s, rfl⟩
      · exact .inr ⟨vs, s, rfl⟩
    · split at go
      · rename_i ds q
        obtain ⟨p, vs, rfl, s, r⟩ := dc_ok hr rx q
        have e : ds.length = vs.length := by
          have := congrArg List.length r.1
          simpa using this.symm
        exact .inr ⟨p, vs, rfl, s, by rw [← e]; exact go_int go hr⟩
      · exact go.elim
  cases d with
  | str y =>
    obtain ⟨c, go⟩ := go_when (show Go (rrE v) v ι H (whenR _ (intR y.length h)) Q E from go)
    rw [rv_str rx]
    refine .inl ⟨_, y.length, rfl, ⟨?_, (tx_len y).symm⟩, go_int go hr⟩
    rw [tx_len, ← cells_eq]; exact of_decide_eq_true c
  | _ => exact seq rfl
theorem n_abs : OpN v g .abs (fun xs H Q => ∃ i, xs = [.int i] ∧ Q (.int (if i < 0 then -i else i)) H) := by
  refine one_arg' (fun _ => rfl) (fun d _ _ _ => by cases d <;> rfl) fun ι H H0 h d x Q E hr rx go => ?_
  cases d <;> first | exact go.elim | skip
  rw [rv_int rx]
  exact ⟨_, rfl, go_int (show Go _ _ _ _ (intR _ _) _ _ from go) hr⟩
theorem n_bool : OpN v g .bool (fun xs H Q => (∃ i, xs = [.int i] ∧ Q (.bl (i != 0)) H) ∨ ∃ k, xs = [.bl k] ∧ Q (.bl k) H) := by
  refine one_arg' (fun _ => rfl) (fun d _ _ _ => by cases d <;> rfl) fun ι H H0 h d x Q E hr rx go => ?_
  cases d <;> first | exact go.elim | skip
  · rw [rv_bl rx]
    exact .inr ⟨_, rfl, go_bl (show Go _ _ _ _ (blR _ _) _ _ from go) hr⟩
  · rw [rv_int rx]
    exact .inl ⟨_, rfl, go_bl (show Go _ _ _ _ (blR _ _) _ _ from go) hr⟩
theorem n_int1 : OpN v g .int (fun xs H Q => ((∃ i, xs = [.int i] ∧ Q (.int i) H) ∨ ∃ k, xs = [.bl k] ∧ Q (.int (if k then 1 else 0)) H) ∨ ∃ (y : Tx) (i : Int), xs = [.str (tx y)] ∧ y.length ≤ 640 ∧ intT y = some i ∧ Q (.int i) H) := by
  refine one_arg' (fun _ => rfl) (fun d _ _ _ => by cases d <;> rfl) fun ι H H0 h d x Q E hr rx go => ?_
  cases d <;> first | exact go.elim | skip
  · rw [rv_bl rx]
    exact .inl (.inr ⟨_, rfl, go_int (show Go _ _ _ _ (intR _ _) _ _ from go) hr⟩)
  · rw [rv_int rx]
    exact .inl (.inl ⟨_, rfl, go_int (show Go _ _ _ _ (intR _ _) _ _ from go) hr⟩)
  · rename_i y
    rw [rv_str rx]
    obtain ⟨c, go⟩ := go_when (show Go (rrE v) v ι H (whenR _ (match intT y with
      | some i => intR i h
      | none => .no)) Q E from go)
    split at go
    · rename_i i q
      exact .inr ⟨y, i, rfl, of_decide_eq_true c, q, go_int go hr⟩
    · exact go.elim
/-! ### str of an int -/
theorem str_ext {a b : Str} (h : a.cps.toList = b.cps.toList) : a = b := by
  cases a; cases b
  simp only [Str.mk.injEq]
  exact Array.toList_inj.mp h
theorem str_of_string (s : String) : (Str.ofString s).cps.toList = s.toList.map Char.toNat := by
  rw [Str.ofString_eq_toList]
theorem strI_eq (i : Int) : Str.ofString (toString i) = tx (strI i) := by
  apply str_ext
  rw [str_of_string, tx_list, Int.toString_eq_repr, Int.repr_eq_if]
  unfold strI
  by_cases h : 0 ≤ i
  · have e : i.toNat = i.natAbs := by omega
    rw [if_pos h, if_neg (by omega), e, Nat.toList_repr]
  · have e : (-i).toNat = i.natAbs := by omega
    rw [if_neg h, if_pos (by omega), e, String.toList_append, List.map_append, Nat.toList_repr]
    rfl
theorem n_str : OpN v g .str (fun xs H Q => (∃ i : Int, xs = [.int i] ∧ i.natAbs.log2 < 1920 ∧ Q (.str (Str.ofString (toString i))) H) ∨ ∃ a, xs = [.str a] ∧ Q (.str a) H) := by
  refine one_arg' (fun _ => rfl) (fun d _ _ _ => by cases d <;> rfl) fun ι H H0 h d x Q E hr rx go => ?_
  cases d <;> first | exact go.elim | skip
  · rename_i i
    rw [rv_int rx]
    obtain ⟨c, go⟩ := go_when (show Go (rrE v) v ι H (whenR _ (.ok (.str (strI i)) h)) Q E from go)
    refine .inl ⟨i, rfl, of_decide_eq_true c, ?_⟩
    rw [strI_eq]
    exact go_str go hr
  · rw [rv_str rx]
    exact .inr ⟨_, rfl, go_str go hr⟩
theorem c_str : CallR X (.type "str") (fun xs H Q => (∃ i : Int, xs = [.int i] ∧ i.natAbs.log2 < 1920 ∧ Q (.str (Str.ofString (toString i))) H) ∨ ∃ a, xs = [.str a] ∧ Q (.str a) H) := CallR.or call_str_int SkE.call_str_str
theorem c_int : CallR X (.type "int") (fun xs H Q => ((∃ i, xs = [.int i] ∧ Q (.int i) H) ∨ ∃ k, xs = [.bl k] ∧ Q (.int (if k then 1 else 0)) H) ∨ ∃ (y : Tx) (i : Int), xs = [.str (tx y)] ∧ y.length ≤ 640 ∧ intT y = some i ∧ Q (.int i) H) :=
  CallR.or call_int1 fun pins s σ H xs us Q I rs ⟨y, i, e, h1, h2, q⟩ => call_int_str pins s σ H xs us Q I rs ⟨tx y, i, e, h2, by rw [tx_len]; exact h1, q⟩
theorem c_len : CallR X (.builtin "len") (fun xs H Q => (∃ x n, xs = [x] ∧ LenV X.K x H n ∧ Q (.int n) H) ∨ ∃ a kvs, xs = [V.ref a] ∧ H a = some (.dK kvs) ∧ Q (.int kvs.length) H) := CallR.or call_len call_lenD

/-! ### lists out of lists -/
theorem n_list (hK : X.K = v.K) : OpN v g .list (fun xs H Q => ∃ p ys, xs = [.ref p] ∧ (SqL X.K H p ys ∨ SqT X.K H p ys) ∧ ∀ l, H l = none → Q (.ref l) (upd H l (.lst ys))) := by
  rw [hK]
  refine one_arg' (fun _ => rfl) (fun d _ _ _ => by cases d <;> rfl) fun ι H H0 h d x Q E hr rx go => ?_
  have go : Go (rrE v) v ι H (match sqD h d with
    | some xs => .ok (.lst xs) h
    | none => .no) Q E := go
  split at go
  · rename_i ds q
    obtain ⟨p, vs, rfl, s, r⟩ := sq_ok hr rx q
    exact ⟨p, vs, rfl, s, fun l hl => go_fresh go hr r hl⟩
  · exact go.elim
theorem n_tuple (hK : X.K = v.K) : OpN v g .tuple (fun xs H Q => ∃ p ys, xs = [.ref p] ∧ ((SqL X.K H p ys ∧ ∀ l, H l = none → Q (.ref l) (upd H l (.tup ys))) ∨ (SqT X.K H p ys ∧ Q (.ref p) H))) := by
  rw [hK]
  refine one_arg' (fun _ => rfl) (fun d _ _ _ => by cases d <;> rfl) fun ι H H0 h d x Q E hr rx go => ?_
  have seq : Go (rrE v) v ι H (match lsD h d with
    | some xs => .ok (.tup xs) h
    | none => .no) Q E → ∃ p ys, [x] = [V.ref p] ∧ ((SqL v.K H p ys ∧ ∀ l, H l = none → Q (.ref l) (upd H l (.tup ys))) ∨ (SqT v.K H p ys ∧ Q (.ref p) H)) := fun go => by
    split at go
    · rename_i ds q
      obtain ⟨p, vs, rfl, s, r⟩ := ls_ok hr rx q
      exact ⟨p, vs, rfl, .inl ⟨s, fun l hl => go_tup go hr r hl⟩⟩
    · exact go.elim
  cases d with
  | tup ds =>
    obtain ⟨p, vs, rfl, s, r⟩ := rv_tup rx
    exact ⟨p, vs, rfl, .inr ⟨s, go_tupS (show Go (rrE v) v ι H (.ok (.tup ds) h) Q E from go) hr r s⟩⟩
  | rol ds => exact seq go
  | lst ds => exact seq go
  | ref n =>
    refine seq ?_
    have go : Go (rrE v) v ι H (match lsD h (.ref n) with
    | some xs => .ok (.tup xs) h
    | none => .no) Q E := go
    exact go
  | _ => exact go.elim

/-! ### all, any, sum, min, max -/
theorem bools_v {ι : List Addr} {H : Hp} : ∀ {ds : List D} {vs : List V} {bs : List Bool}, RPs v ι H ds vs → boolsL ds = some bs → vs = bs.map V.bl
  | _, _, bs, .nil, e => by cases e; rfl
  | _, _, bs, .cons (d := d) (ds := ds) r t, e => by
    cases d <;> first | cases e | skip
    rename_i k
    have e : (boolsL ds).map (k :: ·) = some bs := e
    cases q : boolsL ds with
    | none => rw [q] at e; cases e
    | some cs =>
      rw [q] at e
      cases e
      cases r
      rw [bools_v t q]; rfl
theorem ints_v {ι : List Addr} {H : Hp} : ∀ {ds : List D} {vs : List V} {bs : List Int}, RPs v ι H ds vs → intsL ds = some bs → vs = bs.map V.int
  | _, _, bs, .nil, e => by cases e; rfl
  | _, _, bs, .cons (d := d) (ds := ds) r t, e => by
    cases d <;> first | cases e | skip
    rename_i k
    have e : (intsL ds).map (k :: ·) = some bs := e
    cases q : intsL ds with
    | none => rw [q] at e; cases e
    | some cs =>
      rw [q] at e
      cases e
      cases r
      rw [ints_v t q]; rfl
theorem strs_v {ι : List Addr} {H : Hp} : ∀ {ds : List D} {vs : List V} {bs : List Tx}, RPs v ι H ds vs → strsL ds = some bs → vs = bs.map fun x => V.str (tx x)
  | _, _, bs, .nil, e => by cases e; rfl
  | _, _, bs, .cons (d := d) (ds := ds) r t, e => by
    cases d <;> first | cases e | skip
    rename_i k
    have e : (strsL ds).map (k :: ·) = some bs := e
    cases q : strsL ds with
    | none => rw [q] at e; cases e
    | some cs =>
      rw [q] at e
      cases e
      cases r
      rw [strs_v t q]; rfl
theorem bind_some {α β : Type} {a : Option α} {f : α → Option β} {b : β} (h : a.bind f = some b) : ∃ x, a = some x ∧ f x = some b := by
  cases a with
  | none => cases h
  | some x => exact ⟨x, rfl, h⟩
theorem n_bools (f : List Bool → Bool) (hK : X.K = v.K) (h0 : ∀ h, opApp g.sub o [] h = .no) (h2 : ∀ d e ds h, opApp g.sub o (d :: e :: ds) h = .no)
    (h1 : ∀ d h, opApp g.sub o [d] h = match (lsD h d).bind boolsL with
      | some bs => blR (f bs) h
      | none => .no) : OpN v g o (fun vs H Q => ∃ (a : Addr) (bs : List Bool), vs = [V.ref a] ∧ SqL X.K H a (bs.map V.bl) ∧ Q (.bl (f bs)) H) := by
  rw [hK]
  refine one_arg' h0 h2 fun ι H H0 h d x Q E hr rx go => ?_
  rw [h1] at go
  split at go
  · rename_i bs q
    obtain ⟨ds, q1, q2⟩ := bind_some q
    obtain ⟨p, vs, rfl, s, r⟩ := ls_ok hr rx q1
    rw [bools_v r q2] at s
    exact ⟨p, bs, rfl, s, go_bl go hr⟩
  · exact go.elim
theorem n_all (hK : X.K = v.K) : OpN v g .all (rAll X.K) := n_bools _ hK (fun _ => rfl) (fun d _ _ _ => by cases d <;> rfl) fun d h => by cases d <;> rfl
theorem n_any (hK : X.K = v.K) : OpN v g .any (rAny X.K) := n_bools _ hK (fun _ => rfl) (fun d _ _ _ => by cases d <;> rfl) fun d h => by cases d <;> rfl
theorem n_sum (hK : X.K = v.K) : OpN v g .sum (rSum X.K) := by
  rw [hK]
  refine one_arg' (fun _ => rfl) (fun d _ _ _ => by cases d <;> rfl) fun ι H H0 h d x Q E hr rx go => ?_
  have go : Go (rrE v) v ι H (match (lsD h d).bind intsL with
    | some ns => intR ns.sum h
    | none => .no) Q E := by cases d <;> exact go
  split at go
  · rename_i bs q
    obtain ⟨ds, q1, q2⟩ := bind_some q
    obtain ⟨p, vs, rfl, s, r⟩ := ls_ok hr rx q1
    rw [ints_v r q2] at s
    exact ⟨p, bs, rfl, s, go_int go hr⟩
  · exact go.elim
theorem fold_max : ∀ (l : List Int) (n m : Int), (m = n ∨ m ∈ l) → (n ≤ m ∧ ∀ y ∈ l, y ≤ m) → l.foldl max n = m
  | [], n, m, h, _ => by
    rcases h with h | h
    · exact h.symm
    · cases h
  | y :: l, n, m, h, k => by
    rw [List.foldl_cons]
    refine fold_max l (max n y) m ?_ ⟨?_, fun z hz => k.2 z (List.mem_cons_of_mem _ hz)⟩
    · rcases h with h | h
      · have := k.2 y (List.mem_cons_self ..)
        exact .inl (by omega)
      · rcases List.mem_cons.mp h with h | h
        · have := k.1
          exact .inl (by omega)
        · exact .inr h
    · have := k.2 y (List.mem_cons_self ..)
      have := k.1
      omega
theorem fold_min : ∀ (l : List Int) (n m : Int), (m = n ∨ m ∈ l) → (m ≤ n ∧ ∀ y ∈ l, m ≤ y) → l.foldl min n = m
  | [], n, m, h, _ => by
    rcases h with h | h
    · exact h.symm
    · cases h
  | y :: l, n, m, h, k => by
    rw [List.foldl_cons]
    refine fold_min l (min n y) m ?_ ⟨?_, fun z hz => k.2 z (List.mem_cons_of_mem _ hz)⟩
    · rcases h with h | h
      · have := k.2 y (List.mem_cons_self ..)
        exact .inl (by omega)
      · rcases List.mem_cons.mp h with h | h
        · have := k.1
          exact .inl (by omega)
        · exact .inr h
    · have := k.2 y (List.mem_cons_self ..)
      have := k.1
      omega
theorem n_maxL (hK : X.K = v.K) : OpN v g .maxL (rMax X.K) := by
  rw [hK]
  refine one_arg' (fun _ => rfl) (fun d _ _ _ => by cases d <;> rfl) fun ι H H0 h d x Q E hr rx go => ?_
  have go : Go (rrE v) v ι H (match (lsD h d).bind intsL with
    | some (n :: ns) => intR (ns.foldl max n) h
    | _ => .no) Q E := by cases d <;> exact go
  split at go
  · rename_i n ns q
    obtain ⟨ds, q1, q2⟩ := bind_some q
    obtain ⟨p, vs, rfl, s, r⟩ := ls_ok hr rx q1
    rw [ints_v r q2] at s
    refine ⟨p, _, rfl, s, Nat.succ_pos _, fun m hm hy => ?_⟩
    have e := fold_max ns n m (List.mem_cons.mp hm) ⟨hy n (List.mem_cons_self ..), fun y h => hy y (List.mem_cons_of_mem _ h)⟩
    rw [e] at go
    exact go_int go hr
  · exact go.elim
theorem n_minL (hK : X.K = v.K) : OpN v g .minL (rMin X.K) := by
  rw [hK]
  refine one_arg' (fun _ => rfl) (fun d _ _ _ => by cases d <;> rfl) fun ι H H0 h d x Q E hr rx go => ?_
  have go : Go (rrE v) v ι H (match (lsD h d).bind intsL with
    | some (n :: ns) => intR (ns.foldl min n) h
    | _ => .no) Q E := by cases d <;> exact go
  split at go
  · rename_i n ns q
    obtain ⟨ds, q1, q2⟩ := bind_some q
    obtain ⟨p, vs, rfl, s, r⟩ := ls_ok hr rx q1
    rw [ints_v r q2] at s
    refine ⟨p, _, rfl, s, Nat.succ_pos _, fun m hm hy => ?_⟩
    have e := fold_min ns n m (List.mem_cons.mp hm) ⟨hy n (List.mem_cons_self ..), fun y h => hy y (List.mem_cons_of_mem _ h)⟩
    rw [e] at go
    exact go_int go hr
  · exact go.elim
theorem two_arg' {r : List V → Hp → VK → Prop} (h0 : ∀ h, opApp g.sub o [] h = .no) (h1 : ∀ d h, opApp g.sub o [d] h = .no) (h3 : ∀ d e f ds h, opApp g.sub o (d :: e :: f :: ds) h = .no)
    (h2 : ∀ (ι : List Addr) (H H0 : Hp) (h : Hh) (d e : D) (x y : V) (Q : VK) (E : XK), HR v ι H h → rrE v ι H0 H d x → rrE v ι H0 H e y → Go (rrE v) v ι H (opApp g.sub o [d, e] h) Q E → r [x, y] H Q) : OpN v g o r := by
  intro ι H H0 h ds xs Q E hr rx go
  cases rx with
  | nil => rw [h0] at go; exact go.elim
  | cons r1 t =>
    cases t with
    | nil => rw [h1] at go; exact go.elim
    | cons r2 t =>
      cases t with
      | nil => exact h2 ι H H0 h _ _ _ _ Q E hr r1 r2 go
      | cons _ _ => rw [h3] at go; exact go.elim
theorem n_min2 : OpN v g .min2 (fun xs H Q => ∃ i j, xs = [.int i, .int j] ∧ Q (.int (if j < i then j else i)) H) := by
  refine two_arg' (fun _ => rfl) (fun d _ => by cases d <;> rfl) (fun d e _ _ _ => by cases d <;> cases e <;> rfl) fun ι H H0 h d e x y Q E hr rx ry go => ?_
  cases d <;> cases e <;> first | exact go.elim | skip
  rw [rv_int rx, rv_int ry]
  exact ⟨_, _, rfl, go_int (show Go _ _ _ _ (intR _ _) _ _ from go) hr⟩
theorem n_max2 : OpN v g .max2 (fun xs H Q => ∃ i j, xs = [.int i, .int j] ∧ Q (.int (if j > i then j else i)) H) := by
  refine two_arg' (fun _ => rfl) (fun d _ => by cases d <;> rfl) (fun d e _ _ _ => by cases d <;> cases e <;> rfl) fun ι H H0 h d e x y Q E hr rx ry go => ?_
  cases d <;> cases e <;> first | exact go.elim | skip
  rw [rv_int rx, rv_int ry]
  exact ⟨_, _, rfl, go_int (show Go _ _ _ _ (intR _ _) _ _ from go) hr⟩

/-! ### bit_length -/
theorem e_bits {apos : Pos} (ho : PE X a (tE v g W e1)) (hbase : attributeBase a "bit_length" X.env (eval a X.env) = eval a X.env := by rfl) (hline : (apos.endLine == pos.line) = true := by rfl) :
    PE X (.Call (.Attribute a "bit_length" apos) [] [] pos) (tE v g W (.op .bits [e1])) := PE.imp (pe_bits ho hbase hline) fun σ H Q ⟨ι, δ, h, hr, hs, go⟩ => by
  rw [evE_op1] at go
  refine ⟨ι, δ, h, hr, hs, Go.bind (SS := rrE v) go fun d h1 ι1 H1 x r1 ex1 hr1 rx1 go1 => ?_⟩
  cases d <;> first | exact go1.elim | skip
  rename_i i
  refine ⟨i, rv_int rx1, ?_⟩
  have e : Builtin.Int.intBits i = bitLen i := by
    unfold Builtin.Int.intBits bitLen
    by_cases z : i = 0
    · subst z; rfl
    · rw [if_neg z, if_neg (by simpa using z)]
  rw [e]
  exact go_int (show Go _ _ _ _ (intR _ _) _ _ from go1) hr1
end
end Ivy

/-! Ivy, part H: isinstance. -/
namespace Ivy
open PySem PySem.Spec PyProof.Rows L2

def tyN : Ty → String
  | .int => "int"
  | .bool => "bool"
  | .str => "str"
  | .tuple => "tuple"
  | .list => "list"
  | .dict => "dict"
  | .none => "NoneType"
  | .cls _ => "object"
def tyB : List Ty := [.int, .bool, .str, .tuple, .list, .dict, .none]
def tyU (v : Ev) : Ty → Value
  | .cls k => .ref (v.ca k)
  | t => .type (tyN t)
def tyV' (v : Ev) : Ty → V
  | .cls k => .ref (v.ca k)
  | t => .ty (tyN t)
theorem ty_cls {v : Ev} : ∀ t, ClsV (tyV' v t) (tyU v t)
  | .int => .ty _
  | .bool => .ty _
  | .str => .ty _
  | .tuple => .ty _
  | .list => .ty _
  | .dict => .ty _
  | .none => .ty _
  | .cls k => .own _
/-- the classes that have instances -/
structure InsB (K : PySem.W.Frag) (v : Ev) : Prop where
  cl : ∀ c, v.ic c = true → Cls K (v.ca c) ∧ PySem.W.findIn K (.ref (v.ca c)) "__class__" = some (some (.builtin "object.__class__")) ∧
    PySem.W.specialIn K (.builtin "object.__class__") "__get__" = some (some (.builtin "getset_descriptor.__get__")) ∧ PySem.W.takesIn K (.builtin "object.__class__") = some true ∧
    PySem.W.mroIn K (v.ca c) (.type "object") = some true
/-- what isinstance is told about a type -/
def TyF (K : PySem.W.Frag) (v : Ev) (sub : Nat → Nat → Bool) : Ty → Prop
  | .cls k => (∀ t ∈ tyB, PySem.W.kitOne K (.type (tyN t)) (.ref (v.ca k)) = some false) ∧ ∀ c, v.ic c = true → PySem.W.kitOne K (.ref (v.ca c)) (.ref (v.ca k)) = some (sub c k)
  | t => ∀ c, v.ic c = true → PySem.W.kitOne K (.ref (v.ca c)) (.type (tyN t)) = some false
theorem kit_bb {K : PySem.W.Frag} : ∀ s ∈ tyB, ∀ t ∈ tyB, PySem.W.kitOne K (.type (tyN s)) (.type (tyN t)) = some (isB s t) := by
  intro s hs t ht
  refine kit_ty ?_
  revert s t
  decide +kernel
theorem ty_mem : ∀ t : Ty, t ∈ tyB ∨ ∃ k, t = .cls k
  | .int => .inl (by simp [tyB])
  | .bool => .inl (by simp [tyB])
  | .str => .inl (by simp [tyB])
  | .tuple => .inl (by simp [tyB])
  | .list => .inl (by simp [tyB])
  | .dict => .inl (by simp [tyB])
  | .none => .inl (by simp [tyB])
  | .cls k => .inr ⟨k, rfl⟩
theorem not_ins {K : PySem.W.Frag} {v : Ev} {sub : Nat → Nat → Bool} {t : Ty} (ht : TyF K v sub t) {c : Nat} (hc : v.ic c = true) : PySem.W.kitOne K (.ref (v.ca c)) (tyU v t) = some (match t with
    | .cls k => sub c k
    | _ => false) := by
  cases t <;> first | exact ht c hc | exact ht.2 c hc
section
variable {X : Cx} {v : Ev} {g : G} {W : WX} {a b : Expr} {e1 : Ex} {pos p p2 : Pos} {x : Str}
/-- the types that are met: their values, what isinstance tells -/
theorem ty_is {K : PySem.W.Frag} {ι : List Addr} {H H0 : Hp} {h : Hh} {d : D} {x : V} {k : Sum Ty Nat} (hK : K = v.K) (hI : InsB K v) (hr : HR v ι H h) (rx : rrE v ι H0 H d x) (e : tyD h d = some k) :
    ∃ tv, TyX K H x tv ∧ ∀ t, TyF K v g.sub t → PySem.W.kitOne K tv (tyU v t) = some (tyIs g.sub k t) := by
  subst hK
  have fin : ∀ s ∈ tyB, TyX v.K H x (.type (tyN s)) → k = .inl s → ∃ tv, TyX v.K H x tv ∧ ∀ t, TyF v.K v g.sub t → PySem.W.kitOne v.K tv (tyU v t) = some (tyIs g.sub k t) := fun s hs tx hk => by
    refine ⟨_, tx, fun t ht => ?_⟩
    subst hk
    rcases ty_mem t with m | ⟨c, rfl⟩
    · have e2 : tyU v t = .type (tyN t) := by
        cases t <;> first | rfl | simp [tyB] at m
      rw [e2]
      exact kit_bb s hs t m
    · have e3 : tyIs g.sub (.inl s) (.cls c) = false := by cases s <;> rfl
      rw [e3]
      exact ht.1 s hs
  have sq : ∀ (a : Addr) (vs : List V), SqT v.K H a vs → TyX v.K H (.ref a) (.type "tuple") := fun a vs q => by
    rcases q with (q | ⟨o, q⟩) | ⟨o, its, n, q1, q2, _⟩
    · exact .base (.tup q)
    · exact .fTuple q
    · exact .kTuple q1 q2
  have rol : ∀ (a : Addr) (vs : List V), RoL v.K H a vs → TyX v.K H (.ref a) (.type "list") := fun a vs q => by
    rcases q with ⟨o, q⟩ | ⟨o, its, n, q1, q2, _⟩
    · exact .base (.frz q)
    · exact .kList q1 q2
  cases d with
  | non => rw [rv_non rx] at fin ⊢; cases e; exact fin .none (by simp [tyB]) (.base .non) rfl
  | bl y => rw [rv_bl rx] at fin ⊢; cases e; exact fin .bool (by simp [tyB]) (.base (.bl y)) rfl
  | int y => rw [rv_int rx] at fin ⊢; cases e; exact fin .int (by simp [tyB]) (.base (.int y)) rfl
  | str y => rw [rv_str rx] at fin ⊢; cases e; exact fin .str (by simp [tyB]) (.base (.str _)) rfl
  | tup ds =>
    obtain ⟨a, vs, rfl, h1, h2⟩ := rv_tup rx
    cases e
    exact fin .tuple (by simp [tyB]) (sq a vs h1) rfl
  | rol ds =>
    cases (show RP v ι H (.rol ds) x from rx.1) with
    | rol h1 h2 =>
      cases e
      exact fin .list (by simp [tyB]) (rol _ _ h1) rfl
  | lst ds =>
    obtain ⟨a, vs, rfl, _, h3, _⟩ := (show RV v ι H (.lst ds) x from rx.1)
    cases e
    exact fin .list (by simp [tyB]) (.base (.lst h3)) rfl
  | dct ds =>
    obtain ⟨a, vs, rfl, _, h3, _⟩ := (show RV v ι H (.dct ds) x from rx.1)
    cases e
    exact fin .dict (by simp [tyB]) (.base (.dK h3)) rfl
  | exc c fs => cases e
  | ref n =>
    obtain ⟨a, rfl, ha⟩ := rv_ref rx
    cases q : h[n]? with
    | none =>
      have e : (match h[n]? with
        | some (.lst _) => some (.inl .list)
        | some (.dct _) => some (.inl .dict)
        | some (.ins c _) => some (.inr c)
        | none => none) = some k := e
      rw [q] at e; cases e
    | some c =>
      have e : (match h[n]? with
        | some (.lst _) => some (.inl .list)
        | some (.dct _) => some (.inl .dict)
        | some (.ins c _) => some (.inr c)
        | none => none) = some k := e
      rw [q] at e
      cases c with
      | lst xs =>
        obtain ⟨vs, h1, h2⟩ := (show CR v ι H a (.lst _) from hr.cell n a _ ha q)
        cases e
        exact fin .list (by simp [tyB]) (.base (.lst h1)) rfl
      | dct xs =>
        obtain ⟨vs, h1, h2⟩ := (show CR v ι H a (.dct _) from hr.cell n a _ ha q)
        cases e
        exact fin .dict (by simp [tyB]) (.base (.dK h1)) rfl
      | ins c fs =>
        obtain ⟨dx, vs, h0, h1, h2⟩ := (show CR v ι H a (.ins c fs) from hr.cell n a _ ha q)
        obtain ⟨i1, i2, i3, i4, i5⟩ := hI.cl c h0
        cases e
        refine ⟨_, .base (.ins h1 i1 i2 i3 i4 i5), fun t ht => ?_⟩
        rw [not_ins ht h0]
        cases t <;> rfl
theorem kit_anys {K : PySem.W.Frag} {v : Ev} {tv : Value} {f : Ty → Bool} : ∀ (ts : List Ty), (∀ t ∈ ts, PySem.W.kitOne K tv (tyU v t) = some (f t)) → PySem.W.kitAny K tv (ts.map (tyU v)) = some (ts.any f)
  | [], _ => rfl
  | t :: ts, h => by
    rw [List.map_cons, List.any_cons]
    refine kitAny_cons (h t (List.mem_cons_self ..)) (fun e => ?_) fun e => by rw [e]; rfl
    rw [e, Bool.false_or]
    exact kit_anys ts fun t ht => h t (List.mem_cons_of_mem _ ht)
theorem cls_map {v : Ev} : ∀ ts : List Ty, Paired ClsV (ts.map (tyV' v)) (ts.map (tyU v))
  | [] => .nil
  | t :: ts => .cons (ty_cls t) (cls_map ts)
/-- a type's name -/
def tTy (x : V) : TE := fun _ H Q => Q x H
theorem e_isi {t : Ty} (hb : Cb X v W) (hI : InsB X.K v) (hg : Gl X x) (hm : X.mg x = none) (hv : bootBuiltins x = some (.builtin "isinstance")) (ha : PE X a (tE v g W e1)) (hT : PE X b (tC (tyV' v t))) (ht : TyF X.K v g.sub t)
    (hs : starEach [a, b] X.env = (false, eval a X.env) :: starEach [b] X.env := by rfl) (hs2 : starEach [b] X.env = (false, eval b X.env) :: starEach [] X.env := by rfl) (hpl : (backTo pos (starEach [b] X.env)).any (·.1) = false := by rfl)
    (hn : x ≠ "__name__" := by decide) (hdb : (x == ("__debug__" : Str)) = false := by decide) : PE X (.Call (.Name x p) [a, b] [] pos) (tE v g W (.op (.isi [t]) [e1])) :=
  PE.imp (pe_callB call_isi hg hm hv (pa_cons ha (pa_cons hT pa_nil hs2) hs) hn hdb hs hpl) fun σ H Q ⟨ι, δ, h, hr, hs, go⟩ => by
    rw [evE_op1] at go
    refine ⟨ι, δ, h, hr, hs, Go.bind (SS := rrE v) go fun d h1 ι1 H1 x r1 ex1 hr1 rx1 go1 => ?_⟩
    have go1 : Go (rrE v) v ι1 H1 (match tyD h1 d with
      | some k => blR ([t].any (tyIs g.sub k)) h1
      | none => .no) Q _ := go1
    split at go1
    · rename_i k q
      obtain ⟨tv, h2, h3⟩ := ty_is (g := g) hb.hK hI hr1 rx1 q
      refine ⟨x, _, tv, _, _, rfl, ty_cls t, h2, h3 t ht, ?_⟩
      have e : [t].any (tyIs g.sub k) = tyIs g.sub k t := by simp
      rw [e] at go1
      exact go_bl go1 hr1
    · exact go1.elim
theorem e_isiN {ts : List Ty} {es : List Expr} {tb : TA} {j : Nat} (hb : Cb X v W) (hI : InsB X.K v) (hg : Gl X x) (hm : X.mg x = none) (hv : bootBuiltins x = some (.builtin "isinstance")) (ha : PE X a (tE v g W e1))
    (hT : PA X es (fun _ H Q => Q (ts.map (tyV' v)) H)) (ht : ∀ t ∈ ts, TyF X.K v g.sub t) (hl : ts.length ≤ sizeLine)
    (hs : starEach [a, .Tuple es j p2] X.env = (false, eval a X.env) :: starEach [.Tuple es j p2] X.env := by rfl) (hs2 : starEach [.Tuple es j p2] X.env = (false, eval (.Tuple es j p2) X.env) :: starEach [] X.env := by rfl) (hpl : (backTo pos (starEach [.Tuple es j p2] X.env)).any (·.1) = false := by rfl)
    (hn : x ≠ "__name__" := by decide) (hdb : (x == ("__debug__" : Str)) = false := by decide) : PE X (.Call (.Name x p) [a, .Tuple es j p2] [] pos) (tE v g W (.op (.isi ts) [e1])) :=
  PE.imp (pe_callB call_isiT hg hm hv (pa_cons ha (pa_cons (pe_tup hT) pa_nil hs2) hs) hn hdb hs hpl) fun σ H Q ⟨ι, δ, h, hr, hs, go⟩ => by
    rw [evE_op1] at go
    refine ⟨ι, δ, h, hr, hs, Go.bind (SS := rrE v) go fun d h1 ι1 H1 x r1 ex1 hr1 rx1 go1 => ?_⟩
    have go1 : Go (rrE v) v ι1 H1 (match tyD h1 d with
      | some k => blR (ts.any (tyIs g.sub k)) h1
      | none => .no) Q _ := go1
    split at go1
    · rename_i k q
      refine ⟨by rw [List.length_map]; exact hl, fun tp hp => ?_⟩
      have hr2 := hr1.new (o := .tup (ts.map (tyV' v))) hp
      obtain ⟨tv, h2, h3⟩ := ty_is (g := g) hb.hK hI hr2 (rx1.mono (ext_new hp)) q
      refine ⟨x, tp, ts.map (tyV' v), tv, ts.map (tyU v), _, rfl, upd_same, cls_map ts, h2, kit_anys ts fun t hts => h3 t (ht t hts), ?_⟩
      exact Go.here (Go.shift (ext_new hp) hr2 go1) hr2 ⟨.bl _, trivial⟩
    · exact go1.elim
end
end Ivy

/-! Ivy, part I: targets, statements without loops. -/
namespace Ivy
open PySem PySem.Spec PyProof.Rows L2

/-- what a statement leaves -/
def GoS (v : Ev) (W : WX) (ι : List Addr) (H : Hp) (r : Rs) (D : Ends) : Prop := match r with
  | .nx δ h => ∀ ι' H' σ', Ext ι H ι' H' → HR v ι' H' h → SR v ι' H' δ σ' → D.nx σ' H'
  | .brk δ h => ∀ ι' H' σ', Ext ι H ι' H' → HR v ι' H' h → SR v ι' H' δ σ' → D.bk σ' H'
  | .cont δ h => ∀ ι' H' σ', Ext ι H ι' H' → HR v ι' H' h → SR v ι' H' δ σ' → D.ct σ' H'
  | .ret d h => ∀ ι' H' x, Ext ι H ι' H' → HR v ι' H' h → rrE v ι' H H' d x → D.rt x H'
  | .err c fs δ h => ∀ ι' H' σ' cls dd, Ext ι H ι' H' → HR v ι' H' h → SR v ι' H' δ σ' → XR v ι' H' c fs cls dd → W cls dd σ' H'
  | .no => False
section
variable {v : Ev} {W : WX} {ι ι1 : List Addr} {H H1 : Hp} {h h1 : Hh} {r : Rs} {E : Ends} {δ : Sl} {σ : L2.St}
theorem GoS.shift (e : Ext ι H ι1 H1) (hr : HR v ι1 H1 h1) (g : GoS v W ι H r E) : GoS v W ι1 H1 r E := by
  cases r with
  | nx δ h => exact fun ι' H' σ' e' a b => g ι' H' σ' (e.trans e') a b
  | brk δ h => exact fun ι' H' σ' e' a b => g ι' H' σ' (e.trans e') a b
  | cont δ h => exact fun ι' H' σ' e' a b => g ι' H' σ' (e.trans e') a b
  | ret d h => exact fun ι' H' x e' a b => g ι' H' x (e.trans e') a ⟨b.1, b.2.back fun p hp => e.back hr hp⟩
  | err c fs δ h => exact fun ι' H' σ' cls dd e' a b c => g ι' H' σ' cls dd (e.trans e') a b c
  | no => exact g
/-- an expression, then more -/
theorem GoS.bind {α β : Type} {SS : RRel α β} {r : R α} {k : α → Hh → Rs} {Q' : β → Hp → Prop} (hs : SR v ι H δ σ) (g : GoS v W ι H (r.go δ k) E)
    (step : ∀ d h1 ι1 H1 x, r = .ok d h1 → Ext ι H ι1 H1 → HR v ι1 H1 h1 → SS ι1 H H1 d x → GoS v W ι1 H1 (k d h1) E → Q' x H1) : Go SS v ι H r Q' (fun c d H' => W c d σ H') := by
  cases r with
  | ok d h1 => exact fun ι1 H1 x e r' q => step d h1 ι1 H1 x rfl e r' q (GoS.shift e r' g)
  | err c fs h1 => exact fun ι' H' cls dd e r' q => g ι' H' σ cls dd e r' (hs.mono e) q
  | no => exact g
theorem GoS.mono {r : Rs} {E' : Ends} (g : GoS v W ι H r E) (h1 : ∀ σ H, E.nx σ H → E'.nx σ H) (h2 : ∀ x H, E.rt x H → E'.rt x H) (h3 : ∀ σ H, E.bk σ H → E'.bk σ H) (h4 : ∀ σ H, E.ct σ H → E'.ct σ H) : GoS v W ι H r E' := by
  cases r with
  | nx δ h => exact fun ι' H' σ' e' a b => h1 _ _ (g ι' H' σ' e' a b)
  | brk δ h => exact fun ι' H' σ' e' a b => h3 _ _ (g ι' H' σ' e' a b)
  | cont δ h => exact fun ι' H' σ' e' a b => h4 _ _ (g ι' H' σ' e' a b)
  | ret d h => exact fun ι' H' x e' a b => h2 _ _ (g ι' H' x e' a b)
  | err c fs δ h => exact g
  | no => exact g
end
theorem R.go_bind {α β : Type} (r : R α) (k : α → Hh → R β) (δ : Sl) (l : β → Hh → Rs) : (r.bind k).go δ l = r.go δ fun a h => (k a h).go δ l := by cases r <;> rfl
mutual
/-- the slots that a target stores -/
def Tg.ns : Tg → List Nat
  | .name i => [i]
  | .tup ts => Tg.nss ts
def Tg.nss : List Tg → List Nat
  | [] => []
  | t :: ts => Tg.ns t ++ Tg.nss ts
end
/-- alike off some slots -/
def Off (is : List Nat) (σ σ' : L2.St) : Prop := σ'.length = σ.length ∧ ∀ j, j ∉ is → σ'[j]? = σ[j]?
theorem Off.set {i : Nat} {σ : L2.St} {x : Option V} : Off [i] σ (σ.set i x) := ⟨List.length_set, fun j hj => List.getElem?_set_ne fun z => hj (by simp [z])⟩
theorem Off.trans {a b : List Nat} {σ σ' σ2 : L2.St} (h : Off a σ σ') (k : Off b σ' σ2) : Off (a ++ b) σ σ2 :=
  ⟨k.1.trans h.1, fun j hj => (k.2 j fun z => hj (List.mem_append_right _ z)).trans (h.2 j fun z => hj (List.mem_append_left _ z))⟩
section
variable (v : Ev) (g : G) (W : WX)
def tS (st : St) : TS := fun D σ H => ∃ ι δ h, HR v ι H h ∧ SR v ι H δ σ ∧ GoS v W ι H (evS g st δ h) D
def tSs (sts : List St) : TS := fun D σ H => ∃ ι δ h, HR v ι H h ∧ SR v ι H δ σ ∧ GoS v W ι H (evSs g sts δ h) D
/-- a store: what the slots are then -/
def gT (t : Tg) : TG := fun x σ H Q => ∃ ι δ h d δ', HR v ι H h ∧ SR v ι H δ σ ∧ RP v ι H d x ∧ putT t d δ = some δ' ∧ ∀ σ', SR v ι H δ' σ' → Off (Tg.ns t) σ σ' → Q σ' H
def gTs (ts : List Tg) : TGs := fun xs σ H Q => ∃ ι δ h ds δ', HR v ι H h ∧ SR v ι H δ σ ∧ RPs v ι H ds xs ∧ putTs ts ds δ = some δ' ∧ ∀ σ', SR v ι H δ' σ' → Off (Tg.nss ts) σ σ' → Q σ' H
end
theorem PG.imp {X : Cx} {e : Expr} {t t' : TG} (h : PG X e t) (k : ∀ x σ H Q, t' x σ H Q → t x σ H Q) : PG X e t' := ⟨fun pins s σ H v u Q I r q => h.run pins s σ H v u Q I r (k v σ H Q q)⟩
theorem PGs.imp {X : Cx} {e : List Expr} {t t' : TGs} (h : PGs X e t) (k : ∀ x σ H Q, t' x σ H Q → t x σ H Q) : PGs X e t' := ⟨fun pins s σ H v u Q I r q => h.run pins s σ H v u Q I r (k v σ H Q q)⟩
section
variable {X : Cx} {v : Ev} {g : G} {W : WX} {a b c : Expr} {e1 e2 e3 : Ex} {es rest : List Expr} {fs : List Ex} {pos p p2 : Pos} {t1 : Te} {tg : Tg} {tgs : List Tg} {x y : Str} {st : Stmt} {sts sts2 : List Stmt} {s1 : St} {ss ss2 : List St}

/-! ### stores -/
theorem SR.set {ι : List Addr} {H : Hp} {δ : Sl} {σ : L2.St} {i : Nat} {d : D} {x : V} (r : SR v ι H δ σ) (q : RP v ι H d x) : SR v ι H (δ.set i (some d)) (σ.set i (some x)) := by
  refine ⟨by rw [List.length_set, List.length_set]; exact r.1, fun j e he => ?_⟩
  by_cases hj : i = j
  · subst hj
    by_cases hi : i < δ.length
    · rw [List.getElem?_set_self hi] at he
      cases he
      exact ⟨x, List.getElem?_set_self (by rw [← r.1]; exact hi), q⟩
    · rw [List.getElem?_eq_none (by rw [List.length_set]; omega)] at he; cases he
  · rw [List.getElem?_set_ne hj] at he ⊢
    exact r.2 j e he
theorem SR.wipe {ι : List Addr} {H : Hp} {δ : Sl} {σ : L2.St} (r : SR v ι H δ σ) : ∀ ks : List Nat, SR v ι H (wipeS δ ks) σ
  | [] => r
  | k :: ks => by
    have q := SR.wipe r ks
    refine ⟨by rw [wipeS, List.length_set]; exact q.1, fun j e he => ?_⟩
    rw [wipeS] at he
    by_cases hj : k = j
    · subst hj
      by_cases hi : k < (wipeS δ ks).length
      · rw [List.getElem?_set_self hi] at he; cases he
      · rw [List.getElem?_eq_none (by rw [List.length_set]; omega)] at he; cases he
    · rw [List.getElem?_set_ne hj] at he
      exact q.2 j e he
theorem g_name {i : Nat} (hN : X.N.Nodup) (hi : X.N[i]? = some x) (hx : Loc X.env.scope x) (hf : X.fn x = true ∨ X.env.scope.names.lookup x = some .local := by first | exact .inl rfl | exact .inr rfl | assumption) : PG X (.Name x pos) (gT v (.name i)) :=
  PG.imp (pg_name hN hi hx hf) fun z σ H Q ⟨ι, δ, h, d, δ', hr, hs, rz, e, q⟩ => by
    unfold putT at e
    split at e
    · cases e; exact q _ (hs.set rz) .set
    · cases e
theorem gs_nil : PGs X [] (gTs v []) := PGs.imp pgs_nil fun xs σ H Q ⟨ι, δ, h, ds, δ', hr, hs, rz, e, q⟩ => by
  cases rz with
  | nil => cases e; exact ⟨rfl, q _ hs ⟨rfl, fun _ _ => rfl⟩⟩
  | cons _ _ => cases e
theorem gs_cons (h1 : PG X a (gT v tg)) (h2 : PGs X es (gTs v tgs)) (hs : (assignEach (a :: es) X.env).map (·.2) = assign a X.env :: (assignEach es X.env).map (·.2) := by rfl) : PGs X (a :: es) (gTs v (tg :: tgs)) :=
  PGs.imp (pgs_cons h1 h2 hs) fun xs σ H Q ⟨ι, δ, h, ds, δ', hr, hs, rz, e, q⟩ => by
    cases rz with
    | nil => cases e
    | cons r1 r2 =>
      unfold putTs at e
      split at e
      · rename_i δ1 e1
        exact ⟨_, _, rfl, ι, δ, h, _, δ1, hr, hs, r1, e1, fun σ1 hs1 o1 => ⟨ι, δ1, h, _, δ', hr, hs1, r2, e, fun σ2 hs2 o2 => q σ2 hs2 (by unfold Tg.nss; exact o1.trans o2)⟩⟩
      · cases e
theorem putTs_len : ∀ {ts : List Tg} {ds : List D} {δ δ' : Sl}, putTs ts ds δ = some δ' → ts.length = ds.length
  | [], [], _, _, _ => rfl
  | [], _ :: _, _, _, e => by cases e
  | _ :: _, [], _, _, e => by cases e
  | t :: ts, d :: ds, δ, δ', e => by
    unfold putTs at e
    split at e
    · rw [List.length_cons, List.length_cons, putTs_len e]
    · cases e
theorem g_tup {k : Nat} {n : Nat} (hb : Cb X v W) (hc : X.calm = true) (h : PGs X es (gTs v tgs)) (hl : tgs.length = n := by rfl) (hn : (assignEach es X.env).length = n := by rfl) (hst : (assignEach es X.env).findIdx? (·.1) = none := by rfl) : PG X (.Tuple es k pos) (gT v (.tup tgs)) :=
  PG.imp (pg_tup hc h hn hst) fun z σ H Q ⟨ι, δ, h, d, δ', hr, hs, rz, e, q⟩ => by
    cases d <;> first | cases e | skip
    rename_i ds
    have e : putTs tgs ds δ = some δ' := e
    cases rz with
    | tup h1 h2 =>
      refine ⟨_, _, rfl, by rw [hb.hK]; exact h1, ?_, ι, δ, h, ds, δ', hr, hs, h2, e, fun σ2 hs2 o2 => q σ2 hs2 (by unfold Tg.ns; exact o2)⟩
      rw [← h2.length, ← putTs_len e, hl]

/-! ### statements -/
theorem putT_pers : ∀ {t : Tg} {d : D} {δ δ' : Sl}, putT t d δ = some δ' → D.pers d = true
  | .name i, d, δ, δ', e => by
    unfold putT at e
    split at e
    · assumption
    · cases e
  | .tup ts, d, δ, δ', e => by
    cases d <;> first | rfl | cases e
theorem l_asg {E : Ends} {σ : L2.St} {H : Hp} (t : tS v g W (.asg tg e1) E σ H) : tAsg (tE v g W e1) (gT v tg) E σ H := by
  obtain ⟨ι, δ, h, hr, hs, go⟩ := t
  have e : evS g (.asg tg e1) δ h = (evE g e1 δ h).go δ fun x h => match putT tg x δ with
    | some δ' => .nx δ' h
    | none => .no := by simp only [evS] <;> rfl
  rw [e] at go
  refine ⟨ι, δ, h, hr, hs, GoS.bind (SS := rrE v) hs go fun d h1 ι1 H1 x r1 ex1 hr1 rx1 go1 => ?_⟩
  split at go1
  · rename_i δ' q
    exact ⟨ι1, δ, h1, d, δ', hr1, hs.mono ex1, rx1.1.rp (putT_pers q), q, fun σ' hs' _ => go1 ι1 H1 σ' .refl hr1 hs'⟩
  · exact go1.elim
theorem s_asg (he : PE X b (tE v g W e1)) (hg : PG X a (gT v tg)) (hs : swapsWithSole [a] b pos.line X.env = pure false := by rfl) (hw : swappedStores [a] b X.env = pure none := by rfl)
    (h1 : (assignEach [a] X.env).map (·.2) = [assign a X.env] := by rfl) : PS X (.Assign [a] b pos) (tS v g W (.asg tg e1)) := PS.imp (ps_asg he hg hs hw h1) fun D σ H t => l_asg t
theorem l_set {i : Nat} {E : Ends} {σ : L2.St} {H : Hp} (t : tS v g W (.asg (.name i) e1) E σ H) : tE v g W e1 σ H (fun x H1 => gName i x σ H1 E.nx) := by
  obtain ⟨ι, δ, h, hr, hs, go⟩ := l_asg t
  exact ⟨ι, δ, h, hr, hs, go.imp (fun x H ⟨ι, δ, h, d, δ', hr, hs, rz, e, q⟩ => by
    unfold putT at e
    split at e
    · cases e; exact q _ (hs.set rz) .set
    · cases e) fun _ _ _ w => w⟩
theorem s_set {i : Nat} (hN : X.N.Nodup) (hi : X.N[i]? = some x) (hx : Loc X.env.scope x) (he : PE X b (tE v g W e1)) (hs : swapsWith b (some (.Name x p)) pos.line X.env = pure false := by rfl) (hf : X.fn x = true ∨ X.env.scope.names.lookup x = some .local := by first | exact .inl rfl | exact .inr rfl | assumption) :
    PS X (.Assign [.Name x p] b pos) (tS v g W (.asg (.name i) e1)) := PS.imp (ps_set hN hi hx he hs hf) fun E σ H t => l_set t
/-- a, b = x, y of plain names -/
theorem s_par {i j k2 kt : Nat} {px py pt pt2 : Pos} (hc : X.calm = true) (hN : X.N.Nodup) (hi : X.N[i]? = some x) (hj : X.N[j]? = some y) (hij : i ≠ j)
    (hx : X.env.scope.names.lookup x = some .local) (hy : X.env.scope.names.lookup y = some .local) (ha : PA X [a, b] (tL v g W [e1, e2]))
    (hw : swappedStores [.Tuple [.Name x px, .Name y py] kt pt] (.Tuple [a, b] k2 pt2) X.env = pure (some [x, y]))
    (hs : swapsWithSole [.Tuple [.Name x px, .Name y py] kt pt] (.Tuple [a, b] k2 pt2) pos.line X.env = pure false := by rfl) :
    PS X (.Assign [.Tuple [.Name x px, .Name y py] kt pt] (.Tuple [a, b] k2 pt2) pos) (tS v g W (.asg (.tup [.name i, .name j]) (.op .tup [e1, e2]))) :=
  PS.imp (ps_par hc hN hi hj hij hx hy ha hw hs) fun E σ H ⟨ι, δ, h, hr, hs, go⟩ => by
    have e : evS g (.asg (.tup [.name i, .name j]) (.op .tup [e1, e2])) δ h = (evEs g [e1, e2] δ h).go δ fun ds h => (opApp g.sub .tup ds h).go δ fun x h => match putT (.tup [.name i, .name j]) x δ with
      | some δ' => .nx δ' h
      | none => .no := by
      simp only [evS, evE]
      cases evEs g [e1, e2] δ h <;> rfl
    rw [e] at go
    refine ⟨ι, δ, h, hr, hs, GoS.bind (SS := rrL v) hs go fun ds h1 ι1 H1 xs r1 ex1 hr1 rx1 go1 => ?_⟩
    have e2 : opApp g.sub .tup ds h1 = whenR (persL ds && decide (ds.length ≤ cells)) (.ok (.tup ds) h1) := rfl
    rw [e2] at go1
    cases c : (persL ds && decide (ds.length ≤ cells)) with
    | false => rw [c] at go1; exact go1.elim
    | true =>
      rw [c] at go1
      rw [Bool.and_eq_true] at c
      have rs := rx1.rps c.1
      cases rs with
      | nil => exact go1.elim
      | cons q1 rs =>
      cases rs with
      | nil =>
        have go1 : GoS v W ι1 H1 (match putT (.tup [.name i, .name j]) (.tup [_]) δ with
          | some δ' => .nx δ' h1
          | none => .no) E := go1
        split at go1
        · rename_i q
          have := putTs_len (show putTs [.name i, .name j] [_] δ = some _ from q)
          cases this
        · exact go1.elim
      | cons q2 rs =>
      cases rs with
      | cons _ _ =>
        have go1 : GoS v W ι1 H1 (match putT (.tup [.name i, .name j]) (.tup (_ :: _ :: _ :: _)) δ with
          | some δ' => .nx δ' h1
          | none => .no) E := go1
        split at go1
        · rename_i q
          have := putTs_len (show putTs [.name i, .name j] (_ :: _ :: _ :: _) δ = some _ from q)
          simp at this
        · exact go1.elim
      | nil =>
        rename_i d x d' x'
        refine ⟨x, x', rfl, ?_⟩
        have go1 : GoS v W ι1 H1 (match putTs [.name i, .name j] [d, d'] δ with
          | some δ' => .nx δ' h1
          | none => .no) E := go1
        have e3 : putTs [.name i, .name j] [d, d'] δ = some ((δ.set i (some d)).set j (some d')) := by
          have p1 : D.pers d = true := by
            have := c.1
            simp [persL] at this
            exact this.1
          have p2 : D.pers d' = true := by
            have := c.1
            simp [persL] at this
            exact this.2
          unfold putTs putT putTs putT putTs
          simp only [p1, p2, if_true]
        rw [e3] at go1
        exact go1 ι1 H1 _ .refl hr1 (((hs.mono ex1).set q1).set q2)
theorem s_ex (he : PE X a (tE v g W e1)) (hs : swapsWith a none pos.line X.env = pure false := by rfl) : PS X (.Expr a pos) (tS v g W (.ex e1)) :=
  PS.imp (ps_expr he hs) fun E σ H ⟨ι, δ, h, hr, hs, go⟩ => by
    have e : evS g (.ex e1) δ h = (evE g e1 δ h).go δ fun _ h => .nx δ h := by simp only [evS]
    rw [e] at go
    exact ⟨ι, δ, h, hr, hs, GoS.bind (SS := rrE v) hs go fun d h1 ι1 H1 x r1 ex1 hr1 rx1 go1 => go1 ι1 H1 σ .refl hr1 (hs.mono ex1)⟩
theorem s_ret (he : PE X a (tE v g W e1)) : PS X (.Return (some a) pos) (tS v g W (.ret e1)) :=
  PS.imp (ps_ret he) fun E σ H ⟨ι, δ, h, hr, hs, go⟩ => by
    have e : evS g (.ret e1) δ h = (evE g e1 δ h).go δ fun x h => .ret x h := by simp only [evS]
    rw [e] at go
    refine ⟨ι, δ, h, hr, hs, GoS.bind (SS := rrE v) hs go fun d h1 ι1 H1 x r1 ex1 hr1 rx1 _ => ?_⟩
    rw [r1] at go
    exact go ι1 H1 x ex1 hr1 rx1
theorem s_retN : PS X (.Return none pos) (tS v g W .retN) :=
  PS.imp ps_retN fun E σ H ⟨ι, δ, h, hr, hs, go⟩ => by
    have e : evS g .retN δ h = .ret .non h := by simp only [evS]
    rw [e] at go
    exact go ι H _ .refl hr ⟨.non, trivial⟩
theorem s_pass : PS X (.Pass pos) (tS v g W .pass) :=
  PS.imp ps_pass fun E σ H ⟨ι, δ, h, hr, hs, go⟩ => by
    have e : evS g .pass δ h = .nx δ h := by simp only [evS]
    rw [e] at go
    exact go ι H _ .refl hr hs
theorem s_brk : PS X (.Break pos) (tS v g W .brk) :=
  PS.imp ps_break fun E σ H ⟨ι, δ, h, hr, hs, go⟩ => by
    have e : evS g .brk δ h = .brk δ h := by simp only [evS]
    rw [e] at go
    exact go ι H _ .refl hr hs
theorem s_cont : PS X (.Continue pos) (tS v g W .cont) :=
  PS.imp ps_continue fun E σ H ⟨ι, δ, h, hr, hs, go⟩ => by
    have e : evS g .cont δ h = .cont δ h := by simp only [evS]
    rw [e] at go
    exact go ι H _ .refl hr hs
theorem s_ite (hc : PT X c (tT v g W t1)) (ha : PSs X sts (tSs v g W ss)) (hb : PSs X sts2 (tSs v g W ss2)) : PS X (.If c sts sts2 pos) (tS v g W (.ite t1 ss ss2)) :=
  PS.imp (ps_if hc ha hb) fun E σ H ⟨ι, δ, h, hr, hs, go⟩ => by
    have e : evS g (.ite t1 ss ss2) δ h = (evT g t1 δ h).go δ fun k h => if k = true then evSs g ss δ h else evSs g ss2 δ h := by simp only [evS]
    rw [e] at go
    refine ⟨ι, δ, h, hr, hs, GoS.bind (SS := rrB) hs go fun d h1 ι1 H1 x r1 ex1 hr1 rx1 go1 => ?_⟩
    cases (show x = d from rx1)
    cases d with
    | true => exact ⟨ι1, δ, h1, hr1, hs.mono ex1, go1⟩
    | false => exact ⟨ι1, δ, h1, hr1, hs.mono ex1, go1⟩
theorem ss_nil : PSs X [] (tSs v g W []) :=
  PSs.imp pss_nil fun E σ H ⟨ι, δ, h, hr, hs, go⟩ => by
    have e : evSs g [] δ h = .nx δ h := by simp only [evSs]
    rw [e] at go
    exact go ι H _ .refl hr hs
/-- a statement, then the rest -/
theorem GoS.seq {ι : List Addr} {H : Hp} {r : Rs} {k : Sl → Hh → Rs} {E E' : Ends} (go : GoS v W ι H (match r with
      | .nx δ h => k δ h
      | r => r) E) (h1 : E'.rt = E.rt) (h2 : E'.bk = E.bk) (h3 : E'.ct = E.ct)
    (hn : ∀ δ h ι1 H1 σ1, r = .nx δ h → Ext ι H ι1 H1 → HR v ι1 H1 h → SR v ι1 H1 δ σ1 → GoS v W ι1 H1 (k δ h) E → E'.nx σ1 H1) : GoS v W ι H r E' := by
  cases r with
  | nx δ h => exact fun ι1 H1 σ1 ex hr hs => hn δ h ι1 H1 σ1 rfl ex hr hs (GoS.shift ex hr go)
  | brk δ h => exact fun ι1 H1 σ1 ex hr hs => by rw [h2]; exact go ι1 H1 σ1 ex hr hs
  | cont δ h => exact fun ι1 H1 σ1 ex hr hs => by rw [h3]; exact go ι1 H1 σ1 ex hr hs
  | ret d h => exact fun ι1 H1 σ1 ex hr hs => by rw [h1]; exact go ι1 H1 σ1 ex hr hs
  | err c fs δ h => exact go
  | no => exact go
theorem ss_cons (h1 : PS X st (tS v g W s1)) (h2 : PSs X sts (tSs v g W ss)) : PSs X (st :: sts) (tSs v g W (s1 :: ss)) :=
  PSs.imp (pss_cons h1 h2) fun E σ H ⟨ι, δ, h, hr, hs, go⟩ => by
    have e : evSs g (s1 :: ss) δ h = (match evS g s1 δ h with
      | .nx δ2 h2 => evSs g ss δ2 h2
      | r => r) := by simp only [evSs] <;> rfl
    rw [e] at go
    exact ⟨ι, δ, h, hr, hs, GoS.seq go rfl rfl rfl fun δ1 h1 ι1 H1 σ1 r1 ex1 hr1 hs1 go1 => ⟨ι1, δ1, h1, hr1, hs1, go1⟩⟩
/-- a docstring -/
theorem ss_doc {z : Str} {j : Nat} (h2 : PSs X sts (tSs v g W ss)) : PSs X (.Expr (.Constant (.str z) j pos) p :: sts) (tSs v g W ss) := PSs.imp (pss_cons ps_doc h2) fun E σ H t => t
end
end Ivy

/-! Ivy, part J: stores into lists and dicts, methods of lists. -/
namespace Ivy
open PySem PySem.Spec PyProof.Rows L2
section
variable {X : Cx} {v : Ev} {g : G} {W : WX} {a b c : Expr} {e1 e2 e3 : Ex} {es rest : List Expr} {fs : List Ex} {pos p p2 apos cpos : Pos}

theorem go_set {ι : List Addr} {H : Hp} {h : Hh} {n : Nat} {a : Addr} {d : D} {x : V} {o o0 : HO} {cc : C} {Q : VK} {E : XK} (go : Go (rrE v) v ι H (.ok d (h.set n cc)) Q E) (hr : HR v ι H h) (ha : ι[n]? = some a) (h0 : H a = some o0) (hk : kd o = kd o0)
    (hc : Ext ι H ι (upd H a o) → CR v ι (upd H a o) a cc) (rx : RP v ι H d x) (hp : D.pers d = true) : Q x (upd H a o) := by
  have ex : Ext ι H ι (upd H a o) := ext_cell hr ha h0 hk
  exact go ι _ x ex (hr.set ha ex (hc ex)) ⟨RV.of (rx.mono ex) (.inl hp), New.pers hp⟩
theorem put_keys {kvs : List (Ky × D)} {kvs' : List (Key × V)} (k : Ky) (e : kvs'.map (·.1) = kvs.map (fun p => kyV p.1)) : (kvs'.any fun kv => decide (kv.1 = kyV k)) = kvs.any fun p => decide (p.1 = k) := by
  induction kvs generalizing kvs' with
  | nil => cases kvs' <;> first | rfl | cases e
  | cons p r ih =>
    cases kvs' with
    | nil => cases e
    | cons q s =>
      rw [List.map_cons, List.map_cons] at e
      obtain ⟨e1, e2⟩ := List.cons.inj e
      rw [List.any_cons, List.any_cons, ih e2, e1]
      congr 1
      by_cases z : p.1 = k
      · rw [z]; simp
      · rw [decide_eq_false z, decide_eq_false fun y => z (kyV_inj y)]
theorem put_map {ι : List Addr} {H : Hp} {d : D} {x : V} (k : Ky) (q : RP v ι H d x) : ∀ {kvs : List (Ky × D)} {kvs' : List (Key × V)}, RK v ι H kvs kvs' → RK v ι H (kvs.map fun p => if p.1 = k then (p.1, d) else p) (kvs'.map fun kv => if kv.1 = kyV k then (kv.1, x) else kv)
  | [], [], _ => ⟨rfl, .nil⟩
  | [], _ :: _, r => by cases r.1
  | _ :: _, [], r => by cases r.1
  | p :: r, p' :: s, ⟨r1, r2⟩ => by
    rw [List.map_cons, List.map_cons] at r1 r2
    obtain ⟨e1, e2⟩ := List.cons.inj r1
    cases r2 with
    | cons q1 q2 =>
      obtain ⟨i1, i2⟩ := put_map k q (kvs := r) (kvs' := s) ⟨e2, q2⟩
      rw [List.map_cons, List.map_cons]
      by_cases z : p.1 = k
      · have z' : p'.1 = kyV k := by rw [e1, z]
        rw [if_pos z, if_pos z']
        exact ⟨by rw [List.map_cons, List.map_cons, i1]; simp only [e1], .cons q i2⟩
      · have z' : p'.1 ≠ kyV k := by rw [e1]; exact fun y => z (kyV_inj y)
        rw [if_neg z, if_neg z']
        exact ⟨by rw [List.map_cons, List.map_cons, i1, e1], .cons q1 i2⟩
theorem RK.put {ι : List Addr} {H : Hp} {kvs : List (Ky × D)} {kvs' : List (Key × V)} {d : D} {x : V} (k : Ky) (r : RK v ι H kvs kvs') (q : RP v ι H d x) : RK v ι H (kPut kvs k d) (putK kvs' (kyV k) x) := by
  unfold kPut putK
  rw [put_keys k r.1]
  split
  · exact put_map k q r
  · refine ⟨by rw [List.map_append, List.map_append, r.1]; rfl, ?_⟩
    rw [List.map_append, List.map_append]
    exact r.2.app (.cons q .nil)
def rSet2 : TSet := fun o i v H Q => rSetL o i v H Q ∨ rSetD o i v H Q
theorem set_both (hb : Cb X v W) : PSet X rSet2 := fun pins s σ H o i v ov iv u Q I r1 r2 r3 q => q.elim (set_list pins s σ H o i v ov iv u Q I r1 r2 r3) (set_dict (by have := hb.hu; omega) pins s σ H o i v ov iv u Q I r1 r2 r3)
theorem ky_val {ι : List Addr} {H H0 : Hp} {d : D} {k : Ky} {x : V} (e : kyD d = some k) (r : rrE v ι H0 H d x) : x = kV (kyV k) := by
  unfold kyD at e
  split at e
  · cases e; rw [rv_int r]; rfl
  · cases e; rw [rv_str r]; rfl
  · cases e
theorem v_setItem {ι : List Addr} {H H0 H1 H2 : Hp} {h : Hh} {d e f : D} {x y z : V} {Q : VK} {E : XK} (hr : HR v ι H h) (rx : rrE v ι H0 H d x) (ry : rrE v ι H1 H e y) (rz : rrE v ι H2 H f z)
    (go : Go (rrE v) v ι H (opApp g.sub .setItem [d, e, f] h) Q E) : rSet2 y z x H (fun H' => Q .non H') := by
  cases e <;> first | exact go.elim | skip
  rename_i n
  obtain ⟨a, rfl, ha⟩ := rv_ref ry
  have go : Go (rrE v) v ι H (match (generalizing := false) h[n]?, f with
    | some (.lst xs), .int i => (match ixP xs.length i with
      | some k => whenR (D.pers d) (chg h n (xs.set k d) .non)
      | none => .no)
    | some (.dct kvs), b => (match kyD b with
      | some k => whenR (D.pers d && decide (kvs.length < cells)) (.ok .non (h.set n (.dct (kPut kvs k d))))
      | none => .no)
    | _, _ => .no) Q E := go
  cases q : h[n]? with
  | none => rw [q] at go; exact go.elim
  | some cc =>
    rw [q] at go
    cases cc with
    | ins _ _ => exact go.elim
    | lst xs =>
      cases f <;> first | exact go.elim | skip
      rename_i i _
      have go : Go (rrE v) v ι H (match ixP xs.length i with
        | some k => whenR (D.pers d) (chg h n (xs.set k d) .non)
        | none => .no) Q E := go
      cases ek : ixP xs.length i with
      | none => rw [ek] at go; exact go.elim
      | some k =>
        rw [ek] at go
        obtain ⟨c, go⟩ := go_when go
        obtain ⟨vs, h1, h2⟩ := (show CR v ι H a (.lst _) from hr.cell n a _ ha q)
        rw [rv_int rz]
        refine .inl ⟨a, vs, i, k, rfl, rfl, h1, by rw [← ixP_eq, ← h2.length]; exact ek, ?_⟩
        exact go_set (show Go (rrE v) v ι H (.ok .non (h.set n (.lst (xs.set k d)))) Q E from go) hr ha h1 rfl (fun ex => ⟨_, upd_same, ((h2.set (rx.1.rp c) k)).mono ex⟩) .non rfl
    | dct kvs =>
      have go : Go (rrE v) v ι H (match kyD f with
        | some k => whenR (D.pers d && decide (kvs.length < cells)) (.ok .non (h.set n (.dct (kPut kvs k d))))
        | none => .no) Q E := go
      cases ek : kyD f with
      | none => rw [ek] at go; exact go.elim
      | some k =>
        rw [ek] at go
        obtain ⟨c, go⟩ := go_when go
        rw [Bool.and_eq_true] at c
        obtain ⟨kvs', h1, h2⟩ := (show CR v ι H a (.dct _) from hr.cell n a _ ha q)
        have e := ky_val ek rz
        subst e
        have hl : kvs'.length < sizeLine := by
          have := congrArg List.length h2.1
          simp at this
          rw [this, ← cells_eq]; exact of_decide_eq_true c.2
        refine .inr ⟨a, _, rfl, DPut.k h1 hl, ?_⟩
        exact go_set go hr ha h1 rfl (fun ex => ⟨_, upd_same, (h2.put k (rx.1.rp c.1)).mono ex⟩) .non rfl
/-- o[i] = e -/
theorem s_setItem (hb : Cb X v W) (he : PE X c (tE v g W e1)) (ho : PE X a (tE v g W e2)) (hi : PE X b (tE v g W e3)) (hs : swapsWithSole [.Subscript a b p] c pos.line X.env = pure false := by rfl) (hw : swappedStores [.Subscript a b p] c X.env = pure none := by rfl)
    (h1 : (assignEach [.Subscript a b p] X.env).map (·.2) = [assign (.Subscript a b p) X.env] := by rfl)
    (ha : ∀ v, assign (.Subscript a b p) X.env v = (do
      let ov ← holding [v] (eval a X.env)
      let iv ← holding [v, ov] (eval b X.env)
      standAt p
      holding [v, ov, iv] (setItem ov iv v)
      release [v, ov, iv] []) := by intro _; rfl) : PS X (.Assign [.Subscript a b p] c pos) (tS v g W (.ex (.op .setItem [e1, e2, e3]))) :=
  PS.imp (ps_asg he (pg_sub ho hi (set_both hb) ha) hs hw h1) fun E σ H ⟨ι, δ, h, hr, hs, go⟩ => by
    have e : evS g (.ex (.op .setItem [e1, e2, e3])) δ h = (evE g e1 δ h).go δ fun x h => (evE g e2 δ h).go δ fun y h => (evE g e3 δ h).go δ fun z h => (opApp g.sub .setItem [x, y, z] h).go δ fun _ h => .nx δ h := by
      simp only [evS]
      rw [evE_op3]
      simp only [R.go_bind]
    rw [e] at go
    refine ⟨ι, δ, h, hr, hs, GoS.bind (SS := rrE v) hs go fun d h1 ι1 H1 x r1 ex1 hr1 rx1 go1 => ?_⟩
    refine ⟨ι1, δ, h1, hr1, hs.mono ex1, GoS.bind (SS := rrE v) (hs.mono ex1) go1 fun e h2 ι2 H2 y r2 ex2 hr2 ry2 go2 => ?_⟩
    have hs2 := (hs.mono ex1).mono ex2
    refine ⟨ι2, δ, h2, hr2, hs2, GoS.bind (SS := rrE v) hs2 go2 fun f h3 ι3 H3 z r3 ex3 hr3 rz3 go3 => ?_⟩
    have hs3 := hs2.mono ex3
    refine v_setItem (g := g) (Q := fun _ H' => E.nx σ H') (E := fun c d H' => W c d σ H') hr3 ((rx1.mono ex2).mono ex3) (ry2.mono ex3) rz3 (GoS.bind (SS := rrE v) hs3 go3 fun w h4 ι4 H4 u r4 ex4 hr4 ru4 go4 => ?_)
    exact go4 ι4 H4 σ .refl hr4 (hs3.mono ex4)

/-! ### methods of lists -/
theorem ck_lst {d : D} {h : Hh} : ckR 1 d h = (match d with
    | .ref n => (match h[n]? with
      | some (.lst _) => .ok (.ref n) h
      | _ => .no)
    | _ => .no) := by
  cases d <;> first | rfl | skip
  rename_i n
  show (match h[n]? with
    | some (.lst _) => whenR (1 == 1) (.ok (D.ref n) h)
    | some (.dct _) => whenR (1 == 2) (.ok (D.ref n) h)
    | _ => .no : R D) = (match h[n]? with
      | some (.lst _) => .ok (.ref n) h
      | _ => .no)
  cases q : h[n]? with
  | none => rfl
  | some c => cases c <;> rfl
theorem evE_ck {k : Nat} {δ : Sl} {h : Hh} : evE g (.ck k e1) δ h = (evE g e1 δ h).bind fun d h => ckR k d h := by simp only [evE]
/-- a method of a list's cell, one argument -/
theorem e_lm1 {o : Op} {name : Str} {id : String} {r : V → List V → Hp → VK → Prop} (hb : Cb X v W) (slot : Slot "list" name id) (hty : typeOf (.builtin id) = pure (.type "method_descriptor")) (hm : MtR X id r)
    (val : ∀ (ι : List Addr) (H H0 H1 : Hp) (h : Hh) (n : Nat) (e : D) (x y : V) (Q : VK) (E : XK), HR v ι H h → rrE v ι H0 H (.ref n) x → rrE v ι H1 H e y → Go (rrE v) v ι H (opApp g.sub o [.ref n, e] h) Q E → r x [y] H Q)
    (ha : PE X a (tE v g W e1)) (hi : PE X b (tE v g W e2)) (hbase : attributeBase a name X.env (eval a X.env) = eval a X.env := by rfl)
    (hfew : ((backTo cpos (starEach [b] X.env)).all (fun x => !x.1) && (backToKw cpos (keywordEach [] X.env)).all (fun x => x.1.isSome)
      && decide ([b].length + ([] : List Keyword).length + (if ([] : List Keyword).isEmpty then 0 else 1) < 30)) = true := by rfl)
    (hline : (apos.endLine == cpos.line) = true := by rfl) (hs : starEach [b] X.env = (false, eval b X.env) :: starEach [] X.env := by rfl) (hplain : (backTo cpos (starEach [] X.env)).any (·.1) = false := by rfl) :
    PE X (.Call (.Attribute a name apos) [b] [] cpos) (tE v g W (.op o [.ck 1 e1, e2])) :=
  PE.imp (pe_bm PySem.F.plainAttrs_list slot hty hm ha (pa_cons hi pa_nil hs) hbase hfew hline hs hplain) fun σ H Q ⟨ι, δ, h, hr, hs, go⟩ => by
    rw [evE_op2, evE_ck, R.assoc] at go
    refine ⟨ι, δ, h, hr, hs, Go.bind (SS := rrE v) go fun d h1 ι1 H1 x r1 ex1 hr1 rx1 go1 => ?_⟩
    rw [ck_lst] at go1
    cases d <;> first | exact go1.elim | skip
    rename_i n
    obtain ⟨p, rfl, hp⟩ := rv_ref rx1
    have go1 : Go (rrE v) v ι1 H1 ((match h1[n]? with
      | some (.lst _) => .ok (.ref n) h1
      | _ => .no : R D).bind fun x h => (evE g e2 δ h).bind fun y h => opApp g.sub o [x, y] h) Q _ := go1
    cases q : h1[n]? with
    | none => rw [q] at go1; exact go1.elim
    | some cc =>
      rw [q] at go1
      cases cc with
      | dct _ => exact go1.elim
      | ins _ _ => exact go1.elim
      | lst xs =>
        obtain ⟨vs, hv, _⟩ := (show CR v ι1 H1 p (.lst _) from hr1.cell n p _ hp q)
        have go1 : Go (rrE v) v ι1 H1 ((evE g e2 δ h1).bind fun y h => opApp g.sub o [.ref n, y] h) Q _ := go1
        refine ⟨.inl ⟨rfl, vs, SqL.of hv⟩, ι1, δ, h1, hr1, hs.mono ex1, Go.bind (SS := rrE v) go1 fun e h2 ι2 H2 y r2 ex2 hr2 ry2 go2 => ?_⟩
        exact val ι2 H2 H H1 h2 n e _ y Q _ hr2 (rx1.mono ex2) ry2 go2
theorem e_lm0 {o : Op} {name : Str} {id : String} {r : V → List V → Hp → VK → Prop} (hb : Cb X v W) (slot : Slot "list" name id) (hty : typeOf (.builtin id) = pure (.type "method_descriptor")) (hm : MtR X id r)
    (val : ∀ (ι : List Addr) (H H0 : Hp) (h : Hh) (n : Nat) (x : V) (Q : VK) (E : XK), HR v ι H h → rrE v ι H0 H (.ref n) x → Go (rrE v) v ι H (opApp g.sub o [.ref n] h) Q E → r x [] H Q)
    (ha : PE X a (tE v g W e1)) (hbase : attributeBase a name X.env (eval a X.env) = eval a X.env := by rfl) (hline : (apos.endLine == cpos.line) = true := by rfl) :
    PE X (.Call (.Attribute a name apos) [] [] cpos) (tE v g W (.op o [.ck 1 e1])) :=
  PE.imp (pe_bm0 PySem.F.plainAttrs_list slot hty hm ha hbase hline) fun σ H Q ⟨ι, δ, h, hr, hs, go⟩ => by
    rw [evE_op1, evE_ck, R.assoc] at go
    refine ⟨ι, δ, h, hr, hs, Go.bind (SS := rrE v) go fun d h1 ι1 H1 x r1 ex1 hr1 rx1 go1 => ?_⟩
    rw [ck_lst] at go1
    cases d <;> first | exact go1.elim | skip
    rename_i n
    obtain ⟨p, rfl, hp⟩ := rv_ref rx1
    have go1 : Go (rrE v) v ι1 H1 ((match h1[n]? with
      | some (.lst _) => .ok (.ref n) h1
      | _ => .no : R D).bind fun x h => opApp g.sub o [x] h) Q _ := go1
    cases q : h1[n]? with
    | none => rw [q] at go1; exact go1.elim
    | some cc =>
      rw [q] at go1
      cases cc with
      | dct _ => exact go1.elim
      | ins _ _ => exact go1.elim
      | lst xs =>
        obtain ⟨vs, hv, _⟩ := (show CR v ι1 H1 p (.lst _) from hr1.cell n p _ hp q)
        have go1 : Go (rrE v) v ι1 H1 (opApp g.sub o [.ref n] h1) Q _ := go1
        exact ⟨.inl ⟨rfl, vs, SqL.of hv⟩, val ι1 H1 H h1 n _ Q _ hr1 rx1 go1⟩
theorem v_append (ι : List Addr) (H H0 H1 : Hp) (h : Hh) (n : Nat) (e : D) (x y : V) (Q : VK) (E : XK) (hr : HR v ι H h) (rx : rrE v ι H0 H (.ref n) x) (ry : rrE v ι H1 H e y) (go : Go (rrE v) v ι H (opApp g.sub .append [.ref n, e] h) Q E) : rAppend x [y] H Q := by
  obtain ⟨p, rfl, hp⟩ := rv_ref rx
  have go : Go (rrE v) v ι H (match h[n]? with
    | some (.lst xs) => whenR (D.pers e && decide (xs.length < cells)) (chg h n (xs ++ [e]) .non)
    | _ => .no) Q E := go
  split at go
  · rename_i xs q
    obtain ⟨c, go⟩ := go_when go
    rw [Bool.and_eq_true] at c
    obtain ⟨vs, hv, hd⟩ := (show CR v ι H p (.lst _) from hr.cell n p _ hp q)
    refine ⟨p, vs, y, rfl, rfl, hv, by rw [← hd.length, ← cells_eq]; exact of_decide_eq_true c.2, ?_⟩
    exact go_set (show Go (rrE v) v ι H (.ok .non (h.set n (.lst (xs ++ [e])))) Q E from go) hr hp hv rfl (fun ex => ⟨_, upd_same, (hd.app (.cons (ry.1.rp c.1) .nil)).mono ex⟩) .non rfl
  · exact go.elim
theorem e_append (hb : Cb X v W) (ha : PE X a (tE v g W e1)) (hi : PE X b (tE v g W e2)) (hbase : attributeBase a "append" X.env (eval a X.env) = eval a X.env := by rfl)
    (hfew : ((backTo cpos (starEach [b] X.env)).all (fun x => !x.1) && (backToKw cpos (keywordEach [] X.env)).all (fun x => x.1.isSome)
      && decide ([b].length + ([] : List Keyword).length + (if ([] : List Keyword).isEmpty then 0 else 1) < 30)) = true := by rfl)
    (hline : (apos.endLine == cpos.line) = true := by rfl) (hs : starEach [b] X.env = (false, eval b X.env) :: starEach [] X.env := by rfl) (hplain : (backTo cpos (starEach [] X.env)).any (·.1) = false := by rfl) :
    PE X (.Call (.Attribute a "append" apos) [b] [] cpos) (tE v g W (.op .append [.ck 1 e1, e2])) :=
  e_lm1 hb PySem.F.slot_list_append PySem.F.type_list_append mt_append v_append ha hi hbase hfew hline hs hplain
end
end Ivy

/-! Ivy, part K: what loops walk; while, for, comprehensions. -/
namespace Ivy
open PySem PySem.Spec PyProof.Rows L2

/-! ### guards -/
mutual
theorem D.beq_eq : ∀ (a b : D), D.beq a b = true → a = b
  | .non, b, h => by cases b <;> simp_all [D.beq]
  | .bl x, b, h => by cases b <;> simp_all [D.beq]
  | .int x, b, h => by cases b <;> simp_all [D.beq]
  | .str x, b, h => by cases b <;> simp_all [D.beq]
  | .tup x, b, h => by
    cases b <;> simp [D.beq] at h
    rw [D.beqL_eq x _ h]
  | .rol x, b, h => by
    cases b <;> simp [D.beq] at h
    rw [D.beqL_eq x _ h]
  | .lst x, b, h => by
    cases b <;> simp [D.beq] at h
    rw [D.beqL_eq x _ h]
  | .dct x, b, h => by
    cases b <;> simp [D.beq] at h
    rw [D.beqK_eq x _ h]
  | .ref x, b, h => by cases b <;> simp_all [D.beq]
  | .exc c x, b, h => by
    cases b <;> simp [D.beq] at h
    rw [h.1, D.beqF_eq x _ h.2]
theorem D.beqL_eq : ∀ (a b : List D), D.beqL a b = true → a = b
  | [], b, h => by cases b <;> simp_all [D.beqL]
  | x :: xs, b, h => by
    cases b <;> simp [D.beqL] at h
    rw [D.beq_eq x _ h.1, D.beqL_eq xs _ h.2]
theorem D.beqK_eq : ∀ (a b : List (Ky × D)), D.beqK a b = true → a = b
  | [], b, h => by cases b <;> simp_all [D.beqK]
  | (k, x) :: xs, b, h => by
    cases b with
    | nil => simp [D.beqK] at h
    | cons p ys =>
      obtain ⟨j, y⟩ := p
      simp [D.beqK] at h
      rw [h.1, D.beq_eq x y h.2.1, D.beqK_eq xs ys h.2.2]
theorem D.beqF_eq : ∀ (a b : List (Tx × D)), D.beqF a b = true → a = b
  | [], b, h => by cases b <;> simp_all [D.beqF]
  | (k, x) :: xs, b, h => by
    cases b with
    | nil => simp [D.beqF] at h
    | cons p ys =>
      obtain ⟨j, y⟩ := p
      simp [D.beqF] at h
      rw [h.1, D.beq_eq x y h.2.1, D.beqF_eq xs ys h.2.2]
end
theorem C.beq_eq : ∀ (a b : C), C.beq a b = true → a = b
  | .lst x, b, h => by
    cases b <;> simp [C.beq] at h
    rw [D.beqL_eq x _ h]
  | .dct x, b, h => by
    cases b <;> simp [C.beq] at h
    rw [D.beqK_eq x _ h]
  | .ins c x, b, h => by
    cases b <;> simp [C.beq] at h
    rw [h.1, D.beqF_eq x _ h.2]
theorem gd_at {h : Hh} : ∀ {gd : List (Nat × C)} {n : Nat} {c : C}, gdOk h gd = true → (n, c) ∈ gd → h[n]? = some c
  | (m, d) :: r, n, c, e, z => by
    have e := Bool.and_eq_true_iff.mp (show ((match h[m]? with
      | some c' => C.beq d c'
      | none => false) && gdOk h r) = true from e)
    rcases List.mem_cons.mp z with z | z
    · obtain ⟨z1, z2⟩ := Prod.mk.inj z
      rw [z1, z2]
      have e1 := e.1
      cases q : h[m]? with
      | none => rw [q] at e1; cases e1
      | some c' => rw [q] at e1; rw [C.beq_eq d c' e1]
    · exact gd_at e.2 z
theorem gd_app {h : Hh} : ∀ {a b : List (Nat × C)}, gdOk h (a ++ b) = true → gdOk h a = true ∧ gdOk h b = true
  | [], b, e => ⟨rfl, e⟩
  | x :: a, b, e => by
    obtain ⟨n, c⟩ := x
    have e := Bool.and_eq_true_iff.mp (show ((match h[n]? with
      | some c' => C.beq c c'
      | none => false) && gdOk h (a ++ b)) = true from e)
    have r := gd_app e.2
    exact ⟨Bool.and_eq_true_iff.mpr ⟨e.1, r.1⟩, r.2⟩

/-! ### what is walked -/
structure Src1 (v : Ev) (s : Src) (J : L2.It) (ι0 : List Addr) (H0 : Hp) : Prop where
  go : ∀ ι H h i, Ext ι0 H0 ι H → HR v ι H h → gdOk h s.gd = true → i < s.ds.length → J.go i H
  stop : ∀ ι H h, Ext ι0 H0 ι H → HR v ι H h → gdOk h s.gd = true → J.stop s.ds.length H
  yld : ∀ ι H h i x H', Ext ι0 H0 ι H → HR v ι H h → gdOk h s.gd = true → i < s.ds.length → J.yld i H x H' → Ext ι H ι H' ∧ HR v ι H' h ∧ ∃ d, s.ds[i]? = some d ∧ RP v ι H' d x
def rrI (v : Ev) : RRel Src L2.It := fun ι _ H s J => Src1 v s J ι H
instance {v : Ev} : Back (rrI v) := ⟨fun _ r => r⟩
def tI (v : Ev) (g : G) (W : WX) (it : It) : TI := fun σ H R => ∃ ι δ h, HR v ι H h ∧ SR v ι H δ σ ∧ Go (rrI v) v ι H (evI g it δ h) R (fun c d H' => W c d σ H')
theorem PI.imp {X : Cx} {tg e : Expr} {t t' : TI} (h : PI X tg e t) (k : ∀ σ H R, t' σ H R → t σ H R) : PI X tg e t' := ⟨fun pins s σ H R I q => h.run pins s σ H R I (k σ H R q)⟩
theorem PI.or {X : Cx} {tg e : Expr} {t t' : TI} (h : PI X tg e t) (h' : PI X tg e t') : PI X tg e (fun σ H R => t σ H R ∨ t' σ H R) :=
  ⟨fun pins s σ H R I q => q.elim (h.run pins s σ H R I) (h'.run pins s σ H R I)⟩
section
variable {X : Cx} {v : Ev} {g : G} {W : WX} {a b c tg : Expr} {e1 e2 e3 : Ex} {es : List Expr} {pos p : Pos} {t1 : Te}
theorem src_tup {ι : List Addr} {H : Hp} {q : Addr} {ds : List D} {vs : List V} {K : PySem.W.Frag} (hK : K = v.K) (h1 : SqT v.K H q vs) (h2 : RPs v ι H ds vs) : Src1 v ⟨ds, []⟩ (Itt K q) ι H := by
  subst hK
  refine ⟨fun ι' H' h' i e _ _ hi => ?_, fun ι' H' h' e _ _ => ⟨vs, e.sqT h1, Nat.le_of_eq h2.length.symm⟩, fun ι' H' h' i x H'' e hr _ hi y => ?_⟩
  · have hi : i < vs.length := by rw [← h2.length]; exact hi
    exact ⟨vs, vs[i], e.sqT h1, List.getElem?_eq_getElem hi⟩
  · obtain ⟨rfl, y⟩ := y
    have hx := y vs (e.sqT h1)
    have hi : i < ds.length := hi
    obtain ⟨x', hx', r⟩ := h2.get (List.getElem?_eq_getElem hi)
    rw [hx] at hx'; cases hx'
    exact ⟨.refl, hr, ds[i], List.getElem?_eq_getElem hi, r.mono e⟩
/-- a list as it stands at each turn -/
theorem src_lst {ι : List Addr} {H : Hp} {q : Addr} {ds : List D} {gd : List (Nat × C)} {K : PySem.W.Frag} (hK : K = v.K) (k : ∀ ι' H' h', Ext ι H ι' H' → HR v ι' H' h' → gdOk h' gd = true → ∃ vs, SqL v.K H' q vs ∧ RPs v ι' H' ds vs) : Src1 v ⟨ds, gd⟩ (Itl K q) ι H := by
  subst hK
  refine ⟨fun ι' H' h' i e hr hg hi => ?_, fun ι' H' h' e hr hg => ?_, fun ι' H' h' i x H'' e hr hg hi y => ?_⟩
  · obtain ⟨vs, h1, h2⟩ := k ι' H' h' e hr hg
    have hi : i < vs.length := by rw [← h2.length]; exact hi
    exact ⟨vs, vs[i], h1, List.getElem?_eq_getElem hi⟩
  · obtain ⟨vs, h1, h2⟩ := k ι' H' h' e hr hg
    exact ⟨vs, h1, Nat.le_of_eq h2.length.symm⟩
  · obtain ⟨rfl, y⟩ := y
    obtain ⟨vs, h1, h2⟩ := k ι' _ h' e hr hg
    have hx := y vs h1
    have hi : i < ds.length := hi
    obtain ⟨x', hx', r⟩ := h2.get (List.getElem?_eq_getElem hi)
    rw [hx] at hx'; cases hx'
    exact ⟨.refl, hr, ds[i], List.getElem?_eq_getElem hi, r⟩
theorem src_str {ι : List Addr} {H : Hp} (z : Tx) : Src1 v ⟨z.map fun c => .str [c], []⟩ (Its (tx z)) ι H := by
  refine ⟨fun ι' H' h' i e _ _ hi => ?_, fun ι' H' h' e _ _ => ?_, fun ι' H' h' i x H'' e hr _ hi y => ?_⟩
  · have hi : i < (z.map fun c => D.str [c]).length := hi
    show i < z.toArray.size
    simpa using hi
  · show z.toArray.size ≤ (z.map fun c => D.str [c]).length
    simp
  · obtain ⟨rfl, c, hc, rfl⟩ := y
    have hc : z.toArray[i]? = some c := hc
    refine ⟨.refl, hr, .str [c], ?_, .str [c]⟩
    show (z.map fun c => D.str [c])[i]? = _
    simp at hc
    simp [hc]
theorem src_rng {ι : List Addr} {H : Hp} (lo c : Int) (n : Nat) : Src1 v ⟨rangeL lo n c, []⟩ (Itc lo c n) ι H := by
  have len : (rangeL lo n c).length = n := by simp [rangeL]
  refine ⟨fun ι' H' h' i e _ _ hi => ?_, fun ι' H' h' e _ _ => ?_, fun ι' H' h' i x H'' e hr _ hi y => ?_⟩
  · have hi : i < (rangeL lo n c).length := hi
    rw [len] at hi; exact hi
  · show n ≤ (rangeL lo n c).length
    rw [len]; exact Nat.le_refl _
  · obtain ⟨rfl, rfl⟩ := y
    have hi : i < (rangeL lo n c).length := hi
    rw [len] at hi
    refine ⟨.refl, hr, .int (lo + (i : Int) * c), ?_, .int _⟩
    show (rangeL lo n c)[i]? = _
    simp [rangeL, hi]
/-- a list's source, by its datum -/
theorem src_ls {ι : List Addr} {H H0 : Hp} {h : Hh} {d : D} {x : V} {s : Src} {K : PySem.W.Frag} (hK : K = v.K) (hr : HR v ι H h) (rx : rrE v ι H0 H d x) (e : srcL h d = some s) : ∃ q, x = .ref q ∧ (∃ xs, SqL K H q xs) ∧ Src1 v s (Itl K q) ι H := by
  subst hK
  unfold srcL at e
  split at e
  · cases e
    obtain ⟨q, vs, rfl, h2, h3, h4⟩ := (show RV v ι H (.lst _) x from rx.1)
    exact ⟨q, rfl, ⟨vs, SqL.of h3⟩, src_lst rfl fun ι' H' h' ex _ _ => ⟨vs, SqL.of (ex.fix q _ h3 fun z => absurd z h2), h4.mono ex⟩⟩
  · cases e
    cases (show RP v ι H (.rol _) x from rx.1) with
    | rol h1 h2 => exact ⟨_, rfl, ⟨_, h1.sq⟩, src_lst rfl fun ι' H' h' ex _ _ => ⟨_, (ex.roL h1).sq, h2.mono ex⟩⟩
  · rename_i n
    obtain ⟨q, rfl, hq⟩ := rv_ref rx
    split at e
    · rename_i xs eq
      cases e
      obtain ⟨vs, h1, h2⟩ := (show CR v ι H q (.lst _) from hr.cell n q _ hq eq)
      refine ⟨q, rfl, ⟨vs, SqL.of h1⟩, src_lst rfl fun ι' H' h' ex hr' hg => ?_⟩
      have z := gd_at hg (List.mem_cons_self ..)
      obtain ⟨vs', h3, h4⟩ := (show CR v ι' H' q (.lst _) from hr'.cell n q _ (ex.at hq) z)
      exact ⟨vs', SqL.of h3, h4⟩
    · cases e
  · cases e
theorem i_seq (hb : Cb X v W) (ha : PE X a (tE v g W e1)) : PI X tg a (tI v g W (.seq e1)) :=
  PI.imp (PI.or (pi_tup ha) (PI.or (pi_str ha) (pi_list ha))) fun σ H R ⟨ι, δ, h, hr, hs, go⟩ => by
    have e : evI g (.seq e1) δ h = (evE g e1 δ h).bind fun x h => match srcD h x with
      | some s => .ok s h
      | none => .no := by simp only [evI] <;> rfl
    rw [e] at go
    by_cases t1 : ∃ ds h', evE g e1 δ h = .ok (.tup ds) h'
    · obtain ⟨ds, h', q⟩ := t1
      refine .inl ⟨ι, δ, h, hr, hs, Go.bind (SS := rrE v) go fun d h1 ι1 H1 x r1 ex1 hr1 rx1 go1 => ?_⟩
      rw [q] at r1; cases r1
      obtain ⟨p, vs, rfl, s1, s2⟩ := rv_tup rx1
      exact ⟨p, rfl, ⟨vs, by rw [hb.hK]; exact s1⟩, Go.here (RR := rrI v) (show Go (rrI v) v ι1 H1 (.ok ⟨ds, []⟩ _) R _ from go1) hr1 (src_tup hb.hK s1 s2)⟩
    · by_cases t2 : ∃ z h', evE g e1 δ h = .ok (.str z) h'
      · obtain ⟨z, h', q⟩ := t2
        refine .inr (.inl ⟨ι, δ, h, hr, hs, Go.bind (SS := rrE v) go fun d h1 ι1 H1 x r1 ex1 hr1 rx1 go1 => ?_⟩)
        rw [q] at r1; cases r1
        exact ⟨_, rv_str rx1, Go.here (RR := rrI v) (show Go (rrI v) v ι1 H1 (.ok ⟨z.map fun c => .str [c], []⟩ _) R _ from go1) hr1 (src_str z)⟩
      · refine .inr (.inr ⟨ι, δ, h, hr, hs, Go.bind (SS := rrE v) go fun d h1 ι1 H1 x r1 ex1 hr1 rx1 go1 => ?_⟩)
        have e2 : srcD h1 d = srcL h1 d := by
          cases d with
          | tup ds => exact absurd ⟨_, _, r1⟩ t1
          | str z => exact absurd ⟨_, _, r1⟩ t2
          | _ => rfl
        rw [e2] at go1
        split at go1
        · rename_i s q
          obtain ⟨p, rfl, h1, h2⟩ := src_ls hb.hK hr1 rx1 q
          exact ⟨p, rfl, h1, Go.here (RR := rrI v) go1 hr1 h2⟩
        · exact go1.elim

/-! ### range: of any size -/
theorem turn_long {P : Program} {w : World} {K : PySem.W.Frag} {tg : Expr} (it : Addr) (lo c : Int) (n : Nat) : Turn P w K tg (Itc lo c n) [it] it (fun i h => IsLongIter h it (lo + (i : Nat) * c) ((n : Int) - (i : Nat)) c) where
  mem := List.mem_singleton.mpr rfl
  obj := fun i h st b hb => by
    rw [List.mem_singleton.mp hb]
    exact ⟨_, st, fun u z => nomatch z⟩
  keep := fun i h h' st k => k it (List.mem_singleton.mpr rfl) _ st
  item := by
    intro X e1 e2 e3 hc i pins s σ H E I hf st hg
    subst e1 e2 e3
    obtain ⟨f0, f1, f2, f3, f4, f5⟩ := hf it (List.mem_singleton.mpr rfl)
    refine (Walks.longrange (prog := X.prog) (w := X.w) (I.ok.hd hc) it lo c n).item i s _ _ hg st fun u h' tk hu st' kk => ?_
    obtain ⟨t, rfl⟩ := hu
    have I1 : Inv X pins σ H { s with heap := h', toks := tk } := I.turned (fun b o hb e => kk b o (fun z => hb (List.mem_singleton.mp z)) e) f0 f1 f3 f4 f5
    exact ⟨_, rfl, go_of (s := { s with heap := h', toks := tk }) (n := "longrange_iterator") st' rfl rfl (by decide) ⟨.int (lo + (i : Nat) * c), H, I1, ⟨t, rfl⟩, ⟨rfl, rfl⟩, st', fun b hb => (hf b hb).1⟩⟩
  done := by
    intro X e1 e2 e3 hc i pins s σ H E I hf st hg
    subst e1 e2 e3
    obtain ⟨f0, f1, f2, f3, f4, f5⟩ := hf it (List.mem_singleton.mpr rfl)
    exact wpAny_pyNext_long_end (I.ok.hd hc) st (by have : n ≤ i := hg; omega) fun h' eb => ⟨rfl, I.turned (t' := s.toks) (fun b o hb e => eb b o hb e) f0 f1 f3 f4 f5⟩
  self := fun _ _ _ _ _ st h => wpAny_pyIter_longiter st h
theorem rangeN_eq (a b c : Int) : Builtin.Range.rangeSize a b c = (rangeN a b c : Int) := by
  unfold Builtin.Range.rangeSize rangeN
  split
  · split
    · have : 0 ≤ (b - a - 1) / c := Int.ediv_nonneg (by omega) (by omega)
      omega
    · rfl
  · split
    · have : 0 ≤ (a - b - 1) / (-c) := Int.ediv_nonneg (by omega) (by omega)
      omega
    · rfl
theorem range_itA {pins : List (Addr × Obj)} {σ : L2.St} {H : Hp} {s : Shared} {R : L2.It → Hp → Prop} {E : Value → Shared → Prop} {lo hi c : Int} {t u w : Tok} {tk : Nat} (I : Inv X pins σ H s) (q : R (Itc lo c (rangeN lo hi c)) H) :
    wpAny (model X.prog X.w) X.A (pyIter (.ref s.heap.objs.size)) (PIE X pins σ tg R) E { s with heap := s.heap.push { cls := .type "range", data := .fields #[.int lo t, .int hi u, .int c w] }, toks := tk } := by
  have I2 : Inv X pins σ H { s with heap := s.heap.push { cls := .type "range", data := .fields #[.int lo t, .int hi u, .int c w] }, toks := tk } := I.kept fun b o e => Heap.get?_push_of_some _ e
  have z1 : lo + ((0 : Nat) : Int) * c = lo := by simp
  have z2 : ((rangeN lo hi c : Nat) : Int) - ((0 : Nat) : Int) = Builtin.Range.rangeSize lo hi c := by rw [rangeN_eq]; simp
  cases sm : Builtin.Range.small lo hi c with
  | true =>
    refine wpAny_pyIter_range (IsRange.new ..) sm ?_
    refine pi_one (tk := tk) I2 _ (turn_rangeC _ lo c (rangeN lo hi c)) ?_ q
    show IsRangeIter _ _ (lo + ((0 : Nat) : Int) * c) (((rangeN lo hi c : Nat) : Int) - ((0 : Nat) : Int)) c
    rw [z1, z2]
    exact Heap.get?_push_size _ rfl
  | false =>
    refine wpAny_pyIter_longrange (IsRange.new ..) sm ?_
    refine pi_one (tk := tk) I2 _ (turn_long _ lo c (rangeN lo hi c)) ?_ q
    show IsLongIter _ _ (lo + ((0 : Nat) : Int) * c) (((rangeN lo hi c : Nat) : Int) - ((0 : Nat) : Int)) c
    rw [z1, z2]
    exact Heap.get?_push_size _ rfl
/-- the reading of a range's arguments -/
def iRngA (ta : TA) : TI := fun σ H R => ta σ H fun vs H1 => (∃ j, vs = [.int j] ∧ R (Itc 0 1 (rangeN 0 j 1)) H1) ∨ ((∃ i j, vs = [.int i, .int j] ∧ R (Itc i 1 (rangeN i j 1)) H1) ∨ ∃ i j c, vs = [.int i, .int j, .int c] ∧ c ≠ 0 ∧ c.natAbs.log2 < 9000 ∧ R (Itc i c (rangeN i j c)) H1)
theorem pi_rngA {ta : TA} {x : Str} (hx : x = "range") (hg : Gl X x) (hm : X.mg x = none) (ha : PA X (a :: es) ta) (hs : starEach (a :: es) X.env = (false, eval a X.env) :: starEach es X.env := by rfl) (hpl : (backTo pos (starEach es X.env)).any (·.1) = false := by rfl) : PI X tg (.Call (.Name x p) (a :: es) [] pos) (iRngA ta) := by
  subst hx
  refine ⟨fun pins s σ H R I h => ?_⟩
  refine Call_ (ld_blt I hg hm boot_range (PyProof.Rows.callWith_type1 (thn (ha.run pos pins s σ H _ I h) fun us s1 ⟨vs, H1, I1, r1, q1⟩ => ?_) hs hpl))
  rcases q1 with ⟨j, rfl, q⟩ | ⟨i, j, rfl, q⟩ | ⟨i, j, c, rfl, c0, c1, q⟩
  · cases r1 with
    | cons r rr =>
      cases rr
      obtain ⟨t, rfl⟩ := r
      exact call_range_1 (range_itA I1 q)
  · cases r1 with
    | cons r rr =>
    cases rr with
    | cons r' rr =>
      cases rr
      obtain ⟨t, rfl⟩ := r
      obtain ⟨t', rfl⟩ := r'
      exact call_range_2 (range_itA I1 q)
  · cases r1 with
    | cons r rr =>
    cases rr with
    | cons r' rr =>
    cases rr with
    | cons r'' rr =>
      cases rr
      obtain ⟨t, rfl⟩ := r
      obtain ⟨t', rfl⟩ := r'
      obtain ⟨t'', rfl⟩ := r''
      exact call_range_3 c0 (range_itA I1 q) (.inl (PyProof.noPylong_of_log2 c1))
theorem rngS_ok {ι : List Addr} {H H0 : Hp} {h : Hh} {ds : List D} {xs : List V} {s : Src} {R : L2.It → Hp → Prop} {E : XK} (hr : HR v ι H h) (rx : rrL v ι H0 H ds xs) (e : rngS ds = some s) (go : Go (rrI v) v ι H (.ok s h) R E) :
    (∃ j, xs = [.int j] ∧ R (Itc 0 1 (rangeN 0 j 1)) H) ∨ ((∃ i j, xs = [.int i, .int j] ∧ R (Itc i 1 (rangeN i j 1)) H) ∨ ∃ i j c, xs = [.int i, .int j, .int c] ∧ c ≠ 0 ∧ c.natAbs.log2 < 9000 ∧ R (Itc i c (rangeN i j c)) H) := by
  unfold rngS at e
  split at e
  · cases e
    cases rx with
    | cons r1 t =>
      cases t
      rw [rv_int r1]
      exact .inl ⟨_, rfl, Go.here (RR := rrI v) go hr (src_rng _ _ _)⟩
  · cases e
    cases rx with
    | cons r1 t =>
    cases t with
    | cons r2 t =>
      cases t
      rw [rv_int r1, rv_int r2]
      exact .inr (.inl ⟨_, _, rfl, Go.here (RR := rrI v) go hr (src_rng _ _ _)⟩)
  · split at e
    · rename_i c
      cases e
      cases rx with
      | cons r1 t =>
      cases t with
      | cons r2 t =>
      cases t with
      | cons r3 t =>
        cases t
        rw [rv_int r1, rv_int r2, rv_int r3]
        have c0 := c.1
        exact .inr (.inr ⟨_, _, _, rfl, c0, (Nat.log2_lt (by omega)).mpr c.2, Go.here (RR := rrI v) go hr (src_rng _ _ _)⟩)
    · cases e
  · cases e
theorem i_rng {fs : List Ex} {x : Str} (hx : x = "range") (hg : Gl X x) (hm : X.mg x = none) (ha : PA X (a :: es) (tL v g W fs)) (hs : starEach (a :: es) X.env = (false, eval a X.env) :: starEach es X.env := by rfl) (hpl : (backTo pos (starEach es X.env)).any (·.1) = false := by rfl) :
    PI X tg (.Call (.Name x p) (a :: es) [] pos) (tI v g W (.rng fs)) := PI.imp (pi_rngA hx hg hm ha hs hpl) fun σ H R ⟨ι, δ, h, hr, hs, go⟩ => by
  have e : evI g (.rng fs) δ h = (evEs g fs δ h).bind fun xs h => match rngS xs with
    | some s => .ok s h
    | none => .no := by simp only [evI] <;> rfl
  rw [e] at go
  refine ⟨ι, δ, h, hr, hs, Go.bind (SS := rrL v) go fun ds h1 ι1 H1 xs r1 ex1 hr1 rx1 go1 => ?_⟩
  split at go1
  · rename_i s q
    exact rngS_ok hr1 rx1 q go1
  · exact go1.elim
end
end Ivy

/-! Ivy, part L: while, for, comprehensions. -/
namespace Ivy
open PySem PySem.Spec PyProof.Rows L2
section
variable {X : Cx} {v : Ev} {g : G} {W : WX} {a b c tg : Expr} {e1 e2 e3 : Ex} {es : List Expr} {pos p : Pos} {t1 : Te} {sts : List Stmt} {ss : List St} {t : Tg} {it : It}

theorem s_whl {ks : List Nat} (hp : PassesOwn (model X.prog X.w) X.A X.env X.xe) (hc : PT X c (tT v g W t1)) (hb : PSs X sts (tSs v g W ss)) : PS X (.While c sts [] pos) (tS v g W (.whl t1 ss ks)) :=
  PS.imp (ps_while hp hc hb) fun E σ H ⟨ι, δ, h, hr, hs, go⟩ => by
    have e : evS g (.whl t1 ss ks) δ h = lpW (evT g t1) ks (evSs g ss) g.w (wipeS δ ks) h := by simp only [evS]
    rw [e] at go
    refine ⟨fun n σ H => ∃ ι δ h, HR v ι H h ∧ SR v ι H δ σ ∧ GoS v W ι H (lpW (evT g t1) ks (evSs g ss) n δ h) E, ⟨g.w, ι, wipeS δ ks, h, hr, hs.wipe ks, go⟩, fun n σ1 H1 ⟨ι1, δ1, h1, hr1, hs1, go1⟩ => ?_⟩
    cases n with
    | zero => exact go1.elim
    | succ n =>
      refine ⟨ι1, δ1, h1, hr1, hs1, GoS.bind (SS := rrB) hs1 (show GoS v W ι1 H1 ((evT g t1 δ1 h1).go δ1 fun k h => if k = true then (match evSs g ss δ1 h with
        | .nx δ2 h2 => lpW (evT g t1) ks (evSs g ss) n (wipeS δ2 ks) h2
        | .cont δ2 h2 => lpW (evT g t1) ks (evSs g ss) n (wipeS δ2 ks) h2
        | .brk δ2 h2 => .nx (wipeS δ2 ks) h2
        | r => r) else .nx (wipeS δ1 ks) h) E from go1) fun k h2 ι2 H2 x r2 ex2 hr2 rx2 go2 => ?_⟩
      cases (show x = k from rx2)
      cases k with
      | false => exact go2 ι2 H2 σ1 .refl hr2 ((hs1.mono ex2).wipe ks)
      | true =>
        simp only [↓reduceIte] at go2 ⊢
        refine ⟨_, fun σ' H' w => ⟨n, Nat.lt_succ_self n, w⟩, ι2, δ1, h2, hr2, hs1.mono ex2, ?_⟩
        cases q : evSs g ss δ1 h2 with
        | nx δ2 h3 => rw [q] at go2; exact fun ι' H' σ' ex hr hs => ⟨ι', wipeS δ2 ks, h3, hr, hs.wipe ks, GoS.shift ex hr go2⟩
        | cont δ2 h3 => rw [q] at go2; exact fun ι' H' σ' ex hr hs => ⟨ι', wipeS δ2 ks, h3, hr, hs.wipe ks, GoS.shift ex hr go2⟩
        | brk δ2 h3 => rw [q] at go2; exact fun ι' H' σ' ex hr hs => go2 ι' H' σ' ex hr (hs.wipe ks)
        | ret d h3 => rw [q] at go2; exact go2
        | err c fs δ2 h3 => rw [q] at go2; exact go2
        | no => rw [q] at go2; exact go2
theorem s_for {ks : List Nat} (hp : PassesOwn (model X.prog X.w) X.A X.env X.xe) (hc : X.calm = true) (hi : PI X tg a (tI v g W it)) (hg : PG X tg (gT v t)) (hb : PSs X sts (tSs v g W ss))
    (hs : ∀ x, foldedSetIterable a X.env x = pure x := by intro _; rfl) : PS X (.For tg a sts [] pos) (tS v g W (.for t it ss ks)) :=
  PS.imp (ps_for hp hc hi hg hb hs) fun E σ H ⟨ι, δ, h, hr, hs, go⟩ => by
    have e : evS g (.for t it ss ks) δ h = (evI g it δ h).go δ fun s h => lpF s.gd t ks (evSs g ss) s.ds (wipeS δ ks) h := by simp only [evS]
    rw [e] at go
    refine ⟨ι, δ, h, hr, hs, GoS.bind (SS := rrI v) hs go fun s h1 ι1 H1 J r1 ex1 hr1 rj go1 => ?_⟩
    refine ⟨fun i m σ H => m = s.ds.length - i ∧ i ≤ s.ds.length ∧ ∃ ι δ h, Ext ι1 H1 ι H ∧ HR v ι H h ∧ SR v ι H δ σ ∧ GoS v W ι H (lpF s.gd t ks (evSs g ss) (s.ds.drop i) δ h) E,
      ⟨s.ds.length, rfl, Nat.zero_le _, ι1, wipeS δ ks, h1, .refl, hr1, (hs.mono ex1).wipe ks, go1⟩, ?_⟩
    rintro i m σ2 H2 ⟨rfl, hi, ι2, δ2, h2, ex2, hr2, hs2, go2⟩
    by_cases hlt : i < s.ds.length
    · rw [List.drop_eq_getElem_cons hlt] at go2
      have go2 : GoS v W ι2 H2 (if gdOk h2 s.gd = true then (match putT t s.ds[i] δ2 with
        | some δ' => (match evSs g ss δ' h2 with
          | .nx δ2 h2 => lpF s.gd t ks (evSs g ss) (s.ds.drop (i + 1)) (wipeS δ2 ks) h2
          | .cont δ2 h2 => lpF s.gd t ks (evSs g ss) (s.ds.drop (i + 1)) (wipeS δ2 ks) h2
          | .brk δ2 h2 => .nx (wipeS δ2 ks) h2
          | r => r)
        | none => .no) else .no) E := go2
      split at go2
      · rename_i gk
        refine .inr ⟨rj.go ι2 H2 h2 i ex2 hr2 gk hlt, _, fun σ' H' w => ⟨s.ds.length - (i + 1), by omega, w⟩, fun x H3 y => ?_⟩
        obtain ⟨ex3, hr3, d, hd, rd⟩ := rj.yld ι2 H2 h2 i x H3 ex2 hr2 gk hlt y
        rw [List.getElem?_eq_getElem hlt] at hd
        cases hd
        split at go2
        · rename_i δ' q
          refine ⟨ι2, δ2, h2, s.ds[i], δ', hr3, hs2.mono ex3, rd, q, fun σ4 hs4 _ => ⟨ι2, δ', h2, hr3, hs4, ?_⟩⟩
          have go3 := GoS.shift ex3 hr3 go2
          cases q : evSs g ss δ' h2 with
          | nx δ5 h5 => rw [q] at go3; exact fun ι' H' σ' ex hr hs => ⟨rfl, hlt, ι', wipeS δ5 ks, h5, (ex2.trans ex3).trans ex, hr, hs.wipe ks, GoS.shift ex hr go3⟩
          | cont δ5 h5 => rw [q] at go3; exact fun ι' H' σ' ex hr hs => ⟨rfl, hlt, ι', wipeS δ5 ks, h5, (ex2.trans ex3).trans ex, hr, hs.wipe ks, GoS.shift ex hr go3⟩
          | brk δ5 h5 => rw [q] at go3; exact fun ι' H' σ' ex hr hs => go3 ι' H' σ' ex hr (hs.wipe ks)
          | ret d h3 => rw [q] at go3; exact go3
          | err c fs δ2 h3 => rw [q] at go3; exact go3
          | no => rw [q] at go3; exact go3
        · exact go2.elim
      · exact go2.elim
    · have e : i = s.ds.length := by omega
      subst e
      rw [List.drop_length] at go2
      have go2 : GoS v W ι2 H2 (if gdOk h2 s.gd = true then .nx (wipeS δ2 ks) h2 else .no) E := go2
      split at go2
      · rename_i gk
        exact .inl ⟨rj.stop ι2 H2 h2 ex2 hr2 gk, go2 ι2 H2 σ2 .refl hr2 (hs2.wipe ks)⟩
      · exact go2.elim

/-! ### comprehensions -/
/-! the new list, ahead of the tracked cells, grows -/
mutual
theorem RP.swap {ι : List Addr} {H : Hp} {A : Addr} {o : HO} {acc : List V} (hA : H A = some (.lst acc)) : ∀ {d : D} {x : V}, RP v ι H d x → RP v ι (upd H A o) d x
  | _, _, .non => .non
  | _, _, .bl b => .bl b
  | _, _, .int i => .int i
  | _, _, .str x => .str x
  | _, _, .tup h r => .tup (by
    rcases h with (h | ⟨o, h⟩) | h
    · exact .inl (.inl (by rw [upd_ne fun z => by subst z; rw [hA] at h; cases h]; exact h))
    · exact .inl (.inr ⟨o, by rw [upd_ne fun z => by subst z; rw [hA] at h; cases h]; exact h⟩)
    · exact .inr h) (RPs.swap hA r)
  | _, _, .rol h r => .rol (by
    rcases h with ⟨o, h⟩ | h
    · exact .inl ⟨o, by rw [upd_ne fun z => by subst z; rw [hA] at h; cases h]; exact h⟩
    · exact .inr h) (RPs.swap hA r)
  | _, _, .ref h => .ref h
  | _, _, .exc (fs := fs) h => .exc (fs := fs) h
  | _, _, .exd h1 h2 h3 r => .exd h1 (by rw [upd_ne fun z => by subst z; rw [hA] at h2; cases h2]; exact h2) h3 (RPs.swap hA r)
theorem RPs.swap {ι : List Addr} {H : Hp} {A : Addr} {o : HO} {acc : List V} (hA : H A = some (.lst acc)) : ∀ {ds : List D} {xs : List V}, RPs v ι H ds xs → RPs v ι (upd H A o) ds xs
  | _, _, .nil => .nil
  | _, _, .cons h r => .cons (RP.swap hA h) (RPs.swap hA r)
end
theorem HR.swap {ι : List Addr} {H : Hp} {h : Hh} {A : Addr} {o : HO} {acc : List V} (r : HR v ι H h) (hA : H A = some (.lst acc)) (nA : A ∉ ι) : HR v ι (upd H A o) h := ⟨r.len, r.nd, fun n p cc h1 h2 => by
  have q := r.cell n p cc h1 h2
  have ne : p ≠ A := fun z => nA (z ▸ List.mem_of_getElem? h1)
  cases cc with
  | lst ds => obtain ⟨vs, z1, z2⟩ := q; exact ⟨vs, by rw [upd_ne ne]; exact z1, z2.swap hA⟩
  | dct ds => obtain ⟨vs, z1, z2⟩ := q; exact ⟨vs, by rw [upd_ne ne]; exact z1, z2.1, z2.2.swap hA⟩
  | ins c' ds => obtain ⟨dx, vs, z0, z1, z2⟩ := q; exact ⟨dx, vs, z0, by rw [upd_ne ne]; exact z1, z2.1, z2.2.swap hA⟩⟩
theorem SR.swap {ι : List Addr} {H : Hp} {δ : Sl} {σ : L2.St} {A : Addr} {o : HO} {acc : List V} (r : SR v ι H δ σ) (hA : H A = some (.lst acc)) : SR v ι (upd H A o) δ σ := ⟨r.1, fun i d hd =>
  let ⟨x, h1, h2⟩ := r.2 i d hd
  ⟨x, h1, h2.swap hA⟩⟩
theorem Ext.put {ι ι' : List Addr} {H H' : Hp} {A : Addr} {o : HO} (e : Ext ι H ι' H') (hA : H A = none) : Ext ι H ι' (upd H' A o) :=
  ⟨e.pre, fun q o' hq hm => by rw [upd_ne fun z => by subst z; rw [hA] at hq; cases hq]; exact e.fix q o' hq hm, fun q o' hq hp => by
    obtain ⟨o2, h1, h2⟩ := e.kin q o' hq hp
    exact ⟨o2, by rw [upd_ne fun z => by subst z; rw [hA] at hp; cases hp]; exact h1, h2⟩⟩
theorem Ext.out {ι ι' : List Addr} {H H' : Hp} {A : Addr} {o : HO} (e : Ext ι H ι' H') (hA : H A = some o) (nA : A ∉ ι) : A ∉ ι' ∧ H' A = some o := by
  refine ⟨?_, e.fix A o hA fun z => absurd z nA⟩
  obtain ⟨m, rfl, hm⟩ := e.pre
  intro z
  rcases List.mem_append.mp z with z | z
  · exact nA z
  · rw [(hm A z).1] at hA; cases hA
theorem wipe_len2 {σ : L2.St} : ∀ {vs : List Nat}, (L2.wipe σ vs).length = σ.length
  | [] => rfl
  | k :: vs => by unfold L2.wipe; rw [List.length_set, wipe_len2]
theorem SR.wipe2 {ι : List Addr} {H : Hp} {δ : Sl} {σ : L2.St} (r : SR v ι H δ σ) : ∀ vs : List Nat, SR v ι H (wipeS δ vs) (L2.wipe σ vs)
  | [] => r
  | k :: vs => by
    have q := SR.wipe2 r vs
    refine ⟨by rw [wipeS, L2.wipe, List.length_set, List.length_set]; exact q.1, fun j d hd => ?_⟩
    rw [wipeS] at hd
    rw [L2.wipe]
    by_cases hj : k = j
    · subst hj
      by_cases hi : k < (wipeS δ vs).length
      · rw [List.getElem?_set_self hi] at hd; cases hd
      · rw [List.getElem?_eq_none (by rw [List.length_set]; omega)] at hd; cases hd
    · rw [List.getElem?_set_ne hj] at hd ⊢
      exact q.2 j d hd
theorem wipe_get {σ : L2.St} {j : Nat} : ∀ {vs : List Nat}, j ∉ vs → (L2.wipe σ vs)[j]? = σ[j]?
  | [], _ => rfl
  | k :: vs, h => by
    rw [L2.wipe, List.getElem?_set_ne fun z => h (by simp [z])]
    exact wipe_get fun z => h (List.mem_cons_of_mem _ z)
theorem wipe_in {σ : L2.St} {j : Nat} : ∀ {vs : List Nat}, j ∈ vs → j < σ.length → (L2.wipe σ vs)[j]? = some none
  | k :: vs, h, hl => by
    rw [L2.wipe]
    by_cases z : k = j
    · subst z
      rw [List.getElem?_set_self (by rw [wipe_len2]; exact hl)]
    · rw [List.getElem?_set_ne z]
      exact wipe_in ((List.mem_cons.mp h).resolve_left fun y => z y.symm) hl
/-- the slots that a target stored are forgotten alike -/
theorem wipe_off {σ σ2 : L2.St} {is vs : List Nat} (o : Off is (L2.wipe σ vs) σ2) (hs : ∀ i ∈ is, i ∈ vs) : L2.wipe σ2 vs = L2.wipe σ vs := by
  refine List.ext_getElem? fun j => ?_
  have l2 : σ2.length = σ.length := by rw [o.1, wipe_len2]
  by_cases hj : j ∈ vs
  · by_cases hl : j < σ.length
    · rw [wipe_in hj hl, wipe_in hj (by rw [l2]; exact hl)]
    · rw [List.getElem?_eq_none (by rw [wipe_len2, l2]; omega), List.getElem?_eq_none (by rw [wipe_len2]; omega)]
  · rw [wipe_get hj, o.2 j fun z => hj (hs j z)]
/-- no exception leaves it -/
def Wn : WX := fun _ _ _ _ => False
theorem go_calm {α β : Type} {RR : RRel α β} {ι : List Addr} {H : Hp} {r : R α} {Q : β → Hp → Prop} {E E' : XK} (go : Go RR v ι H r.calm Q E) : Go RR v ι H r Q E' := by
  cases r with
  | ok d h => exact go
  | err c fs h => exact go.elim
  | no => exact go
theorem calm_bind {α β : Type} (r : R α) (k : α → Hh → R β) : (r.bind k).calm = r.calm.bind fun a h => (k a h).calm := by cases r <;> rfl
theorem ts_nil : PTs X [] (tTs v g W []) := ⟨fun pins s σ H Q I ⟨ι, δ, h, hr, hs, go⟩ => pts_nil.run pins s σ H Q I (by
  have e : evTs g [] δ h = .ok true h := by simp only [evTs]
  rw [e] at go
  exact Go.here (RR := rrB) go hr rfl)⟩
theorem ts_one (hc : PT X c (tT v g W t1)) : PTs X [c] (tTs v g W [t1]) := ⟨fun pins s σ H Q I ⟨ι, δ, h, hr, hs, go⟩ => (pts_one hc).run pins s σ H Q I (by
  have e : evTs g [t1] δ h = (evT g t1 δ h).bind fun k h => if k = true then .ok true h else .ok false h := by simp only [evTs]
  rw [e] at go
  refine ⟨ι, δ, h, hr, hs, Go.bind (SS := rrB) go fun k h1 ι1 H1 x r1 ex1 hr1 rx1 go1 => ?_⟩
  cases (show x = k from rx1)
  cases k with
  | true => exact Go.here (RR := rrB) (show Go rrB v ι1 H1 (.ok true h1) Q _ from go1) hr1 rfl
  | false => exact Go.here (RR := rrB) (show Go rrB v ι1 H1 (.ok false h1) Q _ from go1) hr1 rfl)⟩
theorem lpC_calm {gd : List (Nat × C)} {step : D → Hh → R (Option D)} : ∀ {xs : List D} {h : Hh} {c : Nat} {fs : List (Tx × D)} {h' : Hh}, lpC gd step xs h ≠ .err c fs h'
  | [], h, c, fs, h', e => by
    unfold lpC whenR at e
    split at e <;> cases e
  | x :: xs, h, c, fs, h', e => by
    unfold lpC whenR at e
    split at e
    · cases q : step x h with
      | ok y h1 =>
        rw [q] at e
        have e : ((lpC gd step xs h1).bind fun ys h => .ok (match y with
          | some y => y :: ys
          | none => ys) h) = .err c fs h' := e
        cases q2 : lpC gd step xs h1 with
        | ok ys h2 => rw [q2] at e; cases e
        | err c fs h' => exact lpC_calm q2
        | no => rw [q2] at e; cases e
      | err _ _ _ => rw [q] at e; cases e
      | no => rw [q] at e; cases e
    · cases e
/-- one turn -/
def cpS (g : G) (t : Tg) (cs : List Te) (e : Ex) (δ : Sl) (x : D) (h : Hh) : R (Option D) := match putT t x δ with
    | some δ' => (evTs g cs δ' h).bind fun k h => if k = true then (evE g e δ' h).bind fun y h => whenR (D.pers y) (.ok (some y) h) else .ok none h
    | none => .no
def cpF (acc ys : List D) (h : Hh) : R D := whenR (decide ((acc ++ ys).length ≤ cells)) (.ok (.lst (acc ++ ys)) h)
theorem evE_comp {own : List Nat} {cs : List Te} {δ : Sl} {h : Hh} : evE g (.comp own t it cs e1) δ h = (evI g it δ h).bind fun src h => (lpC src.gd (cpS g t cs e1 (wipeS δ own)) src.ds h).bind fun ys h => cpF [] ys h := by
  simp only [evE]
  rfl
theorem lpC_cons {gd : List (Nat × C)} {step : D → Hh → R (Option D)} {x : D} {xs acc : List D} {h : Hh} {ι : List Addr} {H : Hp} {Q : VK} {E : XK} (go : Go (rrE v) v ι H ((lpC gd step (x :: xs) h).bind fun ys h => cpF acc ys h) Q E) :
    gdOk h gd = true ∧ ((∃ y h1, step x h = .ok (some y) h1 ∧ acc.length < cells ∧ Go (rrE v) v ι H ((lpC gd step xs h1).bind fun ys h => cpF (acc ++ [y]) ys h) Q E) ∨ ∃ h1, step x h = .ok none h1 ∧ Go (rrE v) v ι H ((lpC gd step xs h1).bind fun ys h => cpF acc ys h) Q E) := by
  unfold lpC at go
  cases gk : gdOk h gd with
  | false => rw [gk] at go; exact go.elim
  | true =>
    rw [gk] at go
    refine ⟨rfl, ?_⟩
    cases q : step x h with
    | err _ _ _ => rw [q] at go; exact go.elim
    | no => rw [q] at go; exact go.elim
    | ok y h1 =>
      rw [q] at go
      have go : Go (rrE v) v ι H (((lpC gd step xs h1).bind fun ys h => .ok (match (generalizing := false) y with
          | some y => y :: ys
          | none => ys) h).bind fun ys h => cpF acc ys h) Q E := go
      rw [R.assoc] at go
      cases y with
      | none => exact .inr ⟨h1, rfl, go⟩
      | some y =>
        refine .inl ⟨y, h1, rfl, ?_⟩
        cases q2 : lpC gd step xs h1 with
        | err c fs h' => exact absurd q2 lpC_calm
        | no => rw [q2] at go; exact go.elim
        | ok ys h2 =>
          rw [q2] at go
          have go : Go (rrE v) v ι H (cpF acc (y :: ys) h2) Q E := go
          have go2 := go_when go
          have le := of_decide_eq_true go2.1
          refine ⟨?_, ?_⟩
          · rw [List.length_append, List.length_cons] at le; omega
          · show Go (rrE v) v ι H (cpF (acc ++ [y]) ys h2) Q E
            unfold cpF at go ⊢
            rw [List.append_assoc]
            exact go
theorem l_comp {vs : List Nat} {cs : List Te} {σ : L2.St} {H : Hp} {Q : VK} (hv : ∀ i ∈ Tg.ns t, i ∈ vs) (q : tE v g W (.comp vs t it cs e1) σ H Q) : tLc (tI v g W it) (gT v t) (tTs v g Wn cs) (tE v g Wn e1) vs σ H Q := by
  obtain ⟨ι, δ, h, hr, hs, go⟩ := q
  rw [evE_comp] at go
  refine ⟨ι, δ, h, hr, hs, Go.bind (SS := rrI v) go fun s h1 ι1 H1 J r1 ex1 hr1 rj go1 => ?_⟩
  intro A hA
  have hs1 := hs.mono ex1
  refine ⟨fun i m H => m = s.ds.length - i ∧ i ≤ s.ds.length ∧ ∃ ι h acc dacc, Ext ι1 H1 ι H ∧ HR v ι H h ∧ A ∉ ι ∧ H A = some (.lst acc) ∧ RPs v ι H dacc acc ∧
      Go (rrE v) v ι1 H1 ((lpC s.gd (cpS g t cs e1 (wipeS δ vs)) (s.ds.drop i) h).bind fun ys h => cpF dacc ys h) Q (fun c d H' => W c d σ H'),
    ⟨s.ds.length, rfl, Nat.zero_le _, ι1, h1, [], [], ext_new hA, hr1.new hA, hr1.notIn hA, upd_same, .nil, go1⟩, ?_⟩
  rintro i m H2 ⟨rfl, hi, ι2, h2, acc, dacc, ex2, hr2, nA, eA, ra, go2⟩
  by_cases hlt : i < s.ds.length
  · rw [List.drop_eq_getElem_cons hlt] at go2
    obtain ⟨gk, step⟩ := lpC_cons go2
    refine .inr ⟨rj.go ι2 H2 h2 i ex2 hr2 gk hlt, _, fun H' w => ⟨s.ds.length - (i + 1), by omega, w⟩, fun x H3 y => ?_⟩
    obtain ⟨ex3, hr3, d, hd, rd⟩ := rj.yld ι2 H2 h2 i x H3 ex2 hr2 gk hlt y
    rw [List.getElem?_eq_getElem hlt] at hd
    cases hd
    obtain ⟨nA3, eA3⟩ := ex3.out eA nA
    have ra3 := ra.mono ex3
    have ex13 := ex2.trans ex3
    have hsw : SR v ι2 H3 (wipeS δ vs) (L2.wipe σ vs) := (hs1.mono ex13).wipe2 vs
    cases q : putT t s.ds[i] (wipeS δ vs) with
    | none =>
      rcases step with ⟨y, h4, e, _⟩ | ⟨h4, e, _⟩
      · unfold cpS at e; rw [q] at e; cases e
      · unfold cpS at e; rw [q] at e; cases e
    | some δ' =>
      have es : cpS g t cs e1 (wipeS δ vs) s.ds[i] h2 = (evTs g cs δ' h2).bind fun k h => if k = true then (evE g e1 δ' h).bind fun y h => whenR (D.pers y) (.ok (some y) h) else .ok none h := by
        unfold cpS; rw [q]
      rw [es] at step
      refine ⟨ι2, wipeS δ vs, h2, s.ds[i], δ', hr3, hsw, rd, q, fun σ4 hs4 off => ⟨wipe_off off hv, ι2, δ', h2, hr3, hs4, ?_⟩⟩
      cases q1 : evTs g cs δ' h2 with
      | err _ _ _ => rw [q1] at step; rcases step with ⟨y, h4, e, _⟩ | ⟨h4, e, _⟩ <;> cases e
      | no => rw [q1] at step; rcases step with ⟨y, h4, e, _⟩ | ⟨h4, e, _⟩ <;> cases e
      | ok k h5 =>
        rw [q1] at step
        rw [R.okb] at step
        intro ι5 H5 x5 ex5 hr5 rx5
        cases (show x5 = k from rx5)
        obtain ⟨nA5, eA5⟩ := ex5.out eA3 nA3
        have ra5 := ra3.mono ex5
        have ex15 := ex13.trans ex5
        cases k with
        | false =>
          rcases step with ⟨y, h4, e, _⟩ | ⟨h4, e, go4⟩
          · cases e
          · cases e
            exact ⟨rfl, hlt, ι5, h5, acc, dacc, ex15, hr5, nA5, eA5, ra5, go4⟩
        | true =>
          rw [if_pos rfl] at step ⊢
          refine ⟨ι5, δ', h5, hr5, hs4.mono ex5, ?_⟩
          cases q2 : evE g e1 δ' h5 with
          | err _ _ _ => rw [q2] at step; rcases step with ⟨y, h4, e, _⟩ | ⟨h4, e, _⟩ <;> cases e
          | no => rw [q2] at step; rcases step with ⟨y, h4, e, _⟩ | ⟨h4, e, _⟩ <;> cases e
          | ok y h6 =>
            rw [q2] at step
            rw [R.okb] at step
            intro ι6 H6 x6 ex6 hr6 rx6
            obtain ⟨nA6, eA6⟩ := ex6.out eA5 nA5
            have ra6 := ra5.mono ex6
            have ex16 := ex15.trans ex6
            cases py : D.pers y with
            | false => rw [py] at step; rcases step with ⟨y, h4, e, _⟩ | ⟨h4, e, _⟩ <;> cases e
            | true =>
              rw [py] at step
              rcases step with ⟨y', h4, e, hl, go4⟩ | ⟨h4, e, _⟩
              · cases e
                refine ⟨acc, eA6, by rw [← ra6.length, ← cells_eq]; exact hl, rfl, hlt, ι6, h6, acc ++ [x6], dacc ++ [y], ex16.put hA, hr6.swap eA6 nA6, nA6, upd_same, ?_, go4⟩
                exact (ra6.swap eA6).app (.cons ((rx6.1.rp py).swap eA6) .nil)
              · cases e
  · have e : i = s.ds.length := by omega
    subst e
    rw [List.drop_length] at go2
    unfold lpC at go2
    cases gk : gdOk h2 s.gd with
    | false => rw [gk] at go2; exact go2.elim
    | true =>
      rw [gk] at go2
      refine .inl ⟨rj.stop ι2 H2 h2 ex2 hr2 gk, ?_⟩
      have go2 : Go (rrE v) v ι1 H1 (cpF dacc [] h2) Q _ := go2
      unfold cpF at go2
      obtain ⟨_, go2⟩ := go_when go2
      rw [List.append_nil] at go2
      exact go2 ι2 H2 _ ex2 hr2 ⟨⟨A, acc, rfl, nA, eA, ra⟩, fun a e => by cases e; exact hA⟩
theorem e_comp {elt : Expr} {ifs : List Expr} {scope : Scope} {own : List (Str × Nat)} {vs : List Nat} {cs : List Te} (hc : X.calm = true) (hN : X.N.Nodup) (hi : PI X tg a (tI v g W it)) (ok : BlkOk X.N X.env.scope scope own)
    (hg : ∀ (s : Shared) (H : Hp) (C : Addr) (cl : List (Str × Addr)) (fp : List Addr), PG (X.blk s H scope (compEnvC scope cl C X.env) fp) tg (gT v t)) (ht : ∀ (s : Shared) (H : Hp) (C : Addr) (cl : List (Str × Addr)) (fp : List Addr), PTs (X.blk s H scope (compEnvC scope cl C X.env) fp) ifs (tTs v g Wn cs))
    (he : ∀ (s : Shared) (H : Hp) (C : Addr) (cl : List (Str × Addr)) (fp : List Addr), PE (X.blk s H scope (compEnvC scope cl C X.env) fp) elt (tE v g Wn e1)) (hv : ∀ i ∈ Tg.ns t, i ∈ vs) (ho : own.map (·.2) = vs := by rfl) (hs : ∀ x, foldedSetIterable a X.env x = pure x := by intro _; rfl) :
    PE X (.ListComp elt [⟨tg, a, ifs, 0⟩] scope pos) (tE v g W (.comp vs t it cs e1)) := by
  subst ho
  exact PE.imp (pe_lc hc hN hi ok hg ht he hs) fun σ H Q q => l_comp hv q
/-- x = [..] where the old x may be used up -/
theorem s_setLc {i : Nat} {y : Str} {py spos : Pos} {elt : Expr} {ifs : List Expr} {scope : Scope} {own : List (Str × Nat)} {vs : List Nat} {cs : List Te} (hc : X.calm = true) (hN : X.N.Nodup) (hy : X.N[i]? = some y) (hyl : X.env.scope.names.lookup y = some .local)
    (hsw : swapsWith (.ListComp elt [⟨tg, a, ifs, 0⟩] scope pos) (some (.Name y py)) spos.line X.env = pure true) (hi : PI X tg a (tI v g W it)) (ok : BlkOk X.N X.env.scope scope own)
    (hg : ∀ (s : Shared) (H : Hp) (C : Addr) (cl : List (Str × Addr)) (fp : List Addr), PG (X.blk s H scope (compEnvC scope cl C X.env) fp) tg (gT v t)) (ht : ∀ (s : Shared) (H : Hp) (C : Addr) (cl : List (Str × Addr)) (fp : List Addr), PTs (X.blk s H scope (compEnvC scope cl C X.env) fp) ifs (tTs v g Wn cs))
    (he : ∀ (s : Shared) (H : Hp) (C : Addr) (cl : List (Str × Addr)) (fp : List Addr), PE (X.blk s H scope (compEnvC scope cl C X.env) fp) elt (tE v g Wn e1)) (hv : ∀ i ∈ Tg.ns t, i ∈ vs) (ho : own.map (·.2) = vs := by rfl) (hs : ∀ x, foldedSetIterable a X.env x = pure x := by intro _; rfl) :
    PS X (.Assign [.Name y py] (.ListComp elt [⟨tg, a, ifs, 0⟩] scope pos) spos) (tS v g W (.asg (.name i) (.box (.comp vs t it cs e1)))) := by
  subst ho
  exact PS.imp (ps_setLc hc hN hy hyl hsw hi ok hg ht he hs) fun E σ H q => l_comp hv (l_box (l_set q))
end
end Ivy

/-! Ivy, part M: calls of defs, what a def promises, a def's end. -/
namespace Ivy
open PySem PySem.Spec PyProof.Rows L2

/-! ### old cells -/
theorem lowF_map {n : Nat} : ∀ {fs : List (Tx × D)}, D.lowF n fs = D.lowL n (fs.map (·.2))
  | [] => by simp [D.lowF, D.lowL]
  | (_, d) :: fs => by simp only [D.lowF, D.lowL, List.map_cons]; rw [lowF_map]
theorem lowK_map {n : Nat} : ∀ {fs : List (Ky × D)}, D.lowK n fs = D.lowL n (fs.map (·.2))
  | [] => by simp [D.lowK, D.lowL]
  | (_, d) :: fs => by simp only [D.lowK, D.lowL, List.map_cons]; rw [lowK_map]
section
variable {v : Ev} {ι m : List Addr} {H H' : Hp} {h : Hh}
mutual
theorem RP.low : ∀ {d : D} {x : V}, RP v ι H d x → D.low ι.length d = true
  | _, _, .non => by simp [D.low]
  | _, _, .bl b => by simp [D.low]
  | _, _, .int i => by simp [D.low]
  | _, _, .str x => by simp [D.low]
  | _, _, .tup h r => by simp only [D.low]; exact RPs.low r
  | _, _, .rol h r => by simp only [D.low]; exact RPs.low r
  | _, _, .ref h => by simp only [D.low]; exact decide_eq_true (List.getElem?_eq_some_iff.mp h).1
  | _, _, .exc h => by simp [D.low, D.lowF]
  | _, _, .exd (fs := fs) h1 h2 h3 r => by simp only [D.low]; rw [lowF_map]; exact RPs.low r
theorem RPs.low : ∀ {ds : List D} {xs : List V}, RPs v ι H ds xs → D.lowL ι.length ds = true
  | _, _, .nil => by simp [D.lowL]
  | _, _, .cons h r => by simp only [D.lowL, Bool.and_eq_true]; exact ⟨RP.low h, RPs.low r⟩
end
mutual
theorem RP.old : ∀ {d : D} {x : V}, RP v (ι ++ m) H d x → D.low ι.length d = true → RP v ι H d x
  | _, _, .non, _ => .non
  | _, _, .bl b, _ => .bl b
  | _, _, .int i, _ => .int i
  | _, _, .str x, _ => .str x
  | _, _, .tup h r, l => .tup h (RPs.old r (by simpa only [D.low] using l))
  | _, _, .rol h r, l => .rol h (RPs.old r (by simpa only [D.low] using l))
  | _, _, .ref h, l => .ref (by
    have l := of_decide_eq_true (by simpa only [D.low] using l)
    rw [List.getElem?_append_left l] at h; exact h)
  | _, _, .exc (fs := fs) h, _ => .exc (fs := fs) h
  | _, _, .exd h1 h2 h3 r, l => .exd h1 h2 h3 (RPs.old r (by simp only [D.low] at l; rw [lowF_map] at l; exact l))
theorem RPs.old : ∀ {ds : List D} {xs : List V}, RPs v (ι ++ m) H ds xs → D.lowL ι.length ds = true → RPs v ι H ds xs
  | _, _, .nil, _ => .nil
  | _, _, .cons h r, l => by
    simp only [D.lowL, Bool.and_eq_true] at l
    exact .cons (RP.old h l.1) (RPs.old r l.2)
end
theorem CR.low {a : Addr} {c : C} (q : CR v ι H a c) : C.low ι.length c = true := by
  cases c with
  | lst ds => obtain ⟨vs, _, r⟩ := q; exact r.low
  | dct ds => obtain ⟨vs, _, r⟩ := q; simp only [C.low]; rw [lowK_map]; exact r.2.low
  | ins c ds => obtain ⟨dx, vs, _, _, r⟩ := q; simp only [C.low]; rw [lowF_map]; exact r.2.low
theorem CR.old {a : Addr} {c : C} (q : CR v (ι ++ m) H a c) (l : C.low ι.length c = true) : CR v ι H a c := by
  cases c with
  | lst ds => obtain ⟨vs, z, r⟩ := q; exact ⟨vs, z, r.old l⟩
  | dct ds => obtain ⟨vs, z, r⟩ := q; simp only [C.low] at l; rw [lowK_map] at l; exact ⟨vs, z, r.1, r.2.old l⟩
  | ins c ds => obtain ⟨dx, vs, z0, z, r⟩ := q; simp only [C.low] at l; rw [lowF_map] at l; exact ⟨dx, vs, z0, z, r.1, r.2.old l⟩
theorem trim_at {n : Nat} : ∀ {h g : Hh} {i : Nat} {c c' : C}, trimOk n h g = true → h[i]? = some c → g[i]? = some c' → c = c' ∨ C.low n c' = true
  | [], _, i, c, c', _, e, _ => by simp at e
  | _ :: _, [], i, c, c', _, _, e => by simp at e
  | a :: h, b :: g, 0, c, c', t, e, e' => by
    simp at e e'; subst e e'
    have t := (Bool.and_eq_true_iff.mp (show ((C.beq a b || C.low n b) && trimOk n h g) = true from t)).1
    rcases (Bool.or_eq_true _ _).mp t with t | t
    · exact .inl (C.beq_eq a b t)
    · exact .inr t
  | a :: h, b :: g, i + 1, c, c', t, e, e' => by
    have t := (Bool.and_eq_true_iff.mp (show ((C.beq a b || C.low n b) && trimOk n h g) = true from t)).2
    exact trim_at t (by simpa using e) (by simpa using e')
/-- the old cells alone -/
theorem HR.trim {g : Hh} (r0 : HR v ι H h) (r : HR v (ι ++ m) H' g) (t : trimOk h.length h g = true) : HR v ι H' (g.take h.length) := by
  have hl : ι.length = h.length := r0.len
  have hg : (ι ++ m).length = g.length := r.len
  refine ⟨by rw [List.length_take, ← hg, List.length_append]; omega, r0.nd, fun i a c h1 h2 => ?_⟩
  have hi : i < ι.length := (List.getElem?_eq_some_iff.mp h1).1
  rw [List.getElem?_take_of_lt (by omega)] at h2
  have q := r.cell i a c (by rw [List.getElem?_append_left hi]; exact h1) h2
  have hc : h[i]? = some h[i] := List.getElem?_eq_getElem (by omega)
  refine q.old ?_
  rcases trim_at t hc h2 with e | e
  · rw [← e]; exact (r0.cell i a _ h1 hc).low
  · rw [hl]; exact e
theorem Ext.cut {ι' : List Addr} (e : Ext ι H ι' H') : Ext ι H ι H' := ⟨⟨[], by simp, fun _ z => nomatch z⟩, e.fix, e.kin⟩
/-- a new cell handed back becomes a fresh one -/
theorem lift_ok {g : Hh} {d : D} {x : V} (hl : ι.length = h.length) (r : HR v (ι ++ m) H' g) (hm : ∀ b ∈ m, H b = none ∧ b ∉ ι) (rx : rrE v (ι ++ m) H H' d x) (l : D.low h.length (lift h.length g d) = true) : rrE v ι H H' (lift h.length g d) x := by
  have keep : ∀ {d : D}, rrE v (ι ++ m) H H' d x → D.low h.length d = true → rrE v ι H H' d x := fun {d} rx l => by
    rw [← hl] at l
    cases d with
    | lst ds =>
      obtain ⟨a, vs, e, h2, h3, h4⟩ := (show RV v (ι ++ m) H' (.lst ds) x from rx.1)
      exact ⟨⟨a, vs, e, fun z => h2 (List.mem_append_left _ z), h3, h4.old (by simpa only [D.low] using l)⟩, rx.2⟩
    | dct ds =>
      obtain ⟨a, vs, e, h2, h3, h4⟩ := (show RV v (ι ++ m) H' (.dct ds) x from rx.1)
      exact ⟨⟨a, vs, e, fun z => h2 (List.mem_append_left _ z), h3, h4.1, h4.2.old (by simp only [D.low] at l; rw [lowK_map] at l; exact l)⟩, rx.2⟩
    | non => exact ⟨RP.old (show RP v (ι ++ m) H' .non x from rx.1) l, trivial⟩
    | bl b => exact ⟨RP.old (show RP v (ι ++ m) H' (.bl b) x from rx.1) l, trivial⟩
    | int b => exact ⟨RP.old (show RP v (ι ++ m) H' (.int b) x from rx.1) l, trivial⟩
    | str b => exact ⟨RP.old (show RP v (ι ++ m) H' (.str b) x from rx.1) l, trivial⟩
    | tup b => exact ⟨RP.old (show RP v (ι ++ m) H' (.tup b) x from rx.1) l, trivial⟩
    | rol b => exact ⟨RP.old (show RP v (ι ++ m) H' (.rol b) x from rx.1) l, trivial⟩
    | ref b => exact ⟨RP.old (show RP v (ι ++ m) H' (.ref b) x from rx.1) l, trivial⟩
    | exc c b => exact ⟨RP.old (show RP v (ι ++ m) H' (.exc c b) x from rx.1) l, trivial⟩
  cases d with
  | ref n =>
    unfold lift at l ⊢
    simp only at l ⊢
    split at l
    · rename_i hn
      obtain ⟨a, rfl, ha⟩ := rv_ref rx
      have hin : a ∈ m := by
        rw [List.getElem?_append_right (by omega)] at ha
        exact List.mem_of_getElem? ha
      split at l
      · rename_i xs q
        obtain ⟨vs, h1, h2⟩ := (show CR v (ι ++ m) H' a (.lst xs) from r.cell n a _ ha q)
        rw [if_pos hn]
        rw [← hl] at l
        exact ⟨⟨a, vs, rfl, (hm a hin).2, h1, h2.old (by simpa only [D.low] using l)⟩, fun b e => by cases e; exact (hm a hin).1⟩
      · rename_i xs q
        obtain ⟨vs, h1, h2⟩ := (show CR v (ι ++ m) H' a (.dct xs) from r.cell n a _ ha q)
        rw [if_pos hn]
        rw [← hl] at l
        exact ⟨⟨a, vs, rfl, (hm a hin).2, h1, h2.1, h2.2.old (by simp only [D.low] at l; rw [lowK_map] at l; exact l)⟩, fun b e => by cases e; exact (hm a hin).1⟩
      · have := of_decide_eq_true (show decide (n < h.length) = true by simpa only [D.low] using l)
        omega
    · rename_i hn
      rw [if_neg hn]
      exact keep rx l
  | _ => exact keep rx l
end

/-! ### what a def promises -/
def spD (v : Ev) (F : List D → Hh → R D) (np : Nat) : Sp := fun vs H Q E => ∃ ι h ds, HR v ι H h ∧ RPs v ι H ds vs ∧ ds.length = np ∧ Go (rrE v) v ι H (F ds h) Q E
section
variable {v : Ev} {ι : List Addr} {H : Hp} {h : Hh} {Q : VK} {E : XK}
theorem endF_ok {r : Rs} (hr : HR v ι H h) (go : Go (rrE v) v ι H (endF h r) Q E) : GoS v (fun c d _ H => E c d H) ι H r { nx := fun _ H' => Q .non H', rt := Q } := by
  have hl := hr.len
  have fin : ∀ {d : D} {g : Hh} {ι' : List Addr} {H' : Hp} {x : V}, Go (rrE v) v ι H (finish h d g) Q E → Ext ι H ι' H' → HR v ι' H' g → rrE v ι' H H' d x → Q x H' := fun {d g ι' H' x} go ex hr' rx => by
    unfold finish at go
    split at go
    · exact go ι' H' x ex hr' rx
    · split at go
      · rename_i c
        rw [Bool.and_eq_true] at c
        obtain ⟨m, rfl, hm⟩ := ex.pre
        exact go ι H' x ex.cut (hr.trim hr' c.2) (lift_ok hl hr' hm rx c.1)
      · exact go ι' H' x ex hr' rx
  cases r with
  | nx δ g => exact fun ι' H' σ' ex hr' _ => fin go ex hr' ⟨.non, trivial⟩
  | ret d g => exact fun ι' H' x ex hr' rx => fin go ex hr' rx
  | brk δ g => exact go.elim
  | cont δ g => exact go.elim
  | no => exact go.elim
  | err c fs δ g =>
    intro ι' H' σ' cls dd ex hr' hs rx
    have go : Go (rrE v) v ι H (finishX h c fs g) Q E := go
    unfold finishX at go
    split at go
    · exact go ι' H' cls dd ex hr' rx
    · split at go
      · rename_i cc
        rw [Bool.and_eq_true] at cc
        obtain ⟨m, rfl, hm⟩ := ex.pre
        refine go ι H' cls dd ex.cut (hr.trim hr' cc.2) ⟨rx.1, ?_⟩
        have rx2 := rx.2
        cases dd with
        | none => exact rx2
        | some d =>
          obtain ⟨fvs, vs, z1, z2, z3⟩ := rx2
          refine ⟨fvs, vs, z1, z2, z3.old ?_⟩
          have := cc.1
          rw [lowF_map, ← hl] at this
          exact this
      · exact go ι' H' cls dd ex hr' rx
theorem start_ok {N : List Str} {ns : Nat} {ds : List D} {vs : List V} (hN : N.length = ns) (r : RPs v ι H ds vs) (hle : ds.length ≤ ns) : SR v ι H (ds.map some ++ List.replicate (ns - ds.length) none) (start N vs) := by
  unfold L2.start
  have hl := r.length
  refine ⟨by simp [hN, hl], fun i d hd => ?_⟩
  by_cases hi : i < ds.length
  · rw [List.getElem?_append_left (by simpa using hi), List.getElem?_map] at hd
    cases q : ds[i]? with
    | none => rw [q] at hd; cases hd
    | some d' =>
      rw [q] at hd
      cases hd
      obtain ⟨x, hx, rx⟩ := r.get q
      refine ⟨x, ?_, rx⟩
      rw [List.getElem?_append_left (by rw [List.length_map, ← hl]; exact hi), List.getElem?_map, hx]
      rfl
  · rw [List.getElem?_append_right (by simpa using hi)] at hd
    rw [List.getElem?_replicate] at hd
    split at hd <;> cases hd
/-- a body that reads so keeps the promise -/
theorem body_ok {g : G} {fn : Fn} {N : List Str} {vs : List V} {np : Nat} (hN : N.length = fn.ns) (hle : fn.np ≤ fn.ns) (hs : spD v (runF g fn) np vs H Q E) :
    tSs v g (fun c d _ H => E c d H) fn.body { nx := fun _ H' => Q .non H', rt := Q } (start N vs) H := by
  obtain ⟨ι, h, ds, hr, rs, hl, go⟩ := hs
  unfold runF at go
  split at go
  · rename_i e
    exact ⟨ι, startS fn ds, h, hr, start_ok hN rs (by omega), endF_ok hr go⟩
  · exact go.elim
end

/-! ### calls -/
def pickL {α : Type} (ds : List α) (perm : List Nat) : List α := perm.filterMap fun i => ds[i]?
theorem pick_rps {v : Ev} {ι : List Addr} {H : Hp} {ds : List D} {vs : List V} (r : RPs v ι H ds vs) : ∀ perm : List Nat, RPs v ι H (pick ds perm) (pickL vs perm)
  | [] => .nil
  | i :: perm => by
    unfold pick pickL
    rw [List.filterMap_cons, List.filterMap_cons]
    have ih := pick_rps r perm
    cases q : ds[i]? with
    | none =>
      have : vs[i]? = none := by
        rw [List.getElem?_eq_none_iff] at q ⊢
        rw [← r.length]; exact q
      rw [this]
      exact ih
    | some d =>
      obtain ⟨x, hx, rx⟩ := r.get q
      rw [hx]
      exact .cons rx ih
theorem pick_vals {vs : List V} {us : List Value} (r : Vals vs us) : ∀ perm : List Nat, Vals (pickL vs perm) (pickL us perm)
  | [] => .nil
  | i :: perm => by
    unfold pickL
    rw [List.filterMap_cons, List.filterMap_cons]
    have ih := pick_vals r perm
    cases q : vs[i]? with
    | none =>
      have : us[i]? = none := by
        rw [List.getElem?_eq_none_iff] at q ⊢
        rw [← r.length]; exact q
      rw [this]
      exact ih
    | some x =>
      obtain ⟨u, hu, ru⟩ := r.get q
      rw [hu]
      exact .cons ru ih
/-- how n values and keywords are bound -/
def KBp (fd : FuncData) (ps ks : List Str) (n : Nat) (perm : List Nat) : Prop := ∀ (s : Shared) (us ws : List Value), us.length = n → ws.length = ks.length → BindsTo s fd ⟨us, ks.zip ws⟩ (ps.zip (pickL (us ++ ws) perm))
section
variable {X : Cx} {v : Ev} {g : G} {W : WX} {a : Expr} {es : List Expr} {fs fs2 : List Ex} {pos p : Pos} {x : Str} {k f n : Nat} {fa : Addr} {fd : FuncData} {ps ks : List Str} {kws : List Keyword} {perm : List Nat}
theorem evEs_len : ∀ {fs : List Ex} {δ : Sl} {h h' : Hh} {ds : List D}, evEs g fs δ h = .ok ds h' → ds.length = fs.length
  | [], δ, h, h', ds, e => by simp only [evEs] at e; cases e; rfl
  | f :: fs, δ, h, h', ds, e => by
    simp only [evEs] at e
    cases q : evE g f δ h with
    | err _ _ _ => rw [q] at e; cases e
    | no => rw [q] at e; cases e
    | ok d h1 =>
      rw [q, R.okb] at e
      cases q2 : evEs g fs δ h1 with
      | err _ _ _ => rw [q2] at e; cases e
      | no => rw [q2] at e; cases e
      | ok es h2 =>
        rw [q2] at e
        cases e
        rw [List.length_cons, List.length_cons, evEs_len q2]
theorem evE_call {δ : Sl} {h : Hh} : evE g (.call f fs perm) δ h = (evEs g fs δ h).bind fun ds h => whenR (persL ds) (g.fn f (match perm with
    | [] => ds
    | _ => pick ds perm) h) := by simp only [evE] <;> rfl
theorem e_call (hb : Cb X v W) (F : FnOk X.prog X.w X.K X.mg X.base (L2.CX X.prog X.w) k fa fd ps (spD v (g.fn f) ps.length)) (hr : Room k X.A) (hg : Gl X x) (hm : X.mg x = some (.ref fa)) (hk : PySem.W.keepIn X.K (.ref fa) = true) (hbi : Binds X.K fd ps [])
    (ha : PA X (a :: es) (tL v g W fs)) (hdb : (x == ("__debug__" : Str)) = false := by decide) (hl : fs.length = ps.length := by rfl) (he : starEach (a :: es) X.env = (false, eval a X.env) :: starEach es X.env := by rfl) (hpl : (backTo pos (starEach es X.env)).any (·.1) = false := by rfl) :
    PE X (.Call (.Name x p) (a :: es) [] pos) (tE v g W (.call f fs [])) :=
  PE.imp (pe_callSD F hr hg hm hk hbi .nil (E := WE W) (fun σ => passAt hb.tk σ) ha hdb he hpl) fun σ H Q ⟨ι, δ, h, hr, hs, go⟩ => by
    rw [evE_call] at go
    refine ⟨ι, δ, h, hr, hs, Go.bind (SS := rrL v) go fun ds h1 ι1 H1 xs r1 ex1 hr1 rx1 go1 => ?_⟩
    obtain ⟨c, go1⟩ := go_when go1
    have rs := rx1.rps c
    rw [List.append_nil]
    refine ⟨ι1, h1, ds, hr1, rs, ?_, go1⟩
    rw [← hl]
    exact evEs_len r1
theorem run_kb {E : L2.St → XK} {pins : List (Addr × Obj)} {σ : L2.St} {H : Hp} {s : Shared} {Q : VK} {us ws : List Value} {vs zs : List V} {sp : Sp} (F : FnOk X.prog X.w X.K X.mg X.base (L2.CX X.prog X.w) k fa fd ps sp) (hr : Room k X.A) (hb : KBp fd ps ks n perm) (hx : ∀ σ, PassesAt (L2.CX X.prog X.w) X σ (E σ))
    (I : Inv X pins σ H s) (r : Vals vs us) (rz : Vals zs ws) (l1 : us.length = n) (l2 : ws.length = ks.length) (h : sp (pickL (vs ++ zs) perm) H Q (E σ)) : wpAny (model X.prog X.w) X.A (call (.ref fa) us (ks.zip ws)) (EP X pins σ Q) X.xe s := by
  refine wpAny_call (codeAny_mono (F.run X.A X.stack s H ⟨us, ks.zip ws⟩ _ _ Q (E σ) hr I.env0 (hb s us ws l1 l2) (pick_vals (r.append rz) perm) h) fun res s' hq => ?_)
  cases res with
  | error e => exact hx σ pins H s e s' I hq
  | ok fl =>
    cases fl with
    | ret u => exact I.after hq
    | next => exact hq.elim
    | brk => exact hq.elim
    | cont => exact hq.elim
/-- keywords' values -/
theorem k_nil : PK X [] (tL v g W []) := ⟨fun pos pins s σ H Q I ⟨ι, δ, h, hr, hs, go⟩ => pk_nil.run pos pins s σ H Q I (go.here hr .nil)⟩
theorem k_cons {nm : Option Str} {kp : Pos} {e1 : Ex} (ha : PE X a (tE v g W e1)) (hr : PK X kws (tL v g W fs)) : PK X (⟨nm, a, kp⟩ :: kws) (tL v g W (e1 :: fs)) :=
  ⟨fun pos pins s σ H Q I t => (pk_cons ha hr).run pos pins s σ H Q I (l_cons t)⟩
theorem evEs_app : ∀ {fs fs2 : List Ex} {δ : Sl} {h : Hh}, evEs g (fs ++ fs2) δ h = (evEs g fs δ h).bind fun xs h => (evEs g fs2 δ h).bind fun ys h => .ok (xs ++ ys) h
  | [], fs2, δ, h => by
    simp only [evEs, List.nil_append]
    rw [R.okb]
    cases evEs g fs2 δ h <;> rfl
  | f :: fs, fs2, δ, h => by
    simp only [List.cons_append, evEs]
    cases evE g f δ h with
    | err _ _ _ => rfl
    | no => rfl
    | ok d h1 =>
      rw [R.okb, R.okb, evEs_app]
      cases evEs g fs δ h1 with
      | err _ _ _ => rfl
      | no => rfl
      | ok es h2 =>
        show ((R.bind (evEs g fs2 δ h2) fun ys h => .ok (es ++ ys) h).bind fun xs h => .ok (d :: xs) h) = R.bind (evEs g fs2 δ h2) fun ys h => .ok (d :: es ++ ys) h
        cases evEs g fs2 δ h2 <;> rfl
theorem rrL.app {ι : List Addr} {H0 H : Hp} : ∀ {ds es : List D} {xs ys : List V}, rrL v ι H0 H ds xs → rrL v ι H0 H es ys → rrL v ι H0 H (ds ++ es) (xs ++ ys)
  | _, _, _, _, .nil, s => s
  | _, _, _, _, .cons r t, s => .cons r (rrL.app t s)
/-- f(a, .., k = b, ..) -/
theorem e_callK (hb : Cb X v W) (F : FnOk X.prog X.w X.K X.mg X.base (L2.CX X.prog X.w) k fa fd ps (spD v (g.fn f) ps.length)) (hr : Room k X.A) (hg : Gl X x) (hm : X.mg x = some (.ref fa)) (hk : PySem.W.keepIn X.K (.ref fa) = true) (hbi : KBp fd ps ks fs.length perm)
    (ha : PA X (a :: es) (tL v g W fs)) (hkw : PK X kws (tL v g W fs2)) (hn : perm ≠ []) (hlen : ∀ ds : List D, ds.length = fs.length + fs2.length → (pick ds perm).length = ps.length) (hl2 : fs2.length = ks.length := by rfl)
    (hall : (backToKw pos (keywordEach kws X.env)).all (·.1.isSome) = true := by rfl) (hks : (backToKw pos (keywordEach kws X.env)).filterMap (·.1) = ks := by rfl)
    (hdb : (x == ("__debug__" : Str)) = false := by decide) (he : starEach (a :: es) X.env = (false, eval a X.env) :: starEach es X.env := by rfl)
    (hpl : ((backTo pos (starEach (a :: es) X.env)).any (·.1) || (backToKw pos (keywordEach kws X.env)).any (·.1.isNone)) = false := by rfl) :
    PE X (.Call (.Name x p) (a :: es) kws pos) (tE v g W (.call f (fs ++ fs2) perm)) := by
  refine ⟨fun pins s σ H Q I ⟨ι, δ, h, hr', hs, go⟩ => ?_⟩
  rw [evE_call, evEs_app, R.assoc] at go
  have t1 : tL v g W fs σ H fun xs H1 => tL v g W fs2 σ H1 fun ys H2 => xs.length = fs.length ∧ ys.length = fs2.length ∧ spD v (g.fn f) ps.length (pickL (xs ++ ys) perm) H2 Q (WE W σ) := by
    refine ⟨ι, δ, h, hr', hs, Go.bind (SS := rrL v) go fun ds h1 ι1 H1 xs r1 ex1 hr1 rx1 go1 => ?_⟩
    rw [R.assoc] at go1
    refine ⟨ι1, δ, h1, hr1, hs.mono ex1, Go.bind (SS := rrL v) go1 fun es h2 ι2 H2 ys r2 ex2 hr2 ry2 go2 => ?_⟩
    rw [R.okb] at go2
    obtain ⟨c, go2⟩ := go_when go2
    have rs := ((rx1.mono ex2).app (ry2.back fun p hp => ex1.back hr1 hp)).rps c
    have l1 := evEs_len r1
    have l2 := evEs_len r2
    refine ⟨?_, ?_, ι2, h2, pick (ds ++ es) perm, hr2, pick_rps rs perm, hlen _ (by rw [List.length_append, l1, l2]), ?_⟩
    · have := rs.length
      have z := (rx1.rps (by unfold persL at c ⊢; rw [List.all_append, Bool.and_eq_true] at c; exact c.1)).length
      rw [← z, l1]
    · have z := (ry2.rps (by unfold persL at c ⊢; rw [List.all_append, Bool.and_eq_true] at c; exact c.2)).length
      rw [← z, l2]
    · cases perm with
      | nil => exact absurd rfl hn
      | cons i perm => exact go2
  refine wpAny_Call_Name_kw (ld_glob I hg hm ?_ hdb)
  refine PySem.W.callWith_KW (h₀ := X.base) I.ok.mod.kin hk hall (thn (ha.run pos pins s σ H _ I t1) fun us s1 ⟨vs, H1, I1, r, q⟩ => ?_) hpl he
  refine thn (hkw.run pos pins s1 σ H1 _ I1 q) fun ws s2 ⟨zs, H2, I2, rz, q1, q2, q3⟩ => ⟨I2.kIn, ?_⟩
  rw [hks]
  exact run_kb F hr hbi (fun σ => passAt hb.tk σ) I2 r rz (by rw [List.nil_append, ← r.length]; exact q1) (by rw [← rz.length, q2, hl2]) q3
theorem e_callKO (hb : Cb X v W) (F : FnOk X.prog X.w X.K X.mg X.base (L2.CX X.prog X.w) k fa fd ps (spD v (g.fn f) ps.length)) (hr : Room k X.A) (hg : Gl X x) (hm : X.mg x = some (.ref fa)) (hk : PySem.W.keepIn X.K (.ref fa) = true) (hbi : KBp fd ps ks 0 perm)
    (hkw : PK X kws (tL v g W fs2)) (hn : perm ≠ []) (hlen : ∀ ds : List D, ds.length = fs2.length → (pick ds perm).length = ps.length) (hl2 : fs2.length = ks.length := by rfl)
    (hall : (backToKw pos (keywordEach kws X.env)).all (·.1.isSome) = true := by rfl) (hks : (backToKw pos (keywordEach kws X.env)).filterMap (·.1) = ks := by rfl) (hdb : (x == ("__debug__" : Str)) = false := by decide)
    (hpl : ((backTo pos (starEach [] X.env)).any (·.1) || (backToKw pos (keywordEach kws X.env)).any (·.1.isNone)) = false := by rfl) :
    PE X (.Call (.Name x p) [] kws pos) (tE v g W (.call f fs2 perm)) := by
  refine ⟨fun pins s σ H Q I ⟨ι, δ, h, hr', hs, go⟩ => ?_⟩
  rw [evE_call] at go
  have t1 : tL v g W fs2 σ H fun ys H2 => ys.length = fs2.length ∧ spD v (g.fn f) ps.length (pickL ([] ++ ys) perm) H2 Q (WE W σ) := by
    refine ⟨ι, δ, h, hr', hs, Go.bind (SS := rrL v) go fun ds h1 ι1 H1 xs r1 ex1 hr1 rx1 go1 => ?_⟩
    obtain ⟨c, go1⟩ := go_when go1
    have rs := rx1.rps c
    have l1 := evEs_len r1
    refine ⟨by rw [← rs.length, l1], ι1, h1, pick ds perm, hr1, pick_rps rs perm, hlen _ l1, ?_⟩
    cases perm with
    | nil => exact absurd rfl hn
    | cons i perm => exact go1
  refine wpAny_Call_Name_kw (ld_glob I hg hm ?_ hdb)
  refine PySem.W.callWith_KW0 (h₀ := X.base) I.ok.mod.kin hk hall ?_ hpl
  refine thn (hkw.run pos pins s σ H _ I t1) fun ws s2 ⟨zs, H2, I2, rz, q2, q3⟩ => ⟨I2.kIn, ?_⟩
  rw [hks]
  exact run_kb (us := []) F hr hbi (fun σ => passAt hb.tk σ) I2 .nil rz rfl (by rw [← rz.length, q2, hl2]) q3
end
end Ivy

/-! Ivy, part N: contexts, a try whose body raises nothing, all defs at every level. -/
namespace Ivy
open PySem PySem.Spec PyProof.Rows L2
section
variable {X : Cx} {v : Ev} {g : G} {W : WX} {pos : Pos} {sts : List Stmt} {ss : List St}
theorem Cc.nox (h : Cc X v W) : Cc X.nox v Wn := ⟨⟨h.hK, fun u s' ⟨a, B, sI, pins, σ, H, cls, d, e, I, nb, up, sky, na, os, ag, w⟩ => w.elim, h.nd, h.hu⟩, h.calm, PassesOwn.never⟩
theorem Cc.blk (h : Cc X v W) {s : Shared} {H : Hp} {scope : Scope} {env : Env} {fp : List Addr} : Cc (X.blk s H scope env fp) v Wn := ⟨⟨h.hK, fun u s' ⟨a, B, sI, pins, σ, H, cls, d, e, I, nb, up, sky, na, os, ag, w⟩ => w.elim, h.nd, h.hu⟩, h.calm, PassesOwn.never⟩
/-- a try whose body raises nothing -/
theorem s_thru {h₀ : ExceptHandler} {hs : List ExceptHandler} (hb : PSs X.nox sts (tSs v g Wn ss)) : PS X (.Try sts (h₀ :: hs) [] [] pos) (tS v g W (.thru ss)) :=
  PS.imp (ps_try_thru0 hb) fun E σ H ⟨ι, δ, h, hr, hs, go⟩ => by
    have e : evS g (.thru ss) δ h = (match evSs g ss δ h with
      | .err _ _ _ _ => .no
      | r => r) := by simp only [evS] <;> rfl
    rw [e] at go
    refine ⟨ι, δ, h, hr, hs, ?_⟩
    cases q : evSs g ss δ h with
    | err _ _ _ _ => rw [q] at go; exact go.elim
    | nx δ h => rw [q] at go; exact go
    | brk δ h => rw [q] at go; exact go
    | cont δ h => rw [q] at go; exact go
    | ret d h => rw [q] at go; exact go
    | no => rw [q] at go; exact go
end
section
variable {P : Program} {w : World} {K : PySem.W.Frag} {mg : Str → Option Value} {base : Heap} {N : List Str} {qual : Str} {scope : Scope} {f : Addr} {cd : Value} {A : Around} {outer : List Env} {s : Shared} {H : Hp} {E : XK} {v : Ev} {k : Nat}
/-- a def's own context -/
theorem cc_def (hK : K = v.K) (hN : N.Nodup) (hr : Room k (A.deeper (envOfC qual scope s.heap.objs.size f cd))) : Cc (cxOf (L2.CX P w) P w K mg base N qual scope f cd A outer s H E) v (fun c d _ H => E c d H) :=
  ⟨⟨hK, takes_of rfl rfl rfl rfl, hN, by have := hr.un; show (A.deeper (envOfC qual scope s.heap.objs.size f cd)).units + 80 < cLine; omega⟩, rfl, passes_of rfl⟩
end
/-- all defs keep their promises at a level -/
def Lv (P : Program) (w : World) (K : PySem.W.Frag) (mg : Str → Option Value) (base : Heap) (v : Ev) (Pr : Pg) (fa : Nat → Addr) (fd : Nat → FuncData) (ps : Nat → List Str) (N n : Nat) : Prop :=
  ∀ i, i < N → FnOk P w K mg base (L2.CX P w) (n + 1) (fa i) (fd i) (ps i) (spD v (callF Pr n i) (ps i).length)
theorem spD_len {v : Ev} {F : List D → Hh → R D} {np : Nat} {vs : List V} {H : Hp} {Q : VK} {E : XK} (h : spD v F np vs H Q E) : vs.length = np := by
  obtain ⟨ι, h, ds, hr, rs, hl, go⟩ := h
  rw [← rs.length, hl]
theorem lv_zero {P : Program} {w : World} {K : PySem.W.Frag} {mg : Str → Option Value} {base : Heap} {v : Ev} {Pr : Pg} {fa : Nat → Addr} {fd : Nat → FuncData} {ps : Nat → List Str} {N : Nat} : Lv P w K mg base v Pr fa fd ps N 0 := fun i _ =>
  ⟨fun vs H Q E h => spD_len h, fun A outer s H args us vs Q E hr e0 hb r h => by
    obtain ⟨ι, h, ds, _, _, _, go⟩ := h
    exact go.elim⟩
theorem callF_succ {Pr : Pg} {n i : Nat} {fn : Fn} (h : Pr.fns[i]? = some fn) (ds : List D) (hh : Hh) : callF Pr (n + 1) i ds hh = runF (Pr.g n) fn ds hh := by
  show (match Pr.fns[i]? with
    | some fn => runF ⟨callF Pr n, Pr.cs, Pr.sub, Pr.w⟩ fn ds hh
    | none => .no) = _
  rw [h]
  rfl
/-- one def at the next level, from its body's reading -/
theorem lv_fn {P : Program} {w : World} {K : PySem.W.Frag} {mg : Str → Option Value} {base : Heap} {v : Ev} {Pr : Pg} {n i : Nat} {fn : Fn} {x qual : Str} {params : Arguments} {body : List Stmt} {scope : Scope} {f : Addr} {fd : FuncData} {N ps : List Str}
    (hv : K = v.K) (hp : Pr.fns[i]? = some fn) (F : FunD K x qual params body scope [] [] f fd) (S : FnScope N ps scope) (hN : N.length = fn.ns) (hle : fn.np ≤ fn.ns)
    (hbody : ∀ (cdv : Value) (A : Around) (outer : List Env) (s : Shared) (H : Hp) (E : XK), Room (n + 1) (cxOf (L2.CX P w) P w K mg base N qual scope f cdv A outer s H E).A → Cc (cxOf (L2.CX P w) P w K mg base N qual scope f cdv A outer s H E) v (fun c d _ H => E c d H) →
      PSs (cxOf (L2.CX P w) P w K mg base N qual scope f cdv A outer s H E) body (tSs v (Pr.g n) (fun c d _ H => E c d H) fn.body)) :
    FnOk P w K mg base (L2.CX P w) (n + 2) f fd ps (spD v (callF Pr (n + 1) i) ps.length) := by
  refine F.ok S (fun vs H Q E h => spD_len h) fun cdv A outer s H vs Q E hr hsp => ⟨_, hbody cdv A outer s H E hr (cc_def hv S.nd hr), ?_⟩
  have e : (fun ds hh => callF Pr (n + 1) i ds hh) = fun ds hh => runF (Pr.g n) fn ds hh := funext fun ds => funext fun hh => callF_succ hp ds hh
  have hsp : spD v (runF (Pr.g n) fn) ps.length vs H Q E := by
    have e2 : callF Pr (n + 1) i = runF (Pr.g n) fn := e
    rw [← e2]; exact hsp
  exact body_ok hN hle hsp
/-- keywords are bound so -/
theorem kb_of {K : PySem.W.Frag} {x qual : Str} {params : Arguments} {body : List Stmt} {scope : Scope} {f : Addr} {fd : FuncData} {ps ks : List Str} {n : Nat} {perm : List Nat} (F : FunD K x qual params body scope [] [] f fd)
    (h : ∀ (kV doc pm : Value) (an : Option Addr) (cdv ct : Value) (us ws : List Value), us.length = n → ws.length = ks.length → bindArgs (PySem.W.fnOf x qual params body scope .none kV doc pm an cdv ct) ⟨us, ks.zip ws⟩ = pure (ps.zip (pickL (us ++ ws) perm))) : KBp fd ps ks n perm := by
  obtain ⟨oc, od, dV, kV, doc, pm, an, cdv, ct, osl, rfl, lk, hcd, hD, hK⟩ := F.ex
  rcases hD with ⟨_, rfl⟩ | ⟨e, _⟩
  · exact fun s us ws h1 h2 => .of_eq (h kV doc pm an cdv ct us ws h1 h2)
  · exact absurd rfl e
/-- the law: from its answer to the head's wish -/
theorem law_sp {v : Ev} {F : List D → Hh → R D} (hF : ∀ ns : List Int, ns.length ≤ 63 → ∃ h', F [.rol (ns.map .int)] [] = .ok (.bl true) h') {H : Hp} {a : Addr} {ns : List Int} (hl : ns.length ≤ 63) (ho : Only H) (hs : SqL v.K H a (ns.map V.int)) :
    spD v F 1 [.ref a] H (fun x _ => x = .bl true) fun _ _ _ => False := by
  have ro : RoL v.K H a (ns.map V.int) := by
    rcases hs with (h | h) | h
    · rcases ho a with z | ⟨o, xs, z⟩
      · rw [z] at h; cases h
      · rw [z] at h; cases h
    · exact .inl h
    · exact .inr h
  have rp : ∀ ns : List Int, RPs v [] H (ns.map .int) (ns.map V.int) := fun ns => by
    induction ns with
    | nil => exact .nil
    | cons n ns ih => exact .cons (.int n) ih
  obtain ⟨h', e⟩ := hF ns hl
  refine ⟨[], [], [.rol (ns.map .int)], ⟨rfl, List.nodup_nil, fun n a c h _ => by simp at h⟩, .cons (.rol ro (rp ns)) .nil, rfl, ?_⟩
  rw [e]
  exact fun ι' H' x _ _ rx => rv_bl rx
/-- what lets nothing out may be asked so -/
theorem fn_calm {P : Program} {w : World} {K : PySem.W.Frag} {mg : Str → Option Value} {base : Heap} {k : Nat} {f : Addr} {fd : FuncData} {ps : List Str} {sp : Sp} (F : FnOk P w K mg base (L2.CX P w) k f fd ps sp) :
    FnOk P w K mg base CX0 k f fd ps (fun vs H Q _ => sp vs H Q fun _ _ _ => False) :=
  ⟨fun vs H Q E h => F.len _ _ _ _ h, fun A outer s H args us vs Q E hr e0 hb r h => codeAny_mono (F.run A outer s H args us vs Q _ hr e0 hb r h) fun res s' q => by
    cases res with
    | ok fl => cases fl <;> exact q
    | error e =>
      obtain ⟨a, B, H', cls, d, _, _, _, _, _, _, _, z⟩ := q
      exact z.elim⟩
end Ivy

/-! Ivy, part O: name op= e; tests by operators; names of built-ins; what a program's facts are. -/
namespace Ivy
open PySem PySem.Spec PyProof.Rows L2
section
variable {X : Cx} {v : Ev} {g : G} {W : WX} {pos p : Pos} {b : Expr} {e1 : Ex} {x : Str}
theorem s_aug {i : Nat} {op : Operator} {o : Op} {r : R2} (hN : X.N.Nodup) (hi : X.N[i]? = some x) (hx : Loc X.env.scope x) (ho : OpR X (inplaceOp op) r) (val : Op2 v g o r) (he : PE X b (tE v g W e1))
    (hf : X.fn x = true ∨ X.env.scope.names.lookup x = some .local := by first | exact .inl rfl | exact .inr rfl | assumption) : PS X (.AugAssign (.Name x p) op b pos) (tS v g W (.asg (.name i) (.op o [.var i, e1]))) :=
  PS.imp (ps_aug (ti := r) hN hi hx he ho hf) fun E σ H t => by
    obtain ⟨ι, δ, h, hr, hs, go⟩ := l_set t
    rw [evE_op2] at go
    have e : evE g (.var i) δ h = (match δ[i]? with
      | some (some d) => .ok d h
      | _ => .no) := by simp only [evE] <;> rfl
    rw [e] at go
    cases q : δ[i]? with
    | none => rw [q] at go; exact go.elim
    | some od =>
      rw [q] at go
      cases od with
      | none => exact go.elim
      | some d =>
        have go : Go (rrE v) v ι H ((evE g e1 δ h).bind fun y h => opApp g.sub o [d, y] h) _ _ := go
        obtain ⟨z, h1, h2⟩ := hs.2 i d q
        refine ⟨z, h1, ι, δ, h, hr, hs, Go.bind (SS := rrE v) go fun y h3 ι3 H3 u r3 ex3 hr3 ru3 go3 => ?_⟩
        have rz : rrE v ι H H d z := by
          cases d <;> first | exact ⟨h2, trivial⟩ | cases h2
        exact val ι3 H3 H H h3 d y z u _ _ hr3 (rz.mono ex3) ru3 go3
def rIAdd : R2 := fun x y H Q => rI0 (fun i j => .int (i + j)) x y H Q ∨ ∃ i j, x = .str i ∧ y = .str j ∧ i.length + j.length ≤ sizeLine ∧ Q (.str (i ++ j)) H
theorem o_iadd : OpR X (inplaceOp .Add) rIAdd := opr_or iop_add iop_add_str
theorem v_iadd : Op2 v g .iadd rIAdd := by
  intro ι H H0 H1 h d e x y Q E hr rx ry go
  cases d <;> cases e <;> first | exact go.elim | skip
  · rw [rv_int rx, rv_int ry]
    exact .inl ⟨_, _, rfl, rfl, go_int (show Go _ _ _ _ (intR _ _) _ _ from go) hr⟩
  · rename_i x y
    obtain ⟨c, go⟩ := go_when (show Go (rrE v) v ι H (whenR _ (.ok (.str (x ++ y)) h)) Q E from go)
    rw [rv_str rx, rv_str ry]
    refine .inr ⟨_, _, rfl, rfl, ?_, ?_⟩
    · rw [tx_len, tx_len, ← cells_eq]; exact of_decide_eq_true c
    · rw [tx_app]; exact go_str go hr
theorem o_imul : OpR X (inplaceOp .Mult) (rI CMul3 fun i j => .int (i * j)) := fun pins s σ H x y v u Q I rx ry ⟨i, j, ex, ey, hc, q⟩ =>
  hc.elim (fun c => iop_mul pins s σ H x y v u Q I rx ry ⟨i, j, ex, ey, c, q⟩) fun c => (opI fun _ _ _ _ _ _ _ hc q => imul_int q hc.ok : OpR X (inplaceOp .Mult) (rI CMulW fun i j => .int (i * j))) pins s σ H x y v u Q I rx ry ⟨i, j, ex, ey, c, q⟩
theorem v_imul : Op2 v g .imul (rI CMul3 fun i j => .int (i * j)) := by
  intro ι H H0 H1 h d e x y Q E hr rx ry go
  cases d <;> cases e <;> first | exact go.elim | skip
  rename_i i j
  obtain ⟨c, go⟩ := go_when (show Go (rrE v) v ι H (whenR _ (intR (i * j) h)) Q E from go)
  rw [rv_int rx, rv_int ry]
  exact ⟨_, _, rfl, rfl, mul_ok c, go_int go hr⟩
theorem o_ifdiv : OpR X (inplaceOp .FloorDiv) (rI CDivB fun i j => .int (i.fdiv j)) := opI fun i j _ _ _ _ _ hc q => ifloordiv_int hc.1 q (.inl (PyProof.noPylong_of_log2 hc.2))

/-! ### operators that answer with bools -/
theorem ob_cmp {o : Op} {f : Int → Int → Bool} {k : Tx → Tx → Bool} (he : ∀ (d e : D) (h : Hh), opApp g.sub o [d, e] h = opCmp h f k d e) (h0 : ∀ h, opApp g.sub o [] h = .no) (h1 : ∀ d h, opApp g.sub o [d] h = .no) (h3 : ∀ d e c ds h, opApp g.sub o (d :: e :: c :: ds) h = .no) : OpB g o := by
  intro ds h d h' e
  match ds with
  | [] => rw [h0] at e; cases e
  | [_] => rw [h1] at e; cases e
  | _ :: _ :: _ :: _ => rw [h3] at e; cases e
  | [x, y] =>
    rw [he] at e
    cases x <;> cases y <;> first | cases e | skip
    · exact ⟨_, rfl⟩
    · exact ⟨_, rfl⟩
theorem ob_lt : OpB g .lt := ob_cmp (fun _ _ _ => rfl) (fun _ => rfl) (fun d _ => by cases d <;> rfl) fun d e _ _ _ => by cases d <;> cases e <;> rfl
theorem ob_le : OpB g .le := ob_cmp (fun _ _ _ => rfl) (fun _ => rfl) (fun d _ => by cases d <;> rfl) fun d e _ _ _ => by cases d <;> cases e <;> rfl
theorem ob_gt : OpB g .gt := ob_cmp (fun _ _ _ => rfl) (fun _ => rfl) (fun d _ => by cases d <;> rfl) fun d e _ _ _ => by cases d <;> cases e <;> rfl
theorem ob_ge : OpB g .ge := ob_cmp (fun _ _ _ => rfl) (fun _ => rfl) (fun d _ => by cases d <;> rfl) fun d e _ _ _ => by cases d <;> cases e <;> rfl
theorem ob_two {o : Op} (h0 : ∀ h, opApp g.sub o [] h = .no) (h1 : ∀ d h, opApp g.sub o [d] h = .no) (h3 : ∀ d e c ds h, opApp g.sub o (d :: e :: c :: ds) h = .no) (h2 : ∀ x y h d h', opApp g.sub o [x, y] h = .ok d h' → ∃ k, d = .bl k) : OpB g o := by
  intro ds h d h' e
  match ds with
  | [] => rw [h0] at e; cases e
  | [_] => rw [h1] at e; cases e
  | _ :: _ :: _ :: _ => rw [h3] at e; cases e
  | [x, y] => exact h2 x y h d h' e
theorem ob_eq : OpB g .eq := ob_two (fun _ => rfl) (fun d _ => by cases d <;> rfl) (fun d e _ _ _ => by cases d <;> cases e <;> rfl) fun x y h d h' e => by
  have e : (match eqD h x y with
    | some k => blR k h
    | none => .no) = .ok d h' := e
  split at e
  · cases e; exact ⟨_, rfl⟩
  · cases e
theorem ob_ne : OpB g .ne := ob_two (fun _ => rfl) (fun d _ => by cases d <;> rfl) (fun d e _ _ _ => by cases d <;> cases e <;> rfl) fun x y h d h' e => by
  have e : (match eqD h x y with
    | some k => blR (!k) h
    | none => .no) = .ok d h' := e
  split at e
  · cases e; exact ⟨_, rfl⟩
  · cases e
theorem ob_one {o : Op} (h0 : ∀ h, opApp g.sub o [] h = .no) (h2 : ∀ d e ds h, opApp g.sub o (d :: e :: ds) h = .no) (h1 : ∀ x h, ∃ k, opApp g.sub o [x] h = blR k h) : OpB g o := by
  intro ds h d h' e
  match ds with
  | [] => rw [h0] at e; cases e
  | _ :: _ :: _ => rw [h2] at e; cases e
  | [x] =>
    obtain ⟨k, hk⟩ := h1 x h
    rw [hk] at e
    cases e
    exact ⟨k, rfl⟩
theorem ob_isN : OpB g .isNone := ob_one (fun _ => rfl) (fun d _ _ _ => by cases d <;> rfl) fun x h => ⟨_, rfl⟩
theorem ob_notN : OpB g .notNone := ob_one (fun _ => rfl) (fun d _ _ _ => by cases d <;> rfl) fun x h => ⟨_, rfl⟩
theorem opIn_bl {h : Hh} {n : Bool} {x y d : D} {h' : Hh} (e : opIn h n x y = .ok d h') : ∃ k, d = .bl k := by
  unfold opIn at e
  repeat' split at e
  all_goals first | (cases e; done) | (cases e; exact ⟨_, rfl⟩)
theorem ob_in : OpB g .isIn := ob_two (fun _ => rfl) (fun d _ => by cases d <;> rfl) (fun d e _ _ _ => by cases d <;> cases e <;> rfl) fun x y h d h' e => opIn_bl (show opIn h false x y = .ok d h' from e)
theorem ob_notIn : OpB g .notIn := ob_two (fun _ => rfl) (fun d _ => by cases d <;> rfl) (fun d e _ _ _ => by cases d <;> cases e <;> rfl) fun x y h d h' e => opIn_bl (show opIn h true x y = .ok d h' from e)
end

/-! ### names of built-ins -/
theorem bt_len : bootBuiltins "len" = some (.builtin "len") := by decide +kernel
theorem bt_abs : bootBuiltins "abs" = some (.builtin "abs") := by decide +kernel
theorem bt_int : bootBuiltins "int" = some (.type "int") := by decide +kernel
theorem bt_str : bootBuiltins "str" = some (.type "str") := by decide +kernel
theorem bt_bool : bootBuiltins "bool" = some (.type "bool") := by decide +kernel
theorem bt_tuple : bootBuiltins "tuple" = some (.type "tuple") := by decide +kernel
theorem bt_list : bootBuiltins "list" = some (.type "list") := by decide +kernel
theorem bt_dict : bootBuiltins "dict" = some (.type "dict") := by decide +kernel
theorem bt_all : bootBuiltins "all" = some (.builtin "all") := by decide +kernel
theorem bt_any : bootBuiltins "any" = some (.builtin "any") := by decide +kernel
theorem bt_sum : bootBuiltins "sum" = some (.builtin "sum") := by decide +kernel
theorem bt_min : bootBuiltins "min" = some (.builtin "min") := by decide +kernel
theorem bt_max : bootBuiltins "max" = some (.builtin "max") := by decide +kernel
theorem bt_isinstance : bootBuiltins "isinstance" = some (.builtin "isinstance") := by decide +kernel
theorem bt_sorted : bootBuiltins "sorted" = some (.builtin "sorted") := by decide +kernel
theorem bt_range : bootBuiltins "range" = some (.type "range") := by decide +kernel

/-- what the head tells of a program: its defs' objects, its free names -/
structure Fx (K : PySem.W.Frag) (mg : Str → Option Value) (fa : Nat → Addr) (fd : Nat → FuncData) (nm : Nat → Str) (ps : Nat → List Str) (bl : List Str) (N : Nat) : Prop where
  g : ∀ i, i < N → mg (nm i) = some (.ref (fa i))
  k : ∀ i, i < N → PySem.W.keepIn K (.ref (fa i)) = true
  b : ∀ i, i < N → Binds K (fd i) (ps i) []
  m : ∀ (i : Nat) (x : Str), bl[i]? = some x → mg x = none
end Ivy

/-! Ivy, part P: enumerate over lists and tuples, tuple(range(..)). -/
namespace Ivy
open PySem PySem.Spec PyProof.Rows L2

/-! ### a tuple's iterator, drawn by another one -/
section
variable {P : Program} {w : World} {A : Around} {E : Value → Shared → Prop} {s : Shared}
theorem tit_next {J T : Addr} {i : Nat} {xs : Array Value} {u : Value} {Q : Value → Shared → Prop} (hit : s.heap.IsTupleIter J T i) (ht : s.heap.IsTuple T xs) (hx : xs[i]? = some u)
    (hQ : ∀ g, g.IsTupleIter J T (i + 1) → Heap.SameBut J s.heap g → Q u { s with heap := g }) : wpAny (model P w) A (Builtin.SmallTypes.nextOf (.ref J)) Q E s := by
  obtain ⟨o, z1, z2, z3⟩ := id hit
  obtain ⟨oT, y1, _, nT, y2⟩ := ht
  unfold Builtin.SmallTypes.nextOf
  refine wpAny_bind (wpAny_callSpecial?_slot (name := Str.ofString "__next__") hit.typeIs F.slot_tuple_iterator_next (wpAny_call_entry F.slot_tuple_iterator_next hit.typeIs F.entry_tuple_iterator_next ?_ (F.args_tuple_iterator_next_1 _)))
  show wpAny _ _ (field (.ref J) 0 >>= _) _ _ s
  refine wpAny_bind (wpAny_field z1 z3 (x := .ref T) rfl ?_)
  show wpAny _ _ (if (Value.ref T == Value.none) = true then _ else _) _ _ s
  rw [if_neg (show ¬ ((Value.ref T == Value.none) = true) from Bool.false_ne_true)]
  show wpAny _ _ (field (.ref J) 1 >>= _) _ _ s
  refine wpAny_bind (wpAny_field z1 z3 (x := .int i 0) rfl ?_)
  show wpAny _ _ (seqItems? (.ref T) >>= _) _ _ s
  refine wpAny_bind (wpAny_seqItems y1 y2 ?_)
  simp only [hx, Int.toNat_natCast]
  refine wpAny_bind (wpAny_setField z1 z3 (by simp) (wpAny_pure ⟨u, rfl, wpAny_pure (hQ _ ?_ (Heap.SameBut.update ..))⟩))
  exact ⟨_, Heap.get?_update_self _ z1 (Obj.isFreed_of_fields (Obj.data_mapFields z3 _)), (Obj.cls_mapFields ..).trans z2, by rw [Obj.data_mapFields z3]; simp [rawInt]⟩
theorem tit_end {J T : Addr} {i : Nat} {xs : Array Value} {Q : Value → Shared → Prop} (hh : A.handled = none) (hit : s.heap.IsTupleIter J T i) (ht : s.heap.IsTuple T xs) (hx : xs[i]? = none)
    (hE : ∀ g e, Heap.ExtBut J s.heap g → (∃ o, g.get? e = some o ∧ o.cls = .type "StopIteration") → E (.ref e) { s with heap := g }) : wpAny (model P w) A (Builtin.SmallTypes.nextOf (.ref J)) Q E s := by
  obtain ⟨o, z1, z2, z3⟩ := id hit
  obtain ⟨oT, y1, _, nT, y2⟩ := ht
  unfold Builtin.SmallTypes.nextOf
  refine wpAny_bind (wpAny_callSpecial?_slot (name := Str.ofString "__next__") hit.typeIs F.slot_tuple_iterator_next (wpAny_call_entry F.slot_tuple_iterator_next hit.typeIs F.entry_tuple_iterator_next ?_ (F.args_tuple_iterator_next_1 _)))
  show wpAny _ _ (field (.ref J) 0 >>= _) _ _ s
  refine wpAny_bind (wpAny_field z1 z3 (x := .ref T) rfl ?_)
  show wpAny _ _ (if (Value.ref T == Value.none) = true then _ else _) _ _ s
  rw [if_neg (show ¬ ((Value.ref T == Value.none) = true) from Bool.false_ne_true)]
  show wpAny _ _ (field (.ref J) 1 >>= _) _ _ s
  refine wpAny_bind (wpAny_field z1 z3 (x := .int i 0) rfl ?_)
  show wpAny _ _ (seqItems? (.ref T) >>= _) _ _ s
  refine wpAny_bind (wpAny_seqItems y1 y2 ?_)
  simp only [hx, Int.toNat_natCast]
  refine wpAny_bind (wpAny_rule (wpAny_bind (wpAny_setField z1 z3 (by simp) ?_)))
  show wpAny _ _ (newExc (.type "StopIteration") [] >>= _) _ _ _
  refine wpAny_bind ?_; simp only [newTuple, newExc]
  refine wpAny_bind (wpAny_newObj_type ?_ (by size_fits)); refine wpAny_bind (m := firstArgMember _ _) (wpAny_of_eq (a := Value.none) (by first | rfl | (simp only [firstArgMember]; rfl)) ?_)
  refine wpAny_newObj_type ?_ (by size_fits); simp only [raiseNew]
  refine wpAny_bind (wpAny_handled ?_); first | rw [show A.in1.handled = none from hh] | rw [hh]
  refine wpAny_bind (wpAny_pure (wpAny_throw ?_)); exact hE _ _ (((Heap.SameBut.update ..).extBut.push _).push _) ⟨_, Heap.get?_push_size _ rfl, rfl⟩
end
theorem draws_tup {P : Program} {w : World} {A : Around} (hh : A.handled = none) (J T : Addr) (hne : T ≠ J) (xs : Array Value) : Draws P w A J [J, T] xs.size (fun i u => xs[i]? = some u) (fun i h => h.IsTupleIter J T i ∧ h.IsTuple T xs) where
  live := fun _ _ ⟨⟨o, z, _⟩, _⟩ => ⟨o, z⟩
  frame := fun i h h' ⟨⟨o, z1, z2⟩, ⟨o2, z3, z4⟩⟩ k => ⟨⟨o, k J (by simp) o z1, z2⟩, ⟨o2, k T (by simp) o2 z3, z4⟩⟩
  item := fun i s Q E hi st hQ => tit_next st.1 st.2 (u := xs[i]) (by simp [hi]) fun g hit hs => hQ _ g s.toks (by simp [hi]) ⟨hit, st.2.extBut hs.extBut hne⟩ hs
  done := fun s Q E st hE => tit_end hh st.1 st.2 (by simp) hE
theorem enum_newT (T : Addr) (xs : Array Value) (n : Nat) (dd : Option Addr) (sl : Array (Option Value)) :
    Meets (Builtin.«enumerate.__new__» ⟨[.type "enumerate", .ref T], []⟩) (fun _ R s => s.heap.get? T = some ⟨.type "tuple", dd, .seq xs n, sl⟩ ∧
      R (.ok (.ret (.ref (s.heap.push { cls := .type "tuple_iterator", data := .fields #[.ref T, .int 0 0] }).objs.size)))
        { s with heap := (s.heap.push { cls := .type "tuple_iterator", data := .fields #[.ref T, .int 0 0] }).push { cls := .type "enumerate", data := .fields #[.none, .bool false, .ref s.heap.objs.size, rawInt 0, .none, .none] } }) :=
  .of_wp fun P w A R s z => by
    obtain ⟨hp, gs, d, tk, os⟩ := s; obtain ⟨hT, z⟩ := z
    have sub := sub_enumerate
    have isT : Heap.IsTuple (Shared.heap ⟨hp, gs, d, tk, os⟩) T xs := ⟨_, hT, rfl, n, rfl⟩
    wp_walk using AutoSeq1.wpAny_loadPart' hT
    refine wpAny_stack_any fun st => wpAny_pure ?_
    split
    · rename_i c _ _ _ _ _
      cases (c == Value.type "enumerate")
      · wp_walk using AutoSeq1.wpAny_loadPart' hT, wpAny_pyIter_tuple isT
        exact ⟨_, rfl, z⟩
      · wp_walk using AutoSeq1.wpAny_loadPart' hT, wpAny_pyIter_tuple isT
        exact ⟨_, rfl, z⟩
    · wp_walk using AutoSeq1.wpAny_loadPart' hT, wpAny_pyIter_tuple isT
      exact ⟨_, rfl, z⟩
theorem call_enumT {P : Program} {w : World} {A : Around} {E : Value → Shared → Prop} {s : Shared} {T : Addr} {xs : Array Value} {Q : Value → Shared → Prop} (hT : s.heap.IsTuple T xs)
    (q : ∀ g, IsEnum g (s.heap.objs.size + 1) s.heap.objs.size 0 .none → g.IsTupleIter s.heap.objs.size T 0 → g.objs.size = s.heap.objs.size + 2 → (∀ b o, s.heap.get? b = some o → g.get? b = some o) → Q (.ref (s.heap.objs.size + 1)) { s with heap := g }) :
    wpAny (model P w) A (call (.type "enumerate") [.ref T]) Q E s := by
  obtain ⟨⟨cc, dd, dt, sl⟩, z1, z2, n, z3⟩ := hT
  have z2 : cc = .type "tuple" := z2
  have z3 : dt = .seq xs n := z3
  subst z2 z3
  refine callType_new F.called_enumerate (by decide) (F.typeCall_enumerate_1 _) (F.newCall_enumerate_1 _) (fun ob => F.args_object_init_2 ob _) F.entry_enumerate_new (enum_newT T xs n dd sl) ⟨z1, ?_⟩
  have sz : (s.heap.push { cls := .type "tuple_iterator", data := .fields #[.ref T, .int 0 0] }).objs.size = s.heap.objs.size + 1 := Heap.size_push ..
  show _ ∧ _
  rw [sz]
  have en : IsEnum ((s.heap.push { cls := .type "tuple_iterator", data := .fields #[.ref T, .int 0 0] }).push { cls := .type "enumerate", data := .fields #[.none, .bool false, .ref s.heap.objs.size, rawInt 0, .none, .none] }) (s.heap.objs.size + 1) s.heap.objs.size 0 .none := by
    have z := Heap.get?_push_size (s.heap.push { cls := .type "tuple_iterator", data := .fields #[.ref T, .int 0 0] }) (o := { cls := .type "enumerate", data := .fields #[.none, .bool false, .ref s.heap.objs.size, rawInt 0, .none, .none] }) rfl
    rw [sz] at z; exact z
  exact ⟨⟨_, en, rfl⟩, q _ en ⟨_, Heap.get?_push_of_some _ (Heap.get?_push_size _ rfl), rfl, rfl⟩ (by rw [Heap.size_push, sz]) fun b o z => Heap.get?_push_of_some _ (Heap.get?_push_of_some _ z)⟩
/-- pairs of places and a tuple's items -/
def IteT (K : PySem.W.Frag) (a : Addr) : L2.It :=
  ⟨fun i H => ∃ xs x, SqT K H a xs ∧ xs[i]? = some x, fun i H v H' => ∃ T x, v = .ref T ∧ H T = none ∧ H' = upd H T (.tup [.int (i : Nat), x]) ∧ ∀ xs, SqT K H a xs → xs[i]? = some x, fun i H => ∃ xs, SqT K H a xs ∧ xs.length = i⟩
theorem enum_ne {h : Heap} {e it T : Addr} {i : Int} {old : Value} {xs : Array Value} (he : IsEnum h e it i old) (hT : h.IsTuple T xs) : e ≠ T := fun z => by
  subst z
  obtain ⟨o, z1, _, n, z2⟩ := hT
  have he : h.get? e = _ := he
  rw [he] at z1
  cases z1
  cases z2
theorem tit_ne {h : Heap} {it T : Addr} {i : Nat} {xs : Array Value} (hi : h.IsTupleIter it T i) (hT : h.IsTuple T xs) : T ≠ it := fun z => by
  subst z
  obtain ⟨o, z1, _, n, z2⟩ := hT
  obtain ⟨o', z3, _, z4⟩ := hi
  rw [z1] at z3
  cases z3
  rw [z2] at z4
  cases z4
theorem turn_enumT {P : Program} {w : World} {K : PySem.W.Frag} {elts : List Expr} {kk : Nat} {tpos : Pos} (a e it : Addr) :
    Turn P w K (.Tuple elts kk tpos) (IteT K a) [e, it] e (fun i h => (∃ old, IsEnum h e it ((i : Nat) : Int) old) ∧ h.IsTupleIter it a i ∧ e ≠ it) where
  mem := List.mem_cons_self ..
  obj := fun i h st b hb => by
    obtain ⟨⟨old, he⟩, ⟨o, ho, _, hd⟩, _⟩ := st
    rcases List.mem_cons.mp hb with z | z
    · exact z ▸ ⟨_, he, fun v q => nomatch q⟩
    · rw [List.mem_singleton.mp z]; exact ⟨o, ho, fun v q => by rw [hd] at q; cases q⟩
  keep := fun i h h' ⟨⟨old, he⟩, ⟨o, ho, hi⟩, hne⟩ k => ⟨⟨old, k e (by simp) _ he⟩, ⟨o, k it (by simp) o ho, hi⟩, hne⟩
  item := by
    intro X h1 h2 h3 hc i pins s σ H E I hf st hg
    subst h1 h2 h3
    obtain ⟨⟨old, he⟩, hit, hne⟩ := st
    obtain ⟨xs, x, hq, hx⟩ := hg
    obtain ⟨its, rv, pt, hz⟩ := I.tuple hq
    have pt : s.heap.IsTuple a its.toArray := pt
    obtain ⟨u, hu, ru⟩ := rv.get hx
    have eL : e < s.heap.objs.size := Heap.lt_size he
    have iL : it < s.heap.objs.size := by obtain ⟨_, q, _⟩ := hit; exact Heap.lt_size q
    have lt : i < its.toArray.size := by
      have := (List.getElem?_eq_some_iff.mp hu).1
      simpa using this
    refine wpAny_pyNext_enum_itemD (draws_tup (A := X.A.in1) (I.ok.hd hc) it a (tit_ne hit pt) its.toArray) he ⟨hit, pt⟩ lt hne (fun z => by
      rcases List.mem_cons.mp z with z | z
      · exact hne z
      · exact enum_ne he pt (List.mem_singleton.mp z)) fun y g tk hy ho st' hT hsz hk => ?_
    have hy : its.toArray[i]? = some y := hy
    have ey : y = u := by
      rw [List.getElem?_toArray, hu] at hy
      exact (Option.some.inj hy).symm
    subst ey
    refine ⟨_, rfl, wpAny_letOwnedTupleGo_enum (s := { s with heap := g, toks := tk + 1 }) ho fun g2 he2 sb => ?_⟩
    have hT2 : g2.get? s.heap.objs.size = some { cls := .type "tuple", data := .seq #[.int i tk, y] } := (sb.2 _ (Nat.ne_of_gt eL)).trans hT
    have fresh : ObjOk X.prog X.w (upd H s.heap.objs.size (.tup [.int (i : Nat), x])) g2 s.heap.objs.size (.tup [.int (i : Nat), x]) :=
      ⟨by rw [sizeLine_eq]; simp, [.int i tk, y], .cons ⟨_, rfl⟩ (.cons ru .nil), ⟨_, hT2, rfl, _, rfl⟩⟩
    have I1 : Inv X pins σ (upd H s.heap.objs.size (.tup [.int (i : Nat), x])) { s with heap := g2, toks := tk + 1 } :=
      I.turnedNew (ch := [e, it]) (fun b ob hb q => (sb.2 b (fun z => hb (z ▸ List.mem_cons_self ..))).trans (hk b ob (fun z => hb (z ▸ List.mem_cons_self ..)) (fun z => hb (z ▸ List.mem_cons_of_mem _ (List.mem_cons_self ..))) q)) hf (Nat.le_refl _) fresh
    refine ⟨.ref s.heap.objs.size, _, I1, rfl, ⟨_, x, rfl, I.hok.fresh (Nat.le_refl _), rfl, fun ys hy => by rw [I.tuple_inj hy hq]; exact hx⟩, ⟨⟨y, ?_⟩, ?_, hne⟩, fun b hb => ?_⟩
    · have z : ((i + 1 : Nat) : Int) = (i : Int) + 1 := by omega
      rw [z]; exact he2
    · obtain ⟨⟨o, ho1, ho2⟩, _⟩ := st'
      exact ⟨o, (sb.2 it (Ne.symm hne)).trans ho1, ho2⟩
    · have bL : b < s.heap.objs.size := by
        rcases List.mem_cons.mp hb with z | z
        · rw [z]; exact eL
        · rw [List.mem_singleton.mp z]; exact iL
      rw [upd_ne (Nat.ne_of_lt bL)]
      exact (hf b hb).1
  done := by
    intro X h1 h2 h3 hc i pins s σ H E I hf st hg
    subst h1 h2 h3
    obtain ⟨⟨old, he⟩, hit, hne⟩ := st
    obtain ⟨xs, hq, hx⟩ := hg
    obtain ⟨its, rv, pt, hz⟩ := I.tuple hq
    have pt : s.heap.IsTuple a its.toArray := pt
    obtain ⟨f0, f1, f2, f3, f4, f5⟩ := hf it (by simp)
    have hl := rv.length
    have e : i = its.toArray.size := by simp; omega
    subst e
    exact wpAny_pyNext_enum_endD (draws_tup (A := X.A.in1) (I.ok.hd hc) it a (tit_ne hit pt) its.toArray) he ⟨hit, pt⟩ fun g eb => ⟨rfl, I.turned (t' := s.toks) (fun b o hb q => eb b o hb q) f0 f1 f3 f4 f5⟩
  self := fun A i s Q E ⟨⟨_, he⟩, _⟩ h => wpAny_pyIter_enum he h
def iEnumT (K : PySem.W.Frag) (ta : TE) : TI := fun σ H R => ta σ H fun x H1 => ∃ a xs, x = .ref a ∧ SqT K H1 a xs ∧ R (IteT K a) H1
def iEnumL (K : PySem.W.Frag) (ta : TE) : TI := fun σ H R => ta σ H fun x H1 => ∃ a xs, x = .ref a ∧ SqL K H1 a xs ∧ R (Ite K a) H1
section
variable {X : Cx} {v : Ev} {g : G} {W : WX} {pos p p2 pos2 tpos : Pos} {a b : Expr} {e1 : Ex} {x y : Str} {elts es : List Expr} {kk : Nat} {fs : List Ex}
theorem pi_enumT {ta : TE} (hg : Gl X "enumerate") (hm : X.mg "enumerate" = none) (ha : PE X a ta) (hs : starEach [a] X.env = (false, eval a X.env) :: starEach [] X.env) : PI X (.Tuple elts kk tpos) (.Call (.Name "enumerate" p) [a] [] pos) (iEnumT X.K ta) := by
  refine ⟨fun pins s σ H R I h => ?_⟩
  refine Call_ (ld_blt I hg hm boot_enumerate (PyProof.Rows.callWith_type1 (thn ((pa_cons ha pa_nil hs).run pos pins s σ H (fun vs H1 => ∃ q xs, vs = [.ref q] ∧ SqT X.K H1 q xs ∧ R (IteT X.K q) H1) I (?_ : tCons ta tNil σ H _)) fun us s1 ⟨vs, H1, I1, r1, q1⟩ => ?_) hs rfl))
  · have e : (fun z H1 => tNil σ H1 fun xs H2 => (fun vs H1 => ∃ q xs, vs = [V.ref q] ∧ SqT X.K H1 q xs ∧ R (IteT X.K q) H1) (z :: xs) H2) = fun z H1 => ∃ q xs, z = V.ref q ∧ SqT X.K H1 q xs ∧ R (IteT X.K q) H1 := by
      funext z H1
      show (∃ q xs, [z] = [V.ref q] ∧ _) = _
      simp
    unfold tCons
    rw [e]
    exact h
  · obtain ⟨q, xs, ev, hq, z⟩ := q1
    subst ev
    cases r1 with
    | cons r rr =>
      cases rr
      cases r
      obtain ⟨its, rv, pt, hz⟩ := I1.tuple hq
      refine call_enumT (show s1.heap.IsTuple q its.toArray from pt) fun h' he hit hsz hk => wpAny_pyIter_enum he ?_
      have I2 : Inv X pins σ H1 { s1 with heap := h' } := I1.kept (t' := s1.toks) hk
      refine ⟨s1.heap.objs.size + 1, [s1.heap.objs.size + 1, s1.heap.objs.size], _, _, H1, rfl, I2, turn_enumT q (s1.heap.objs.size + 1) s1.heap.objs.size, ⟨⟨.none, he⟩, hit, Nat.succ_ne_self _⟩, fun b hb => ?_, z⟩
      have le : s1.heap.objs.size ≤ b := by
        rcases List.mem_cons.mp hb with z | z
        · rw [z]; exact Nat.le_add_right _ _
        · rw [List.mem_singleton.mp z]; exact Nat.le_refl _
      exact I1.fpOk le (I1.hok.fresh le)
theorem pi_enumL {ta : TE} (hg : Gl X "enumerate") (hm : X.mg "enumerate" = none) (ha : PE X a ta) (hs : starEach [a] X.env = (false, eval a X.env) :: starEach [] X.env) : PI X (.Tuple elts kk tpos) (.Call (.Name "enumerate" p) [a] [] pos) (iEnumL X.K ta) :=
  PI.imp (pi_enum hg hm (pa_cons ha pa_nil hs) (by rw [hs]; rfl)) fun σ H R h => by
    show tCons ta tNil σ H _
    have e : (fun z H1 => tNil σ H1 fun xs H2 => (fun vs H1 => ∃ q xs, vs = [V.ref q] ∧ SqL X.K H1 q xs ∧ R (Ite X.K q) H1) (z :: xs) H2) = fun z H1 => ∃ q xs, z = V.ref q ∧ SqL X.K H1 q xs ∧ R (Ite X.K q) H1 := by
      funext z H1
      show (∃ q xs, [z] = [V.ref q] ∧ _) = _
      simp
    unfold tCons
    rw [e]
    exact h
theorem enum_len : ∀ (ds : List D) (k : Nat), (enumL k ds).length = ds.length
  | [], _ => rfl
  | d :: ds, k => by
    show (enumL (k + 1) ds).length + 1 = ds.length + 1
    rw [enum_len]
theorem enum_at : ∀ (ds : List D) (k i : Nat) (d : D), ds[i]? = some d → (enumL k ds)[i]? = some (.tup [.int ((k + i : Nat) : Int), d])
  | [], _, _, _, e => by simp at e
  | c :: ds, k, 0, d, e => by simp at e; subst e; rfl
  | c :: ds, k, i + 1, d, e => by
    show (enumL (k + 1) ds)[i]? = _
    rw [enum_at ds (k + 1) i d (by simpa using e), Nat.add_right_comm, Nat.add_assoc]
theorem new_pair {ι : List Addr} {H : Hp} {h : Hh} {T : Addr} {i : Nat} {d : D} {x : V} (hr : HR v ι H h) (hT : H T = none) (r : RP v ι H d x) :
    Ext ι H ι (upd H T (.tup [.int (i : Int), x])) ∧ HR v ι (upd H T (.tup [.int (i : Int), x])) h ∧ RP v ι (upd H T (.tup [.int (i : Int), x])) (.tup [.int (i : Int), d]) (.ref T) :=
  ⟨ext_new hT, hr.new hT, .tup (SqT.of upd_same) (.cons (.int _) (.cons (r.mono (ext_new hT)) .nil))⟩
theorem src_enumT {ι : List Addr} {H : Hp} {q : Addr} {ds : List D} {vs : List V} {K : PySem.W.Frag} (hK : K = v.K) (h1 : SqT v.K H q vs) (h2 : RPs v ι H ds vs) : Src1 v ⟨enumL 0 ds, []⟩ (IteT K q) ι H := by
  subst hK
  refine ⟨fun ι' H' h' i e _ _ hi => ?_, fun ι' H' h' e _ _ => ⟨vs, e.sqT h1, by rw [enum_len]; exact h2.length.symm⟩, fun ι' H' h' i x H'' e hr _ hi y => ?_⟩
  · have hi : i < (enumL 0 ds).length := hi
    rw [enum_len, h2.length] at hi
    exact ⟨vs, vs[i], e.sqT h1, List.getElem?_eq_getElem hi⟩
  · have hi : i < (enumL 0 ds).length := hi
    rw [enum_len] at hi
    obtain ⟨T, z, rfl, hT, rfl, hz⟩ := y
    have hx := hz vs (e.sqT h1)
    obtain ⟨z', hz', r⟩ := h2.get (List.getElem?_eq_getElem hi)
    rw [hx] at hz'; cases hz'
    obtain ⟨n1, n2, n3⟩ := new_pair (i := i) hr hT (r.mono e)
    refine ⟨n1, n2, _, enum_at ds 0 i ds[i] (List.getElem?_eq_getElem hi), ?_⟩
    rw [Nat.zero_add]; exact n3
theorem src_enumL {ι : List Addr} {H : Hp} {q : Addr} {ds : List D} {gd : List (Nat × C)} {K : PySem.W.Frag} (hK : K = v.K) (k : ∀ ι' H' h', Ext ι H ι' H' → HR v ι' H' h' → gdOk h' gd = true → ∃ vs, SqL v.K H' q vs ∧ RPs v ι' H' ds vs) : Src1 v ⟨enumL 0 ds, gd⟩ (Ite K q) ι H := by
  subst hK
  refine ⟨fun ι' H' h' i e hr hg hi => ?_, fun ι' H' h' e hr hg => ?_, fun ι' H' h' i x H'' e hr hg hi y => ?_⟩
  · obtain ⟨vs, h1, h2⟩ := k ι' H' h' e hr hg
    have hi : i < (enumL 0 ds).length := hi
    rw [enum_len, h2.length] at hi
    exact ⟨vs, vs[i], h1, List.getElem?_eq_getElem hi⟩
  · obtain ⟨vs, h1, h2⟩ := k ι' H' h' e hr hg
    exact ⟨vs, h1, by rw [enum_len]; exact Nat.le_of_eq h2.length.symm⟩
  · obtain ⟨vs, h1, h2⟩ := k ι' H' h' e hr hg
    have hi : i < (enumL 0 ds).length := hi
    rw [enum_len] at hi
    obtain ⟨T, z, rfl, hT, rfl, hz⟩ := y
    have hx := hz vs h1
    obtain ⟨z', hz', r⟩ := h2.get (List.getElem?_eq_getElem hi)
    rw [hx] at hz'; cases hz'
    obtain ⟨n1, n2, n3⟩ := new_pair (i := i) hr hT r
    refine ⟨n1, n2, _, enum_at ds 0 i ds[i] (List.getElem?_eq_getElem hi), ?_⟩
    rw [Nat.zero_add]; exact n3
theorem i_enum (hb : Cb X v W) (hx : x = "enumerate") (hg : Gl X x) (hm : X.mg x = none) (ha : PE X a (tE v g W e1)) (hs : starEach [a] X.env = (false, eval a X.env) :: starEach [] X.env := by rfl) : PI X (.Tuple elts kk tpos) (.Call (.Name x p) [a] [] pos) (tI v g W (.enum e1)) := by
  subst hx
  refine PI.imp (PI.or (pi_enumT hg hm ha hs) (pi_enumL hg hm ha hs)) fun σ H R ⟨ι, δ, h, hr, hs, go⟩ => ?_
  have e : evI g (.enum e1) δ h = (evE g e1 δ h).bind fun x h => match srcT h x with
    | some s => .ok ⟨enumL 0 s.ds, s.gd⟩ h
    | none => .no := by simp only [evI] <;> rfl
  rw [e] at go
  by_cases t1 : ∃ ds h', evE g e1 δ h = .ok (.tup ds) h'
  · obtain ⟨ds, h', q⟩ := t1
    refine .inl ⟨ι, δ, h, hr, hs, Go.bind (SS := rrE v) go fun d h1 ι1 H1 x r1 ex1 hr1 rx1 go1 => ?_⟩
    rw [q] at r1; cases r1
    obtain ⟨p, vs, rfl, s1, s2⟩ := rv_tup rx1
    exact ⟨p, vs, rfl, by rw [hb.hK]; exact s1, Go.here (RR := rrI v) (show Go (rrI v) v ι1 H1 (.ok ⟨enumL 0 ds, []⟩ _) R _ from go1) hr1 (src_enumT hb.hK s1 s2)⟩
  · refine .inr ⟨ι, δ, h, hr, hs, Go.bind (SS := rrE v) go fun d h1 ι1 H1 x r1 ex1 hr1 rx1 go1 => ?_⟩
    have e2 : srcT h1 d = srcL h1 d := by
      cases d with
      | tup ds => exact absurd ⟨_, _, r1⟩ t1
      | _ => rfl
    rw [e2] at go1
    rw [hb.hK]
    cases q : srcL h1 d with
    | none => rw [q] at go1; exact go1.elim
    | some s =>
      rw [q] at go1
      have go1 : Go (rrI v) v ι1 H1 (.ok ⟨enumL 0 s.ds, s.gd⟩ h1) R _ := go1
      unfold srcL at q
      split at q
      · cases q
        obtain ⟨p, vs, rfl, h2, h3, h4⟩ := (show RV v ι1 H1 (.lst _) x from rx1.1)
        exact ⟨p, vs, rfl, SqL.of h3, Go.here (RR := rrI v) go1 hr1 (src_enumL rfl fun ι' H' h' ex _ _ => ⟨vs, SqL.of (ex.fix p _ h3 fun z => absurd z h2), h4.mono ex⟩)⟩
      · cases q
        cases (show RP v ι1 H1 (.rol _) x from rx1.1) with
        | rol h2 h3 => exact ⟨_, _, rfl, h2.sq, Go.here (RR := rrI v) go1 hr1 (src_enumL rfl fun ι' H' h' ex _ _ => ⟨_, (ex.roL h2).sq, h3.mono ex⟩)⟩
      · rename_i n
        obtain ⟨p, rfl, hp⟩ := rv_ref rx1
        split at q
        · rename_i xs eq
          cases q
          obtain ⟨vs, h2, h3⟩ := (show CR v ι1 H1 p (.lst _) from hr1.cell n p _ hp eq)
          refine ⟨p, vs, rfl, SqL.of h2, Go.here (RR := rrI v) go1 hr1 (src_enumL rfl fun ι' H' h' ex hr' hg => ?_)⟩
          have z := gd_at hg (List.mem_cons_self ..)
          obtain ⟨vs', h4, h5⟩ := (show CR v ι' H' p (.lst _) from hr'.cell n p _ (ex.at hp) z)
          exact ⟨vs', SqL.of h4, h5⟩
        · cases q
      · cases q
end
end Ivy

/-! Ivy, part Q: tuple(range(..)) of any size. -/
namespace Ivy
open PySem PySem.Spec PyProof.Rows L2
section
variable {P : Program} {w : World} {A : Around} {E : Value → Shared → Prop} {s : Shared} {r : Addr} {a b c : Int} {t u v : Tok} {n : Nat}
theorem long_extend {R : Result → Shared → Prop} (hh : A.handled = none) (hr : IsRange s.heap r a b c t u v) (big : Builtin.Range.small a b c = false) (hn : Builtin.Range.rangeSize a b c = n) (hlen : n ≤ 2 ^ 24) (S : Addr) (res : Value) (k0 : Nat)
    (hS : s.heap.get? S = some { cls := .type "list", data := .seq #[] k0 })
    (hR : ∀ g tk acc k, (∀ p o, p ≠ S → s.heap.get? p = some o → g.get? p = some o) → g.get? S = some { cls := .type "list", dict := none, data := .seq acc k, slots := #[] } → ItemsOf (fun i z => ∃ t, z = .int (a + i * c) t) acc n → R (.ok (.ret res)) { s with heap := g, toks := tk }) :
    wpAny (model P w) A.in1 (Builtin.List.listExtendWith (.ref S) (.ref r) res) (fun fin s2 => match fin with | .done f => R (.ok f) s2 | .again k => k.quiet = true ∧ codeAny (model P w) A k R s2) (fun e s2 => R (.error e) s2) s := by
  have nSr : S ≠ r := fun e => by rw [e, hr] at hS; simp at hS
  have ltS : S < s.heap.objs.size := Heap.lt_size hS
  have nSI : S ≠ s.heap.objs.size := Nat.ne_of_lt ltS
  have nSf : S ∉ [s.heap.objs.size] := fun hm => nSI (List.mem_singleton.mp hm)
  have W := (Walks.longrange (prog := P) (w := w) (A := A.in1) hh s.heap.objs.size a c n).toS
  have loop : ∀ (g : Heap) (k1 tk : Nat), IsLongIter g s.heap.objs.size (a + ((0 : Nat) : Int) * c) ((n : Int) - ((0 : Nat) : Int)) c → (∀ p o, p ≠ S → s.heap.get? p = some o → g.get? p = some o) → g.get? S = some { cls := .type "list", data := .seq #[] k1 } →
      codeAny (model P w) A (.builtin "list.extend.loop" ⟨[.ref S, .ref s.heap.objs.size, res], []⟩) R { s with heap := g, toks := tk } := by
    intro g k1 tk hit hk hS1
    refine codeAny_extend_loopS W (by rw [sizeLine_eq]; omega) S nSf res n 0 _ #[] k1 rfl (Nat.zero_le _) hit hS1 (ItemsOf.nil _) fun s2 acc k2 hm hS2 hacc => ?_
    rw [Moved.eq_with hm]
    refine hR s2.heap s2.toks acc k2 (fun p o hp e => hm.heap p o (fun mem => ?_) (hk p o hp e)) hS2 hacc
    rcases List.mem_cons.mp mem with z | mem
    · exact hp z
    · exact absurd (Heap.lt_size e) (by rw [List.mem_singleton.mp mem]; exact Nat.lt_irrefl _)
  unfold Builtin.List.listExtendWith
  refine wpAny_bind (wpAny_typeOf (T := "range") ⟨_, hr, rfl⟩ ?_)
  have q1 : Builtin.List.listSameRef (.ref S) (.ref r) = false := by simp [Builtin.List.listSameRef, nSr]
  have q2 : (Value.type "range" == Value.type "list") = false := by decide
  have q3 : (Value.type "range" == Value.type "tuple") = false := by decide
  simp only [q1, q2, q3, Bool.or_false, Bool.false_eq_true, if_false]
  refine wpAny_bind (wpAny_pyIter_longrange hr big ?_)
  refine wpAny_bind (wpAny_holding (wpAny_hint_range (n := n) (Heap.get?_push_of_some _ hr) hn hlen ?_))
  have it1 : IsLongIter (s.heap.push { cls := .type "longrange_iterator", data := .fields #[rawInt a, rawInt (Builtin.Range.rangeSize a b c), rawInt c] }) s.heap.objs.size (a + ((0 : Nat) : Int) * c) ((n : Int) - ((0 : Nat) : Int)) c := by
    show IsLongIter _ _ _ _ _
    rw [hn]
    simpa using Heap.get?_push_size _ rfl
  have S1 := Heap.get?_push_of_some { cls := .type "longrange_iterator", data := .fields #[rawInt a, rawInt (Builtin.Range.rangeSize a b c), rawInt c] } hS
  refine wpAny_ite_split (fun _ => ?_) (fun _ => wpAny_pure ⟨plainId_quiet F.plain_extend_loop _, loop _ k0 _ it1 (fun p o _ e => Heap.get?_push_of_some _ e) S1⟩)
  refine wpAny_bind (wpAny_rule ?_)
  refine wpAny_bind ?_
  show wpAny _ _ (updateSeq S (·.push .none) >>= fun _ => updateSeq S (·.pop)) _ _ _
  refine wpAny_bind (wpAny_updateSeq S1 rfl ?_)
  have S2 := Heap.get?_update_self (Obj.mapSeq (·.push Value.none)) S1 rfl
  refine wpAny_updateSeq (hz := by seq_fits) S2 rfl ?_
  have S3 := Heap.get?_update_self (Obj.mapSeq (·.pop)) S2 rfl
  refine wpAny_pure ⟨plainId_quiet F.plain_extend_loop _, loop _ _ _ ?_ (fun p o hp e => ?_) S3⟩
  · exact (Heap.get?_update_other _ _ nSI).trans ((Heap.get?_update_other _ _ nSI).trans it1)
  · exact (Heap.get?_update_other _ _ (Ne.symm hp)).trans ((Heap.get?_update_other _ _ (Ne.symm hp)).trans (Heap.get?_push_of_some _ e))
theorem long_collect {Q : List Value → Shared → Prop} (hh : A.handled = none) (hr : IsRange s.heap r a b c t u v) (big : Builtin.Range.small a b c = false) (hn : Builtin.Range.rangeSize a b c = n) (hlen : n ≤ 2 ^ 24)
    (hQ : ∀ (g : Heap) (tk : Nat) (acc : Array Value), (∀ p o, s.heap.get? p = some o → g.get? p = some o) → ItemsOf (fun i z => ∃ t, z = .int (a + i * c) t) acc n → Q acc.toList { s with heap := g, toks := tk }) : wpAny (model P w) A (collect (.ref r)) Q E s := by
  unfold collect
  refine wpAny_bind (wpAny_runValue (codeAny_builtin F.entry_proto_collect ?_)); rw [Around.under_plainId F.plain_proto_collect _]
  show wpAny _ A.in1 (newList [] >>= fun l => again (.builtin "list.__iadd__" ⟨[l, .ref r], []⟩)) _ _ s
  refine wpAny_bind (wpAny_newObj_type ?_); refine wpAny_pure ⟨plainId_quiet F.plain_list_iadd _, codeAny_builtin F.entry_list_iadd ?_⟩
  rw [Around.under_plainId F.plain_list_iadd _]
  show wpAny _ A.in1 (Builtin.List.listExtendWith (.ref s.heap.objs.size) (.ref r) (.ref s.heap.objs.size)) _ _ _
  have S0 : (s.heap.push { cls := .type "list", data := .seq ([] : List Value).toArray }).get? s.heap.objs.size = some { cls := .type "list", data := .seq #[] 0 } := Heap.get?_push_size _ rfl
  refine wpAny_mono (long_extend (A := A) (R := fun rr s2 => rr = .ok (.ret (.ref s.heap.objs.size)) ∧ ∃ (g : Heap) (tk : Nat) (acc : Array Value) (k : Nat), s2 = { s with heap := g, toks := tk } ∧ (∀ p o, s.heap.get? p = some o → g.get? p = some o) ∧
        g.get? s.heap.objs.size = some { cls := .type "list", dict := none, data := .seq acc k, slots := #[] } ∧ ItemsOf (fun i z => ∃ t, z = .int (a + i * c) t) acc n)
      (s := { s with heap := s.heap.push { cls := .type "list", data := .seq ([] : List Value).toArray } }) hh (Heap.get?_push_of_some _ hr) big hn hlen _ _ 0 S0
      (fun g tk acc k hk e hi => ⟨rfl, g, tk, acc, k, rfl, fun p o q => hk p o (Nat.ne_of_lt (Heap.lt_size q)) (Heap.get?_push_of_some _ q), e, hi⟩)) (fun fin s2 z => ?_) (fun e s2 z => ?_)
  · cases fin with
    | done f =>
      obtain ⟨e, g, tk, acc, k, rfl, hk, z2, hi⟩ := z
      cases e
      show wpAny _ A (load s.heap.objs.size >>= _) _ _ _
      exact wpAny_bind (wpAny_load z2 (wpAny_pure (hQ g tk acc hk hi)))
    | again k0 =>
      refine ⟨z.1, codeAny_mono z.2 fun rr s3 zz => ?_⟩
      obtain ⟨rfl, g, tk, acc, k, rfl, hk, z2, hi⟩ := zz
      show wpAny _ A (load s.heap.objs.size >>= _) _ _ _
      exact wpAny_bind (wpAny_load z2 (wpAny_pure (hQ g tk acc hk hi)))
  · exact absurd z.1 (by simp)
theorem long_tuple {Q : Value → Shared → Prop} (hh : A.handled = none) (hr : IsRange s.heap r a b c t u v) (big : Builtin.Range.small a b c = false) (hn : Builtin.Range.rangeSize a b c = n) (hlen : n ≤ 2 ^ 24)
    (hQ : ∀ (g : Heap) (tk : Nat) (acc : Array Value), (∀ p o, s.heap.get? p = some o → g.get? p = some o) → ItemsOf (fun i z => ∃ t, z = .int (a + i * c) t) acc n → Q (.ref g.objs.size) { s with heap := g.push { cls := .type "tuple", data := .seq acc }, toks := tk }) :
    wpAny (model P w) A (call (.type "tuple") [.ref r]) Q E s := by
  have new : codeAny (model P w) A.in1 (.call (.builtin "tuple.__new__") ⟨[.type "tuple", .ref r], []⟩) (wants (fun ob s₁ => s₁.TypeIs ob "tuple" ∧ Q ob s₁) E) s := by
    refine codeAny_of_tree ?_
    show wpAny _ A.in1.in1 (do checkBuiltinCall "tuple.__new__" ⟨[.type "tuple", .ref r], []⟩; again (.builtin "tuple.__new__" ⟨[.type "tuple", .ref r], []⟩)) _ _ s
    refine wpAny_bind (wpAny_of_eq (F.newCall_tuple_1 _) (wpAny_pure ⟨plainId_quiet F.plain_tuple_new _, codeAny_builtin F.entry_tuple_new ?_⟩))
    rw [Around.under_plainId F.plain_tuple_new _]
    have k1 := sub_tuple_self
    have k2 := init_tuple_lookup
    have k3 := madeHere_tuple
    have ty : s.TypeIs (.ref r) "range" := ⟨_, hr, rfl⟩
    have h1 : A.in1.in1.handled = none := hh
    wp_walk using wpAny_typeOf ty, long_collect (A := A.in1.in1) h1 hr big hn hlen
    intro g tk acc hk hacc
    show wpAny _ _ (Builtin.Tuple.tupleExact acc.toList.toArray >>= fun z => ret z) _ _ _
    unfold Builtin.Tuple.tupleExact
    refine wpAny_bind (wpAny_newObj_type ?_ (by show acc.toList.toArray.size ≤ sizeLine; simp only [Array.toArray_toList]; rw [hacc.1, sizeLine_eq]; omega)); refine wpAny_pure ?_
    have e : acc.toList.toArray = acc := by simp
    rw [e]
    exact ⟨⟨_, Heap.get?_push_size _ rfl, rfl⟩, hQ g tk acc hk hacc⟩
  refine callType_codes (Q₁ := fun ob s₁ => s₁.TypeIs ob "tuple" ∧ Q ob s₁) F.called_tuple (F.typeCall_tuple_1 _) F.entry_object_init new fun ob s₁ z => ?_
  exact ⟨z.1, F.args_object_init_2 ob _, object_init_meets F.called_tuple.init.lookup F.called_tuple.made (by decide) P w A.in1 _ s₁ ⟨z.1, rfl, z.2⟩⟩
theorem any_tuple {Q : Value → Shared → Prop} (hh : A.handled = none) (hr : IsRange s.heap r a b c t u v) (hn : Builtin.Range.rangeSize a b c = n) (hlen : n ≤ 2 ^ 24)
    (hQ : ∀ (g : Heap) (tk : Nat) (acc : Array Value), (∀ p o, s.heap.get? p = some o → g.get? p = some o) → ItemsOf (fun i z => ∃ t, z = .int (a + i * c) t) acc n → Q (.ref g.objs.size) { s with heap := g.push { cls := .type "tuple", data := .seq acc }, toks := tk }) :
    wpAny (model P w) A (call (.type "tuple") [.ref r]) Q E s := by
  cases sm : Builtin.Range.small a b c with
  | true => exact L2.call_tuple_range hh hr sm hn hlen hQ
  | false => exact long_tuple hh hr sm hn hlen hQ
end
section
variable {X : Cx} {v : Ev} {g : G} {W : WX} {pos p p2 pos2 : Pos} {a b : Expr} {e1 : Ex} {x y : Str} {es : List Expr} {fs : List Ex}
/-- the items of a range -/
def rgA (lo c : Int) (n : Nat) : List V := (List.range n).map fun (k : Nat) => V.int (lo + (k : Int) * c)
theorem rg_vals {lo c : Int} {n : Nat} {acc : Array Value} (h : ItemsOf (fun i z => ∃ t, z = .int (lo + i * c) t) acc n) : Vals (rgA lo c n) acc.toList := by
  have e : acc.toList.length = n := by rw [Array.length_toList]; exact h.1
  unfold rgA
  rw [← e]
  refine vals_of_get acc.toList _ fun j u hj => ?_
  obtain ⟨t, rfl⟩ := h.2 j u (by rw [← hj, Array.getElem?_toList])
  exact ⟨t, rfl⟩
/-- three readings of range's arguments, then a new tuple -/
def tTupA (ta : TA) : TE := fun σ H Q => ta σ H fun vs H1 => ∃ lo hi c, (vs = [.int hi] ∧ lo = 0 ∧ c = 1 ∨ (vs = [.int lo, .int hi] ∧ c = 1 ∨ vs = [.int lo, .int hi, .int c] ∧ c ≠ 0 ∧ c.natAbs.log2 < 9000)) ∧ rangeN lo hi c ≤ 2 ^ 24 ∧ ∀ q, H1 q = none → Q (.ref q) (upd H1 q (.tup (rgA lo c (rangeN lo hi c))))
theorem pe_tupA {ta : TA} (hc : X.calm = true) (hg : Gl X "tuple") (hm : X.mg "tuple" = none) (hg2 : Gl X "range") (hm2 : X.mg "range" = none) (ha : PA X (a :: es) ta) (hs : starEach (a :: es) X.env = (false, eval a X.env) :: starEach es X.env) (hpl : (backTo pos2 (starEach es X.env)).any (·.1) = false)
    (na : starEach [.Call (.Name "range" p2) (a :: es) [] pos2] X.env = (false, eval (.Call (.Name "range" p2) (a :: es) [] pos2) X.env) :: starEach [] X.env) :
    PE X (.Call (.Name "tuple" p) [.Call (.Name "range" p2) (a :: es) [] pos2] [] pos) (tTupA ta) := by
  refine ⟨fun pins s σ H Q I h => ?_⟩
  have fin : ∀ {s1 : Shared} {H1 : Hp} {lo hi c : Int} {t u w : Tok} {tk : Nat} (I1 : Inv X pins σ H1 s1), rangeN lo hi c ≤ 2 ^ 24 → (∀ q, H1 q = none → Q (.ref q) (upd H1 q (.tup (rgA lo c (rangeN lo hi c))))) →
      wpAny (model X.prog X.w) X.A (call (.type "tuple") [.ref s1.heap.objs.size]) (EP X pins σ Q) X.xe { s1 with heap := s1.heap.push { cls := .type "range", data := .fields #[.int lo t, .int hi u, .int c w] }, toks := tk } := fun {s1 H1 lo hi c t u w tk} I1 hl q => by
    have I2 : Inv X pins σ H1 { s1 with heap := s1.heap.push { cls := .type "range", data := .fields #[.int lo t, .int hi u, .int c w] }, toks := tk } := I1.kept fun b o e => Heap.get?_push_of_some _ e
    refine any_tuple (I1.ok.hd hc) (IsRange.new ..) (rangeN_eq lo hi c) hl fun h' tk2 acc hk hi2 => ?_
    have I3 : Inv X pins σ H1 { s1 with heap := h', toks := tk2 } := I1.kept fun b o e => hk b o (Heap.get?_push_of_some _ e)
    refine ⟨.ref h'.objs.size, upd H1 h'.objs.size (.tup (rgA lo c (rangeN lo hi c))), I3.laid (t' := tk2) (fun b o e => Heap.get?_push_of_some _ e) (Nat.le_refl _) (show ObjOk X.prog X.w _ _ _ (.tup _) from ⟨?_, acc.toList, rg_vals hi2, ?_⟩), rfl, q _ (I3.hok.fresh (Nat.le_refl _))⟩
    · rw [rgA, List.length_map, List.length_range, sizeLine_eq]; omega
    · rw [Array.toArray_toList]; exact IsTup.new _ _
  refine Call_ (ld_blt I hg hm boot_tuple (PyProof.Rows.callWith_type1 (args_cons ?_ na) na))
  refine Call_ (ld_blt I hg2 hm2 boot_range (PyProof.Rows.callWith_type1 (thn (ha.run pos2 pins s σ H _ I h) fun us s1 ⟨vs, H1, I1, r1, q1⟩ => ?_) hs hpl))
  obtain ⟨lo, hi, c, q1, hl, q⟩ := q1
  rcases q1 with ⟨rfl, rfl, rfl⟩ | ⟨rfl, rfl⟩ | ⟨rfl, c0, c1⟩
  · cases r1 with
    | cons r rr =>
      cases rr
      obtain ⟨t, rfl⟩ := r
      exact call_range_1 (args_nil (fin I1 hl q))
  · cases r1 with
    | cons r rr =>
    cases rr with
    | cons r' rr =>
      cases rr
      obtain ⟨t, rfl⟩ := r
      obtain ⟨t', rfl⟩ := r'
      exact call_range_2 (args_nil (fin I1 hl q))
  · cases r1 with
    | cons r rr =>
    cases rr with
    | cons r' rr =>
    cases rr with
    | cons r'' rr =>
      cases rr
      obtain ⟨t, rfl⟩ := r
      obtain ⟨t', rfl⟩ := r'
      obtain ⟨t'', rfl⟩ := r''
      exact call_range_3 c0 (args_nil (fin I1 hl q)) (.inl (PyProof.noPylong_of_log2 c1))
theorem rg_rps {ι : List Addr} {H : Hp} (lo c : Int) (n : Nat) : RPs v ι H (rangeL lo n c) (rgA lo c n) := by
  unfold rangeL rgA
  induction (List.range n) with
  | nil => exact .nil
  | cons k ks ih => exact .cons (.int _) ih
theorem e_tupRng (hc : Cc X v W) (hg : Gl X x) (hm : X.mg x = none) (hg2 : Gl X y) (hm2 : X.mg y = none) (ha : PA X (a :: es) (tL v g W fs)) (hx : x = "tuple" := by rfl) (hy : y = "range" := by rfl) (hs : starEach (a :: es) X.env = (false, eval a X.env) :: starEach es X.env := by rfl) (hpl : (backTo pos2 (starEach es X.env)).any (·.1) = false := by rfl)
    (na : starEach [.Call (.Name y p2) (a :: es) [] pos2] X.env = (false, eval (.Call (.Name y p2) (a :: es) [] pos2) X.env) :: starEach [] X.env := by rfl) :
    PE X (.Call (.Name x p) [.Call (.Name y p2) (a :: es) [] pos2] [] pos) (tE v g W (.op .tupRng fs)) := by
  subst hx hy
  refine PE.imp (pe_tupA hc.calm hg hm hg2 hm2 ha hs hpl na) fun σ H Q ⟨ι, δ, h, hr, hs, go⟩ => ?_
  rw [evE_op] at go
  refine ⟨ι, δ, h, hr, hs, Go.bind (SS := rrL v) go fun ds h1 ι1 H1 xs r1 ex1 hr1 rx1 go1 => ?_⟩
  have go1 : Go (rrE v) v ι1 H1 (match rngS ds with
    | some s => whenR (decide (s.ds.length ≤ cells)) (.ok (.tup s.ds) h1)
    | none => .no) Q _ := go1
  have fin : ∀ {lo hi c : Int}, Go (rrE v) v ι1 H1 (whenR (decide ((rangeL lo (rangeN lo hi c) c).length ≤ cells)) (.ok (.tup (rangeL lo (rangeN lo hi c) c)) h1)) Q (fun c d H' => W c d σ H') → rangeN lo hi c ≤ 2 ^ 24 ∧ ∀ q, H1 q = none → Q (.ref q) (upd H1 q (.tup (rgA lo c (rangeN lo hi c)))) := fun {lo hi c} go => by
    obtain ⟨z, go⟩ := go_when go
    have z := of_decide_eq_true z
    rw [rangeL, List.length_map, List.length_range] at z
    exact ⟨z, fun q hq => go_tup go hr1 (rg_rps lo c _) hq⟩
  cases q : rngS ds with
  | none => rw [q] at go1; exact go1.elim
  | some s =>
    rw [q] at go1
    unfold rngS at q
    split at q
    · cases q
      cases rx1 with
      | cons a1 t1 =>
        cases t1
        rw [rv_int a1]
        exact ⟨0, _, 1, .inl ⟨rfl, rfl, rfl⟩, fin go1⟩
    · cases q
      cases rx1 with
      | cons a1 t1 =>
      cases t1 with
      | cons a2 t1 =>
        cases t1
        rw [rv_int a1, rv_int a2]
        exact ⟨_, _, 1, .inr (.inl ⟨rfl, rfl⟩), fin go1⟩
    · split at q
      · rename_i cc
        cases q
        cases rx1 with
        | cons a1 t1 =>
        cases t1 with
        | cons a2 t1 =>
        cases t1 with
        | cons a3 t1 =>
          cases t1
          rw [rv_int a1, rv_int a2, rv_int a3]
          have c0 := cc.1
          exact ⟨_, _, _, .inr (.inr ⟨rfl, c0, (Nat.log2_lt (by omega)).mpr cc.2⟩), fin go1⟩
      · cases q
    · cases q
end
end Ivy

/-! Ivy, part S: lemmas for running the evaluator by simp. -/
namespace Ivy
section
variable {α β : Type} {s : Nat → Nat → Bool} {h : Hh} {i j k : Int} {x y : Tx} {a b c d : D} {xs ys : List D} {n m : Nat} {δ : Sl} {p q : Bool}
@[simp] theorem s_okb (a : α) (k : α → Hh → R β) : (R.ok a h).bind k = k a h := rfl
@[simp] theorem s_nob (k : α → Hh → R β) : (R.no : R α).bind k = .no := rfl
@[simp] theorem s_go (a : α) (k : α → Hh → Rs) : (R.ok a h).go δ k = k a h := rfl
@[simp] theorem s_calm (a : α) : (R.ok a h).calm = .ok a h := rfl
@[simp] theorem s_wt (r : R α) : whenR true r = r := rfl
@[simp] theorem s_wf (r : R α) : whenR false r = .no := rfl
@[simp] theorem s_int : intR i h = .ok (.int i) h := rfl
@[simp] theorem s_bl : blR p h = .ok (.bl p) h := rfl
@[simp] theorem s_fin : finish h d h = .ok d h := by simp [finish]
@[simp] theorem s_endN : endF h (.nx δ h) = .ok .non h := by simp [endF]
@[simp] theorem s_endR : endF h (.ret d h) = .ok d h := by simp [endF]
theorem fin_len {g : Hh} (e : g.length = h.length) : finish h d g = .ok d g := by simp [finish, e]
/-! arithmetic -/
@[simp] theorem o_addI : opApp s .add [.int i, .int j] h = .ok (.int (i + j)) h := rfl
@[simp] theorem o_iaddI : opApp s .iadd [.int i, .int j] h = .ok (.int (i + j)) h := rfl
@[simp] theorem o_subI : opApp s .sub [.int i, .int j] h = .ok (.int (i - j)) h := rfl
@[simp] theorem o_mulI' : opApp s .mul [.int i, .int j] h = whenR (mulOk i j) (.ok (.int (i * j)) h) := rfl
@[simp] theorem o_imulI : opApp s .imul [.int i, .int j] h = whenR (mulOk i j) (.ok (.int (i * j)) h) := rfl
@[simp] theorem o_fdivI : opApp s .fdiv [.int i, .int j] h = whenR (decide (j ≠ 0) && decide (j.natAbs < bigD)) (.ok (.int (i.fdiv j)) h) := rfl
@[simp] theorem o_modI : opApp s .mod [.int i, .int j] h = whenR (decide (j ≠ 0)) (.ok (.int (i.fmod j)) h) := rfl
@[simp] theorem o_powI : opApp s .pow [.int i, .int j] h = whenR (decide (0 ≤ j) && decide (j ≤ 1000000) && decide (i.natAbs < 18446744073709551616)) (.ok (.int (i ^ j.toNat)) h) := rfl
@[simp] theorem o_shlI : opApp s .shl [.int i, .int j] h = whenR (decide (0 ≤ j) && decide (j ≤ 1000000) && decide (i.natAbs < big)) (.ok (.int (i * 2 ^ j.toNat)) h) := rfl
@[simp] theorem o_negI : opApp s .neg [.int i] h = .ok (.int (-i)) h := rfl
@[simp] theorem o_absI : opApp s .abs [.int i] h = .ok (.int (if i < 0 then -i else i)) h := rfl
@[simp] theorem o_intI : opApp s .int [.int i] h = .ok (.int i) h := rfl
@[simp] theorem o_bits : opApp s .bits [.int i] h = .ok (.int (bitLen i)) h := rfl
/-! order, equality -/
@[simp] theorem o_ltI : opApp s .lt [.int i, .int j] h = .ok (.bl (decide (i < j))) h := rfl
@[simp] theorem o_leI : opApp s .le [.int i, .int j] h = .ok (.bl (decide (i ≤ j))) h := rfl
@[simp] theorem o_gtI : opApp s .gt [.int i, .int j] h = .ok (.bl (decide (j < i))) h := rfl
@[simp] theorem o_geI : opApp s .ge [.int i, .int j] h = .ok (.bl (decide (j ≤ i))) h := rfl
@[simp] theorem o_eqI : opApp s .eq [.int i, .int j] h = .ok (.bl (decide (i = j))) h := rfl
@[simp] theorem o_neI : opApp s .ne [.int i, .int j] h = .ok (.bl (!decide (i = j))) h := rfl
@[simp] theorem o_eqS : opApp s .eq [.str x, .str y] h = .ok (.bl (decide (x = y))) h := rfl
@[simp] theorem o_neS : opApp s .ne [.str x, .str y] h = .ok (.bl (!decide (x = y))) h := rfl
@[simp] theorem o_eqB : opApp s .eq [.bl p, .bl q] h = .ok (.bl (p == q)) h := rfl
@[simp] theorem o_isN : opApp s .isNone [a] h = .ok (.bl (D.isNon a)) h := rfl
@[simp] theorem o_notN : opApp s .notNone [a] h = .ok (.bl (!D.isNon a)) h := rfl
/-! displays, items -/
@[simp] theorem o_tup : opApp s .tup xs h = whenR (persL xs && decide (xs.length ≤ cells)) (.ok (.tup xs) h) := rfl
@[simp] theorem o_lst : opApp s .lst xs h = whenR (persL xs && decide (xs.length ≤ cells)) (.ok (.lst xs) h) := rfl
@[simp] theorem s_pers0 : persL [] = true := rfl
@[simp] theorem s_pers1 : persL (a :: xs) = (D.pers a && persL xs) := rfl
@[simp] theorem at0 : atP (a :: xs) 0 = some a := by simp [atP, ixP]
@[simp] theorem at1 : atP (a :: b :: xs) 1 = some b := by
  unfold atP ixP
  rw [if_pos (by omega), if_pos (by simp only [List.length_cons]; omega)]
  rfl
@[simp] theorem at2 : atP (a :: b :: c :: xs) 2 = some c := by
  unfold atP ixP
  rw [if_pos (by omega), if_pos (by simp only [List.length_cons]; omega)]
  rfl
@[simp] theorem at3 : atP (a :: b :: c :: d :: xs) 3 = some d := by
  unfold atP ixP
  rw [if_pos (by omega), if_pos (by simp only [List.length_cons]; omega)]
  rfl
@[simp] theorem o_idxT : opApp s .idx [.tup xs, .int i] h = (match atP xs i with
  | some d => .ok d h
  | none => .no) := rfl
@[simp] theorem o_lenT : opApp s .len [.tup xs] h = .ok (.int xs.length) h := rfl
theorem o_idxL (e : h[n]? = some (.lst xs)) : opApp s .idx [.ref n, .int i] h = (match atP xs i with
  | some d => .ok d h
  | none => .no) := by
  show opIdx h (.ref n) (.int i) = _
  unfold opIdx
  simp [dcD, sqD, lsD, e] <;> rfl
theorem o_lenL (e : h[n]? = some (.lst xs)) : opApp s .len [.ref n] h = .ok (.int xs.length) h := by
  show (match sqD h (.ref n) with
    | some xs => intR xs.length h
    | none => match dcD h (.ref n) with
      | some kvs => intR kvs.length h
      | none => .no) = _
  simp [sqD, lsD, e]
theorem o_setL (e : h[n]? = some (.lst xs)) : opApp s .setItem [d, .ref n, .int i] h = (match ixP xs.length i with
  | some k => whenR (D.pers d) (.ok .non (h.set n (.lst (xs.set k d))))
  | none => .no) := by
  show (match h[n]?, (D.int i : D) with
    | some (.lst xs), .int i => (match ixP xs.length i with
      | some k => whenR (D.pers d) (chg h n (xs.set k d) .non)
      | none => .no)
    | some (.dct kvs), b => (match kyD b with
      | some k => whenR (D.pers d && decide (kvs.length < cells)) (.ok .non (h.set n (.dct (kPut kvs k d))))
      | none => .no)
    | _, _ => .no) = _
  rw [e]
  rfl
@[simp] theorem o_isi (ts : List Ty) : opApp s (.isi ts) [a] h = (match tyD h a with
    | some k => .ok (.bl (ts.any (tyIs s k))) h
    | none => .no) := rfl
@[simp] theorem o_sl01T : opApp s (.slice false true) [.tup xs, .int j] h = .ok (.tup (cut xs none (some j))) h := rfl
@[simp] theorem o_sl10T : opApp s (.slice true false) [.tup xs, .int j] h = .ok (.tup (cut xs (some j) none)) h := rfl
@[simp] theorem s_boxT : boxR (.tup xs) h = .ok (.tup xs) h := rfl
@[simp] theorem s_boxI : boxR (.int i) h = .ok (.int i) h := rfl
@[simp] theorem s_boxN : boxR .non h = .ok .non h := rfl
@[simp] theorem s_boxB : boxR (.bl p) h = .ok (.bl p) h := rfl
@[simp] theorem s_boxS : boxR (.str x) h = .ok (.str x) h := rfl
@[simp] theorem s_boxR : boxR (.ref n) h = .ok (.ref n) h := rfl
@[simp] theorem s_boxL : boxR (.lst xs) h = .ok (.ref h.length) (h ++ [.lst xs]) := rfl
@[simp] theorem s_truB : truD h (.bl p) = .ok p h := rfl
@[simp] theorem s_truI : truD h (.int i) = .ok (i != 0) h := rfl
@[simp] theorem p_non : D.pers .non = true := rfl
@[simp] theorem p_bl : D.pers (.bl p) = true := rfl
@[simp] theorem p_int : D.pers (.int i) = true := rfl
@[simp] theorem p_str : D.pers (.str x) = true := rfl
@[simp] theorem p_tup : D.pers (.tup xs) = true := rfl
@[simp] theorem p_ref : D.pers (.ref n) = true := rfl
@[simp] theorem n_non : D.isNon .non = true := rfl
@[simp] theorem n_bl : D.isNon (.bl p) = false := rfl
@[simp] theorem n_int : D.isNon (.int i) = false := rfl
@[simp] theorem nn_str : D.isNon (.str x) = false := rfl
@[simp] theorem n_tup : D.isNon (.tup xs) = false := rfl
@[simp] theorem n_ref : D.isNon (.ref n) = false := rfl
@[simp] theorem g_name' : putT (.name m) d δ = if D.pers d = true then some (δ.set m (some d)) else none := by simp [putT]
@[simp] theorem g_tup' (ts : List Tg) : putT (.tup ts) (.tup xs) δ = putTs ts xs δ := by simp [putT]
@[simp] theorem g_nil' : putTs [] [] δ = some δ := by simp [putTs]
@[simp] theorem g_cons' (t : Tg) (ts : List Tg) : putTs (t :: ts) (d :: xs) δ = (match putT t d δ with
  | some δ' => putTs ts xs δ'
  | none => none) := by simp [putTs] <;> rfl
@[simp] theorem t_non : tyD h .non = some (.inl .none) := rfl
@[simp] theorem t_bl : tyD h (.bl p) = some (.inl .bool) := rfl
@[simp] theorem t_int : tyD h (.int i) = some (.inl .int) := rfl
@[simp] theorem t_str : tyD h (.str x) = some (.inl .str) := rfl
@[simp] theorem t_tup : tyD h (.tup xs) = some (.inl .tuple) := rfl
end
/-! loops, turn by turn -/
section
variable {T : Sl → Hh → R Bool} {B : Sl → Hh → Rs} {ks : List Nat} {n : Nat} {δ δ1 δ2 : Sl} {h h1 h2 : Hh} {t : Tg} {x : D} {xs : List D} {gd : List (Nat × C)}
theorem lpW_go (hT : T δ h = .ok true h1) (hB : B δ h1 = .nx δ2 h2) : lpW T ks B (n + 1) δ h = lpW T ks B n (wipeS δ2 ks) h2 := by
  show (T δ h).go δ _ = _
  rw [hT]
  simp only [s_go, if_true]
  rw [hB]
theorem lpW_end (hT : T δ h = .ok false h1) : lpW T ks B (n + 1) δ h = .nx (wipeS δ ks) h1 := by
  show (T δ h).go δ _ = _
  rw [hT]
  rfl
theorem lpF_nil : lpF [] t ks B [] δ h = .nx (wipeS δ ks) h := rfl
theorem lpF_go (hp : putT t x δ = some δ1) (hB : B δ1 h = .nx δ2 h2) : lpF [] t ks B (x :: xs) δ h = lpF [] t ks B xs (wipeS δ2 ks) h2 := by
  show (match putT t x δ with
    | some δ' => _
    | none => _) = _
  rw [hp]
  simp only
  rw [hB]
theorem lpF_brk (hp : putT t x δ = some δ1) (hB : B δ1 h = .brk δ2 h2) : lpF [] t ks B (x :: xs) δ h = .nx (wipeS δ2 ks) h2 := by
  show (match putT t x δ with
    | some δ' => _
    | none => _) = _
  rw [hp]
  simp only
  rw [hB]
theorem lpF_ret {d : D} (hp : putT t x δ = some δ1) (hB : B δ1 h = .ret d h2) : lpF [] t ks B (x :: xs) δ h = .ret d h2 := by
  show (match putT t x δ with
    | some δ' => _
    | none => _) = _
  rw [hp]
  simp only
  rw [hB]
end
@[simp] theorem cells_n : cells = 16777216 := rfl
@[simp] theorem wipe0 {δ : Sl} : wipeS δ [] = δ := rfl
@[simp] theorem wipe1 {δ : Sl} {k : Nat} {ks : List Nat} : wipeS δ (k :: ks) = (wipeS δ ks).set k none := rfl
theorem mulOk_of {i j : Int} (hi : i.natAbs < 2 ^ 400000) (hj : j.natAbs < 2 ^ 400000) : mulOk i j = true := by
  have h : 2 ^ 400000 ≤ big := Nat.pow_le_pow_right (by omega) (by omega)
  unfold mulOk
  rw [Bool.or_eq_true, Bool.and_eq_true]
  exact .inr ⟨decide_eq_true (Nat.lt_of_lt_of_le hi h), decide_eq_true (Nat.lt_of_lt_of_le hj h)⟩
theorem callF_eq (P : Pg) (n f : Nat) (ds : List D) (h : Hh) : callF P (n + 1) f ds h = match P.fns[f]? with
    | some fn => runF ⟨callF P n, P.cs, P.sub, P.w⟩ fn ds h
    | none => .no := rfl
end Ivy

namespace Lk01
open Ivy
def gcd_of_l1 : List St := [.asg (.tup [(.name 0), (.name 1)]) (.op .tup [(.var 1), (.op .mod [(.var 0), (.var 1)])])]
def gcd_of : Fn := ⟨2, 2, [.whl (.ex (.op .ne [(.var 1), (.lit (.int 0))])) gcd_of_l1 [], .ret (.op .abs [(.var 0)])]⟩
def inverse_of_l1 : List St := [.asg (.name 6) (.op .fdiv [(.var 2), (.var 3)]), .asg (.tup [(.name 2), (.name 3)]) (.op .tup [(.var 3), (.op .sub [(.var 2), (.op .mul [(.var 6), (.var 3)])])]), .asg (.tup [(.name 4), (.name 5)]) (.op .tup [(.var 5), (.op .sub [(.var 4), (.op .mul [(.var 6), (.var 5)])])])]
def inverse_of : Fn := ⟨2, 7, [.asg (.tup [(.name 2), (.name 3)]) (.op .tup [(.var 1), (.op .mod [(.var 0), (.var 1)])]), .asg (.tup [(.name 4), (.name 5)]) (.op .tup [(.lit (.int 0)), (.lit (.int 1))]), .whl (.ex (.op .ne [(.var 3), (.lit (.int 0))])) inverse_of_l1 [6], .ret (.op .mod [(.var 4), (.var 1)])]⟩
def solved : Fn := ⟨3, 5, [.asg (.name 3) (.box (.call 0 [(.var 0), (.var 2)] [])), .ite (.ex (.op .ne [(.op .mod [(.var 1), (.var 3)]), (.lit (.int 0))])) [.ret (.lit .non)] [], .asg (.name 4) (.op .fdiv [(.var 2), (.var 3)]), .ret (.op .tup [(.op .mod [(.op .mul [(.op .fdiv [(.var 1), (.var 3)]), (.call 1 [(.op .fdiv [(.var 0), (.var 3)]), (.var 4)] [])]), (.var 4)]), (.var 4)])]⟩
def fraction_of : Fn := ⟨2, 4, [.asg (.name 2) (.box (.call 0 [(.var 0), (.var 1)] [])), .asg (.name 3) (.ifx (.ex (.op .lt [(.var 1), (.lit (.int 0))])) (.op .neg [(.lit (.int 1))]) (.lit (.int 1))), .ret (.op .tup [(.op .fdiv [(.op .mul [(.var 3), (.var 0)]), (.var 2)]), (.op .fdiv [(.op .mul [(.var 3), (.var 1)]), (.var 2)])])]⟩
def is_integer : Fn := ⟨1, 1, [.ret (.and (.op (.isi [.int]) [(.var 0)]) (.not (.ex (.op (.isi [.bool]) [(.var 0)]))))]⟩
def is_tuple : Fn := ⟨2, 2, [.ret (.and (.op (.isi [.tuple]) [(.var 0)]) (.op .eq [(.op .len [(.var 0)]), (.var 1)]))]⟩
def is_lot : Fn := ⟨1, 2, [.ite (.or (.not (.ex (.call 5 [(.var 0), (.lit (.int 2))] []))) (.or (.not (.ex (.op .all [(.comp [1] (.name 1) (.seq (.var 0)) [] (.box (.call 4 [(.var 1)] [])))]))) (.ex (.op .lt [(.op .idx [(.var 0), (.lit (.int 1))]), (.lit (.int 0))])))) [.ret (.lit (.bl false))] [], .ret (.or (.op .eq [(.op .idx [(.var 0), (.lit (.int 1))]), (.lit (.int 0))]) (.chain .le .lt (.lit (.int 0)) (.op .idx [(.var 0), (.lit (.int 0))]) (.op .idx [(.var 0), (.lit (.int 1))])))]⟩
def in_lot : Fn := ⟨2, 4, [.asg (.tup [(.name 2), (.name 3)]) (.var 0), .ret (.ifx (.ex (.op .eq [(.var 3), (.lit (.int 0))])) (.op .eq [(.var 1), (.var 2)]) (.op .eq [(.op .mod [(.op .sub [(.var 1), (.var 2)]), (.var 3)]), (.lit (.int 0))]))]⟩
def met : Fn := ⟨2, 4, [.ite (.ex (.op .eq [(.op .idx [(.var 0), (.lit (.int 1))]), (.lit (.int 0))])) [.ret (.ifx (.ex (.call 7 [(.var 1), (.op .idx [(.var 0), (.lit (.int 0))])] [])) (.var 0) (.lit .non))] [], .ite (.ex (.op .eq [(.op .idx [(.var 1), (.lit (.int 1))]), (.lit (.int 0))])) [.ret (.ifx (.ex (.call 7 [(.var 0), (.op .idx [(.var 1), (.lit (.int 0))])] [])) (.var 1) (.lit .non))] [], .asg (.name 2) (.box (.call 2 [(.op .idx [(.var 0), (.lit (.int 1))]), (.op .sub [(.op .idx [(.var 1), (.lit (.int 0))]), (.op .idx [(.var 0), (.lit (.int 0))])]), (.op .idx [(.var 1), (.lit (.int 1))])] [])), .ite (.ex (.op .isNone [(.var 2)])) [.ret (.lit .non)] [], .asg (.name 3) (.box (.op .mul [(.op .idx [(.var 0), (.lit (.int 1))]), (.op .idx [(.var 2), (.lit (.int 1))])])), .ret (.op .tup [(.op .mod [(.op .add [(.op .idx [(.var 0), (.lit (.int 0))]), (.op .mul [(.op .idx [(.var 0), (.lit (.int 1))]), (.op .idx [(.var 2), (.lit (.int 0))])])]), (.var 3)]), (.var 3)])]⟩
def is_within : Fn := ⟨2, 2, [.ite (.not (.ex (.call 7 [(.var 1), (.op .idx [(.var 0), (.lit (.int 0))])] []))) [.ret (.lit (.bl false))] [], .ret (.or (.op .eq [(.op .idx [(.var 0), (.lit (.int 1))]), (.lit (.int 0))]) (.and (.op .ne [(.op .idx [(.var 1), (.lit (.int 1))]), (.lit (.int 0))]) (.op .eq [(.op .mod [(.op .idx [(.var 0), (.lit (.int 1))]), (.op .idx [(.var 1), (.lit (.int 1))])]), (.lit (.int 0))])))]⟩
def numbers_in : Fn := ⟨3, 5, [.asg (.tup [(.name 3), (.name 4)]) (.var 0), .ite (.ex (.op .eq [(.var 4), (.lit (.int 0))])) [.ret (.ifx (.ex (.chain .le .le (.var 1) (.var 3) (.var 2))) (.op .tup [(.var 3)]) (.op .tup []))] [], .ret (.op .tupRng [(.op .add [(.var 1), (.op .mod [(.op .sub [(.var 3), (.var 1)]), (.var 4)])]), (.op .add [(.var 2), (.lit (.int 1))]), (.var 4)])]⟩
def line_of : Fn := ⟨1, 5, [.asg (.tup [(.name 1), (.name 2), (.name 3), (.name 4)]) (.var 0), .ret (.op .tup [(.box (.call 3 [(.var 4), (.var 2)] [])), (.box (.call 3 [(.op .sub [(.op .mul [(.var 3), (.var 2)]), (.op .mul [(.var 4), (.var 1)])]), (.var 2)] []))])]⟩
def turn_of : Fn := ⟨2, 2, [.ret (.ifx (.ex (.op .eq [(.op .idx [(.var 0), (.lit (.int 1))]), (.lit (.int 0))])) (.lit (.int 0)) (.op .fdiv [(.op .sub [(.var 1), (.op .idx [(.var 0), (.lit (.int 0))])]), (.op .idx [(.var 0), (.lit (.int 1))])]))]⟩
def image : Fn := ⟨2, 2, [.ret (.op .add [(.op .idx [(.var 0), (.lit (.int 2))]), (.op .mul [(.op .idx [(.var 0), (.lit (.int 3))]), (.call 12 [(.var 0), (.var 1)] [])])])]⟩
def single_meeting : Fn := ⟨3, 3, [.ite (.or (.not (.ex (.call 7 [(.box (.op (.slice false true) [(.var 0), (.lit (.int 2))])), (.var 2)] []))) (.not (.ex (.call 7 [(.box (.op (.slice false true) [(.var 1), (.lit (.int 2))])), (.var 2)] [])))) [.ret (.lit .non)] [], .ret (.ifx (.ex (.op .eq [(.call 13 [(.var 0), (.var 2)] []), (.call 13 [(.var 1), (.var 2)] [])])) (.op .tup [(.var 2), (.lit (.int 0))]) (.lit .non))]⟩
def crossing : Fn := ⟨2, 8, [.asg (.tup [(.name 2), (.name 3)]) (.op .idx [(.var 0), (.lit (.int 0))]), .asg (.tup [(.name 4), (.name 5)]) (.op .idx [(.var 1), (.lit (.int 0))]), .asg (.name 6) (.op .sub [(.op .mul [(.var 2), (.var 5)]), (.op .mul [(.var 4), (.var 3)])]), .ite (.ex (.op .eq [(.var 6), (.lit (.int 0))])) [.ret (.lit .non)] [], .asg (.name 7) (.op .sub [(.op .mul [(.op .idx [(.op .idx [(.var 1), (.lit (.int 1))]), (.lit (.int 0))]), (.op .idx [(.op .idx [(.var 0), (.lit (.int 1))]), (.lit (.int 1))])]), (.op .mul [(.op .idx [(.op .idx [(.var 0), (.lit (.int 1))]), (.lit (.int 0))]), (.op .idx [(.op .idx [(.var 1), (.lit (.int 1))]), (.lit (.int 1))])])]), .asg (.name 7) (.op .imul [(.var 7), (.op .mul [(.var 3), (.var 5)])]), .asg (.name 6) (.op .imul [(.var 6), (.op .mul [(.op .idx [(.op .idx [(.var 0), (.lit (.int 1))]), (.lit (.int 1))]), (.op .idx [(.op .idx [(.var 1), (.lit (.int 1))]), (.lit (.int 1))])])]), .ret (.ifx (.ex (.op .eq [(.op .mod [(.var 7), (.var 6)]), (.lit (.int 0))])) (.op .fdiv [(.var 7), (.var 6)]) (.lit .non))]⟩
def meeting : Fn := ⟨2, 3, [.ite (.ex (.op .eq [(.op .idx [(.var 0), (.lit (.int 1))]), (.lit (.int 0))])) [.ret (.call 14 [(.var 0), (.var 1), (.op .idx [(.var 0), (.lit (.int 0))])] [])] [], .ite (.ex (.op .eq [(.op .idx [(.var 1), (.lit (.int 1))]), (.lit (.int 0))])) [.ret (.call 14 [(.var 0), (.var 1), (.op .idx [(.var 1), (.lit (.int 0))])] [])] [], .ite (.ex (.op .eq [(.call 11 [(.var 0)] []), (.call 11 [(.var 1)] [])])) [.ret (.call 8 [(.box (.op (.slice false true) [(.var 0), (.lit (.int 2))])), (.box (.op (.slice false true) [(.var 1), (.lit (.int 2))]))] [])] [], .asg (.name 2) (.box (.call 15 [(.box (.call 11 [(.var 0)] [])), (.box (.call 11 [(.var 1)] []))] [])), .ret (.ifx (.ex (.op .isNone [(.var 2)])) (.lit .non) (.call 14 [(.var 0), (.var 1), (.var 2)] []))]⟩
def fixed_number : Fn := ⟨1, 2, [.asg (.name 1) (.box (.call 16 [(.var 0), (.op .tup [(.lit (.int 0)), (.lit (.int 1)), (.lit (.int 0)), (.lit (.int 1))])] [])), .ret (.ifx (.ex (.op .isNone [(.var 1)])) (.lit .non) (.op .idx [(.var 1), (.lit (.int 0))]))]⟩
def clash_of_l1 : List St := [.ite (.ex (.op .isNone [(.call 8 [(.var 2), (.op .idx [(.var 0), (.var 3)])] [])])) [.ret (.op .tup [(.var 1), (.var 3)])] []]
def clash_of_l2 : List St := [.for (.name 3) (.rng [(.op .add [(.var 1), (.lit (.int 1))]), (.op .len [(.var 0)])]) clash_of_l1 [3]]
def clash_of : Fn := ⟨1, 4, [.for (.tup [(.name 1), (.name 2)]) (.enum (.var 0)) clash_of_l2 [1, 2, 3], .ret (.lit .non)]⟩
def met_all_l1 : List St := [.asg (.name 1) (.box (.ifx (.ex (.op .isNone [(.var 1)])) (.lit .non) (.call 8 [(.var 1), (.var 2)] [])))]
def met_all : Fn := ⟨1, 3, [.asg (.name 1) (.op .tup [(.lit (.int 0)), (.lit (.int 1))]), .for (.name 2) (.seq (.var 0)) met_all_l1 [2], .ret (.var 1)]⟩
def _law_spring : Fn := ⟨1, 2, [.ret (.op .lst [(.box (.comp [1] (.name 1) (.seq (.op (.slice false true) [(.var 0), (.lit (.int 63))])) [] (.op .mod [(.op .abs [(.op .int [(.var 1)])]), (.op .shl [(.lit (.int 1)), (.lit (.int 2000))])]))), (.lit (.int 0)), (.lit (.int 1299709))])]⟩
def _law_flow : Fn := ⟨2, 5, [.ex (.op .setItem [(.box (.op .add [(.op .idx [(.var 0), (.lit (.int 1))]), (.lit (.int 1))])), (.var 0), (.lit (.int 1))]), .asg (.name 2) (.op .idx [(.var 0), (.lit (.int 0))]), .ite (.ex (.op .ne [(.var 2), (.op .lst [])])) [.asg (.name 3) (.op .mod [(.op .idx [(.var 0), (.lit (.int 1))]), (.op .len [(.var 2)])]), .ite (.ex (.op .ge [(.op .idx [(.var 2), (.var 3)]), (.op .pow [(.lit (.int 10)), (.lit (.int 18))])])) [.asg (.name 4) (.op .mod [(.op .int [(.op .idx [(.var 2), (.var 3)])]), (.var 1)]), .ex (.op .setItem [(.op .fdiv [(.op .idx [(.var 2), (.var 3)]), (.var 1)]), (.var 2), (.var 3)]), .ret (.var 4)] [], .ex (.op .setItem [(.box (.op .add [(.op .idx [(.var 0), (.lit (.int 2))]), (.op .idx [(.var 2), (.var 3)])])), (.var 0), (.lit (.int 2))])] [], .ex (.op .setItem [(.op .mod [(.op .int [(.op .add [(.op .mul [(.op .idx [(.var 0), (.lit (.int 2))]), (.op .add [(.op .fdiv [(.op .idx [(.var 0), (.lit (.int 2))]), (.lit (.int 8193))]), (.lit (.int 2862933555777941757))])]), (.op .idx [(.var 0), (.lit (.int 1))])])]), (.lit (.int 9223372036854775783))]), (.var 0), (.lit (.int 2))]), .ret (.op .mod [(.op .fdiv [(.op .idx [(.var 0), (.lit (.int 2))]), (.lit (.int 268435456))]), (.var 1)])]⟩
def _law_among : Fn := ⟨2, 2, [.ret (.op .idx [(.var 1), (.call 21 [(.var 0), (.op .len [(.var 1)])] [])])]⟩
def _law_wide_l1 : List St := [.asg (.name 2) (.box (.op .add [(.op .mul [(.var 2), (.lit (.int 1000))]), (.call 21 [(.var 0), (.lit (.int 1000))] [])]))]
def _law_wide : Fn := ⟨2, 4, [.asg (.name 2) (.lit (.int 0)), .for (.name 3) (.rng [(.lit (.int 10))]) _law_wide_l1 [3], .ret (.op .mod [(.var 2), (.var 1)])]⟩
def _law_same : Fn := ⟨2, 3, [.ite (.ex (.op .isNone [(.var 1)])) [.ret (.op .isNone [(.var 0)])] [], .ite (.ex (.op (.isi [.bool]) [(.var 1)])) [.ret (.and (.op (.isi [.bool]) [(.var 0)]) (.op .eq [(.var 0), (.var 1)]))] [], .ite (.ex (.op (.isi [.int]) [(.var 1)])) [.ret (.and (.op (.isi [.int]) [(.var 0)]) (.and (.not (.ex (.op (.isi [.bool]) [(.var 0)]))) (.op .eq [(.var 0), (.var 1)])))] [], .ite (.or (.not (.ex (.op (.isi [.tuple]) [(.var 0)]))) (.ex (.op .ne [(.op .len [(.var 0)]), (.op .len [(.var 1)])]))) [.ret (.lit (.bl false))] [], .ret (.op .all [(.comp [2] (.name 2) (.rng [(.op .len [(.var 1)])]) [] (.box (.call 24 [(.op .idx [(.var 0), (.var 2)]), (.op .idx [(.var 1), (.var 2)])] [])))])]⟩
def _law_factor_l1 : List St := [.ite (.ex (.op .eq [(.var 3), (.lit (.int 0))])) [.brk] [], .asg (.name 7) (.op .fdiv [(.var 2), (.var 3)]), .asg (.tup [(.name 2), (.name 3)]) (.op .tup [(.var 3), (.op .sub [(.var 2), (.op .mul [(.var 7), (.var 3)])])]), .asg (.tup [(.name 4), (.name 5)]) (.op .tup [(.var 5), (.op .sub [(.var 4), (.op .mul [(.var 7), (.var 5)])])])]
def _law_factor : Fn := ⟨2, 8, [.asg (.tup [(.name 2), (.name 3)]) (.op .tup [(.var 0), (.var 1)]), .asg (.tup [(.name 4), (.name 5)]) (.op .tup [(.lit (.int 1)), (.lit (.int 0))]), .for (.name 6) (.rng [(.op .add [(.op .mul [(.lit (.int 2)), (.op .add [(.op .bits [(.var 0)]), (.op .bits [(.var 1)])])]), (.lit (.int 4))])]) _law_factor_l1 [6, 7], .ret (.op .tup [(.var 2), (.var 4)])]⟩
def _law_in : Fn := ⟨2, 2, [.ite (.ex (.op .eq [(.op .idx [(.var 0), (.lit (.int 1))]), (.lit (.int 0))])) [.ret (.op .eq [(.var 1), (.op .idx [(.var 0), (.lit (.int 0))])])] [], .ret (.op .eq [(.op .mod [(.op .int [(.op .sub [(.var 1), (.op .idx [(.var 0), (.lit (.int 0))])])]), (.op .idx [(.var 0), (.lit (.int 1))])]), (.lit (.int 0))])]⟩
def _law_met : Fn := ⟨2, 9, [.ite (.or (.ex (.op .isNone [(.var 0)])) (.ex (.op .isNone [(.var 1)]))) [.ret (.lit .non)] [], .ite (.or (.ex (.op .eq [(.op .idx [(.var 0), (.lit (.int 1))]), (.lit (.int 0))])) (.ex (.op .eq [(.op .idx [(.var 1), (.lit (.int 1))]), (.lit (.int 0))]))) [.asg (.tup [(.name 2), (.name 3)]) (.ifx (.ex (.op .eq [(.op .idx [(.var 0), (.lit (.int 1))]), (.lit (.int 0))])) (.op .tup [(.var 0), (.var 1)]) (.op .tup [(.var 1), (.var 0)])), .ret (.ifx (.ex (.call 26 [(.var 3), (.op .idx [(.var 2), (.lit (.int 0))])] [])) (.var 2) (.lit .non))] [], .asg (.tup [(.name 4), (.name 5)]) (.call 25 [(.op .idx [(.var 0), (.lit (.int 1))]), (.op .idx [(.var 1), (.lit (.int 1))])] []), .asg (.name 6) (.op .sub [(.op .idx [(.var 1), (.lit (.int 0))]), (.op .idx [(.var 0), (.lit (.int 0))])]), .ite (.ex (.op .ne [(.op .mod [(.op .int [(.var 6)]), (.var 4)]), (.lit (.int 0))])) [.ret (.lit .non)] [], .asg (.name 7) (.op .fdiv [(.op .idx [(.var 1), (.lit (.int 1))]), (.var 4)]), .asg (.name 8) (.box (.op .mul [(.op .idx [(.var 0), (.lit (.int 1))]), (.var 7)])), .ret (.op .tup [(.op .mod [(.op .int [(.op .add [(.op .idx [(.var 0), (.lit (.int 0))]), (.op .mul [(.op .idx [(.var 0), (.lit (.int 1))]), (.op .mod [(.op .int [(.op .mul [(.op .fdiv [(.var 6), (.var 4)]), (.var 5)])]), (.var 7)])])])]), (.var 8)]), (.var 8)])]⟩
def _law_inside : Fn := ⟨2, 2, [.ite (.ex (.op .eq [(.op .idx [(.var 0), (.lit (.int 1))]), (.lit (.int 0))])) [.ret (.call 26 [(.var 1), (.op .idx [(.var 0), (.lit (.int 0))])] [])] [], .ret (.and (.op .gt [(.op .idx [(.var 1), (.lit (.int 1))]), (.lit (.int 0))]) (.and (.op .eq [(.op .mod [(.op .idx [(.var 0), (.lit (.int 1))]), (.op .idx [(.var 1), (.lit (.int 1))])]), (.lit (.int 0))]) (.call 26 [(.var 1), (.op .idx [(.var 0), (.lit (.int 0))])] [])))]⟩
def _law_led : Fn := ⟨2, 2, [.ret (.ifx (.ex (.op .eq [(.op .idx [(.var 0), (.lit (.int 1))]), (.lit (.int 0))])) (.op .idx [(.var 0), (.lit (.int 2))]) (.op .add [(.op .idx [(.var 0), (.lit (.int 2))]), (.op .mul [(.op .fdiv [(.op .sub [(.var 1), (.op .idx [(.var 0), (.lit (.int 0))])]), (.op .idx [(.var 0), (.lit (.int 1))])]), (.op .idx [(.var 0), (.lit (.int 3))])])]))]⟩
def _law_meeting : Fn := ⟨2, 6, [.asg (.name 2) (.box (.call 27 [(.op .tup [(.op .idx [(.var 0), (.lit (.int 0))]), (.op .idx [(.var 0), (.lit (.int 1))])]), (.op .tup [(.op .idx [(.var 1), (.lit (.int 0))]), (.op .idx [(.var 1), (.lit (.int 1))])])] [])), .ite (.ex (.op .isNone [(.var 2)])) [.ret (.lit .non)] [], .asg (.name 3) (.op .sub [(.call 29 [(.var 0), (.op .idx [(.var 2), (.lit (.int 0))])] []), (.call 29 [(.var 1), (.op .idx [(.var 2), (.lit (.int 0))])] [])]), .ite (.ex (.op .eq [(.op .idx [(.var 2), (.lit (.int 1))]), (.lit (.int 0))])) [.ret (.ifx (.ex (.op .eq [(.var 3), (.lit (.int 0))])) (.var 2) (.lit .non))] [], .asg (.name 4) (.box (.op .add [(.op .idx [(.var 2), (.lit (.int 0))]), (.op .idx [(.var 2), (.lit (.int 1))])])), .asg (.name 5) (.op .sub [(.op .sub [(.call 29 [(.var 0), (.var 4)] []), (.call 29 [(.var 1), (.var 4)] [])]), (.var 3)]), .ite (.ex (.op .eq [(.var 5), (.lit (.int 0))])) [.ret (.ifx (.ex (.op .eq [(.var 3), (.lit (.int 0))])) (.var 2) (.lit .non))] [], .ite (.ex (.op .ne [(.op .mod [(.op .int [(.var 3)]), (.var 5)]), (.lit (.int 0))])) [.ret (.lit .non)] [], .ret (.op .tup [(.op .sub [(.op .idx [(.var 2), (.lit (.int 0))]), (.op .mul [(.op .fdiv [(.var 3), (.var 5)]), (.op .idx [(.var 2), (.lit (.int 1))])])]), (.lit (.int 0))])]⟩
def _law_fixed : Fn := ⟨1, 5, [.asg (.tup [(.name 1), (.name 2), (.name 3), (.name 4)]) (.var 0), .ite (.ex (.op .ne [(.op .mod [(.op .int [(.op .sub [(.var 3), (.var 1)])]), (.op .sub [(.var 2), (.var 4)])]), (.lit (.int 0))])) [.ret (.lit .non)] [], .ret (.op .add [(.var 1), (.op .mul [(.op .fdiv [(.op .sub [(.var 3), (.var 1)]), (.op .sub [(.var 2), (.var 4)])]), (.var 2)])])]⟩
def _law_ask : Fn := ⟨4, 5, [.asg (.name 4) (.op .eq [(.var 3), (.lit (.str [110, 97, 109, 101, 100]))]), .thru [.ite (.ex (.op .eq [(.var 0), (.lit (.str [105, 115]))])) [.ret (.op .tup [(.lit (.str [116, 111, 108, 100])), (.box (.ifx (.ex (.var 4)) (.call 6 [(.var 1)] [0]) (.call 6 [(.var 1)] [])))])] [], .ite (.ex (.op .eq [(.var 0), (.lit (.str [105, 110]))])) [.ret (.op .tup [(.lit (.str [116, 111, 108, 100])), (.box (.ifx (.ex (.var 4)) (.call 7 [(.var 2), (.var 1)] [1, 0]) (.call 7 [(.var 1), (.var 2)] [])))])] [], .ite (.ex (.op .eq [(.var 0), (.lit (.str [109, 101, 116]))])) [.ret (.op .tup [(.lit (.str [116, 111, 108, 100])), (.box (.ifx (.ex (.var 4)) (.call 8 [(.var 2), (.var 1)] [1, 0]) (.call 8 [(.var 1), (.var 2)] [])))])] [], .ite (.ex (.op .eq [(.var 0), (.lit (.str [119, 105, 116, 104, 105, 110]))])) [.ret (.op .tup [(.lit (.str [116, 111, 108, 100])), (.box (.ifx (.ex (.var 4)) (.call 9 [(.var 2), (.var 1)] [1, 0]) (.call 9 [(.var 1), (.var 2)] [])))])] [], .ite (.ex (.op .eq [(.var 0), (.lit (.str [109, 101, 101, 116, 105, 110, 103]))])) [.ret (.op .tup [(.lit (.str [116, 111, 108, 100])), (.box (.ifx (.ex (.var 4)) (.call 16 [(.var 2), (.var 1)] [1, 0]) (.call 16 [(.var 1), (.var 2)] [])))])] [], .ite (.ex (.op .eq [(.var 0), (.lit (.str [102, 105, 120, 101, 100]))])) [.ret (.op .tup [(.lit (.str [116, 111, 108, 100])), (.box (.ifx (.ex (.var 4)) (.call 17 [(.var 1)] [0]) (.call 17 [(.var 1)] [])))])] [], .ite (.ex (.op .eq [(.var 0), (.lit (.str [97, 108, 108]))])) [.ret (.op .tup [(.lit (.str [116, 111, 108, 100])), (.box (.ifx (.ex (.var 4)) (.call 19 [(.var 1)] [0]) (.call 19 [(.var 1)] [])))])] [], .ite (.ex (.op .eq [(.var 0), (.lit (.str [99, 108, 97, 115, 104]))])) [.ret (.op .tup [(.lit (.str [116, 111, 108, 100])), (.box (.ifx (.ex (.var 4)) (.call 18 [(.var 1)] [0]) (.call 18 [(.var 1)] [])))])] [], .ite (.ex (.var 4)) [.ret (.op .tup [(.lit (.str [116, 111, 108, 100])), (.box (.call 10 [(.op .idx [(.var 2), (.lit (.int 1))]), (.op .idx [(.var 2), (.lit (.int 0))]), (.var 1)] [2, 1, 0]))])] [], .ret (.op .tup [(.lit (.str [116, 111, 108, 100])), (.box (.call 10 [(.var 1), (.op .idx [(.var 2), (.lit (.int 0))]), (.op .idx [(.var 2), (.lit (.int 1))])] []))])]]⟩
def _law_right : Fn := ⟨5, 6, [.asg (.name 5) (.box (.call 32 [(.var 1), (.var 2), (.var 3), (.box (.call 22 [(.var 0), (.box (.op .lst [(.lit (.str [])), (.lit (.str [])), (.lit (.str [110, 97, 109, 101, 100]))]))] []))] [])), .ret (.and (.op .eq [(.op .idx [(.var 5), (.lit (.int 0))]), (.lit (.str [116, 111, 108, 100]))]) (.call 24 [(.op .idx [(.var 5), (.lit (.int 1))]), (.var 4)] []))]⟩
def _law_lot : Fn := ⟨2, 3, [.ite (.ex (.op .eq [(.var 1), (.lit (.int 0))])) [.ret (.op .tup [(.box (.call 22 [(.var 0), (.box (.op .lst [(.lit (.int 0)), (.lit (.int 1)), (.op .neg [(.lit (.int 1))]), (.lit (.int 7)), (.op .sub [(.call 21 [(.var 0), (.lit (.int 60))] []), (.lit (.int 30))])]))] [])), (.lit (.int 0))])] [], .asg (.name 2) (.box (.op .add [(.lit (.int 1)), (.call 21 [(.var 0), (.lit (.int 12))] [])])), .ite (.ex (.op .eq [(.var 1), (.lit (.int 2))])) [.asg (.name 2) (.box (.op .add [(.lit (.int 1)), (.call 21 [(.var 0), (.op .pow [(.lit (.int 10)), (.lit (.int 6))])] [])]))] [], .ite (.ex (.op .eq [(.var 1), (.lit (.int 3))])) [.asg (.name 2) (.box (.op .add [(.lit (.int 1)), (.call 23 [(.var 0), (.op .pow [(.lit (.int 10)), (.lit (.int 25))])] [])]))] [], .ite (.ex (.op .eq [(.var 1), (.lit (.int 4))])) [.ret (.op .tup [(.op .sub [(.call 23 [(.var 0), (.op .pow [(.lit (.int 10)), (.lit (.int 25))])] []), (.op .pow [(.lit (.int 10)), (.lit (.int 24))])]), (.lit (.int 0))])] [], .ret (.op .tup [(.box (.call 22 [(.var 0), (.box (.op .lst [(.lit (.int 0)), (.op .sub [(.var 2), (.lit (.int 1))]), (.box (.call 23 [(.var 0), (.var 2)] []))]))] [])), (.var 2)])]⟩
def _law_pair : Fn := ⟨1, 6, [.asg (.name 1) (.box (.call 22 [(.var 0), (.box (.op .lst [(.lit (.int 1)), (.lit (.int 1)), (.lit (.int 1)), (.lit (.int 0)), (.lit (.int 2)), (.lit (.int 3))]))] [])), .asg (.name 2) (.box (.call 34 [(.var 0), (.var 1)] [])), .asg (.name 3) (.box (.call 34 [(.var 0), (.box (.call 22 [(.var 0), (.box (.op .lst [(.var 1), (.lit (.int 1)), (.lit (.int 1)), (.lit (.int 0)), (.lit (.int 3)), (.lit (.int 4))]))] []))] [])), .ite (.and (.ex (.op .gt [(.op .idx [(.var 2), (.lit (.int 1))]), (.lit (.int 0))])) (.ex (.op .gt [(.call 21 [(.var 0), (.lit (.int 3))] []), (.lit (.int 0))]))) [.asg (.name 4) (.box (.ifx (.ex (.op .eq [(.call 21 [(.var 0), (.lit (.int 2))] []), (.lit (.int 0))])) (.op .mul [(.op .idx [(.var 2), (.lit (.int 1))]), (.op .add [(.lit (.int 1)), (.call 21 [(.var 0), (.lit (.int 6))] [])])]) (.op .add [(.lit (.int 1)), (.op .mul [(.call 21 [(.var 0), (.lit (.int 12))] []), (.lit (.int 2))])]))), .asg (.name 5) (.box (.op .add [(.op .add [(.op .idx [(.var 2), (.lit (.int 0))]), (.op .mul [(.op .idx [(.var 2), (.lit (.int 1))]), (.call 21 [(.var 0), (.lit (.int 7))] [])])]), (.call 21 [(.var 0), (.lit (.int 2))] [])])), .asg (.name 3) (.ifx (.ex (.op .gt [(.call 21 [(.var 0), (.lit (.int 5))] []), (.lit (.int 0))])) (.op .tup [(.op .mod [(.op .int [(.var 5)]), (.var 4)]), (.var 4)]) (.op .tup [(.var 5), (.lit (.int 0))]))] [], .ret (.ifx (.ex (.op .eq [(.call 21 [(.var 0), (.lit (.int 2))] []), (.lit (.int 0))])) (.op .tup [(.var 2), (.var 3)]) (.op .tup [(.var 3), (.var 2)]))]⟩
def _law_lots_ok : Fn := ⟨1, 8, [.asg (.tup [(.name 1), (.name 2)]) (.call 35 [(.var 0)] []), .ite (.not (.ex (.call 33 [(.var 0), (.lit (.str [109, 101, 116])), (.var 1), (.var 2), (.box (.call 27 [(.var 1), (.var 2)] []))] []))) [.ret (.lit (.bl false))] [], .ite (.not (.ex (.call 33 [(.var 0), (.lit (.str [119, 105, 116, 104, 105, 110])), (.var 1), (.var 2), (.box (.call 28 [(.var 1), (.var 2)] []))] []))) [.ret (.lit (.bl false))] [], .ite (.or (.not (.ex (.call 33 [(.var 0), (.lit (.str [119, 105, 116, 104, 105, 110])), (.var 1), (.var 1), (.lit (.bl true))] []))) (.not (.ex (.call 33 [(.var 0), (.lit (.str [109, 101, 116])), (.var 2), (.var 2), (.var 2)] [])))) [.ret (.lit (.bl false))] [], .asg (.name 3) (.box (.call 22 [(.var 0), (.box (.op .lst [(.op .idx [(.var 1), (.lit (.int 0))]), (.box (.op .add [(.op .idx [(.var 1), (.lit (.int 0))]), (.op .idx [(.var 1), (.lit (.int 1))])])), (.op .sub [(.op .idx [(.var 1), (.lit (.int 0))]), (.op .mul [(.lit (.int 3)), (.op .idx [(.var 1), (.lit (.int 1))])])]), (.box (.op .add [(.op .idx [(.var 1), (.lit (.int 0))]), (.lit (.int 1))])), (.op .idx [(.var 2), (.lit (.int 0))]), (.op .sub [(.lit (.int 0)), (.op .idx [(.var 1), (.lit (.int 0))])])]))] [])), .ite (.or (.not (.ex (.call 33 [(.var 0), (.lit (.str [105, 110])), (.var 1), (.var 3), (.box (.call 26 [(.var 1), (.var 3)] []))] []))) (.not (.ex (.call 33 [(.var 0), (.lit (.str [105, 110])), (.var 1), (.op .idx [(.var 1), (.lit (.int 0))]), (.lit (.bl true))] [])))) [.ret (.lit (.bl false))] [], .asg (.name 4) (.box (.call 22 [(.var 0), (.box (.op .lst [(.op .idx [(.var 1), (.lit (.int 0))]), (.op .sub [(.op .idx [(.var 1), (.lit (.int 0))]), (.lit (.int 20))]), (.op .sub [(.op .idx [(.var 2), (.lit (.int 0))]), (.lit (.int 5))]), (.op .neg [(.lit (.int 30))]), (.box (.op .add [(.op .idx [(.var 1), (.lit (.int 0))]), (.lit (.int 1))])), (.op .sub [(.op .idx [(.var 1), (.lit (.int 0))]), (.op .mul [(.op .idx [(.var 1), (.lit (.int 1))]), (.lit (.int 3))])])]))] [])), .asg (.name 5) (.box (.op .add [(.var 4), (.call 22 [(.var 0), (.box (.op .lst [(.lit (.int 0)), (.op .neg [(.lit (.int 1))]), (.op .neg [(.lit (.int 7))]), (.lit (.int 12)), (.lit (.int 59))]))] [])])), .asg (.name 6) (.op .tuple [(.comp [7] (.name 7) (.rng [(.var 4), (.op .add [(.var 5), (.lit (.int 1))])]) [(.ex (.call 26 [(.var 1), (.var 7)] []))] (.var 7))]), .ite (.not (.ex (.call 33 [(.var 0), (.lit (.str [110, 117, 109, 98, 101, 114, 115])), (.var 1), (.op .tup [(.var 4), (.var 5)]), (.var 6)] []))) [.ret (.lit (.bl false))] [], .ret (.and (.call 33 [(.var 0), (.lit (.str [105, 115])), (.var 1), (.lit (.int 0)), (.lit (.bl true))] []) (.call 33 [(.var 0), (.lit (.str [105, 115])), (.var 2), (.lit (.int 0)), (.lit (.bl true))] []))]⟩
def _law_no_lots_l1 : List St := [.ite (.not (.ex (.call 33 [(.var 0), (.lit (.str [105, 115])), (.var 4), (.lit (.int 0)), (.lit (.bl false))] []))) [.ret (.lit (.bl false))] []]
def _law_no_lots_l2 : List St := [.ite (.not (.ex (.call 33 [(.var 0), (.lit (.str [105, 115])), (.var 5), (.lit (.int 0)), (.lit (.bl true))] []))) [.ret (.lit (.bl false))] []]
def _law_no_lots : Fn := ⟨1, 6, [.asg (.name 1) (.box (.op .add [(.lit (.int 1)), (.call 21 [(.var 0), (.lit (.int 30))] [])])), .asg (.name 2) (.box (.call 21 [(.var 0), (.var 1)] [])), .asg (.name 3) (.box (.op .lst [(.op .tup [(.var 1), (.var 1)]), (.op .tup [(.op .neg [(.lit (.int 1))]), (.var 1)]), (.op .tup [(.op .sub [(.var 2), (.var 1)]), (.var 1)]), (.op .tup [(.box (.op .add [(.var 2), (.var 1)])), (.var 1)]), (.op .tup [(.var 2), (.op .neg [(.var 1)])]), (.op .tup [(.lit (.int 0)), (.op .neg [(.lit (.int 1))])]), (.box (.op .lst [(.var 2), (.var 1)])), (.op .tup [(.var 2)])])), .asg (.name 3) (.box (.op .add [(.var 3), (.op .lst [(.op .tup [(.var 2), (.var 1), (.lit (.int 0))]), (.op .tup [(.var 2), (.op .str [(.var 1)])]), (.op .tup [(.lit .non), (.var 1)]), (.op .tup [(.lit (.str [48])), (.var 1)]), (.op .tup [(.var 2), (.lit .non)]), (.op .tup [(.op .tup [(.var 2), (.var 1)])]), (.var 2), (.lit (.str [97, 98])), (.lit .non)])])), .asg (.name 3) (.box (.op .add [(.var 3), (.op .lst [(.op .tup []), (.op .tup [(.lit (.bl false)), (.var 1)]), (.op .tup [(.lit (.int 0)), (.lit (.bl true))]), (.op .tup [(.lit (.bl true)), (.lit (.int 0))]), (.op .tup [(.lit (.bl true)), (.box (.op .add [(.var 1), (.lit (.int 1))]))]), (.box (.op .lst [])), (.box (.op .lst [(.box (.op .lst [(.var 2)])), (.box (.op .lst [(.var 1)]))])), (.op .tup [(.op .tup [(.var 2)]), (.var 1)])])])), .for (.name 4) (.seq (.var 3)) _law_no_lots_l1 [4], .for (.name 5) (.seq (.op .lst [(.op .tup [(.var 2), (.var 1)]), (.op .tup [(.op .sub [(.op .neg [(.var 2)]), (.lit (.int 1))]), (.lit (.int 0))]), (.op .tup [(.lit (.int 0)), (.lit (.int 1))]), (.op .tup [(.lit (.int 0)), (.lit (.int 0))]), (.op .tup [(.op .pow [(.lit (.int 10)), (.lit (.int 29))]), (.lit (.int 0))]), (.op .tup [(.op .pow [(.lit (.int 10)), (.lit (.int 29))]), (.box (.op .add [(.op .pow [(.lit (.int 10)), (.lit (.int 29))]), (.lit (.int 1))]))])])) _law_no_lots_l2 [5], .ret (.lit (.bl true))]⟩
def _law_first_clash_l1 : List St := [.ite (.ex (.op .isNone [(.call 27 [(.op .idx [(.var 0), (.var 1)]), (.op .idx [(.var 0), (.var 2)])] [])])) [.ret (.op .tup [(.var 1), (.var 2)])] []]
def _law_first_clash_l2 : List St := [.for (.name 2) (.rng [(.op .add [(.var 1), (.lit (.int 1))]), (.op .len [(.var 0)])]) _law_first_clash_l1 [2]]
def _law_first_clash : Fn := ⟨1, 3, [.for (.name 1) (.rng [(.op .len [(.var 0)])]) _law_first_clash_l2 [1, 2], .ret (.lit .non)]⟩
def _law_many_ok_l1 : List St := [.asg (.name 5) (.box (.op .add [(.lit (.int 1)), (.call 21 [(.var 0), (.lit (.int 12))] [])])), .asg (.name 6) (.box (.op .add [(.var 1), (.ifx (.and (.ex (.op .gt [(.var 3), (.lit (.int 0))])) (.ex (.op .eq [(.call 21 [(.var 0), (.op .sub [(.lit (.int 4)), (.var 3)])] []), (.lit (.int 0))]))) (.lit (.int 1)) (.lit (.int 0)))])), .ex (.op .append [(.ck 1 (.var 2)), (.ifx (.ex (.op .eq [(.call 21 [(.var 0), (.lit (.int 9))] []), (.lit (.int 0))])) (.op .tup [(.var 6), (.lit (.int 0))]) (.op .tup [(.op .mod [(.op .int [(.var 6)]), (.var 5)]), (.var 5)]))])]
def _law_many_ok_l2 : List St := [.asg (.name 7) (.box (.call 27 [(.var 7), (.var 8)] []))]
def _law_many_ok_l3 : List St := [.ite (.not (.ex (.call 33 [(.var 0), (.lit (.str [97, 108, 108])), (.var 9), (.lit (.int 0)), (.var 10)] []))) [.ret (.lit (.bl false))] [], .ite (.not (.ex (.call 33 [(.var 0), (.lit (.str [99, 108, 97, 115, 104])), (.var 9), (.lit (.int 0)), (.box (.call 38 [(.var 9)] []))] []))) [.ret (.lit (.bl false))] []]
def _law_many_ok : Fn := ⟨1, 15, [.asg (.name 1) (.op .sub [(.call 21 [(.var 0), (.lit (.int 400))] []), (.lit (.int 200))]), .asg (.name 2) (.box (.op .lst [])), .asg (.name 3) (.box (.call 22 [(.var 0), (.box (.op .lst [(.lit (.int 0)), (.lit (.int 0)), (.lit (.int 0)), (.lit (.int 1)), (.lit (.int 3))]))] [])), .for (.name 4) (.rng [(.op .add [(.lit (.int 2)), (.call 21 [(.var 0), (.lit (.int 4))] [])])]) _law_many_ok_l1 [4, 5, 6], .asg (.name 7) (.op .tup [(.lit (.int 0)), (.lit (.int 1))]), .for (.name 8) (.seq (.var 2)) _law_many_ok_l2 [8], .for (.tup [(.name 9), (.name 10)]) (.seq (.op .lst [(.op .tup [(.op .tuple [(.var 2)]), (.var 7)]), (.op .tup [(.op .tuple [(.op (.slice false true) [(.var 2), (.lit (.int 1))])]), (.op .idx [(.var 2), (.lit (.int 0))])]), (.op .tup [(.op .tup []), (.op .tup [(.lit (.int 0)), (.lit (.int 1))])])])) _law_many_ok_l3 [9, 10], .asg (.name 11) (.op .tup [(.op .tup [(.lit (.int 0)), (.lit (.int 4))]), (.op .tup [(.lit (.int 1)), (.lit (.int 3))]), (.op .tup [(.lit (.int 2)), (.lit (.int 5))]), (.op .tup [(.lit (.int 3)), (.lit (.int 4))]), (.op .tup [(.lit (.int 2)), (.lit (.int 4))])]), .asg (.name 12) (.box (.call 21 [(.var 0), (.lit (.int 5))] [])), .asg (.name 11) (.box (.op .add [(.op (.slice true false) [(.var 11), (.var 12)]), (.op (.slice false true) [(.var 11), (.var 12)])])), .asg (.name 13) (.box (.call 21 [(.var 0), (.lit (.int 2))] [])), .asg (.name 14) (.box (.op (.slice false true) [(.op .tup [(.op .tup [(.lit (.int 0)), (.lit (.int 1))]), (.op .tup [(.var 13), (.lit (.int 2))]), (.op .tup [(.lit (.int 0)), (.lit (.int 1))]), (.op .tup [(.var 13), (.lit (.int 4))]), (.op .tup [(.op .sub [(.lit (.int 1)), (.var 13)]), (.lit (.int 2))]), (.op .tup [(.op .sub [(.lit (.int 1)), (.var 13)]), (.lit (.int 6))])]), (.op .add [(.lit (.int 5)), (.call 21 [(.var 0), (.lit (.int 2))] [])])])), .ite (.or (.not (.ex (.call 33 [(.var 0), (.lit (.str [99, 108, 97, 115, 104])), (.var 14), (.lit (.int 0)), (.op .tup [(.lit (.int 1)), (.lit (.int 4))])] []))) (.not (.ex (.call 33 [(.var 0), (.lit (.str [97, 108, 108])), (.var 14), (.lit (.int 0)), (.lit .non)] [])))) [.ret (.lit (.bl false))] [], .ret (.and (.call 33 [(.var 0), (.lit (.str [97, 108, 108])), (.var 11), (.lit (.int 0)), (.lit .non)] []) (.call 33 [(.var 0), (.lit (.str [99, 108, 97, 115, 104])), (.var 11), (.lit (.int 0)), (.box (.call 38 [(.var 11)] []))] []))]⟩
def _law_form : Fn := ⟨2, 7, [.asg (.name 2) (.ifx (.ex (.var 1)) (.op .pow [(.lit (.int 10)), (.lit (.int 6))]) (.lit (.int 9))), .asg (.name 3) (.box (.op .add [(.lit (.int 1)), (.call 21 [(.var 0), (.var 2)] [])])), .asg (.name 4) (.box (.call 22 [(.var 0), (.box (.op .lst [(.lit (.int 0)), (.op .sub [(.var 3), (.lit (.int 1))]), (.box (.call 21 [(.var 0), (.var 3)] []))]))] [])), .asg (.name 5) (.box (.op .mul [(.op .add [(.lit (.int 1)), (.call 21 [(.var 0), (.var 2)] [])]), (.call 22 [(.var 0), (.box (.op .lst [(.lit (.int 1)), (.lit (.int 1)), (.op .neg [(.lit (.int 1))])]))] [])])), .asg (.name 6) (.ifx (.ex (.var 1)) (.op .sub [(.call 21 [(.var 0), (.op .pow [(.lit (.int 10)), (.lit (.int 12))])] []), (.op .pow [(.lit (.int 10)), (.lit (.int 11))])]) (.op .sub [(.call 21 [(.var 0), (.lit (.int 41))] []), (.lit (.int 20))])), .ite (.ex (.op .eq [(.call 21 [(.var 0), (.lit (.int 8))] []), (.lit (.int 0))])) [.ret (.op .tup [(.op .sub [(.var 6), (.var 4)]), (.lit (.int 0)), (.op .sub [(.call 21 [(.var 0), (.lit (.int 31))] []), (.lit (.int 15))]), (.lit (.int 0))])] [], .ret (.op .tup [(.var 4), (.var 3), (.var 6), (.var 5)])]⟩
def _law_forms_ok : Fn := ⟨1, 10, [.asg (.name 1) (.op .eq [(.call 21 [(.var 0), (.lit (.int 4))] []), (.lit (.int 0))]), .asg (.tup [(.name 2), (.name 3)]) (.op .tup [(.box (.call 40 [(.var 0), (.var 1)] [])), (.box (.call 40 [(.var 0), (.var 1)] []))]), .asg (.name 4) (.box (.call 27 [(.op .tup [(.op .idx [(.var 2), (.lit (.int 0))]), (.op .idx [(.var 2), (.lit (.int 1))])]), (.op .tup [(.op .idx [(.var 3), (.lit (.int 0))]), (.op .idx [(.var 3), (.lit (.int 1))])])] [])), .asg (.name 5) (.box (.call 21 [(.var 0), (.lit (.int 5))] [])), .ite (.and (.ex (.op .notNone [(.var 4)])) (.ex (.op .lt [(.var 5), (.lit (.int 4))]))) [.asg (.name 6) (.box (.op .add [(.op .idx [(.var 4), (.lit (.int 0))]), (.op .mul [(.op .idx [(.var 4), (.lit (.int 1))]), (.op .sub [(.call 21 [(.var 0), (.lit (.int 9))] []), (.lit (.int 4))])])])), .asg (.name 7) (.box (.call 29 [(.var 2), (.var 6)] [])), .ite (.and (.ex (.op .eq [(.var 5), (.lit (.int 3))])) (.and (.ex (.op .gt [(.op .idx [(.var 2), (.lit (.int 1))]), (.lit (.int 0))])) (.and (.ex (.op .gt [(.op .idx [(.var 3), (.lit (.int 1))]), (.lit (.int 0))])) (.ex (.op .eq [(.op .mul [(.op .fdiv [(.op .mul [(.op .idx [(.var 2), (.lit (.int 3))]), (.op .idx [(.var 3), (.lit (.int 1))])]), (.op .idx [(.var 2), (.lit (.int 1))])]), (.op .idx [(.var 2), (.lit (.int 1))])]), (.op .mul [(.op .idx [(.var 2), (.lit (.int 3))]), (.op .idx [(.var 3), (.lit (.int 1))])])]))))) [.asg (.name 3) (.op .tup [(.op .idx [(.var 3), (.lit (.int 0))]), (.op .idx [(.var 3), (.lit (.int 1))]), (.op .idx [(.var 3), (.lit (.int 2))]), (.op .fdiv [(.op .mul [(.op .idx [(.var 2), (.lit (.int 3))]), (.op .idx [(.var 3), (.lit (.int 1))])]), (.op .idx [(.var 2), (.lit (.int 1))])])])] [], .ite (.ex (.op .gt [(.var 5), (.lit (.int 0))])) [.asg (.name 3) (.op .tup [(.op .idx [(.var 3), (.lit (.int 0))]), (.op .idx [(.var 3), (.lit (.int 1))]), (.op .sub [(.op .add [(.op .idx [(.var 3), (.lit (.int 2))]), (.var 7)]), (.call 29 [(.var 3), (.var 6)] [])]), (.op .idx [(.var 3), (.lit (.int 3))])])] [], .ite (.or (.ex (.op .gt [(.op .maxL [(.comp [8] (.name 8) (.seq (.var 3)) [] (.op .abs [(.var 8)]))]), (.op .pow [(.lit (.int 10)), (.lit (.int 12))])])) (.ex (.op .gt [(.op .abs [(.op .idx [(.var 3), (.lit (.int 3))])]), (.op .pow [(.lit (.int 10)), (.lit (.int 6))])]))) [.asg (.name 3) (.var 2)] []] [], .ite (.not (.ex (.call 33 [(.var 0), (.lit (.str [109, 101, 101, 116, 105, 110, 103])), (.var 2), (.var 3), (.box (.call 30 [(.var 2), (.var 3)] []))] []))) [.ret (.lit (.bl false))] [], .asg (.name 9) (.op .tup [(.op .idx [(.var 2), (.lit (.int 0))]), (.op .idx [(.var 2), (.lit (.int 1))])]), .ite (.not (.ex (.call 33 [(.var 0), (.lit (.str [109, 101, 101, 116, 105, 110, 103])), (.var 2), (.var 2), (.var 9)] []))) [.ret (.lit (.bl false))] [], .ret (.call 33 [(.var 0), (.lit (.str [109, 101, 101, 116, 105, 110, 103])), (.var 2), (.op .tup [(.op .idx [(.var 2), (.lit (.int 0))]), (.op .idx [(.var 2), (.lit (.int 1))]), (.box (.op .add [(.op .idx [(.var 2), (.lit (.int 2))]), (.lit (.int 1))])), (.op .idx [(.var 2), (.lit (.int 3))])]), (.lit .non)] [])]⟩
def _law_fixed_ok_l1 : List St := [.asg (.name 6) (.op .tup [(.op .mod [(.var 2), (.var 7)]), (.box (.op .mul [(.lit (.int 2)), (.var 7)])), (.var 5), (.var 7)]), .ite (.not (.ex (.call 33 [(.var 0), (.lit (.str [102, 105, 120, 101, 100])), (.var 6), (.lit (.int 0)), (.box (.call 31 [(.var 6)] []))] []))) [.ret (.lit (.bl false))] []]
def _law_fixed_ok : Fn := ⟨1, 8, [.asg (.name 1) (.box (.op .add [(.lit (.int 2)), (.call 21 [(.var 0), (.box (.call 22 [(.var 0), (.box (.op .lst [(.lit (.int 9)), (.op .sub [(.op .pow [(.lit (.int 10)), (.lit (.int 6))]), (.lit (.int 1))])]))] []))] [])])), .asg (.name 2) (.box (.call 21 [(.var 0), (.var 1)] [])), .asg (.name 3) (.box (.call 22 [(.var 0), (.box (.op .lst [(.lit (.int 1)), (.op .sub [(.var 1), (.lit (.int 1))]), (.box (.op .add [(.var 1), (.lit (.int 1))])), (.op .neg [(.lit (.int 1))]), (.op .sub [(.lit (.int 1)), (.var 1)]), (.box (.op .add [(.op .mul [(.lit (.int 2)), (.var 1)]), (.lit (.int 1))])), (.op .sub [(.call 21 [(.var 0), (.lit (.int 30))] []), (.lit (.int 15))])]))] [])), .ite (.or (.ex (.op .eq [(.op .mod [(.op .int [(.var 3)]), (.var 1)]), (.lit (.int 0))])) (.ex (.op .gt [(.op .abs [(.var 3)]), (.op .pow [(.lit (.int 10)), (.lit (.int 6))])]))) [.asg (.name 3) (.lit (.int 1))] [], .asg (.name 4) (.box (.op .add [(.var 2), (.op .mul [(.var 1), (.op .sub [(.call 21 [(.var 0), (.lit (.int 2001))] []), (.lit (.int 1000))])])])), .asg (.name 5) (.op .sub [(.var 4), (.op .mul [(.op .fdiv [(.op .sub [(.var 4), (.var 2)]), (.var 1)]), (.var 3)])]), .ite (.not (.ex (.call 33 [(.var 0), (.lit (.str [102, 105, 120, 101, 100])), (.op .tup [(.var 2), (.var 1), (.var 5), (.var 3)]), (.lit (.int 0)), (.var 4)] []))) [.ret (.lit (.bl false))] [], .asg (.name 6) (.op .tup [(.var 2), (.var 1), (.box (.op .add [(.var 5), (.call 22 [(.var 0), (.box (.op .lst [(.lit (.int 1)), (.op .neg [(.lit (.int 1))]), (.lit (.int 2)), (.lit (.int 5))]))] [])])), (.var 3)]), .ite (.not (.ex (.call 33 [(.var 0), (.lit (.str [102, 105, 120, 101, 100])), (.var 6), (.lit (.int 0)), (.box (.call 31 [(.var 6)] []))] []))) [.ret (.lit (.bl false))] [], .asg (.name 7) (.box (.op .add [(.lit (.int 2)), (.call 21 [(.var 0), (.lit (.int 8))] [])])), .for (.name 5) (.seq (.op .lst [(.op .mod [(.var 2), (.var 7)]), (.box (.op .add [(.op .mod [(.var 2), (.var 7)]), (.op .fdiv [(.var 7), (.lit (.int 2))])])), (.box (.op .add [(.op .mod [(.var 2), (.var 7)]), (.var 7)]))])) _law_fixed_ok_l1 [5, 6], .ret (.and (.call 33 [(.var 0), (.lit (.str [102, 105, 120, 101, 100])), (.op .tup [(.lit (.int 1)), (.lit (.int 6)), (.lit (.int 2)), (.lit (.int 4))]), (.lit (.int 0)), (.lit .non)] []) (.call 33 [(.var 0), (.lit (.str [102, 105, 120, 101, 100])), (.op .tup [(.lit (.int 1)), (.lit (.int 6)), (.lit (.int 3)), (.lit (.int 4))]), (.lit (.int 0)), (.lit (.int 7))] []))]⟩
def law_l1 : List St := [.ite (.or (.not (.ex (.call 36 [(.var 1)] []))) (.not (.ex (.call 41 [(.var 1)] [])))) [.ret (.lit (.bl false))] []]
def law_l2 : List St := [.ite (.or (.not (.ex (.call 39 [(.var 1)] []))) (.not (.ex (.call 42 [(.var 1)] [])))) [.ret (.lit (.bl false))] []]
def law : Fn := ⟨1, 8, [.asg (.name 1) (.box (.call 20 [(.var 0)] [])), .for (.name 2) (.rng [(.lit (.int 5))]) law_l1 [2], .for (.name 2) (.rng [(.lit (.int 3))]) law_l2 [2], .asg (.tup [(.name 3), (.name 4)]) (.op .tup [(.op .tup [(.lit (.int 0)), (.lit (.int 1)), (.lit (.int 0)), (.lit (.int 2))]), (.op .tup [(.lit (.int 0)), (.lit (.int 2)), (.lit (.int 0)), (.lit (.int 1))])]), .asg (.name 5) (.box (.call 21 [(.var 1), (.lit (.int 100))] [])), .ite (.or (.not (.ex (.call 33 [(.var 1), (.lit (.str [109, 101, 101, 116, 105, 110, 103])), (.var 3), (.op .tup [(.lit (.int 0)), (.lit (.int 1)), (.var 5), (.lit (.int 1))]), (.op .tup [(.var 5), (.lit (.int 0))])] []))) (.not (.ex (.call 33 [(.var 1), (.lit (.str [109, 101, 101, 116, 105, 110, 103])), (.var 3), (.op .tup [(.lit (.int 0)), (.lit (.int 1)), (.lit (.int 1)), (.lit (.int 4))]), (.lit .non)] [])))) [.ret (.lit (.bl false))] [], .asg (.tup [(.name 6), (.name 7)]) (.op .tup [(.op .tup [(.lit (.int 0)), (.lit (.int 2)), (.lit (.int 0)), (.lit (.int 2))]), (.op .tup [(.lit (.int 0)), (.lit (.int 2)), (.var 5), (.lit (.int 4))])]), .ite (.not (.ex (.call 33 [(.var 1), (.lit (.str [109, 101, 101, 116, 105, 110, 103])), (.var 6), (.var 7), (.ifx (.ex (.op .eq [(.op .mod [(.var 5), (.lit (.int 2))]), (.lit (.int 0))])) (.op .tup [(.op .sub [(.lit (.int 0)), (.var 5)]), (.lit (.int 0))]) (.lit .non))] []))) [.ret (.lit (.bl false))] [], .ite (.not (.ex (.call 33 [(.var 1), (.lit (.str [109, 101, 101, 116, 105, 110, 103])), (.box (.op .add [(.op (.slice false true) [(.var 7), (.lit (.int 2))]), (.op .tup [(.box (.op .add [(.op .mul [(.lit (.int 2)), (.var 5)]), (.lit (.int 1))])), (.lit (.int 4))])])), (.var 6), (.lit .non)] []))) [.ret (.lit (.bl false))] [], .ite (.not (.ex (.call 33 [(.var 1), (.lit (.str [109, 101, 101, 116, 105, 110, 103])), (.var 4), (.op .tup [(.op .mod [(.var 5), (.lit (.int 2))]), (.lit (.int 2)), (.op .mod [(.var 5), (.lit (.int 2))]), (.lit (.int 1))]), (.ifx (.ex (.op .eq [(.op .mod [(.var 5), (.lit (.int 2))]), (.lit (.int 0))])) (.op .tup [(.lit (.int 0)), (.lit (.int 2))]) (.lit .non))] []))) [.ret (.lit (.bl false))] [], .ite (.or (.not (.ex (.call 33 [(.var 1), (.lit (.str [109, 101, 116])), (.op .tup [(.var 5), (.lit (.int 0))]), (.op .tup [(.op .mod [(.var 5), (.lit (.int 7))]), (.lit (.int 7))]), (.op .tup [(.var 5), (.lit (.int 0))])] []))) (.not (.ex (.call 33 [(.var 1), (.lit (.str [109, 101, 116])), (.op .tup [(.var 5), (.lit (.int 0))]), (.op .tup [(.box (.op .add [(.var 5), (.lit (.int 1))])), (.lit (.int 0))]), (.lit .non)] [])))) [.ret (.lit (.bl false))] [], .ret (.call 37 [(.var 1)] [])]⟩

def cs : Nat → D := fun k => match k with
  | _ => .non
def sub : Nat → Nat → Bool := fun c d => match c, d with
  | 0, 0 => true
  | 0, 1000 => true
  | _, _ => false
def fns : List Fn := [gcd_of, inverse_of, solved, fraction_of, is_integer, is_tuple, is_lot, in_lot, met, is_within, numbers_in, line_of, turn_of, image, single_meeting, crossing, meeting, fixed_number, clash_of, met_all, _law_spring, _law_flow, _law_among, _law_wide, _law_same, _law_factor, _law_in, _law_met, _law_inside, _law_led, _law_meeting, _law_fixed, _law_ask, _law_right, _law_lot, _law_pair, _law_lots_ok, _law_no_lots, _law_first_clash, _law_many_ok, _law_form, _law_forms_ok, _law_fixed_ok, law]
def Pr (w : Nat) : Pg := ⟨fns, cs, sub, w⟩
def gk (w n : Nat) : G := ⟨callF (Pr w) n, cs, sub, w⟩
@[simp] theorem gk_fn {w n : Nat} : (gk w n).fn = callF (Pr w) n := rfl
@[simp] theorem gk_w {w n : Nat} : (gk w n).w = w := rfl
@[simp] theorem gk_sub {w n : Nat} : (gk w n).sub = sub := rfl
@[simp] theorem gk_cs {w n : Nat} : (gk w n).cs = cs := rfl
theorem u0 {w n : Nat} {ds : List D} {h : Hh} : callF (Pr w) (n + 1) 0 ds h = runF (gk w n) gcd_of ds h := rfl
theorem u1 {w n : Nat} {ds : List D} {h : Hh} : callF (Pr w) (n + 1) 1 ds h = runF (gk w n) inverse_of ds h := rfl
theorem u2 {w n : Nat} {ds : List D} {h : Hh} : callF (Pr w) (n + 1) 2 ds h = runF (gk w n) solved ds h := rfl
theorem u3 {w n : Nat} {ds : List D} {h : Hh} : callF (Pr w) (n + 1) 3 ds h = runF (gk w n) fraction_of ds h := rfl
theorem u4 {w n : Nat} {ds : List D} {h : Hh} : callF (Pr w) (n + 1) 4 ds h = runF (gk w n) is_integer ds h := rfl
theorem u5 {w n : Nat} {ds : List D} {h : Hh} : callF (Pr w) (n + 1) 5 ds h = runF (gk w n) is_tuple ds h := rfl
theorem u6 {w n : Nat} {ds : List D} {h : Hh} : callF (Pr w) (n + 1) 6 ds h = runF (gk w n) is_lot ds h := rfl
theorem u7 {w n : Nat} {ds : List D} {h : Hh} : callF (Pr w) (n + 1) 7 ds h = runF (gk w n) in_lot ds h := rfl
theorem u8 {w n : Nat} {ds : List D} {h : Hh} : callF (Pr w) (n + 1) 8 ds h = runF (gk w n) met ds h := rfl
theorem u9 {w n : Nat} {ds : List D} {h : Hh} : callF (Pr w) (n + 1) 9 ds h = runF (gk w n) is_within ds h := rfl
theorem u10 {w n : Nat} {ds : List D} {h : Hh} : callF (Pr w) (n + 1) 10 ds h = runF (gk w n) numbers_in ds h := rfl
theorem u11 {w n : Nat} {ds : List D} {h : Hh} : callF (Pr w) (n + 1) 11 ds h = runF (gk w n) line_of ds h := rfl
theorem u12 {w n : Nat} {ds : List D} {h : Hh} : callF (Pr w) (n + 1) 12 ds h = runF (gk w n) turn_of ds h := rfl
theorem u13 {w n : Nat} {ds : List D} {h : Hh} : callF (Pr w) (n + 1) 13 ds h = runF (gk w n) image ds h := rfl
theorem u14 {w n : Nat} {ds : List D} {h : Hh} : callF (Pr w) (n + 1) 14 ds h = runF (gk w n) single_meeting ds h := rfl
theorem u15 {w n : Nat} {ds : List D} {h : Hh} : callF (Pr w) (n + 1) 15 ds h = runF (gk w n) crossing ds h := rfl
theorem u16 {w n : Nat} {ds : List D} {h : Hh} : callF (Pr w) (n + 1) 16 ds h = runF (gk w n) meeting ds h := rfl
theorem u17 {w n : Nat} {ds : List D} {h : Hh} : callF (Pr w) (n + 1) 17 ds h = runF (gk w n) fixed_number ds h := rfl
theorem u18 {w n : Nat} {ds : List D} {h : Hh} : callF (Pr w) (n + 1) 18 ds h = runF (gk w n) clash_of ds h := rfl
theorem u19 {w n : Nat} {ds : List D} {h : Hh} : callF (Pr w) (n + 1) 19 ds h = runF (gk w n) met_all ds h := rfl
theorem u20 {w n : Nat} {ds : List D} {h : Hh} : callF (Pr w) (n + 1) 20 ds h = runF (gk w n) _law_spring ds h := rfl
theorem u21 {w n : Nat} {ds : List D} {h : Hh} : callF (Pr w) (n + 1) 21 ds h = runF (gk w n) _law_flow ds h := rfl
theorem u22 {w n : Nat} {ds : List D} {h : Hh} : callF (Pr w) (n + 1) 22 ds h = runF (gk w n) _law_among ds h := rfl
theorem u23 {w n : Nat} {ds : List D} {h : Hh} : callF (Pr w) (n + 1) 23 ds h = runF (gk w n) _law_wide ds h := rfl
theorem u24 {w n : Nat} {ds : List D} {h : Hh} : callF (Pr w) (n + 1) 24 ds h = runF (gk w n) _law_same ds h := rfl
theorem u25 {w n : Nat} {ds : List D} {h : Hh} : callF (Pr w) (n + 1) 25 ds h = runF (gk w n) _law_factor ds h := rfl
theorem u26 {w n : Nat} {ds : List D} {h : Hh} : callF (Pr w) (n + 1) 26 ds h = runF (gk w n) _law_in ds h := rfl
theorem u27 {w n : Nat} {ds : List D} {h : Hh} : callF (Pr w) (n + 1) 27 ds h = runF (gk w n) _law_met ds h := rfl
theorem u28 {w n : Nat} {ds : List D} {h : Hh} : callF (Pr w) (n + 1) 28 ds h = runF (gk w n) _law_inside ds h := rfl
theorem u29 {w n : Nat} {ds : List D} {h : Hh} : callF (Pr w) (n + 1) 29 ds h = runF (gk w n) _law_led ds h := rfl
theorem u30 {w n : Nat} {ds : List D} {h : Hh} : callF (Pr w) (n + 1) 30 ds h = runF (gk w n) _law_meeting ds h := rfl
theorem u31 {w n : Nat} {ds : List D} {h : Hh} : callF (Pr w) (n + 1) 31 ds h = runF (gk w n) _law_fixed ds h := rfl
theorem u32 {w n : Nat} {ds : List D} {h : Hh} : callF (Pr w) (n + 1) 32 ds h = runF (gk w n) _law_ask ds h := rfl
theorem u33 {w n : Nat} {ds : List D} {h : Hh} : callF (Pr w) (n + 1) 33 ds h = runF (gk w n) _law_right ds h := rfl
theorem u34 {w n : Nat} {ds : List D} {h : Hh} : callF (Pr w) (n + 1) 34 ds h = runF (gk w n) _law_lot ds h := rfl
theorem u35 {w n : Nat} {ds : List D} {h : Hh} : callF (Pr w) (n + 1) 35 ds h = runF (gk w n) _law_pair ds h := rfl
theorem u36 {w n : Nat} {ds : List D} {h : Hh} : callF (Pr w) (n + 1) 36 ds h = runF (gk w n) _law_lots_ok ds h := rfl
theorem u37 {w n : Nat} {ds : List D} {h : Hh} : callF (Pr w) (n + 1) 37 ds h = runF (gk w n) _law_no_lots ds h := rfl
theorem u38 {w n : Nat} {ds : List D} {h : Hh} : callF (Pr w) (n + 1) 38 ds h = runF (gk w n) _law_first_clash ds h := rfl
theorem u39 {w n : Nat} {ds : List D} {h : Hh} : callF (Pr w) (n + 1) 39 ds h = runF (gk w n) _law_many_ok ds h := rfl
theorem u40 {w n : Nat} {ds : List D} {h : Hh} : callF (Pr w) (n + 1) 40 ds h = runF (gk w n) _law_form ds h := rfl
theorem u41 {w n : Nat} {ds : List D} {h : Hh} : callF (Pr w) (n + 1) 41 ds h = runF (gk w n) _law_forms_ok ds h := rfl
theorem u42 {w n : Nat} {ds : List D} {h : Hh} : callF (Pr w) (n + 1) 42 ds h = runF (gk w n) _law_fixed_ok ds h := rfl
theorem u43 {w n : Nat} {ds : List D} {h : Hh} : callF (Pr w) (n + 1) 43 ds h = runF (gk w n) law ds h := rfl
end Lk01

namespace Lk01
open Ivy
/-! ### plain: floor remainders, gcd -/
theorem fmod_lt {a b : Int} (hb : b ≠ 0) : (a.fmod b).natAbs < b.natAbs := by
  rw [Int.fmod_eq_emod]
  have h1 := Int.emod_nonneg a hb
  have h2 := Int.emod_lt a hb
  by_cases h : 0 ≤ b ∨ b ∣ a
  · rw [if_pos h]; omega
  · rw [if_neg h]
    have : a % b ≠ 0 := fun z => h (.inr (Int.dvd_of_emod_eq_zero z))
    have : ¬ 0 ≤ b := fun z => h (.inl z)
    omega
theorem fmod_pos {a b : Int} (hb : 0 < b) : a.fmod b = a % b := by
  rw [Int.fmod_eq_emod, if_pos (.inl (by omega))]; omega
theorem fdiv_pos {a b : Int} (hb : 0 < b) : a.fdiv b = a / b := Int.fdiv_eq_ediv_of_nonneg a (by omega)
theorem fmod_zero {a b : Int} : a.fmod b = 0 ↔ b ∣ a := by
  rw [Int.fmod_eq_emod]
  by_cases h : 0 ≤ b ∨ b ∣ a
  · rw [if_pos h, Int.add_zero]; exact ⟨Int.dvd_of_emod_eq_zero, Int.emod_eq_zero_of_dvd⟩
  · rw [if_neg h]
    have hb : b < 0 := by
      have : ¬ 0 ≤ b := fun z => h (.inl z)
      omega
    have h2 := Int.emod_lt a (show b ≠ 0 by omega)
    exact ⟨fun z => by omega, fun z => absurd (.inr z) h⟩
theorem gcd_fmod (a b : Int) : Int.gcd b (a.fmod b) = Int.gcd a b := by
  have e : a.fmod b = a + b * (-(a.fdiv b)) := by rw [Int.fmod_def]; rw [Int.mul_neg]; omega
  rw [e, Int.gcd_add_mul_left_right, Int.gcd_comm]
/-! ### gcd_of -/
theorem gcd_loop (g : G) (h : Hh) : ∀ (n : Nat) (a b : Int), b.natAbs < n → ∃ x : Int, x.natAbs = Int.gcd a b ∧
    lpW (evT g (.ex (.op .ne [(.var 1), (.lit (.int 0))]))) [] (evSs g gcd_of_l1) n [some (.int a), some (.int b)] h = .nx [some (.int x), some (.int 0)] h
  | 0, a, b, hb => by omega
  | n + 1, a, b, hb => by
    by_cases z : b = 0
    · subst z
      exact ⟨a, by simp, lpW_end (by simp [evT, evE, evEs])⟩
    · obtain ⟨x, h1, h2⟩ := gcd_loop g h n b (a.fmod b) (by have := fmod_lt (a := a) z; omega)
      exact ⟨x, by rw [h1, gcd_fmod], (lpW_go (h1 := h) (h2 := h) (δ2 := [some (.int b), some (.int (a.fmod b))]) (by simp [evT, evE, evEs, z]) (by simp [gcd_of_l1, evSs, evS, evE, evEs, z])).trans h2⟩
theorem gcd_ok {w : Nat} (n : Nat) (a b : Int) (h : Hh) (hb : b.natAbs < w) : callF (Pr w) (n + 1) 0 [.int a, .int b] h = .ok (.int (Int.gcd a b)) h := by
  obtain ⟨x, h1, h2⟩ := gcd_loop (gk w n) h w a b hb
  rw [u0]
  simp [runF, gcd_of, startS, evSs, evS, evE, evEs, h2]
  omega
end Lk01

namespace Lk01
open Ivy
/-- sizes that all of this law's numbers keep -/
abbrev Sz (x : Int) : Prop := x.natAbs < 2 ^ 4000
theorem sz_bigD {x : Int} (h : Sz x) : x.natAbs < bigD := Nat.lt_of_lt_of_le h (Nat.pow_le_pow_right (by omega) (by omega))
theorem sz_mul {i j : Int} (hi : Sz i) (hj : Sz j) : mulOk i j = true :=
  mulOk_of (Nat.lt_of_lt_of_le hi (Nat.pow_le_pow_right (by omega) (by omega))) (Nat.lt_of_lt_of_le hj (Nat.pow_le_pow_right (by omega) (by omega)))
theorem sz_le {i j : Int} (h : i.natAbs ≤ j.natAbs) (hj : Sz j) : Sz i := Nat.lt_of_le_of_lt h hj
/-! ### inverse_of -/
theorem ediv_le {o t : Int} (ho : 0 ≤ o) (ht : 0 < t) : (o / t).natAbs ≤ o.natAbs := by
  have h1 := Int.ediv_nonneg ho (by omega : 0 ≤ t)
  have h2 := Int.ediv_le_self t ho
  omega
theorem inv_bound {m o t f nx q : Nat} (h : f * t + nx * o ≤ m) (r f2 : Nat) (hr : o = q * t + r) (hf2 : f2 ≤ f + q * nx) : nx * r + f2 * t ≤ m := by
  have h1 : f2 * t ≤ (f + q * nx) * t := Nat.mul_le_mul_right t hf2
  have h2 : (f + q * nx) * t = f * t + nx * (q * t) := by
    rw [Nat.add_mul, Nat.mul_comm q nx, Nat.mul_assoc]
  have h3 : nx * o = nx * (q * t) + nx * r := by rw [hr, Nat.mul_add]
  omega
theorem inv_loop (g : G) (h : Hh) (m x : Int) (hm : Sz m) : ∀ (n : Nat) (o t f nx : Int), 0 ≤ t → 0 < o → t.natAbs < n → m ∣ o - f * x → m ∣ t - nx * x →
    f.natAbs * t.natAbs + nx.natAbs * o.natAbs ≤ m.natAbs → o.natAbs ≤ m.natAbs → t.natAbs ≤ m.natAbs → ∃ f' nx' : Int, m ∣ (Int.gcd o t : Int) - f' * x ∧
    lpW (evT g (.ex (.op .ne [(.var 3), (.lit (.int 0))]))) [6] (evSs g inverse_of_l1) n [some (.int x), some (.int m), some (.int o), some (.int t), some (.int f), some (.int nx), none] h =
      .nx [some (.int x), some (.int m), some (.int (Int.gcd o t)), some (.int 0), some (.int f'), some (.int nx'), none] h
  | 0, o, t, f, nx, _, _, hn, _, _, _, _, _ => by omega
  | n + 1, o, t, f, nx, ht, ho, hn, d1, d2, hb, hom, htm => by
    by_cases z : t = 0
    · subst z
      refine ⟨f, nx, ?_, ?_⟩
      · rw [Int.gcd_zero_right]
        have : (o.natAbs : Int) = o := by omega
        rw [this]; exact d1
      · refine (lpW_end (h1 := h) (by simp [evT, evE, evEs])).trans ?_
        simp
        omega
    · have tp : 0 < t := by omega
      have q := Int.mul_ediv_add_emod o t
      have r0 := Int.emod_nonneg o z
      have r1 := Int.emod_lt_of_pos o tp
      have q0 := Int.ediv_nonneg (show 0 ≤ o by omega) (show 0 ≤ t by omega)
      have eq1 : o - o / t * t = o % t := by rw [Int.mul_comm]; omega
      have nxo : nx.natAbs ≤ m.natAbs := by
        have : nx.natAbs * 1 ≤ nx.natAbs * o.natAbs := Nat.mul_le_mul_left _ (by omega)
        omega
      have sq : Sz (o / t) := sz_le (Nat.le_trans (ediv_le (by omega) tp) hom) hm
      have k1 : mulOk (o / t) t = true := sz_mul sq (sz_le htm hm)
      have k2 : mulOk (o / t) nx = true := sz_mul sq (sz_le nxo hm)
      have k3 := sz_bigD (sz_le htm hm)
      obtain ⟨f', nx', h1, h2⟩ := inv_loop g h m x hm n t (o % t) nx (f - o / t * nx) r0 tp (by omega) d2 (by
          rw [← eq1]
          have e : o - o / t * t - (f - o / t * nx) * x = (o - f * x) - o / t * (t - nx * x) := by
            rw [Int.sub_mul, Int.mul_sub, Int.mul_assoc]; omega
          rw [e]
          exact Int.dvd_sub d1 (Int.dvd_mul_of_dvd_right d2)) (by
          refine inv_bound hb (o % t).natAbs _ (q := (o / t).natAbs) ?_ ?_
          · have e : (o / t * t).natAbs = (o / t).natAbs * t.natAbs := Int.natAbs_mul ..
            have : 0 ≤ o / t * t := Int.mul_nonneg q0 ht
            rw [Int.mul_comm] at q
            omega
          · have e : (o / t * nx).natAbs = (o / t).natAbs * nx.natAbs := Int.natAbs_mul ..
            omega) htm (by omega)
      have eg : Int.gcd t (o % t) = Int.gcd o t := by rw [← fmod_pos tp, gcd_fmod]
      rw [eg] at h1 h2
      refine ⟨f', nx', h1, (lpW_go (h1 := h) (h2 := h) (δ2 := [some (.int x), some (.int m), some (.int t), some (.int (o % t)), some (.int nx), some (.int (f - o / t * nx)), some (.int (o / t))])
        (by simp [evT, evE, evEs, z]) (by simp [inverse_of_l1, evSs, evS, evE, evEs, z, k3, fdiv_pos tp, k1, k2, eq1])).trans ?_⟩
      rw [← h2]
      simp
theorem inverse_ok {w : Nat} (n : Nat) (x m : Int) (h : Hh) (hm : 0 < m) (hs : Sz m) (hg : Int.gcd x m = 1) (hw : m.natAbs < w) : ∃ u : Int, 0 ≤ u ∧ u < m ∧ m ∣ u * x - 1 ∧ callF (Pr w) (n + 1) 1 [.int x, .int m] h = .ok (.int u) h := by
  have hm0 : m ≠ 0 := by omega
  have r0 := Int.emod_nonneg x hm0
  have r1 := Int.emod_lt_of_pos x hm
  obtain ⟨f', nx', h1, h2⟩ := inv_loop (gk w n) h m x hs w m (x % m) 0 1 r0 hm (by omega) (by simp) (by
    have := Int.mul_ediv_add_emod x m
    exact ⟨-(x / m), by rw [Int.mul_neg]; omega⟩) (by simp) (Nat.le_refl _) (by omega)
  have eg : Int.gcd m (x % m) = 1 := by rw [← fmod_pos hm, gcd_fmod]; exact hg
  rw [eg] at h1 h2
  refine ⟨f' % m, Int.emod_nonneg _ hm0, Int.emod_lt_of_pos _ hm, ?_, ?_⟩
  · have := Int.mul_ediv_add_emod f' m
    have e : f' % m * x - 1 = -((1 : Nat) - f' * x) - m * (f' / m * x) := by
      have : f' % m = f' - m * (f' / m) := by omega
      rw [this, Int.sub_mul, Int.mul_assoc]; omega
    rw [e]
    exact Int.dvd_sub ((Int.dvd_neg).mpr h1) (Int.dvd_mul_right ..)
  · rw [u1]
    simp [runF, inverse_of, startS, evSs, evS, evE, evEs, hm0, fmod_pos hm] 
    simp at h2
    rw [h2]
    simp [evSs, evS, evE, evEs, hm0, fmod_pos hm]
end Lk01

namespace Lk01
open Ivy
theorem cop_dvd {a b c : Int} (h : a ∣ b * c) (h2 : Int.gcd a b = 1) : a ∣ c := by
  rw [← Int.natAbs_dvd_natAbs, Int.natAbs_mul] at h
  rw [← Int.natAbs_dvd_natAbs]
  exact Nat.Coprime.dvd_of_dvd_mul_left h2 h
theorem gcd_posR {a b : Int} (h : b ≠ 0) : (0 : Int) < Int.gcd a b := by
  have := Int.gcd_pos_of_ne_zero_right a h
  omega
theorem sz_div {a b : Int} (hb : 0 < b) (h : Sz a) : Sz (a / b) := by
  refine sz_le ?_ h
  have h1 := Int.mul_ediv_add_emod a b
  have h2 := Int.emod_nonneg a (show b ≠ 0 by omega)
  have h3 := Int.emod_lt_of_pos a hb
  by_cases ha : 0 ≤ a
  · exact ediv_le ha hb
  · have h4 : a / b < 0 := Int.ediv_neg_of_neg_of_pos (by omega) hb
    have h5 : a ≤ a / b := by
      have : b * (a / b) ≤ 1 * (a / b) := Int.mul_le_mul_of_nonpos_right (by omega) (by omega)
      by_cases hz : a % b = 0
      · omega
      · -- a = b * q + r with q < 0
        have : a ≤ b * (a / b) + (b - 1) := by omega
        have h6 : (b - 1) * (a / b) ≤ (b - 1) * (-1) := Int.mul_le_mul_of_nonneg_left (by omega) (by omega)
        have h7 : b * (a / b) = (b - 1) * (a / b) + a / b := by rw [Int.sub_mul]; omega
        omega
    omega
/-! ### solved -/
theorem solved_ok {w : Nat} (n : Nat) (f w0 m : Int) (h : Hh) (hm : 0 < m) (sm : Sz m) (sw : Sz w0) (hw : m.natAbs < w) : ∃ d, callF (Pr w) (n + 2) 2 [.int f, .int w0, .int m] h = .ok d h ∧
    ((¬ (Int.gcd f m : Int) ∣ w0 ∧ d = .non) ∨ ((Int.gcd f m : Int) ∣ w0 ∧ ∃ t, 0 ≤ t ∧ t < m / Int.gcd f m ∧ m ∣ f * t - w0 ∧ d = .tup [.int t, .int (m / Int.gcd f m)])) := by
  have hm0 : m ≠ 0 := by omega
  have gp := gcd_posR (a := f) hm0
  have e1 := gcd_ok (w := w) n f m h hw
  have dm : (Int.gcd f m : Int) ∣ m := Int.gcd_dvd_right f m
  have df : (Int.gcd f m : Int) ∣ f := Int.gcd_dvd_left f m
  generalize hG : (Int.gcd f m : Int) = G at *
  have g0 : G ≠ 0 := by omega
  have gle : G.natAbs ≤ m.natAbs := by
    have := Int.le_of_dvd hm dm
    omega
  have gb := sz_bigD (sz_le gle sm)
  by_cases hd : G ∣ w0
  · have rm : G * (m / G) = m := Int.mul_ediv_cancel' dm
    have rf : G * (f / G) = f := Int.mul_ediv_cancel' df
    have rw0 : G * (w0 / G) = w0 := Int.mul_ediv_cancel' hd
    have rp : 0 < m / G := by
      by_cases z : 0 < m / G
      · exact z
      · have : G * (m / G) ≤ G * 0 := Int.mul_le_mul_of_nonneg_left (by omega) (by omega)
        omega
    have cop : Int.gcd (f / G) (m / G) = 1 := by
      rw [← hG]
      refine Int.gcd_ediv_gcd_ediv_gcd ?_
      have : (0 : Int) < Int.gcd f m := by rw [hG]; exact gp
      omega
    have rle : (m / G).natAbs ≤ m.natAbs := ediv_le (by omega) gp
    obtain ⟨u, u0, u1', u2, u3⟩ := inverse_ok (w := w) n (f / G) (m / G) h rp (sz_le rle sm) cop (by omega)
    have su : Sz u := sz_le (by omega) (sz_le rle sm)
    have k1 : mulOk (w0 / G) u = true := sz_mul (sz_div gp sw) su
    have rp0 : m / G ≠ 0 := by omega
    refine ⟨_, ?_, .inr ⟨hd, w0 / G * u % (m / G), Int.emod_nonneg _ rp0, Int.emod_lt_of_pos _ rp, ?_, rfl⟩⟩
    · rw [Lk01.u2]
      simp [runF, solved, startS, evSs, evS, evE, evEs, evT, e1, g0, gb, fmod_pos gp, fdiv_pos gp, Int.emod_eq_zero_of_dvd hd, u3, k1, rp0, fmod_pos rp]
    · have e2 := Int.mul_ediv_add_emod (w0 / G * u) (m / G)
      have e3 : f * (w0 / G * u % (m / G)) - w0 = G * (m / G) * (-(f / G) * (w0 / G * u / (m / G))) + G * (w0 / G) * (u * (f / G) - 1) := by
        have : w0 / G * u % (m / G) = w0 / G * u - m / G * (w0 / G * u / (m / G)) := by omega
        rw [this]
        have al : ∀ A B C Q : Int, G * A * (C * u - B * Q) - G * C = G * B * (-A * Q) + G * C * (u * A - 1) := fun A B C Q => by grind
        have := al (f / G) (m / G) (w0 / G) (w0 / G * u / (m / G))
        rw [rf, rw0] at this
        rw [rw0]
        exact this
      rw [e3]
      refine Int.dvd_add ?_ ?_
      · rw [rm]; exact Int.dvd_mul_right ..
      · obtain ⟨k, hk⟩ := u2
        rw [hk]
        have : G * (w0 / G) * (m / G * k) = G * (m / G) * (w0 / G * k) := by ac_rfl
        rw [this, rm]
        exact Int.dvd_mul_right ..
  · refine ⟨.non, ?_, .inl ⟨hd, rfl⟩⟩
    have hd2 : ¬ w0 % G = 0 := fun z => hd (Int.dvd_of_emod_eq_zero z)
    rw [Lk01.u2]
    simp [runF, solved, startS, evSs, evS, evE, evEs, evT, e1, g0, gb, fmod_pos gp, fdiv_pos gp, hd2]
end Lk01

namespace Lk01
open Ivy
abbrev Lot := Int × Int
def lotD (a : Lot) : D := .tup [.int a.1, .int a.2]
def optD : Option Lot → D
  | none => .non
  | some a => lotD a
def inF (a : Lot) (x : Int) : Bool := if a.2 = 0 then decide (x = a.1) else decide (a.2 ∣ x - a.1)
theorem in_lot_ok {w : Nat} (n : Nat) (a : Lot) (x : Int) (h : Hh) : callF (Pr w) (n + 1) 7 [lotD a, .int x] h = .ok (.bl (inF a x)) h := by
  rw [u7]
  by_cases z : a.2 = 0
  · simp [runF, in_lot, startS, evSs, evS, evE, evEs, evT, lotD, inF, z]
  · have e : decide ((x - a.1).fmod a.2 = 0) = decide (a.2 ∣ x - a.1) := by
      rw [decide_eq_decide]; exact fmod_zero
    simp [runF, in_lot, startS, evSs, evS, evE, evEs, evT, lotD, inF, z, e]
def lcmF (m m' : Int) : Int := m * (m' / (Int.gcd m m' : Int))
theorem lcm_pos {m m' : Int} (h : 0 < m) (h' : 0 < m') : 0 < lcmF m m' := by
  have gp := gcd_posR (a := m) (show m' ≠ 0 by omega)
  refine Int.mul_pos h ?_
  have rm : (Int.gcd m m' : Int) * (m' / Int.gcd m m') = m' := Int.mul_ediv_cancel' (Int.gcd_dvd_right m m')
  by_cases z : 0 < m' / (Int.gcd m m' : Int)
  · exact z
  · have : (Int.gcd m m' : Int) * (m' / Int.gcd m m') ≤ Int.gcd m m' * 0 := Int.mul_le_mul_of_nonneg_left (by omega) (by omega)
    omega
theorem lcm_dvd {m m' z : Int} (h' : m' ≠ 0) (h1 : m ∣ z) (h2 : m' ∣ z) : lcmF m m' ∣ z := by
  have gp := gcd_posR (a := m) h'
  have rm : (Int.gcd m m' : Int) * (m' / Int.gcd m m') = m' := Int.mul_ediv_cancel' (Int.gcd_dvd_right m m')
  have rs : (Int.gcd m m' : Int) * (m / Int.gcd m m') = m := Int.mul_ediv_cancel' (Int.gcd_dvd_left m m')
  have cop : Int.gcd (m' / Int.gcd m m') (m / Int.gcd m m') = 1 := by
    rw [Int.gcd_comm]
    exact Int.gcd_ediv_gcd_ediv_gcd (by omega)
  unfold lcmF
  generalize (Int.gcd m m' : Int) = G at *
  obtain ⟨k, rfl⟩ := h1
  have e : G * (m' / G) ∣ G * (m / G * k) := by
    rw [rm]
    have : G * (m / G * k) = m * k := by rw [← Int.mul_assoc, rs]
    rw [this]; exact h2
  have h3 := Int.dvd_of_mul_dvd_mul_left (show G ≠ 0 by omega) e
  have h4 := cop_dvd h3 cop
  exact Int.mul_dvd_mul_left m h4
theorem dvd_lcmL {m m' : Int} : m ∣ lcmF m m' := Int.dvd_mul_right ..
theorem dvd_lcmR {m m' : Int} : m' ∣ lcmF m m' := by
  have rm : (Int.gcd m m' : Int) * (m' / Int.gcd m m') = m' := Int.mul_ediv_cancel' (Int.gcd_dvd_right m m')
  have rs : (Int.gcd m m' : Int) * (m / Int.gcd m m') = m := Int.mul_ediv_cancel' (Int.gcd_dvd_left m m')
  unfold lcmF
  generalize (Int.gcd m m' : Int) = G at *
  refine ⟨m / G, ?_⟩
  have al : ∀ A B : Int, G * A * B = G * B * A := fun A B => by grind
  have := al (m / G) (m' / G)
  rw [rs, rm] at this
  exact this
/-- x stands for where two classes meet -/
def Meet (a b : Lot) (x : Int) : Prop := 0 ≤ x ∧ x < lcmF a.2 b.2 ∧ a.2 ∣ x - a.1 ∧ b.2 ∣ x - b.1
theorem meet_uniq {a b : Lot} {x y : Int} (h' : b.2 ≠ 0) (h1 : Meet a b x) (h2 : Meet a b y) : x = y := by
  obtain ⟨x0, x1, x2, x3⟩ := h1
  obtain ⟨y0, y1, y2, y3⟩ := h2
  have d1 : a.2 ∣ x - y := by
    have : x - y = (x - a.1) - (y - a.1) := by omega
    rw [this]; exact Int.dvd_sub x2 y2
  have d2 : b.2 ∣ x - y := by
    have : x - y = (x - b.1) - (y - b.1) := by omega
    rw [this]; exact Int.dvd_sub x3 y3
  have := Int.eq_zero_of_dvd_of_natAbs_lt_natAbs (lcm_dvd h' d1 d2) (by omega)
  omega
open Classical in
noncomputable def metF (a b : Lot) : Option Lot :=
  if a.2 = 0 then (if inF b a.1 = true then some a else none)
  else if b.2 = 0 then (if inF a b.1 = true then some b else none)
  else if h : ∃ x, Meet a b x then some (Classical.choose h, lcmF a.2 b.2) else none
theorem metF_some {a b : Lot} {x : Int} (ha : a.2 ≠ 0) (hb : b.2 ≠ 0) (h : Meet a b x) : metF a b = some (x, lcmF a.2 b.2) := by
  unfold metF
  rw [if_neg ha, if_neg hb, dif_pos ⟨x, h⟩]
  have := meet_uniq hb (Classical.choose_spec (⟨x, h⟩ : ∃ x, Meet a b x)) h
  rw [this]
theorem metF_none {a b : Lot} (ha : a.2 ≠ 0) (hb : b.2 ≠ 0) (h : ¬ (Int.gcd a.2 b.2 : Int) ∣ b.1 - a.1) : metF a b = none := by
  unfold metF
  rw [if_neg ha, if_neg hb, dif_neg]
  rintro ⟨x, _, _, h1, h2⟩
  refine h ?_
  have e : b.1 - a.1 = (x - a.1) - (x - b.1) := by omega
  rw [e]
  exact Int.dvd_sub (Int.dvd_trans (Int.gcd_dvd_left ..) h1) (Int.dvd_trans (Int.gcd_dvd_right ..) h2)
/-- the numbers of a lot are of this law's sizes -/
def LotS (a : Lot) : Prop := 0 ≤ a.2 ∧ a.1.natAbs < 2 ^ 1000 ∧ a.2.natAbs < 2 ^ 1000
theorem pw {k l : Nat} (h : k ≤ l) : 2 ^ k ≤ 2 ^ l := Nat.pow_le_pow_right (by omega) h
theorem sz_of {x : Int} {k : Nat} (h : x.natAbs < 2 ^ k) (hk : k ≤ 4000) : Sz x := Nat.lt_of_lt_of_le h (pw hk)
theorem nat_mul_lt {a b : Int} {k l : Nat} (ha : a.natAbs < 2 ^ k) (hb : b.natAbs < 2 ^ l) : (a * b).natAbs < 2 ^ (k + l) := by
  rw [Int.natAbs_mul, Nat.pow_add]
  by_cases z : b.natAbs = 0
  · rw [z, Nat.mul_zero]; exact Nat.mul_pos (Nat.pow_pos (by omega)) (Nat.pow_pos (by omega))
  · exact Nat.lt_of_lt_of_le ((Nat.mul_lt_mul_right (by omega)).mpr ha) (Nat.mul_le_mul_left _ (Nat.le_of_lt hb))
theorem nat_add_lt {a b : Int} {k : Nat} (ha : a.natAbs < 2 ^ k) (hb : b.natAbs < 2 ^ k) : (a + b).natAbs < 2 ^ (k + 1) := by
  rw [Nat.pow_succ]; omega
theorem nat_sub_lt {a b : Int} {k : Nat} (ha : a.natAbs < 2 ^ k) (hb : b.natAbs < 2 ^ k) : (a - b).natAbs < 2 ^ (k + 1) := by
  rw [Nat.pow_succ]; omega
theorem inF_zero {a : Lot} {x : Int} (h : a.2 = 0) : inF a x = decide (x = a.1) := by unfold inF; rw [if_pos h]
theorem optD_lot (a : Lot) : optD (some a) = lotD a := rfl
theorem met_ok {w : Nat} (n : Nat) (a b : Lot) (h : Hh) (ha : LotS a) (hb : LotS b) (hw : 2 ^ 1000 ≤ w) : callF (Pr w) (n + 3) 8 [lotD a, lotD b] h = .ok (optD (metF a b)) h := by
  obtain ⟨a0, a1, a2⟩ := ha
  obtain ⟨b0, b1, b2⟩ := hb
  rw [u8]
  by_cases za : a.2 = 0
  · have e : metF a b = if inF b a.1 = true then some a else none := by unfold metF; rw [if_pos za]
    have i := in_lot_ok (w := w) (n + 1) b a.1 h
    rw [e]
    cases q : inF b a.1 with
    | true => rw [q] at i; simp [runF, met, startS, evSs, evS, evE, evEs, evT, lotD, za]; simp [lotD] at i; simp [i, evE, optD, lotD, za]
    | false => rw [q] at i; simp [runF, met, startS, evSs, evS, evE, evEs, evT, lotD, za]; simp [lotD] at i; simp [i, evE, optD]
  · by_cases zb : b.2 = 0
    · have e : metF a b = if inF a b.1 = true then some b else none := by unfold metF; rw [if_neg za, if_pos zb]
      have i := in_lot_ok (w := w) (n + 1) a b.1 h
      rw [e]
      cases q : inF a b.1 with
      | true => rw [q] at i; simp [runF, met, startS, evSs, evS, evE, evEs, evT, lotD, za, zb]; simp [lotD] at i; simp [i, evE, optD, lotD, zb]
      | false => rw [q] at i; simp [runF, met, startS, evSs, evS, evE, evEs, evT, lotD, za, zb]; simp [lotD] at i; simp [i, evE, optD]
    · obtain ⟨d, e1, e2⟩ := solved_ok (w := w) n a.2 (b.1 - a.1) b.2 h (by omega) (sz_of b2 (by omega)) (sz_of (nat_sub_lt b1 a1) (by omega)) (by omega)
      rcases e2 with ⟨nd, rfl⟩ | ⟨hd, t, t0, t1, t2, rfl⟩
      · rw [metF_none za zb nd]
        simp [runF, met, startS, evSs, evS, evE, evEs, evT, lotD, za, zb, e1, optD]
      · have gp := gcd_posR (a := a.2) zb
        have lp := lcm_pos (m := a.2) (m' := b.2) (by omega) (by omega)
        have lp0 : lcmF a.2 b.2 ≠ 0 := by omega
        have el : a.2 * (b.2 / (Int.gcd a.2 b.2 : Int)) = lcmF a.2 b.2 := rfl
        have le : (b.2 / (Int.gcd a.2 b.2 : Int)).natAbs ≤ b.2.natAbs := ediv_le (by omega) gp
        have k1 : mulOk a.2 (b.2 / (Int.gcd a.2 b.2 : Int)) = true := sz_mul (sz_of a2 (by omega)) (sz_le le (sz_of b2 (by omega)))
        have k2 : mulOk a.2 t = true := sz_mul (sz_of a2 (by omega)) (sz_le (j := b.2) (by omega) (sz_of b2 (by omega)))
        have m1 : Meet a b ((a.1 + a.2 * t) % lcmF a.2 b.2) := by
          refine ⟨Int.emod_nonneg _ lp0, Int.emod_lt_of_pos _ lp, ?_, ?_⟩
          · have e : (a.1 + a.2 * t) % lcmF a.2 b.2 - a.1 = ((a.1 + a.2 * t) % lcmF a.2 b.2 - (a.1 + a.2 * t)) + a.2 * t := by omega
            rw [e]
            exact Int.dvd_add (Int.dvd_trans dvd_lcmL Int.dvd_emod_sub_self) (Int.dvd_mul_right ..)
          · have e : (a.1 + a.2 * t) % lcmF a.2 b.2 - b.1 = ((a.1 + a.2 * t) % lcmF a.2 b.2 - (a.1 + a.2 * t)) + (a.2 * t - (b.1 - a.1)) := by omega
            rw [e]
            exact Int.dvd_add (Int.dvd_trans dvd_lcmR Int.dvd_emod_sub_self) t2
        rw [metF_some za zb m1]
        simp [runF, met, startS, evSs, evS, evE, evEs, evT, lotD, za, zb, e1, optD, k1, k2, el, lp0, fmod_pos lp]
end Lk01

namespace Lk01
open Ivy
/-! ### is_within -/
def withinF (a b : Lot) : Bool := inF b a.1 && (decide (a.2 = 0) || (decide (b.2 ≠ 0) && decide (b.2 ∣ a.2)))
theorem is_within_ok {w : Nat} (n : Nat) (a b : Lot) (h : Hh) : callF (Pr w) (n + 2) 9 [lotD a, lotD b] h = .ok (.bl (withinF a b)) h := by
  obtain ⟨r, m⟩ := a
  obtain ⟨r', m'⟩ := b
  have i := in_lot_ok (w := w) n (r', m') r h
  rw [u9]
  simp only [lotD] at i
  unfold withinF
  cases q : inF (r', m') r with
  | false => rw [q] at i; simp [runF, is_within, startS, evSs, evS, evE, evEs, evT, lotD, i, q]
  | true =>
    rw [q] at i
    by_cases za : m = 0
    · simp [runF, is_within, startS, evSs, evS, evE, evEs, evT, lotD, i, za, q]
    · by_cases zb : m' = 0
      · subst zb
        simp [runF, is_within, startS, evSs, evS, evE, evEs, evT, lotD, i, za, q]
      · have e : decide (m.fmod m' = 0) = decide (m' ∣ m) := by rw [decide_eq_decide]; exact fmod_zero
        simp [runF, is_within, startS, evSs, evS, evE, evEs, evT, lotD, i, za, zb, e, q]
/-! ### numbers_in -/
/-- lo .. hi -/
def intsF (lo hi : Int) : List Int := (List.range (hi + 1 - lo).toNat).map fun (k : Nat) => lo + (k : Int)
def numsF (a : Lot) (lo hi : Int) : List Int := (intsF lo hi).filter (inF a)
theorem rangeN_one (lo hi : Int) : rangeN lo hi 1 = (hi - lo).toNat := by
  unfold rangeN
  rw [if_pos (by omega)]
  split
  · rw [Int.ediv_one]; omega
  · omega
def cnt (r st N : Nat) : Nat := if r < N then (N - r - 1) / st + 1 else 0
theorem filter_range (r st : Nat) (hr : r < st) : ∀ N : Nat, (List.range N).filter (fun (k : Nat) => decide ((st : Int) ∣ (k : Int) - (r : Int))) = (List.range (cnt r st N)).map fun (k : Nat) => r + k * st
  | 0 => by simp [cnt]
  | N + 1 => by
    rw [List.range_succ, List.filter_append, filter_range r st hr N]
    by_cases hN : r ≤ N
    · obtain ⟨d, rfl⟩ : ∃ d, N = r + d := ⟨N - r, by omega⟩
      have c2 : cnt r st (r + d + 1) = d / st + 1 := by
        unfold cnt
        rw [if_pos (by omega), show r + d + 1 - r - 1 = d by omega]
      have dv : ((st : Int) ∣ ((r + d : Nat) : Int) - (r : Int)) ↔ st ∣ d := by
        rw [show ((r + d : Nat) : Int) - (r : Int) = (d : Int) by omega]
        exact Int.natCast_dvd_natCast
      by_cases hd : st ∣ d
      · obtain ⟨q, rfl⟩ := hd
        have c1 : cnt r st (r + st * q) = q := by
          unfold cnt
          by_cases hq : q = 0
          · subst hq; simp
          · have : 0 < st * q := Nat.mul_pos (by omega) (by omega)
            rw [if_pos (by omega), show r + st * q - r - 1 = st * q - 1 by omega]
            have e : st * q - 1 = st * (q - 1) + (st - 1) := by
              obtain ⟨q', rfl⟩ : ∃ q', q = q' + 1 := ⟨q - 1, by omega⟩
              rw [Nat.mul_add]; simp; omega
            rw [e, Nat.mul_add_div (by omega), Nat.div_eq_of_lt (by omega)]
            omega
        have e2 : st * q / st = q := Nat.mul_div_cancel_left q (by omega)
        have hb : decide ((st : Int) ∣ ((r + st * q : Nat) : Int) - (r : Int)) = true := decide_eq_true (dv.mpr (Nat.dvd_mul_right ..))
        rw [c2, c1, e2, List.range_succ, List.map_append]
        simp only [List.filter_cons, List.filter_nil, hb, if_true, List.map_cons, List.map_nil, Nat.mul_comm]
      · have c1 : cnt r st (r + d) = d / st + 1 := by
          unfold cnt
          have d0 : d ≠ 0 := fun z => hd (z ▸ Nat.dvd_zero st)
          rw [if_pos (by omega), show r + d - r - 1 = d - 1 by omega]
          have hm : d % st ≠ 0 := fun z => hd (Nat.dvd_of_mod_eq_zero z)
          have e := Nat.div_add_mod d st
          have e3 : d - 1 = st * (d / st) + (d % st - 1) := by omega
          have hlt := Nat.mod_lt d (show 0 < st by omega)
          rw [e3, Nat.mul_add_div (by omega), Nat.div_eq_of_lt (show d % st - 1 < st by omega)]
        have hb : decide ((st : Int) ∣ ((r + d : Nat) : Int) - (r : Int)) = false := decide_eq_false fun z => hd (dv.mp z)
        rw [c1, c2]
        simp only [List.filter_cons, List.filter_nil, hb, Bool.false_eq_true, if_false, List.append_nil]
    · have c1 : cnt r st N = 0 := by unfold cnt; rw [if_neg (by omega)]
      have c2 : cnt r st (N + 1) = 0 := by unfold cnt; rw [if_neg (by omega)]
      rw [c1, c2]
      have : ¬ (st : Int) ∣ (N : Int) - (r : Int) := fun ⟨k, hk⟩ => by
        have h1 : (N : Int) - r < 0 := by omega
        have h2 : -(st : Int) < (N : Int) - r := by omega
        have : k < 0 := by
          by_cases z : 0 ≤ k
          · have := Int.mul_nonneg (show (0 : Int) ≤ st by omega) z
            omega
          · omega
        have h4 : (st : Int) * k ≤ st * (-1) := Int.mul_le_mul_of_nonneg_left (by omega) (by omega)
        omega
      simp [this]
theorem nums_step (a : Lot) (lo hi : Int) (ha : 0 < a.2) : (rangeL (lo + (a.1 - lo) % a.2) (rangeN (lo + (a.1 - lo) % a.2) (hi + 1) a.2) a.2) = (numsF a lo hi).map D.int := by
  have r0 := Int.emod_nonneg (a.1 - lo) (show a.2 ≠ 0 by omega)
  have r1 := Int.emod_lt_of_pos (a.1 - lo) ha
  obtain ⟨st, hst⟩ : ∃ st : Nat, a.2 = st := ⟨a.2.toNat, by omega⟩
  obtain ⟨r, hr⟩ : ∃ r : Nat, (a.1 - lo) % a.2 = r := ⟨((a.1 - lo) % a.2).toNat, by omega⟩
  have en : rangeN (lo + (a.1 - lo) % a.2) (hi + 1) a.2 = cnt r st (hi + 1 - lo).toNat := by
    unfold rangeN cnt
    rw [if_pos (by omega), hr, hst]
    by_cases c : lo + (r : Int) < hi + 1
    · rw [if_pos c, if_pos (by omega)]
      have e : hi + 1 - (lo + (r : Int)) - 1 = (((hi + 1 - lo).toNat - r - 1 : Nat) : Int) := by omega
      have e2 : (((((hi + 1 - lo).toNat - r - 1 : Nat) : Int)) / (st : Int) + 1).toNat = ((hi + 1 - lo).toNat - r - 1) / st + 1 := by
        rw [← Int.natCast_ediv]
        generalize ((hi + 1 - lo).toNat - r - 1) / st = q
        omega
      rw [e, e2]
    · rw [if_neg c, if_neg (by omega)]
  have ef : (numsF a lo hi) = ((List.range (hi + 1 - lo).toNat).filter (fun (k : Nat) => decide ((st : Int) ∣ (k : Int) - (r : Int)))).map fun (k : Nat) => lo + (k : Int) := by
    unfold numsF intsF
    rw [List.filter_map]
    congr 1
    refine List.filter_congr fun k hk => ?_
    unfold inF
    simp only [Function.comp]
    rw [if_neg (by omega), decide_eq_decide, hst]
    have e := Int.mul_ediv_add_emod (a.1 - lo) a.2
    rw [hr, hst] at e
    have e2 : lo + (k : Int) - a.1 = ((k : Int) - r) - st * ((a.1 - lo) / st) := by omega
    rw [e2]
    exact ⟨fun z => by
      have := Int.dvd_add z (Int.dvd_mul_right (st : Int) ((a.1 - lo) / st))
      rwa [Int.sub_add_cancel] at this, fun z => Int.dvd_sub z (Int.dvd_mul_right ..)⟩
  rw [ef, filter_range r st (by omega), en, rangeL, hr, hst, List.map_map, List.map_map]
  refine List.map_congr_left fun k hk => ?_
  simp
  omega
theorem nums_one (a : Lot) (lo hi : Int) (ha : a.2 = 0) : numsF a lo hi = if lo ≤ a.1 ∧ a.1 ≤ hi then [a.1] else [] := by
  have key : ∀ N : Nat, ((List.range N).map fun (k : Nat) => lo + (k : Int)).filter (inF a) = if lo ≤ a.1 ∧ a.1 < lo + N then [a.1] else [] := by
    intro N
    induction N with
    | zero => simp; try omega
    | succ N ih =>
      rw [List.range_succ, List.map_append, List.filter_append, ih]
      have e : inF a (lo + (N : Int)) = decide (lo + (N : Int) = a.1) := inF_zero ha
      by_cases c : lo + (N : Int) = a.1
      · rw [if_neg (by omega), if_pos (by omega)]
        have e2 : inF a a.1 = true := by rw [inF_zero ha]; simp
        simp [c, e2]
      · have : (lo ≤ a.1 ∧ a.1 < lo + ((N + 1 : Nat) : Int)) ↔ (lo ≤ a.1 ∧ a.1 < lo + (N : Int)) := by omega
        simp only [this]
        simp [e, c]
  unfold numsF intsF
  rw [key]
  have : (lo ≤ a.1 ∧ a.1 < lo + ((hi + 1 - lo).toNat : Int)) ↔ (lo ≤ a.1 ∧ a.1 ≤ hi) := by omega
  simp only [this]
theorem o_tupRng3 {s : Nat → Nat → Bool} {h : Hh} {i j c : Int} (h0 : c ≠ 0) (hc : c.natAbs < bigD) : opApp s .tupRng [.int i, .int j, .int c] h = whenR (decide ((rangeL i (rangeN i j c) c).length ≤ cells)) (.ok (.tup (rangeL i (rangeN i j c) c)) h) := by
  show (match rngS [.int i, .int j, .int c] with
    | some s => whenR (decide (s.ds.length ≤ cells)) (.ok (.tup s.ds) h)
    | none => .no : R D) = _
  have e : rngS [.int i, .int j, .int c] = some ⟨rangeL i (rangeN i j c) c, []⟩ := by
    show (if c ≠ 0 ∧ c.natAbs < bigD then _ else none) = _
    rw [if_pos ⟨h0, hc⟩]
  rw [e]
theorem nums_len (a : Lot) (lo hi : Int) (hl : hi - lo ≤ 1000) : (numsF a lo hi).length ≤ 1001 := by
  refine Nat.le_trans (List.length_filter_le ..) ?_
  rw [intsF, List.length_map, List.length_range]
  omega
theorem numbers_in_ok {w : Nat} (n : Nat) (a : Lot) (lo hi : Int) (h : Hh) (ha : LotS a) (hl : hi - lo ≤ 1000) : callF (Pr w) (n + 1) 10 [lotD a, .int lo, .int hi] h = .ok (.tup ((numsF a lo hi).map .int)) h := by
  obtain ⟨a0, a1, a2⟩ := ha
  rw [u10]
  by_cases z : a.2 = 0
  · rw [nums_one a lo hi z]
    by_cases c1 : lo ≤ a.1
    · by_cases c2 : a.1 ≤ hi
      · simp [runF, numbers_in, startS, evSs, evS, evE, evEs, evT, lotD, z, c1, c2]
      · simp [runF, numbers_in, startS, evSs, evS, evE, evEs, evT, lotD, z, c1, c2]
    · simp [runF, numbers_in, startS, evSs, evS, evE, evEs, evT, lotD, z, c1]
  · have p : 0 < a.2 := by omega
    have e := nums_step a lo hi p
    have ll := nums_len a lo hi hl
    have k : (numsF a lo hi).length ≤ 16777216 := by omega
    simp [runF, numbers_in, startS, evSs, evS, evE, evEs, evT, lotD, z, fmod_pos p, o_tupRng3 z (sz_bigD (sz_of a2 (by omega))), e, k]
end Lk01

namespace Lk01
open Ivy
/-! ### fractions -/
def sgn (b : Int) : Int := if b < 0 then -1 else 1
def fracF (t b : Int) : Int × Int := (sgn b * t / (Int.gcd t b : Int), sgn b * b / (Int.gcd t b : Int))
theorem sgn_sq (b : Int) : sgn b * sgn b = 1 := by unfold sgn; split <;> rfl
theorem frac_spec {t b : Int} (hb : b ≠ 0) : (Int.gcd t b : Int) * (fracF t b).1 = sgn b * t ∧ (Int.gcd t b : Int) * (fracF t b).2 = sgn b * b ∧ 0 < (fracF t b).2 ∧ Int.gcd (fracF t b).1 (fracF t b).2 = 1 := by
  have gp := gcd_posR (a := t) hb
  have d1 : (Int.gcd t b : Int) ∣ sgn b * t := Int.dvd_mul_of_dvd_right (Int.gcd_dvd_left t b)
  have d2 : (Int.gcd t b : Int) ∣ sgn b * b := Int.dvd_mul_of_dvd_right (Int.gcd_dvd_right t b)
  have e1 : (Int.gcd t b : Int) * (fracF t b).1 = sgn b * t := Int.mul_ediv_cancel' d1
  have e2 : (Int.gcd t b : Int) * (fracF t b).2 = sgn b * b := Int.mul_ediv_cancel' d2
  have sp : 0 < sgn b * b := by unfold sgn; split <;> omega
  refine ⟨e1, e2, ?_, ?_⟩
  · by_cases z : 0 < (fracF t b).2
    · exact z
    · have : (Int.gcd t b : Int) * (fracF t b).2 ≤ Int.gcd t b * 0 := Int.mul_le_mul_of_nonneg_left (by omega) (by omega)
      omega
  · have eg : Int.gcd (sgn b * t) (sgn b * b) = Int.gcd t b := by
      unfold sgn
      split
      · rw [Int.neg_mul, Int.neg_mul, Int.one_mul, Int.one_mul, Int.gcd_neg, Int.neg_gcd]
      · rw [Int.one_mul, Int.one_mul]
    have h := Int.gcd_ediv_gcd_ediv_gcd (i := sgn b * t) (j := sgn b * b) (by rw [eg]; omega)
    rw [eg] at h
    exact h
theorem frac_cross {t b : Int} (hb : b ≠ 0) : (fracF t b).1 * b = (fracF t b).2 * t := by
  obtain ⟨e1, e2, _, _⟩ := frac_spec (t := t) hb
  have gp := gcd_posR (a := t) hb
  have h : (Int.gcd t b : Int) * ((fracF t b).1 * b) = Int.gcd t b * ((fracF t b).2 * t) := by
    rw [← Int.mul_assoc, ← Int.mul_assoc, e1, e2]
    grind
  exact Int.eq_of_mul_eq_mul_left (by omega) h
theorem frac_eq {t b t' b' : Int} (hb : b ≠ 0) (hb' : b' ≠ 0) : fracF t b = fracF t' b' ↔ t * b' = t' * b := by
  have c1 := frac_cross (t := t) hb
  have c2 := frac_cross (t := t') hb'
  obtain ⟨_, _, q0, g0⟩ := frac_spec (t := t) hb
  obtain ⟨_, _, q1, g1⟩ := frac_spec (t := t') hb'
  generalize hP : (fracF t b).1 = p at *
  generalize hQ : (fracF t b).2 = q at *
  generalize hP' : (fracF t' b').1 = p' at *
  generalize hQ' : (fracF t' b').2 = q' at *
  constructor
  · intro e
    have ep : p = p' := by rw [← hP, ← hP', e]
    have eq : q = q' := by rw [← hQ, ← hQ', e]
    subst ep eq
    have h : q * (t * b') = q * (t' * b) := by
      have a1 : q * (t * b') = (q * t) * b' := by grind
      have a2 : q * (t' * b) = (q * t') * b := by grind
      rw [a1, a2, ← c1, ← c2]
      grind
    exact Int.eq_of_mul_eq_mul_left (by omega) h
  · intro e
    -- p q' = p' q
    have h1 : p * q' = p' * q := by
      have h : (b * b') * (p * q') = (b * b') * (p' * q) := by
        have a1 : (b * b') * (p * q') = (p * b) * (b' * q') := by grind
        have a2 : (b * b') * (p' * q) = (p' * b') * (b * q) := by grind
        rw [a1, a2, c1, c2]
        have a3 : q * t * (b' * q') = q * q' * (t * b') := by grind
        have a4 : q' * t' * (b * q) = q * q' * (t' * b) := by grind
        rw [a3, a4, e]
      exact Int.eq_of_mul_eq_mul_left (Int.mul_ne_zero hb hb') h
    have d1 : q ∣ q' := cop_dvd (b := p) (by rw [h1]; exact Int.dvd_mul_left ..) (by rw [Int.gcd_comm]; exact g0)
    have d2 : q' ∣ q := cop_dvd (b := p') (by rw [← h1]; exact Int.dvd_mul_left ..) (by rw [Int.gcd_comm]; exact g1)
    have eq : q = q' := by
      have := Int.le_of_dvd q1 d1
      have := Int.le_of_dvd q0 d2
      omega
    have ep : p = p' := by
      rw [eq] at h1
      exact Int.eq_of_mul_eq_mul_right (by omega) h1
    exact Prod.ext (by rw [hP, hP', ep]) (by rw [hQ, hQ', eq])
def pairD (a : Int × Int) : D := .tup [.int a.1, .int a.2]
theorem frac_size {t b : Int} {k : Nat} (hb : b ≠ 0) (h1 : t.natAbs < 2 ^ k) (h2 : b.natAbs < 2 ^ k) : (fracF t b).1.natAbs < 2 ^ k ∧ (fracF t b).2.natAbs < 2 ^ k := by
  have gp := gcd_posR (a := t) hb
  obtain ⟨e1, e2, _, _⟩ := frac_spec (t := t) hb
  have s1 : ∀ x : Int, (sgn b * x).natAbs = x.natAbs := fun x => by unfold sgn; split <;> simp
  have le : ∀ x y : Int, (Int.gcd t b : Int) * x = sgn b * y → x.natAbs ≤ y.natAbs := fun x y e => by
    have : ((Int.gcd t b : Int) * x).natAbs = y.natAbs := by rw [e, s1]
    rw [Int.natAbs_mul] at this
    have h3 : 1 * x.natAbs ≤ (Int.gcd t b : Int).natAbs * x.natAbs := Nat.mul_le_mul_right _ (by omega)
    omega
  exact ⟨Nat.lt_of_le_of_lt (le _ _ e1) h1, Nat.lt_of_le_of_lt (le _ _ e2) h2⟩
theorem fraction_ok {w : Nat} (n : Nat) (t b : Int) (h : Hh) (hb : b ≠ 0) (st : Sz t) (sb : Sz b) (hw : b.natAbs < w) : callF (Pr w) (n + 2) 3 [.int t, .int b] h = .ok (pairD (fracF t b)) h := by
  have gp := gcd_posR (a := t) hb
  have e1 := gcd_ok (w := w) n t b h hw
  have gle : (Int.gcd t b : Int).natAbs ≤ b.natAbs := by
    have := Int.le_of_dvd (show 0 < sgn b * b by unfold sgn; split <;> omega) (Int.dvd_mul_of_dvd_right (Int.gcd_dvd_right t b) : (Int.gcd t b : Int) ∣ sgn b * b)
    have : (sgn b * b).natAbs = b.natAbs := by unfold sgn; split <;> simp
    omega
  have gb := sz_bigD (sz_le gle sb)
  have g0 : ((Int.gcd t b : Nat) : Int) ≠ 0 := by omega
  have k1 : ∀ x, Sz x → mulOk (sgn b) x = true := fun x hx => sz_mul (by unfold sgn; split <;> (show _ < 2 ^ 4000; exact Nat.lt_of_lt_of_le (by decide : (1 : Nat) < 2 ^ 1) (pw (by omega)))) hx
  have k2 := k1 t st
  have k3 := k1 b sb
  rw [u3]
  unfold fracF pairD
  have es : sgn b = if b < 0 then -1 else 1 := rfl
  generalize hG : ((Int.gcd t b : Nat) : Int) = G at *
  by_cases c : b < 0
  · rw [if_pos c] at es
    rw [es] at k2 k3 ⊢
    simp [runF, fraction_of, startS, evSs, evS, evE, evEs, evT, e1, c, k2, k3, g0, gb, fdiv_pos gp]
  · rw [if_neg c] at es
    rw [es] at k2 k3 ⊢
    simp [runF, fraction_of, startS, evSs, evS, evE, evEs, evT, e1, c, k2, k3, g0, gb, fdiv_pos gp]
end Lk01

namespace Lk01
open Ivy
structure Fm where
  f : Int
  m : Int
  s : Int
  t : Int
def Fm.lot (A : Fm) : Lot := (A.f, A.m)
def formD (A : Fm) : D := .tup [.int A.f, .int A.m, .int A.s, .int A.t]
/-- sizes of a form's numbers -/
structure FmS (A : Fm) : Prop where
  m0 : 0 ≤ A.m
  f : A.f.natAbs < 2 ^ 200
  m : A.m.natAbs < 2 ^ 200
  s : A.s.natAbs < 2 ^ 200
  t : A.t.natAbs < 2 ^ 200
def turnF (A : Fm) (x : Int) : Int := if A.m = 0 then 0 else (x - A.f).fdiv A.m
def ledF (A : Fm) (x : Int) : Int := A.s + A.t * turnF A x
theorem fdiv_le {a b : Int} (hb : 0 ≤ b) : (a.fdiv b).natAbs ≤ a.natAbs := by
  by_cases z : b = 0
  · subst z; simp
  · rw [fdiv_pos (by omega)]
    by_cases ha : 0 ≤ a
    · exact ediv_le ha (by omega)
    · have h4 : a / b < 0 := Int.ediv_neg_of_neg_of_pos (by omega) (by omega)
      have h1 := Int.mul_ediv_add_emod a b
      have h2 := Int.emod_nonneg a z
      have h3 := Int.emod_lt_of_pos a (show 0 < b by omega)
      have h6 : (b - 1) * (a / b) ≤ (b - 1) * (-1) := Int.mul_le_mul_of_nonneg_left (by omega) (by omega)
      have h7 : b * (a / b) = (b - 1) * (a / b) + a / b := by rw [Int.sub_mul]; omega
      omega
theorem turn_le {A : Fm} {x : Int} (h : FmS A) (hx : x.natAbs < 2 ^ 1500) : (turnF A x).natAbs < 2 ^ 1501 := by
  unfold turnF
  split
  · exact Nat.pow_pos (by omega)
  · refine Nat.lt_of_le_of_lt (fdiv_le h.m0) ?_
    exact nat_sub_lt hx (Nat.lt_of_lt_of_le h.f (pw (by omega)))
theorem turn_ok {w : Nat} (n : Nat) (A : Fm) (x : Int) (h : Hh) (hA : FmS A) : callF (Pr w) (n + 1) 12 [formD A, .int x] h = .ok (.int (turnF A x)) h := by
  rw [u12]
  unfold turnF
  by_cases z : A.m = 0
  · simp [runF, turn_of, startS, evSs, evS, evE, evEs, evT, formD, z]
  · simp [runF, turn_of, startS, evSs, evS, evE, evEs, evT, formD, z, sz_bigD (sz_of hA.m (by omega))]
theorem image_ok {w : Nat} (n : Nat) (A : Fm) (x : Int) (h : Hh) (hA : FmS A) (hx : x.natAbs < 2 ^ 1500) : callF (Pr w) (n + 2) 13 [formD A, .int x] h = .ok (.int (ledF A x)) h := by
  have e := turn_ok (w := w) n A x h hA
  have k : mulOk A.t (turnF A x) = true := sz_mul (sz_of hA.t (by omega)) (sz_of (turn_le hA hx) (by omega))
  rw [u13]
  unfold ledF
  unfold formD at *
  simp [runF, image, startS, evSs, evS, evE, evEs, evT, e, k]
theorem cut2 {a b : D} {xs : List D} : cut (a :: b :: xs) none (some 2) = [a, b] := by
  simp [cut, clip]
def singleF (A B : Fm) (x : Int) : Option Lot := if inF A.lot x = true ∧ inF B.lot x = true ∧ ledF A x = ledF B x then some (x, 0) else none
theorem single_ok {w : Nat} (n : Nat) (A B : Fm) (x : Int) (h : Hh) (hA : FmS A) (hB : FmS B) (hx : x.natAbs < 2 ^ 1500) : callF (Pr w) (n + 3) 14 [formD A, formD B, .int x] h = .ok (optD (singleF A B x)) h := by
  have i1 := in_lot_ok (w := w) (n + 1) A.lot x h
  have i2 := in_lot_ok (w := w) (n + 1) B.lot x h
  have j1 := image_ok (w := w) n A x h hA hx
  have j2 := image_ok (w := w) n B x h hB hx
  rw [u14]
  unfold singleF
  unfold formD at *
  unfold lotD Fm.lot at *
  cases q1 : inF (A.f, A.m) x with
  | false =>
    rw [q1] at i1
    simp [runF, single_meeting, startS, evSs, evS, evE, evEs, evT, cut2, i1, optD]
  | true =>
    rw [q1] at i1
    cases q2 : inF (B.f, B.m) x with
    | false =>
      rw [q2] at i2
      simp [runF, single_meeting, startS, evSs, evS, evE, evEs, evT, cut2, i1, i2, optD]
    | true =>
      rw [q2] at i2
      by_cases z : ledF A x = ledF B x
      · simp [runF, single_meeting, startS, evSs, evS, evE, evEs, evT, cut2, i1, i2, j1, j2, z, optD, lotD]
      · simp [runF, single_meeting, startS, evSs, evS, evE, evEs, evT, cut2, i1, i2, j1, j2, z, optD, lotD]
/-! ### lines -/
abbrev Ln := (Int × Int) × (Int × Int)
def lineD (l : Ln) : D := .tup [pairD l.1, pairD l.2]
def Fm.c (A : Fm) : Int := A.s * A.m - A.t * A.f
def lineF (A : Fm) : Ln := (fracF A.t A.m, fracF A.c A.m)
theorem c_lt {A : Fm} (h : FmS A) : A.c.natAbs < 2 ^ 401 := nat_sub_lt (nat_mul_lt h.s h.m) (nat_mul_lt h.t h.f)
theorem line_ok {w : Nat} (n : Nat) (A : Fm) (h : Hh) (hA : FmS A) (hm : A.m ≠ 0) (hw : 2 ^ 1000 ≤ w) : callF (Pr w) (n + 3) 11 [formD A] h = .ok (lineD (lineF A)) h := by
  have hmw : A.m.natAbs < w := Nat.lt_of_lt_of_le hA.m (Nat.le_trans (pw (by omega)) hw)
  have e1 := fraction_ok (w := w) n A.t A.m h hm (sz_of hA.t (by omega)) (sz_of hA.m (by omega)) hmw
  have e2 := fraction_ok (w := w) n A.c A.m h hm (sz_of (c_lt hA) (by omega)) (sz_of hA.m (by omega)) hmw
  have k1 : mulOk A.s A.m = true := sz_mul (sz_of hA.s (by omega)) (sz_of hA.m (by omega))
  have k2 : mulOk A.t A.f = true := sz_mul (sz_of hA.t (by omega)) (sz_of hA.f (by omega))
  rw [u11]
  unfold formD lineD lineF
  unfold Fm.c at *
  unfold pairD at *
  simp [runF, line_of, startS, evSs, evS, evE, evEs, evT, e1, e2, k1, k2]
theorem line_eq (s : Nat → Nat → Bool) (a b : Ln) (h : Hh) : opApp s .eq [lineD a, lineD b] h = .ok (.bl (decide (a = b))) h := by
  obtain ⟨⟨p, q⟩, u, v⟩ := a
  obtain ⟨⟨p', q'⟩, u', v'⟩ := b
  show (match eqD h (lineD ((p, q), u, v)) (lineD ((p', q'), u', v')) with
    | some k => blR k h
    | none => .no : R D) = _
  have e : eqD h (lineD ((p, q), u, v)) (lineD ((p', q'), u', v')) = some (decide (p = p') && decide (q = q') && (decide (u = u') && decide (v = v'))) := by
    unfold eqD lineD pairD
    simp [scalD, told, D.dat, D.datL, D.eqv, D.eqvL, Bool.and_assoc]
  rw [e]
  simp [Prod.ext_iff, Bool.decide_and, Bool.and_assoc]
def crossF (a b : Ln) : Option Int :=
  if a.1.1 * b.1.2 - b.1.1 * a.1.2 = 0 then none
  else if ((b.2.1 * a.2.2 - a.2.1 * b.2.2) * (a.1.2 * b.1.2)).fmod ((a.1.1 * b.1.2 - b.1.1 * a.1.2) * (a.2.2 * b.2.2)) = 0 then some (((b.2.1 * a.2.2 - a.2.1 * b.2.2) * (a.1.2 * b.1.2)).fdiv ((a.1.1 * b.1.2 - b.1.1 * a.1.2) * (a.2.2 * b.2.2)))
  else none
structure LnS (l : Ln) : Prop where
  p : l.1.1.natAbs < 2 ^ 201
  q : l.1.2.natAbs < 2 ^ 201
  u : l.2.1.natAbs < 2 ^ 401
  v : l.2.2.natAbs < 2 ^ 401
  q0 : l.1.2 ≠ 0
  v0 : l.2.2 ≠ 0
theorem line_size {A : Fm} (h : FmS A) (hm : A.m ≠ 0) : LnS (lineF A) := by
  have h1 := frac_size hm (Nat.lt_of_lt_of_le h.t (pw (by omega : 200 ≤ 201))) (Nat.lt_of_lt_of_le h.m (pw (by omega)))
  have h2 := frac_size hm (c_lt h) (Nat.lt_of_lt_of_le h.m (pw (by omega)))
  have s1 := (frac_spec (t := A.t) hm).2.2.1
  have s2 := (frac_spec (t := A.c) hm).2.2.1
  exact ⟨h1.1, h1.2, h2.1, h2.2, by show (fracF A.t A.m).2 ≠ 0; omega, by show (fracF A.c A.m).2 ≠ 0; omega⟩
def intO : Option Int → D
  | none => .non
  | some x => .int x
theorem crossing_ok {w : Nat} (n : Nat) (a b : Ln) (h : Hh) (ha : LnS a) (hb : LnS b) : callF (Pr w) (n + 1) 15 [lineD a, lineD b] h = .ok (intO (crossF a b)) h := by
  obtain ⟨⟨p, q⟩, u, v⟩ := a
  obtain ⟨⟨p', q'⟩, u', v'⟩ := b
  have hp := ha.p; have hq := ha.q; have hu := ha.u; have hv := ha.v
  have hp' := hb.p; have hq' := hb.q; have hu' := hb.u; have hv' := hb.v
  have v0 := ha.v0; have v0' := hb.v0
  simp only at hp hq hu hv hp' hq' hu' hv' v0 v0'
  have k1 : mulOk p q' = true := sz_mul (sz_of hp (by omega)) (sz_of hq' (by omega))
  have k2 : mulOk p' q = true := sz_mul (sz_of hp' (by omega)) (sz_of hq (by omega))
  have k3 : mulOk u' v = true := sz_mul (sz_of hu' (by omega)) (sz_of hv (by omega))
  have k4 : mulOk u v' = true := sz_mul (sz_of hu (by omega)) (sz_of hv' (by omega))
  have k5 : mulOk q q' = true := sz_mul (sz_of hq (by omega)) (sz_of hq' (by omega))
  have k6 : mulOk v v' = true := sz_mul (sz_of hv (by omega)) (sz_of hv' (by omega))
  have z1 := nat_sub_lt (nat_mul_lt hp hq') (nat_mul_lt hp' hq)
  have z2 := nat_sub_lt (nat_mul_lt hu' hv) (nat_mul_lt hu hv')
  have z3 := nat_mul_lt hq hq'
  have z4 := nat_mul_lt hv hv'
  have k7 : mulOk (u' * v - u * v') (q * q') = true := sz_mul (sz_of z2 (by omega)) (sz_of z3 (by omega))
  have k8 : mulOk (p * q' - p' * q) (v * v') = true := sz_mul (sz_of z1 (by omega)) (sz_of z4 (by omega))
  have z5 := nat_mul_lt z1 z4
  rw [u15]
  unfold crossF lineD pairD intO
  by_cases c : p * q' - p' * q = 0
  · simp [runF, crossing, startS, evSs, evS, evE, evEs, evT, k1, k2, c]
  · have s0 : (p * q' - p' * q) * (v * v') ≠ 0 := Int.mul_ne_zero c (Int.mul_ne_zero v0 v0')
    have b0 := sz_bigD (sz_of z5 (by omega))
    generalize hS : (p * q' - p' * q) * (v * v') = S at *
    generalize hR : (u' * v - u * v') * (q * q') = Rr at *
    by_cases c2 : Rr.fmod S = 0
    · simp [runF, crossing, startS, evSs, evS, evE, evEs, evT, k1, k2, c, k3, k4, k5, k6, k7, k8, hS, hR, s0, b0, c2]
    · simp [runF, crossing, startS, evSs, evS, evE, evEs, evT, k1, k2, c, k3, k4, k5, k6, k7, k8, hS, hR, s0, b0, c2]
end Lk01

namespace Lk01
open Ivy
/-! ### meeting: what the law reckons -/
noncomputable def meetF (A B : Fm) : Option Lot := match metF A.lot B.lot with
  | none => none
  | some l =>
    if l.2 = 0 then (if ledF A l.1 - ledF B l.1 = 0 then some l else none)
    else if ledF A (l.1 + l.2) - ledF B (l.1 + l.2) - (ledF A l.1 - ledF B l.1) = 0 then (if ledF A l.1 - ledF B l.1 = 0 then some l else none)
    else if (ledF A l.1 - ledF B l.1).fmod (ledF A (l.1 + l.2) - ledF B (l.1 + l.2) - (ledF A l.1 - ledF B l.1)) = 0 then
      some (l.1 - (ledF A l.1 - ledF B l.1).fdiv (ledF A (l.1 + l.2) - ledF B (l.1 + l.2) - (ledF A l.1 - ledF B l.1)) * l.2, 0)
    else none
/-- what the program does -/
noncomputable def progF (A B : Fm) : Option Lot :=
  if A.m = 0 then singleF A B A.f
  else if B.m = 0 then singleF A B B.f
  else if lineF A = lineF B then metF A.lot B.lot
  else match crossF (lineF A) (lineF B) with
    | none => none
    | some x => singleF A B x
theorem led_line {A : Fm} {x : Int} (h0 : 0 < A.m) (h : A.m ∣ x - A.f) : A.m * ledF A x = A.t * x + A.c := by
  obtain ⟨k, hk⟩ := h
  have e : turnF A x = k := by
    unfold turnF
    rw [if_neg (by omega), hk, fdiv_pos h0, Int.mul_ediv_cancel_left _ (by omega)]
  unfold ledF Fm.c
  rw [e]
  have : x = A.f + A.m * k := by omega
  rw [this]
  grind
/-- the crossing's equation -/
def Kx (A B : Fm) : Int := A.t * B.m - B.t * A.m
def Lx (A B : Fm) : Int := B.c * A.m - A.c * B.m
theorem led_diff {A B : Fm} {x : Int} (hA : 0 < A.m) (hB : 0 < B.m) (h1 : A.m ∣ x - A.f) (h2 : B.m ∣ x - B.f) : A.m * B.m * (ledF A x - ledF B x) = Kx A B * x - Lx A B := by
  have e1 := led_line hA h1
  have e2 := led_line hB h2
  unfold Kx Lx
  have : A.m * B.m * (ledF A x - ledF B x) = B.m * (A.m * ledF A x) - A.m * (B.m * ledF B x) := by grind
  rw [this, e1, e2]
  grind
theorem mul0 {a b : Int} (ha : a ≠ 0) (h : a * b = 0) : b = 0 := (Int.mul_eq_zero.mp h).resolve_left ha
theorem led_same {A B : Fm} {x : Int} (hA : 0 < A.m) (hB : 0 < B.m) (h1 : A.m ∣ x - A.f) (h2 : B.m ∣ x - B.f) : ledF A x = ledF B x ↔ Kx A B * x = Lx A B := by
  have e := led_diff hA hB h1 h2
  constructor
  · intro z
    rw [z] at e
    simp at e
    omega
  · intro z
    have : A.m * B.m * (ledF A x - ledF B x) = 0 := by omega
    have := mul0 (Int.mul_ne_zero (by omega) (by omega)) this
    omega
theorem line_iff {A B : Fm} (hA : A.m ≠ 0) (hB : B.m ≠ 0) : lineF A = lineF B ↔ Kx A B = 0 ∧ Lx A B = 0 := by
  unfold lineF
  rw [Prod.mk.injEq, frac_eq hA hB, frac_eq hA hB]
  unfold Kx Lx
  omega
/-- the crossing of two lines: the one integer that solves the equation -/
theorem cross_spec {A B : Fm} (hA : A.m ≠ 0) (hB : B.m ≠ 0) :
    (Kx A B = 0 → crossF (lineF A) (lineF B) = none) ∧ (Kx A B ≠ 0 → (∀ x, crossF (lineF A) (lineF B) = some x → Kx A B * x = Lx A B) ∧ (∀ x, Kx A B * x = Lx A B → crossF (lineF A) (lineF B) = some x)) := by
  have c1 := frac_cross (t := A.t) hA
  have c2 := frac_cross (t := A.c) hA
  have c3 := frac_cross (t := B.t) hB
  have c4 := frac_cross (t := B.c) hB
  have s1 := (frac_spec (t := A.t) hA).2.2.1
  have s2 := (frac_spec (t := A.c) hA).2.2.1
  have s3 := (frac_spec (t := B.t) hB).2.2.1
  have s4 := (frac_spec (t := B.c) hB).2.2.1
  unfold crossF lineF
  simp only
  unfold Kx Lx
  generalize (fracF A.t A.m).1 = p at *
  generalize (fracF A.t A.m).2 = q at *
  generalize (fracF A.c A.m).1 = u at *
  generalize (fracF A.c A.m).2 = v at *
  generalize (fracF B.t B.m).1 = p' at *
  generalize (fracF B.t B.m).2 = q' at *
  generalize (fracF B.c B.m).1 = u' at *
  generalize (fracF B.c B.m).2 = v' at *
  generalize A.m = m at *
  generalize B.m = m' at *
  generalize A.t = t at *
  generalize B.t = t' at *
  generalize A.c = c at *
  generalize B.c = c' at *
  have mm : m * m' ≠ 0 := Int.mul_ne_zero hA hB
  have qq : q * q' ≠ 0 := Int.mul_ne_zero (by omega) (by omega)
  have vv : v * v' ≠ 0 := Int.mul_ne_zero (by omega) (by omega)
  have a1 : m * m' * (p * q' - p' * q) = q * q' * (t * m' - t' * m) := by
    have : m * m' * (p * q' - p' * q) = (p * m) * (m' * q') - (p' * m') * (m * q) := by grind
    rw [this, c1, c3]; grind
  have a2 : m * m' * (u' * v - u * v') = v * v' * (c' * m - c * m') := by
    have : m * m' * (u' * v - u * v') = (u' * m') * (m * v) - (u * m) * (m' * v') := by grind
    rw [this, c2, c4]; grind
  constructor
  · intro z
    have : p * q' - p' * q = 0 := by
      rw [z, Int.mul_zero] at a1
      exact mul0 mm a1
    rw [if_pos this]
  · intro z
    have sn : p * q' - p' * q ≠ 0 := fun y => by
      rw [y, Int.mul_zero] at a1
      exact z (mul0 qq a1.symm)
    rw [if_neg sn]
    have S0 : (p * q' - p' * q) * (v * v') ≠ 0 := Int.mul_ne_zero sn vv
    have key : ∀ x, (u' * v - u * v') * (q * q') = (p * q' - p' * q) * (v * v') * x ↔ (t * m' - t' * m) * x = c' * m - c * m' := fun x => by
      have b1 : m * m' * ((u' * v - u * v') * (q * q')) = (q * q' * (v * v')) * (c' * m - c * m') := by
        have : m * m' * ((u' * v - u * v') * (q * q')) = (m * m' * (u' * v - u * v')) * (q * q') := by grind
        rw [this, a2]; grind
      have b2 : m * m' * ((p * q' - p' * q) * (v * v') * x) = (q * q' * (v * v')) * ((t * m' - t' * m) * x) := by
        have : m * m' * ((p * q' - p' * q) * (v * v') * x) = (m * m' * (p * q' - p' * q)) * (v * v' * x) := by grind
        rw [this, a1]; grind
      constructor
      · intro e
        rw [e, b2] at b1
        exact Int.eq_of_mul_eq_mul_left (Int.mul_ne_zero qq vv) b1
      · intro e
        rw [e, ← b1] at b2
        exact (Int.eq_of_mul_eq_mul_left mm b2).symm
    generalize (u' * v - u * v') * (q * q') = Rr at *
    generalize (p * q' - p' * q) * (v * v') = S at *
    refine ⟨fun x hx => ?_, fun x hx => ?_⟩
    · by_cases d : Rr.fmod S = 0
      · rw [if_pos d] at hx
        cases hx
        obtain ⟨k, hk⟩ := fmod_zero.mp d
        have e : Rr.fdiv S = k := by rw [hk]; exact Int.mul_fdiv_cancel_left k S0
        rw [e]
        exact (key k).mp hk
      · rw [if_neg d] at hx; cases hx
    · have e := (key x).mpr hx
      have d : Rr.fmod S = 0 := fmod_zero.mpr ⟨x, e⟩
      rw [if_pos d, e, Int.mul_fdiv_cancel_left x S0]
theorem metF_of_in {a b : Lot} {x : Int} (ha : 0 < a.2) (hb : 0 < b.2) (h1 : a.2 ∣ x - a.1) (h2 : b.2 ∣ x - b.1) : ∃ y, metF a b = some (y, lcmF a.2 b.2) ∧ Meet a b y ∧ lcmF a.2 b.2 ∣ x - y := by
  have lp := lcm_pos ha hb
  have m1 : Meet a b (x % lcmF a.2 b.2) := by
    refine ⟨Int.emod_nonneg _ (by omega), Int.emod_lt_of_pos _ lp, ?_, ?_⟩
    · have : x % lcmF a.2 b.2 - a.1 = (x % lcmF a.2 b.2 - x) + (x - a.1) := by omega
      rw [this]; exact Int.dvd_add (Int.dvd_trans dvd_lcmL Int.dvd_emod_sub_self) h1
    · have : x % lcmF a.2 b.2 - b.1 = (x % lcmF a.2 b.2 - x) + (x - b.1) := by omega
      rw [this]; exact Int.dvd_add (Int.dvd_trans dvd_lcmR Int.dvd_emod_sub_self) h2
  refine ⟨_, metF_some (by omega) (by omega) m1, m1, ?_⟩
  have : x - x % lcmF a.2 b.2 = -(x % lcmF a.2 b.2 - x) := by omega
  rw [this]
  exact Int.dvd_neg.mpr Int.dvd_emod_sub_self
theorem metF_spec {a b : Lot} {l : Lot} (ha : 0 < a.2) (hb : 0 < b.2) (h : metF a b = some l) : l.2 = lcmF a.2 b.2 ∧ Meet a b l.1 := by
  unfold metF at h
  rw [if_neg (by omega), if_neg (by omega)] at h
  split at h
  · rename_i e
    cases h
    exact ⟨rfl, Classical.choose_spec e⟩
  · cases h
theorem inF_pos {a : Lot} {x : Int} (h : a.2 ≠ 0) : inF a x = true ↔ a.2 ∣ x - a.1 := by unfold inF; rw [if_neg h]; exact decide_eq_true_iff
theorem prog_meet {A B : Fm} (hA : 0 ≤ A.m) (hB : 0 ≤ B.m) : progF A B = meetF A B := by
  unfold progF meetF
  by_cases za : A.m = 0
  · rw [if_pos za]
    have e : metF A.lot B.lot = if inF B.lot A.f = true then some A.lot else none := by unfold metF; rw [if_pos (show A.lot.2 = 0 from za)]; rfl
    have i : inF A.lot A.f = true := by rw [inF_zero (show A.lot.2 = 0 from za)]; exact decide_eq_true rfl
    unfold singleF
    rw [e]
    by_cases q : inF B.lot A.f = true
    · rw [if_pos q]
      simp only
      rw [if_pos (show A.lot.2 = 0 from za)]
      have el : A.lot = (A.f, 0) := by unfold Fm.lot; rw [za]
      rw [el]
      simp only
      by_cases c : ledF A A.f = ledF B A.f
      · rw [if_pos ⟨el ▸ i, q, c⟩, if_pos (by omega)]
      · rw [if_neg fun z => c z.2.2, if_neg (by omega)]
    · rw [if_neg q, if_neg fun z => q z.2.1]
  · rw [if_neg za]
    by_cases zb : B.m = 0
    · rw [if_pos zb]
      have e : metF A.lot B.lot = if inF A.lot B.f = true then some B.lot else none := by unfold metF; rw [if_neg (show A.lot.2 ≠ 0 from za), if_pos (show B.lot.2 = 0 from zb)]; rfl
      have i : inF B.lot B.f = true := by rw [inF_zero (show B.lot.2 = 0 from zb)]; exact decide_eq_true rfl
      unfold singleF
      rw [e]
      by_cases q : inF A.lot B.f = true
      · rw [if_pos q]
        simp only
        rw [if_pos (show B.lot.2 = 0 from zb)]
        have el : B.lot = (B.f, 0) := by unfold Fm.lot; rw [zb]
        rw [el]
        simp only
        by_cases c : ledF A B.f = ledF B B.f
        · rw [if_pos ⟨q, el ▸ i, c⟩, if_pos (by omega)]
        · rw [if_neg fun z => c z.2.2, if_neg (by omega)]
      · rw [if_neg q, if_neg fun z => q z.1]
    · rw [if_neg zb]
      have pA : 0 < A.m := by omega
      have pB : 0 < B.m := by omega
      have lp := lcm_pos pA pB
      obtain ⟨cr0, cr1⟩ := cross_spec za zb
      have hl := line_iff za zb
      cases hm : metF A.lot B.lot with
      | none =>
        simp only
        split
        · rfl
        · split
          · rfl
          · rename_i x hx
            unfold singleF
            rw [if_neg]
            rintro ⟨h1, h2, _⟩
            obtain ⟨y, h3, _⟩ := metF_of_in (a := A.lot) (b := B.lot) pA pB ((inF_pos za).mp h1) ((inF_pos zb).mp h2)
            rw [hm] at h3; cases h3
      | some l =>
        obtain ⟨e2, m0, m1, m2, m3⟩ := metF_spec (a := A.lot) (b := B.lot) pA pB hm
        obtain ⟨x0, M⟩ := l
        simp only at e2 m0 m1 m2 m3 ⊢
        have eM : M = lcmF A.m B.m := e2
        have M0 : M ≠ 0 := by rw [eM]; omega
        rw [if_neg M0]
        have d1 : A.m ∣ x0 - A.f := m2
        have d2 : B.m ∣ x0 - B.f := m3
        have dM1 : A.m ∣ M := by rw [eM]; exact dvd_lcmL
        have dM2 : B.m ∣ M := by rw [eM]; exact dvd_lcmR
        have d3 : A.m ∣ x0 + M - A.f := by
          have : x0 + M - A.f = (x0 - A.f) + M := by omega
          rw [this]; exact Int.dvd_add d1 dM1
        have d4 : B.m ∣ x0 + M - B.f := by
          have : x0 + M - B.f = (x0 - B.f) + M := by omega
          rw [this]; exact Int.dvd_add d2 dM2
        have q1 := led_diff pA pB d1 d2
        have q2 := led_diff pA pB d3 d4
        have mm : A.m * B.m ≠ 0 := Int.mul_ne_zero za zb
        generalize hap : ledF A x0 - ledF B x0 = ap at *
        generalize hgr : ledF A (x0 + M) - ledF B (x0 + M) - ap = gr at *
        have q3 : A.m * B.m * gr = Kx A B * M := by
          rw [← hgr, Int.mul_sub, q1, q2, Int.mul_add]; omega
        by_cases k0 : Kx A B = 0
        · have g0 : gr = 0 := mul0 mm (by rw [q3, k0, Int.zero_mul])
          rw [if_pos g0]
          rw [k0, Int.zero_mul] at q1
          by_cases l0 : Lx A B = 0
          · rw [if_pos (hl.mpr ⟨k0, l0⟩), if_pos (mul0 mm (by rw [q1, l0]; rfl))]
          · rw [if_neg fun z => l0 (hl.mp z).2, cr0 k0, if_neg]
            intro z
            rw [z, Int.mul_zero] at q1
            omega
        · have g0 : gr ≠ 0 := fun z => by
            rw [z, Int.mul_zero] at q3
            exact k0 ((Int.mul_eq_zero.mp q3.symm).resolve_right M0)
          rw [if_neg g0, if_neg fun z => k0 (hl.mp z).1]
          obtain ⟨c1, c2⟩ := cr1 k0
          by_cases dv : ap.fmod gr = 0
          · rw [if_pos dv]
            obtain ⟨k, hk⟩ := fmod_zero.mp dv
            have ek : ap.fdiv gr = k := by rw [hk]; exact Int.mul_fdiv_cancel_left k g0
            rw [ek]
            have sol : Kx A B * (x0 - k * M) = Lx A B := by
              have : Kx A B * (x0 - k * M) = Kx A B * x0 - k * (Kx A B * M) := by grind
              rw [this, ← q3]
              have : k * (A.m * B.m * gr) = A.m * B.m * ap := by rw [hk]; grind
              rw [this, q1]; omega
            rw [c2 _ sol]
            simp only
            have i1 : A.m ∣ x0 - k * M - A.f := by
              have : x0 - k * M - A.f = (x0 - A.f) - k * M := by omega
              rw [this]; exact Int.dvd_sub d1 (Int.dvd_mul_of_dvd_right dM1)
            have i2 : B.m ∣ x0 - k * M - B.f := by
              have : x0 - k * M - B.f = (x0 - B.f) - k * M := by omega
              rw [this]; exact Int.dvd_sub d2 (Int.dvd_mul_of_dvd_right dM2)
            unfold singleF
            rw [if_pos ⟨(inF_pos za).mpr i1, (inF_pos zb).mpr i2, (led_same pA pB i1 i2).mpr sol⟩]
          · rw [if_neg dv]
            cases hc : crossF (lineF A) (lineF B) with
            | none => rfl
            | some x =>
              simp only
              unfold singleF
              rw [if_neg]
              rintro ⟨h1, h2, _⟩
              obtain ⟨y, h3, _, h4⟩ := metF_of_in (a := A.lot) (b := B.lot) pA pB ((inF_pos za).mp h1) ((inF_pos zb).mp h2)
              rw [hm] at h3
              obtain ⟨h5, h6⟩ := Prod.mk.inj (Option.some.inj h3)
              obtain ⟨j, hj⟩ := h4
              have hj : x - y = lcmF A.m B.m * j := hj
              rw [← h5] at hj
              have sol := c1 x hc
              refine dv (fmod_zero.mpr ⟨-j, ?_⟩)
              have ex : x = x0 + M * j := by rw [eM]; omega
              rw [ex] at sol
              have : A.m * B.m * ap = A.m * B.m * (gr * -j) := by
                have e5 : A.m * B.m * (gr * -j) = -(A.m * B.m * gr) * j := by grind
                rw [e5, q3, q1]
                have e6 : Kx A B * (x0 + M * j) = Kx A B * x0 + Kx A B * M * j := by grind
                rw [e6] at sol
                have e7 : -(Kx A B * M) * j = -(Kx A B * M * j) := by grind
                rw [e7]
                omega
              exact Int.eq_of_mul_eq_mul_left mm this
end Lk01

namespace Lk01
open Ivy
theorem cross_size {a b : Ln} {x : Int} (ha : LnS a) (hb : LnS b) (h : crossF a b = some x) : x.natAbs < 2 ^ 1500 := by
  have z2 := nat_sub_lt (nat_mul_lt hb.u ha.v) (nat_mul_lt ha.u hb.v)
  have z3 := nat_mul_lt ha.q hb.q
  have z5 := nat_mul_lt z2 z3
  unfold crossF at h
  split at h
  · cases h
  · rename_i c
    have S0 : (a.1.1 * b.1.2 - b.1.1 * a.1.2) * (a.2.2 * b.2.2) ≠ 0 := Int.mul_ne_zero c (Int.mul_ne_zero ha.v0 hb.v0)
    split at h
    · rename_i d
      obtain ⟨k, hk⟩ := fmod_zero.mp d
      cases h
      rw [hk] at z5
      rw [hk, Int.mul_fdiv_cancel_left k S0]
      rw [Int.natAbs_mul] at z5
      have : 1 * k.natAbs ≤ ((a.1.1 * b.1.2 - b.1.1 * a.1.2) * (a.2.2 * b.2.2)).natAbs * k.natAbs := Nat.mul_le_mul_right _ (by omega)
      exact Nat.lt_of_lt_of_le (Nat.lt_of_le_of_lt (by omega) z5) (pw (by omega))
    · cases h
theorem lot_ok {A : Fm} (h : FmS A) : LotS A.lot := ⟨h.m0, Nat.lt_of_lt_of_le h.f (pw (by omega)), Nat.lt_of_lt_of_le h.m (pw (by omega))⟩
theorem intO_pers (o : Option Int) : D.pers (intO o) = true := by cases o <;> rfl
theorem lineD_pers (l : Ln) : D.pers (lineD l) = true := rfl
theorem box_line (l : Ln) (h : Hh) : boxR (lineD l) h = .ok (lineD l) h := rfl
theorem box_int (o : Option Int) (h : Hh) : boxR (intO o) h = .ok (intO o) h := by cases o <;> rfl
theorem box_opt (o : Option Lot) (h : Hh) : boxR (optD o) h = .ok (optD o) h := by cases o <;> rfl
theorem opt_pers (o : Option Lot) : D.pers (optD o) = true := by cases o <;> rfl
theorem meeting_ok {w : Nat} (n : Nat) (A B : Fm) (h : Hh) (hA : FmS A) (hB : FmS B) (hw : 2 ^ 1000 ≤ w) : callF (Pr w) (n + 4) 16 [formD A, formD B] h = .ok (optD (meetF A B)) h := by
  rw [← prog_meet hA.m0 hB.m0]
  have eA : formD A = .tup [.int A.f, .int A.m, .int A.s, .int A.t] := rfl
  have eB : formD B = .tup [.int B.f, .int B.m, .int B.s, .int B.t] := rfl
  rw [u16]
  unfold progF
  by_cases za : A.m = 0
  · have s1 := single_ok (w := w) n A B A.f h hA hB (Nat.lt_of_lt_of_le hA.f (pw (by omega)))
    rw [eA, eB] at s1 ⊢
    rw [za] at s1 ⊢
    simp [runF, meeting, startS, evSs, evS, evE, evEs, evT, s1]
  · rw [if_neg za]
    by_cases zb : B.m = 0
    · have s1 := single_ok (w := w) n A B B.f h hA hB (Nat.lt_of_lt_of_le hB.f (pw (by omega)))
      rw [eA, eB] at s1 ⊢
      rw [zb] at s1 ⊢
      simp [runF, meeting, startS, evSs, evS, evE, evEs, evT, s1, za]
    · rw [if_neg zb]
      have l1 := line_ok (w := w) n A h hA za hw
      have l2 := line_ok (w := w) n B h hB zb hw
      have c1 := crossing_ok (w := w) (n + 2) (lineF A) (lineF B) h (line_size hA za) (line_size hB zb)
      have m1 := met_ok (w := w) n A.lot B.lot h (lot_ok hA) (lot_ok hB) hw
      rw [eA] at l1
      rw [eB] at l2
      have elA : lotD A.lot = .tup [.int A.f, .int A.m] := rfl
      have elB : lotD B.lot = .tup [.int B.f, .int B.m] := rfl
      rw [elA, elB] at m1
      by_cases le : lineF A = lineF B
      · rw [if_pos le]
        rw [eA, eB]
        rw [← le] at l2
        simp [runF, meeting, startS, evSs, evS, evE, evEs, evT, za, zb, l1, l2, line_eq, cut2, m1]
      · rw [if_neg le]
        cases hc : crossF (lineF A) (lineF B) with
        | none =>
          rw [hc] at c1
          rw [eA, eB]
          simp [runF, meeting, startS, evSs, evS, evE, evEs, evT, za, zb, l1, l2, line_eq, le, box_line, lineD_pers, c1, intO, optD]
        | some x =>
          have s1 := single_ok (w := w) n A B x h hA hB (cross_size (line_size hA za) (line_size hB zb) hc)
          rw [hc] at c1
          rw [eA, eB] at s1 ⊢
          simp [runF, meeting, startS, evSs, evS, evE, evEs, evT, za, zb, l1, l2, line_eq, le, box_line, lineD_pers, c1, intO, s1]
/-! ### fixed_number -/
def oneF : Fm := ⟨0, 1, 0, 1⟩
theorem one_size : FmS oneF := ⟨by decide, by show 0 < _; exact Nat.pow_pos (by omega), Nat.lt_of_lt_of_le (by decide : (1 : Nat) < 2 ^ 1) (pw (by omega)), by show 0 < _; exact Nat.pow_pos (by omega), Nat.lt_of_lt_of_le (by decide : (1 : Nat) < 2 ^ 1) (pw (by omega))⟩
noncomputable def fixF (A : Fm) : Option Int := (meetF A oneF).map (·.1)
theorem fixed_ok {w : Nat} (n : Nat) (A : Fm) (h : Hh) (hA : FmS A) (hw : 2 ^ 1000 ≤ w) : callF (Pr w) (n + 5) 17 [formD A] h = .ok (intO (fixF A)) h := by
  have m := meeting_ok (w := w) n A oneF h hA one_size hw
  have e1 : formD oneF = .tup [.int 0, .int 1, .int 0, .int 1] := rfl
  have eA : formD A = .tup [.int A.f, .int A.m, .int A.s, .int A.t] := rfl
  rw [u17]
  unfold fixF
  rw [e1, eA] at m
  rw [eA]
  cases q : meetF A oneF with
  | none =>
    rw [q] at m
    simp [runF, fixed_number, startS, evSs, evS, evE, evEs, evT, m, optD, intO]
  | some l =>
    rw [q] at m
    simp [runF, fixed_number, startS, evSs, evS, evE, evEs, evT, m, optD, lotD, intO]
end Lk01

namespace Lk01
open Ivy
@[simp] theorem srcD_tup {h : Hh} {xs : List D} : srcD h (.tup xs) = some ⟨xs, []⟩ := rfl
@[simp] theorem srcT_tup {h : Hh} {xs : List D} : srcT h (.tup xs) = some ⟨xs, []⟩ := rfl
/-- lots of k bits -/
def LotB (k : Nat) (a : Lot) : Prop := 0 ≤ a.2 ∧ a.1.natAbs < 2 ^ k ∧ a.2.natAbs < 2 ^ k
theorem LotB.S {k : Nat} {a : Lot} (h : LotB k a) (hk : k ≤ 1000) : LotS a := ⟨h.1, Nat.lt_of_lt_of_le h.2.1 (pw hk), Nat.lt_of_lt_of_le h.2.2 (pw hk)⟩
theorem LotB.up {k l : Nat} {a : Lot} (h : LotB k a) (hk : k ≤ l) : LotB l a := ⟨h.1, Nat.lt_of_lt_of_le h.2.1 (pw hk), Nat.lt_of_lt_of_le h.2.2 (pw hk)⟩
theorem lcm_le {m m' : Int} (h : 0 < m) (h' : 0 < m') : (lcmF m m').natAbs ≤ (m * m').natAbs := by
  have gp := gcd_posR (a := m) (show m' ≠ 0 by omega)
  unfold lcmF
  rw [Int.natAbs_mul, Int.natAbs_mul]
  exact Nat.mul_le_mul_left _ (ediv_le (by omega) gp)
theorem metF_B {k l : Nat} {a b c : Lot} (ha : LotB k a) (hb : LotB l b) (h : metF a b = some c) : LotB (k + l) c := by
  by_cases za : a.2 = 0
  · unfold metF at h
    rw [if_pos za] at h
    split at h
    · cases h; exact ha.up (by omega)
    · cases h
  · by_cases zb : b.2 = 0
    · unfold metF at h
      rw [if_neg za, if_pos zb] at h
      split at h
      · cases h; exact hb.up (by omega)
      · cases h
    · have pa : 0 < a.2 := by have := ha.1; omega
      have pb : 0 < b.2 := by have := hb.1; omega
      obtain ⟨e, m0, m1, _, _⟩ := metF_spec pa pb h
      have lp := lcm_pos pa pb
      have l1 := lcm_le pa pb
      have l2 := nat_mul_lt ha.2.2 hb.2.2
      exact ⟨by omega, by omega, by omega⟩
/-! ### met_all -/
noncomputable def allF (o : Option Lot) : List Lot → Option Lot
  | [] => o
  | l :: ls => allF (o.bind fun a => metF a l) ls
theorem met_all_loop {w : Nat} (n : Nat) (h : Hh) (T : D) (hw : 2 ^ 1000 ≤ w) : ∀ (ls : List Lot) (k : Nat) (o : Option Lot), (∀ a, o = some a → LotB k a) → (∀ l ∈ ls, LotB 20 l) → k + 20 * ls.length ≤ 1000 →
    lpF [] (.name 2) [2] (evSs (gk w (n + 3)) met_all_l1) (ls.map lotD) [some T, some (optD o), none] h = .nx [some T, some (optD (allF o ls)), none] h
  | [], k, o, _, _, _ => by rw [List.map_nil, lpF_nil]; simp [allF]
  | l :: ls, k, o, ho, hl, hk => by
    have hl1 := hl l (List.mem_cons_self ..)
    rw [List.length_cons] at hk
    have body : evSs (gk w (n + 3)) met_all_l1 [some T, some (optD o), some (lotD l)] h = .nx [some T, some (optD (o.bind fun a => metF a l)), some (lotD l)] h := by
      cases o with
      | none => simp [met_all_l1, evSs, evS, evE, evEs, evT, optD]
      | some a =>
        have m := met_ok (w := w) n a l h ((ho a rfl).S (by omega)) (hl1.S (by omega)) hw
        have e1 : D.isNon (lotD a) = false := rfl
        have e2 : D.pers (lotD a) = true := rfl
        have e3 : D.pers (lotD l) = true := rfl
        simp [met_all_l1, evSs, evS, evE, evEs, evT, optD_lot, m, e1, e2, e3, box_opt, opt_pers]
    have e3 : D.pers (lotD l) = true := rfl
    rw [List.map_cons, lpF_go (δ1 := [some T, some (optD o), some (lotD l)]) (by simp [e3]) body]
    simp only [wipe1, wipe0, List.set_cons_succ, List.set_cons_zero]
    exact met_all_loop n h T hw ls (k + 20) (o.bind fun a => metF a l) (fun c hc => by
      cases o with
      | none => cases hc
      | some a => exact metF_B (ho a rfl) hl1 hc) (fun x hx => hl x (List.mem_cons_of_mem _ hx)) (by omega)
theorem met_all_ok {w : Nat} (n : Nat) (ls : List Lot) (h : Hh) (hl : ∀ l ∈ ls, LotB 20 l) (hn : ls.length ≤ 40) (hw : 2 ^ 1000 ≤ w) : callF (Pr w) (n + 4) 19 [.tup (ls.map lotD)] h = .ok (optD (allF (some (0, 1)) ls)) h := by
  have lp := met_all_loop (w := w) n h (.tup (ls.map lotD)) hw ls 20 (some (0, 1)) (fun a e => by cases e; exact ⟨by decide, by decide, by decide⟩) hl (by omega)
  have e : optD (some (0, 1)) = .tup [.int 0, .int 1] := rfl
  rw [e] at lp
  rw [u19]
  simp [runF, met_all, startS, evSs, evS, evE, evEs, evT, evI, lp]
/-! ### clash_of -/
def innF (P : Nat → Nat → Bool) (i : Nat) : List Nat → Option Lot
  | [] => none
  | j :: js => if P i j = true then some ((i : Int), (j : Int)) else innF P i js
def outF (P : Nat → Nat → Bool) (N : Nat) : List Nat → Option Lot
  | [] => none
  | i :: is => match innF P i (List.range' (i + 1) (N - (i + 1))) with
    | some r => some r
    | none => outF P N is
theorem range_nat (k n : Nat) : rangeL (k : Int) n 1 = (List.range' k n).map fun (j : Nat) => D.int (j : Int) := by
  unfold rangeL
  rw [List.range'_eq_map_range, List.map_map]
  refine List.map_congr_left fun j _ => ?_
  simp
noncomputable def noMeet (ls : List Lot) (i j : Nat) : Bool := match ls[i]?, ls[j]? with
  | some a, some b => (metF a b).isNone
  | _, _ => false
noncomputable def clashF (ls : List Lot) : Option Lot := outF (noMeet ls) ls.length (List.range' 0 ls.length)
theorem atP_nat {xs : List D} {j : Nat} (h : j < xs.length) : atP xs (j : Int) = some xs[j] := by
  unfold atP ixP
  rw [if_pos (by omega), if_pos (by omega)]
  simp [h]
theorem opt_none (o : Option Lot) : D.isNon (optD o) = o.isNone := by cases o <;> rfl
theorem clash_inner {w : Nat} (n : Nat) (h : Hh) (ls : List Lot) (i : Nat) (a : Lot) (hi : ls[i]? = some a) (hl : ∀ l ∈ ls, LotB 20 l) (hw : 2 ^ 1000 ≤ w) : ∀ js : List Nat, (∀ j ∈ js, j < ls.length) →
    lpF [] (.name 3) [3] (evSs (gk w (n + 3)) clash_of_l1) (js.map fun (j : Nat) => D.int (j : Int)) [some (.tup (ls.map lotD)), some (.int (i : Int)), some (lotD a), none] h =
      match innF (noMeet ls) i js with
      | some r => .ret (lotD r) h
      | none => .nx [some (.tup (ls.map lotD)), some (.int (i : Int)), some (lotD a), none] h
  | [], _ => by rw [List.map_nil, lpF_nil]; simp [innF]
  | j :: js, hj => by
    have hj1 := hj j (List.mem_cons_self ..)
    have la := hl a (List.mem_of_getElem? hi)
    have lb := hl ls[j] (List.getElem_mem ..)
    have m := met_ok (w := w) n a ls[j] h (la.S (by omega)) (lb.S (by omega)) hw
    have at_ : atP (ls.map lotD) (j : Int) = some (lotD ls[j]) := by rw [atP_nat (by simpa using hj1)]; simp
    have e2 : D.pers (lotD a) = true := rfl
    have e3 : D.pers (lotD ls[j]) = true := rfl
    have nm : noMeet ls i j = (metF a ls[j]).isNone := by unfold noMeet; rw [hi, List.getElem?_eq_getElem hj1]
    rw [List.map_cons]
    unfold innF
    rw [nm]
    cases q : (metF a ls[j]).isNone with
    | true =>
      rw [lpF_ret (δ1 := [some (.tup (ls.map lotD)), some (.int (i : Int)), some (lotD a), some (.int (j : Int))]) (h2 := h) (d := .tup [.int i, .int j]) (by simp) (by
        simp [clash_of_l1, evSs, evS, evE, evEs, evT, at_, m, e2, e3, opt_none, q])]
      rfl
    | false =>
      rw [lpF_go (δ1 := [some (.tup (ls.map lotD)), some (.int (i : Int)), some (lotD a), some (.int (j : Int))]) (h2 := h) (δ2 := [some (.tup (ls.map lotD)), some (.int (i : Int)), some (lotD a), some (.int (j : Int))]) (by simp) (by
        simp [clash_of_l1, evSs, evS, evE, evEs, evT, at_, m, e2, e3, opt_none, q])]
      simp only [wipe1, wipe0, List.set_cons_succ, List.set_cons_zero, Bool.false_eq_true, if_false]
      exact clash_inner n h ls i a hi hl hw js fun j hj2 => hj j (List.mem_cons_of_mem _ hj2)
theorem enumL_drop : ∀ (ds : List D) (k : Nat), enumL k ds = (List.range' k ds.length).zipWith (fun (i : Nat) d => D.tup [.int (i : Int), d]) ds
  | [], k => rfl
  | d :: ds, k => by
    show D.tup [.int (k : Int), d] :: enumL (k + 1) ds = _
    rw [enumL_drop ds (k + 1), List.length_cons, List.range'_succ]
    rfl
theorem clash_outer {w : Nat} (n : Nat) (h : Hh) (ls : List Lot) (hl : ∀ l ∈ ls, LotB 20 l) (hw : 2 ^ 1000 ≤ w) : ∀ (rs : List Lot) (k : Nat), ls.drop k = rs → k + rs.length = ls.length →
    lpF [] (.tup [.name 1, .name 2]) [1, 2, 3] (evSs (gk w (n + 3)) clash_of_l2) (enumL k (rs.map lotD)) [some (.tup (ls.map lotD)), none, none, none] h =
      match outF (noMeet ls) ls.length (List.range' k rs.length) with
      | some r => .ret (lotD r) h
      | none => .nx [some (.tup (ls.map lotD)), none, none, none] h
  | [], k, _, _ => by
    show lpF [] _ _ _ [] _ _ = _
    rw [lpF_nil]; simp [outF]
  | a :: rs, k, hd, hk => by
    rw [List.length_cons] at hk
    have hi : ls[k]? = some a := by
      have := congrArg List.head? hd
      rw [List.head?_drop] at this
      exact this
    have e3 : D.pers (lotD a) = true := rfl
    have inn := clash_inner (w := w) n h ls k a hi hl hw (List.range' (k + 1) (ls.length - (k + 1))) (fun j hj => by
      rw [List.mem_range'_1] at hj; omega)
    have er : rangeL ((k : Int) + 1) (rangeN ((k : Int) + 1) (ls.length : Int) 1) 1 = (List.range' (k + 1) (ls.length - (k + 1))).map fun (j : Nat) => D.int (j : Int) := by
      rw [← range_nat, rangeN_one]
      have : ((k : Int) + 1) = ((k + 1 : Nat) : Int) := by omega
      rw [this]
      congr 1
      omega
    show lpF [] _ _ _ (.tup [.int (k : Int), lotD a] :: enumL (k + 1) (rs.map lotD)) _ _ = _
    rw [List.length_cons, List.range'_succ]
    unfold outF
    have src : rngS [.int ((k : Int) + 1), .int (ls.length : Int)] = some ⟨rangeL ((k : Int) + 1) (rangeN ((k : Int) + 1) (ls.length : Int) 1) 1, []⟩ := rfl
    cases q : innF (noMeet ls) k (List.range' (k + 1) (ls.length - (k + 1))) with
    | some r =>
      rw [q] at inn
      rw [lpF_ret (δ1 := [some (.tup (ls.map lotD)), some (.int (k : Int)), some (lotD a), none]) (h2 := h) (d := lotD r) (by simp [e3]) (by
        simp [clash_of_l2, evSs, evS, evE, evEs, evT, evI, src, er, inn])]
    | none =>
      rw [q] at inn
      rw [lpF_go (δ1 := [some (.tup (ls.map lotD)), some (.int (k : Int)), some (lotD a), none]) (h2 := h) (δ2 := [some (.tup (ls.map lotD)), some (.int (k : Int)), some (lotD a), none]) (by simp [e3]) (by
        simp [clash_of_l2, evSs, evS, evE, evEs, evT, evI, src, er, inn])]
      simp only [wipe1, wipe0, List.set_cons_succ, List.set_cons_zero]
      exact clash_outer n h ls hl hw rs (k + 1) (by rw [← List.drop_drop, hd]; rfl) (by omega)
theorem clash_ok {w : Nat} (n : Nat) (ls : List Lot) (h : Hh) (hl : ∀ l ∈ ls, LotB 20 l) (hw : 2 ^ 1000 ≤ w) : callF (Pr w) (n + 4) 18 [.tup (ls.map lotD)] h = .ok (optD (clashF ls)) h := by
  have lp := clash_outer (w := w) n h ls hl hw ls 0 rfl (by omega)
  rw [u18]
  unfold clashF
  cases q : outF (noMeet ls) ls.length (List.range' 0 ls.length) with
  | some r =>
    rw [q] at lp
    simp [runF, clash_of, startS, evSs, evS, evE, evEs, evT, evI, lp, optD]
  | none =>
    rw [q] at lp
    simp [runF, clash_of, startS, evSs, evS, evE, evEs, evT, evI, lp, optD]
end Lk01

namespace Lk01
open Ivy
/-! ### the law's own reckoning -/
theorem law_in_ok {w : Nat} (n : Nat) (a : Lot) (x : Int) (h : Hh) : callF (Pr w) (n + 1) 26 [lotD a, .int x] h = .ok (.bl (inF a x)) h := by
  obtain ⟨r, m⟩ := a
  rw [u26]
  by_cases z : m = 0
  · subst z
    simp [runF, _law_in, startS, evSs, evS, evE, evEs, evT, lotD, inF]
  · have e : decide ((x - r).fmod m = 0) = decide (m ∣ x - r) := by
      rw [decide_eq_decide]; exact fmod_zero
    simp [runF, _law_in, startS, evSs, evS, evE, evEs, evT, lotD, inF, z, e]
/-- Euclid's turns -/
structure FacI (one other old new left right : Int) : Prop where
  n0 : 0 ≤ new
  o0 : 0 < old
  d1 : other ∣ old - left * one
  d2 : other ∣ new - right * one
  b : left.natAbs * new.natAbs + right.natAbs * old.natAbs ≤ other.natAbs
  l : left.natAbs ≤ other.natAbs
  so : Sz old
  sn : Sz new
def facS (one other old new left right : Int) : Sl := [some (.int one), some (.int other), some (.int old), some (.int new), some (.int left), some (.int right), none, none]
theorem FacI.step {one other old new left right : Int} (I : FacI one other old new left right) (hn : new ≠ 0) : FacI one other new (old % new) right (left - old / new * right) := by
  have np : 0 < new := by have := I.n0; omega
  have q := Int.mul_ediv_add_emod old new
  have r0 := Int.emod_nonneg old hn
  have r1 := Int.emod_lt_of_pos old np
  have q0 := Int.ediv_nonneg (show 0 ≤ old by have := I.o0; omega) (show 0 ≤ new by omega)
  have eq1 : old - old / new * new = old % new := by rw [Int.mul_comm]; omega
  have o0 := I.o0
  have bb := I.b
  have rl : right.natAbs ≤ other.natAbs := by
    have : right.natAbs * 1 ≤ right.natAbs * old.natAbs := Nat.mul_le_mul_left _ (by omega)
    omega
  refine ⟨r0, np, I.d2, ?_, ?_, rl, I.sn, sz_le (j := new) (by omega) I.sn⟩
  · rw [← eq1]
    have e : old - old / new * new - (left - old / new * right) * one = (old - left * one) - old / new * (new - right * one) := by grind
    rw [e]
    exact Int.dvd_sub I.d1 (Int.dvd_mul_of_dvd_right I.d2)
  · refine inv_bound bb (old % new).natAbs _ (q := (old / new).natAbs) ?_ ?_
    · have e : (old / new * new).natAbs = (old / new).natAbs * new.natAbs := Int.natAbs_mul ..
      have : 0 ≤ old / new * new := Int.mul_nonneg q0 I.n0
      rw [Int.mul_comm] at q
      omega
    · have e : (old / new * right).natAbs = (old / new).natAbs * right.natAbs := Int.natAbs_mul ..
      omega
theorem fac_turn {g : G} {h : Hh} {one other old new left right : Int} {x : D} {xs : List D} (I : FacI one other old new left right) (so : Sz other) (hn : new ≠ 0) (hx : D.pers x = true) :
    lpF [] (.name 6) [6, 7] (evSs g _law_factor_l1) (x :: xs) (facS one other old new left right) h = lpF [] (.name 6) [6, 7] (evSs g _law_factor_l1) xs (facS one other new (old % new) right (left - old / new * right)) h := by
  have np : 0 < new := by have := I.n0; omega
  have o0 := I.o0
  have bb := I.b
  have eq1 : old - old / new * new = old % new := by
    have q := Int.mul_ediv_add_emod old new
    rw [Int.mul_comm]; omega
  have rl : right.natAbs ≤ other.natAbs := by
    have : right.natAbs * 1 ≤ right.natAbs * old.natAbs := Nat.mul_le_mul_left _ (by omega)
    omega
  have sq : Sz (old / new) := sz_le (ediv_le (by omega) np) I.so
  have k1 : mulOk (old / new) new = true := sz_mul sq I.sn
  have k2 : mulOk (old / new) right = true := sz_mul sq (sz_le rl so)
  have k3 := sz_bigD I.sn
  unfold facS
  rw [lpF_go (δ1 := [some (.int one), some (.int other), some (.int old), some (.int new), some (.int left), some (.int right), some x, none]) (h2 := h)
    (δ2 := [some (.int one), some (.int other), some (.int new), some (.int (old % new)), some (.int right), some (.int (left - old / new * right)), some x, some (.int (old / new))]) (by simp [hx])
    (by simp [_law_factor_l1, evSs, evS, evE, evEs, evT, hn, k3, fdiv_pos np, k1, k2, eq1])]
  simp
theorem fac_loop {g : G} {h : Hh} {one other : Int} (so : Sz other) : ∀ (b : Nat) (xs : List D) (old new left right : Int), FacI one other old new left right → new.natAbs < old.natAbs → new.natAbs < 2 ^ b → 2 * b + 1 ≤ xs.length → (∀ x ∈ xs, D.pers x = true) →
    ∃ l r : Int, other ∣ (Int.gcd old new : Int) - l * one ∧ l.natAbs ≤ other.natAbs ∧ lpF [] (.name 6) [6, 7] (evSs g _law_factor_l1) xs (facS one other old new left right) h = .nx (facS one other (Int.gcd old new) 0 l r) h := by
  have stop : ∀ (xs : List D) (old left right : Int), FacI one other old 0 left right → 1 ≤ xs.length → (∀ x ∈ xs, D.pers x = true) →
      ∃ l r : Int, other ∣ (Int.gcd old 0 : Int) - l * one ∧ l.natAbs ≤ other.natAbs ∧ lpF [] (.name 6) [6, 7] (evSs g _law_factor_l1) xs (facS one other old 0 left right) h = .nx (facS one other (Int.gcd old 0) 0 l r) h := by
    intro xs old left right I hl hp
    have o0 := I.o0
    have eo : (Int.gcd old 0 : Int) = old := by rw [Int.gcd_zero_right]; omega
    cases xs with
    | nil => simp at hl
    | cons x xs =>
      refine ⟨left, right, by rw [eo]; exact I.d1, I.l, ?_⟩
      rw [eo]
      unfold facS
      rw [lpF_brk (δ1 := [some (.int one), some (.int other), some (.int old), some (.int 0), some (.int left), some (.int right), some x, none]) (h2 := h)
        (δ2 := [some (.int one), some (.int other), some (.int old), some (.int 0), some (.int left), some (.int right), some x, none]) (by simp [hp x (List.mem_cons_self ..)])
        (by simp [_law_factor_l1, evSs, evS, evE, evEs, evT])]
      simp
  intro b
  induction b with
  | zero =>
    intro xs old new left right I hlt hb hl hp
    have : new = 0 := by omega
    subst this
    exact stop xs old left right I (by omega) hp
  | succ b ih =>
    intro xs old new left right I hlt hb hl hp
    by_cases z : new = 0
    · subst z
      exact stop xs old left right I (by omega) hp
    · have np : 0 < new := by have := I.n0; omega
      cases xs with
      | nil => simp at hl
      | cons x xs =>
        rw [List.length_cons] at hl
        have I2 := I.step z
        have r0 := I2.n0
        have r1 := Int.emod_lt_of_pos old np
        rw [fac_turn I so z (hp x (List.mem_cons_self ..))]
        have eg : Int.gcd new (old % new) = Int.gcd old new := by rw [← fmod_pos np, gcd_fmod]
        rw [← eg]
        by_cases z2 : old % new = 0
        · rw [z2] at I2 ⊢
          exact stop xs _ _ _ I2 (by omega) fun y hy => hp y (List.mem_cons_of_mem _ hy)
        · cases xs with
          | nil => simp at hl
          | cons y xs =>
            rw [List.length_cons] at hl
            have rp : 0 < old % new := by omega
            have I3 := I2.step z2
            rw [fac_turn I2 so z2 (hp y (by simp))]
            have eg2 : Int.gcd (old % new) (new % (old % new)) = Int.gcd new (old % new) := by rw [← fmod_pos rp, gcd_fmod]
            rw [← eg2]
            have s0 := Int.emod_nonneg new z2
            have s1 := Int.emod_lt_of_pos new rp
            have q := Int.mul_ediv_add_emod new (old % new)
            have q1 : 1 ≤ new / (old % new) := by
              by_cases c : 1 ≤ new / (old % new)
              · exact c
              · have q0 := Int.ediv_nonneg (show 0 ≤ new by omega) (show 0 ≤ old % new by omega)
                have : new / (old % new) = 0 := by omega
                rw [this] at q
                omega
            have half : new % (old % new) + new % (old % new) < new := by
              have : (old % new) * 1 ≤ (old % new) * (new / (old % new)) := Int.mul_le_mul_of_nonneg_left q1 (by omega)
              omega
            rw [Nat.pow_succ] at hb
            exact ih xs _ _ _ _ I3 (by omega) (by omega) (by omega) fun u hu => hp u (List.mem_cons_of_mem _ (List.mem_cons_of_mem _ hu))
theorem bit_lt (x : Int) : x.natAbs < 2 ^ bitLen x := by
  unfold bitLen
  split
  · rename_i z; subst z; decide
  · exact Nat.lt_log2_self
theorem range_pers {lo c : Int} {n : Nat} : ∀ x ∈ rangeL lo n c, D.pers x = true := fun x hx => by
  unfold rangeL at hx
  obtain ⟨k, _, rfl⟩ := List.mem_map.mp hx
  rfl
theorem factor_ok {w : Nat} (n : Nat) (one other : Int) (h : Hh) (h1 : 0 < one) (h2 : 0 < other) (s1 : Sz one) (s2 : Sz other) : ∃ l : Int, other ∣ (Int.gcd one other : Int) - l * one ∧ l.natAbs ≤ other.natAbs ∧
    callF (Pr w) (n + 1) 25 [.int one, .int other] h = .ok (.tup [.int (Int.gcd one other), .int l]) h := by
  have I0 : FacI one other one other 1 0 := ⟨by omega, h1, by simp, by simp, by simp, by omega, s1, s2⟩
  have I1 := I0.step (by omega)
  have r1 := Int.emod_lt_of_pos one h2
  have r0 := I1.n0
  have bl := bit_lt other
  -- the loop's walk
  have hN : rangeN 0 (2 * ((bitLen one : Int) + (bitLen other : Int)) + 4) 1 = 2 * (bitLen one + bitLen other) + 4 := by rw [rangeN_one]; omega
  obtain ⟨M, hM⟩ : ∃ M, rangeL 0 (2 * (bitLen one + bitLen other) + 4) 1 = D.int 0 :: M ∧ M.length = 2 * (bitLen one + bitLen other) + 3 ∧ ∀ x ∈ M, D.pers x = true := by
    unfold rangeL
    rw [List.range_succ_eq_map, List.map_cons]
    exact ⟨_, rfl, by simp, fun x hx => by
      obtain ⟨k, _, rfl⟩ := List.mem_map.mp hx
      rfl⟩
  obtain ⟨l, r, e1, e2, e3⟩ := fac_loop (g := gk w n) (h := h) s2 (bitLen other) M other (one % other) 0 (1 - one / other * 0) I1 (by omega) (by omega) (by omega) hM.2.2
  have eg : Int.gcd other (one % other) = Int.gcd one other := by rw [← fmod_pos h2, gcd_fmod]
  rw [eg] at e1 e3
  have lp : lpF [] (.name 6) [6, 7] (evSs (gk w n) _law_factor_l1) (rangeL 0 (2 * (bitLen one + bitLen other) + 4) 1) (facS one other one other 1 0) h = .nx (facS one other (Int.gcd one other) 0 l r) h := by
    rw [hM.1, fac_turn I0 s2 (by omega) rfl]
    exact e3
  refine ⟨l, e1, e2, ?_⟩
  unfold facS at lp
  have src : rngS [.int (2 * ((bitLen one : Int) + (bitLen other : Int)) + 4)] = some ⟨rangeL 0 (2 * (bitLen one + bitLen other) + 4) 1, []⟩ := by
    show some (Src.mk (rangeL 0 (rangeN 0 _ 1) 1) []) = _
    rw [hN]
  have k1 : mulOk 2 ((bitLen one : Int) + (bitLen other : Int)) = true := by
    unfold mulOk
    simp
  rw [u25]
  simp [runF, _law_factor, startS, evSs, evS, evE, evEs, evT, evI, k1, src, lp]
end Lk01

namespace Lk01
open Ivy
theorem law_met_ok {w : Nat} (n : Nat) (a b : Lot) (h : Hh) (ha : LotS a) (hb : LotS b) : callF (Pr w) (n + 2) 27 [lotD a, lotD b] h = .ok (optD (metF a b)) h := by
  obtain ⟨a0, a1, a2⟩ := ha
  obtain ⟨b0, b1, b2⟩ := hb
  rw [u27]
  have eA : lotD a = .tup [.int a.1, .int a.2] := rfl
  have eB : lotD b = .tup [.int b.1, .int b.2] := rfl
  by_cases za : a.2 = 0
  · have e : metF a b = if inF b a.1 = true then some a else none := by unfold metF; rw [if_pos za]
    have i := law_in_ok (w := w) n b a.1 h
    rw [e]
    rw [eB] at i
    rw [eA, eB, za]
    cases q : inF b a.1 with
    | true => rw [q] at i; simp [runF, _law_met, startS, evSs, evS, evE, evEs, evT, i, optD, lotD, za]
    | false => rw [q] at i; simp [runF, _law_met, startS, evSs, evS, evE, evEs, evT, i, optD]
  · by_cases zb : b.2 = 0
    · have e : metF a b = if inF a b.1 = true then some b else none := by unfold metF; rw [if_neg za, if_pos zb]
      have i := law_in_ok (w := w) n a b.1 h
      rw [e]
      rw [eA] at i
      rw [eA, eB, zb]
      cases q : inF a b.1 with
      | true => rw [q] at i; simp [runF, _law_met, startS, evSs, evS, evE, evEs, evT, i, optD, lotD, za, zb]
      | false => rw [q] at i; simp [runF, _law_met, startS, evSs, evS, evE, evEs, evT, i, optD, za]
    · have pa : 0 < a.2 := by omega
      have pb : 0 < b.2 := by omega
      obtain ⟨l, l1, l2, l3⟩ := factor_ok (w := w) n a.2 b.2 h pa pb (sz_of a2 (by omega)) (sz_of b2 (by omega))
      have gp := gcd_posR (a := a.2) zb
      have gle : (Int.gcd a.2 b.2 : Int).natAbs ≤ b.2.natAbs := by
        have := Int.le_of_dvd pb (Int.gcd_dvd_right a.2 b.2)
        omega
      have gb := sz_bigD (sz_le gle (sz_of b2 (by omega)))
      have dG : (Int.gcd a.2 b.2 : Int) ∣ b.2 := Int.gcd_dvd_right a.2 b.2
      have rm : (Int.gcd a.2 b.2 : Int) * (b.2 / Int.gcd a.2 b.2) = b.2 := Int.mul_ediv_cancel' dG
      have sd : Sz (b.1 - a.1) := sz_of (nat_sub_lt b1 a1) (by omega)
      have el : a.2 * (b.2 / (Int.gcd a.2 b.2 : Int)) = lcmF a.2 b.2 := rfl
      have lp := lcm_pos pa pb
      by_cases hd : (Int.gcd a.2 b.2 : Int) ∣ b.1 - a.1
      · have rd : (Int.gcd a.2 b.2 : Int) * ((b.1 - a.1) / Int.gcd a.2 b.2) = b.1 - a.1 := Int.mul_ediv_cancel' hd
        generalize hG : ((Int.gcd a.2 b.2 : Nat) : Int) = G at *
        have rp : 0 < b.2 / G := by
          by_cases z : 0 < b.2 / G
          · exact z
          · have : G * (b.2 / G) ≤ G * 0 := Int.mul_le_mul_of_nonneg_left (by omega) (by omega)
            omega
        have rp0 : b.2 / G ≠ 0 := by omega
        have rle : (b.2 / G).natAbs ≤ b.2.natAbs := ediv_le (by omega) gp
        have sl : Sz l := sz_le l2 (sz_of b2 (by omega))
        have k1 : mulOk a.2 (b.2 / G) = true := sz_mul (sz_of a2 (by omega)) (sz_le rle (sz_of b2 (by omega)))
        have k2 : mulOk ((b.1 - a.1) / G) l = true := sz_mul (sz_div gp sd) sl
        generalize hT : (b.1 - a.1) / G * l % (b.2 / G) = t at *
        have t0 : 0 ≤ t := by rw [← hT]; exact Int.emod_nonneg _ rp0
        have t1 : t < b.2 / G := by rw [← hT]; exact Int.emod_lt_of_pos _ rp
        have k3 : mulOk a.2 t = true := sz_mul (sz_of a2 (by omega)) (sz_le (j := b.2) (by omega) (sz_of b2 (by omega)))
        have t2 : b.2 ∣ a.2 * t - (b.1 - a.1) := by
          have e2 := Int.mul_ediv_add_emod ((b.1 - a.1) / G * l) (b.2 / G)
          have eg : G ∣ a.2 := by rw [← hG]; exact Int.gcd_dvd_left a.2 b.2
          obtain ⟨s, hs⟩ := eg
          obtain ⟨k, hk⟩ := l1
          -- a.2 * t = a.2 * (D * l - R * q)
          have et : t = (b.1 - a.1) / G * l - b.2 / G * ((b.1 - a.1) / G * l / (b.2 / G)) := by omega
          generalize (b.1 - a.1) / G * l / (b.2 / G) = Q at *
          generalize hD : (b.1 - a.1) / G = Dd at *
          generalize hR : b.2 / G = Rr at *
          rw [et, ← rd]
          have : a.2 * (Dd * l - Rr * Q) - G * Dd = -(Dd * (G - l * a.2)) - s * (G * Rr) * Q := by rw [hs]; grind
          rw [this, rm, hk]
          refine Int.dvd_sub ?_ ?_
          · refine Int.dvd_neg.mpr ?_
            have : Dd * (b.2 * k) = b.2 * (Dd * k) := by grind
            rw [this]; exact Int.dvd_mul_right ..
          · have : s * b.2 * Q = b.2 * (s * Q) := by grind
            rw [this]; exact Int.dvd_mul_right ..
        have m1 : Meet a b ((a.1 + a.2 * t) % lcmF a.2 b.2) := by
          refine ⟨Int.emod_nonneg _ (by omega), Int.emod_lt_of_pos _ lp, ?_, ?_⟩
          · have e : (a.1 + a.2 * t) % lcmF a.2 b.2 - a.1 = ((a.1 + a.2 * t) % lcmF a.2 b.2 - (a.1 + a.2 * t)) + a.2 * t := by omega
            rw [e]
            exact Int.dvd_add (Int.dvd_trans dvd_lcmL Int.dvd_emod_sub_self) (Int.dvd_mul_right ..)
          · have e : (a.1 + a.2 * t) % lcmF a.2 b.2 - b.1 = ((a.1 + a.2 * t) % lcmF a.2 b.2 - (a.1 + a.2 * t)) + (a.2 * t - (b.1 - a.1)) := by omega
            rw [e]
            exact Int.dvd_add (Int.dvd_trans dvd_lcmR Int.dvd_emod_sub_self) t2
        rw [metF_some za zb m1, eA, eB]
        have g0 : G ≠ 0 := by omega
        have lp0 : lcmF a.2 b.2 ≠ 0 := by omega
        simp [runF, _law_met, startS, evSs, evS, evE, evEs, evT, za, zb, l3, g0, fmod_pos gp, Int.emod_eq_zero_of_dvd hd, fdiv_pos gp, gb, k1, el, k2, rp0, fmod_pos rp, hT, k3, lp0, fmod_pos lp, optD, lotD]
      · rw [metF_none za zb hd, eA, eB]
        generalize hG : ((Int.gcd a.2 b.2 : Nat) : Int) = G at *
        have g0 : G ≠ 0 := by omega
        have hd2 : ¬ (b.1 - a.1) % G = 0 := fun z => hd (Int.dvd_of_emod_eq_zero z)
        simp [runF, _law_met, startS, evSs, evS, evE, evEs, evT, za, zb, l3, g0, fmod_pos gp, hd2, optD]
theorem law_met_none {w : Nat} (n : Nat) (b : D) (h : Hh) (hb : D.pers b = true) : callF (Pr w) (n + 1) 27 [.non, b] h = .ok .non h := by
  rw [u27]
  simp [runF, _law_met, startS, evSs, evS, evE, evEs, evT]
theorem law_inside_ok {w : Nat} (n : Nat) (a b : Lot) (h : Hh) (hb : 0 ≤ b.2) : callF (Pr w) (n + 2) 28 [lotD a, lotD b] h = .ok (.bl (withinF a b)) h := by
  have i := law_in_ok (w := w) n b a.1 h
  obtain ⟨r, m⟩ := a
  obtain ⟨r', m'⟩ := b
  simp only [lotD] at i hb
  rw [u28]
  unfold withinF
  by_cases za : m = 0
  · subst za
    simp [runF, _law_inside, startS, evSs, evS, evE, evEs, evT, lotD, i]
  · by_cases zb : m' = 0
    · subst zb
      cases q : inF (r', 0) r <;> simp [runF, _law_inside, startS, evSs, evS, evE, evEs, evT, lotD, i, za, q]
    · have p : 0 < m' := by omega
      have e : decide (m.fmod m' = 0) = decide (m' ∣ m) := by rw [decide_eq_decide]; exact fmod_zero
      by_cases d : m' ∣ m
      · have d2 : m.fmod m' = 0 := fmod_zero.mpr d
        simp [runF, _law_inside, startS, evSs, evS, evE, evEs, evT, lotD, i, za, zb, p, d2, d]
      · have d2 : ¬ m.fmod m' = 0 := fun z => d (fmod_zero.mp z)
        cases q : inF (r', m') r <;> simp [runF, _law_inside, startS, evSs, evS, evE, evEs, evT, lotD, i, za, zb, p, d2, d, q]
theorem law_led_ok {w : Nat} (n : Nat) (A : Fm) (x : Int) (h : Hh) (hA : FmS A) (hx : x.natAbs < 2 ^ 1500) : callF (Pr w) (n + 1) 29 [formD A, .int x] h = .ok (.int (ledF A x)) h := by
  rw [u29]
  unfold ledF
  by_cases z : A.m = 0
  · have : turnF A x = 0 := by unfold turnF; rw [if_pos z]
    rw [this]
    simp [runF, _law_led, startS, evSs, evS, evE, evEs, evT, formD, z]
  · have e : turnF A x = (x - A.f).fdiv A.m := by unfold turnF; rw [if_neg z]
    have k : mulOk ((x - A.f).fdiv A.m) A.t = true := by rw [← e]; exact sz_mul (sz_of (turn_le hA hx) (by omega)) (sz_of hA.t (by omega))
    rw [e]
    simp [runF, _law_led, startS, evSs, evS, evE, evEs, evT, formD, z, sz_bigD (sz_of hA.m (by omega)), k]
    exact Int.mul_comm ..
end Lk01

namespace Lk01
open Ivy
theorem led_lt {A : Fm} {x : Int} (h : FmS A) (hx : x.natAbs < 2 ^ 1500) : (ledF A x).natAbs < 2 ^ 1702 := by
  have h1 := nat_mul_lt h.t (turn_le h hx)
  exact nat_add_lt (Nat.lt_of_lt_of_le h.s (pw (by omega))) h1
theorem law_meeting_ok {w : Nat} (n : Nat) (A B : Fm) (h : Hh) (hA : FmS A) (hB : FmS B) : callF (Pr w) (n + 3) 30 [formD A, formD B] h = .ok (optD (meetF A B)) h := by
  have m := law_met_ok (w := w) n A.lot B.lot h (lot_ok hA) (lot_ok hB)
  have elA : lotD A.lot = .tup [.int A.f, .int A.m] := rfl
  have elB : lotD B.lot = .tup [.int B.f, .int B.m] := rfl
  have eA : formD A = .tup [.int A.f, .int A.m, .int A.s, .int A.t] := rfl
  have eB : formD B = .tup [.int B.f, .int B.m, .int B.s, .int B.t] := rfl
  rw [elA, elB] at m
  rw [u30]
  unfold meetF
  cases q : metF A.lot B.lot with
  | none =>
    rw [q] at m
    rw [eA, eB]
    simp [runF, _law_meeting, startS, evSs, evS, evE, evEs, evT, m, optD]
  | some l =>
    have lb := metF_B (k := 200) (l := 200) (a := A.lot) (b := B.lot) ⟨hA.m0, hA.f, hA.m⟩ ⟨hB.m0, hB.f, hB.m⟩ q
    obtain ⟨x, M⟩ := l
    obtain ⟨M0, xs, Ms⟩ := lb
    simp only at M0 xs Ms
    have sx : x.natAbs < 2 ^ 1500 := Nat.lt_of_lt_of_le xs (pw (by omega))
    have sy : (x + M).natAbs < 2 ^ 1500 := Nat.lt_of_lt_of_le (nat_add_lt xs Ms) (pw (by omega))
    have l1 := law_led_ok (w := w) (n + 1) A x h hA sx
    have l2 := law_led_ok (w := w) (n + 1) B x h hB sx
    have l3 := law_led_ok (w := w) (n + 1) A (x + M) h hA sy
    have l4 := law_led_ok (w := w) (n + 1) B (x + M) h hB sy
    have b1 := nat_sub_lt (led_lt hA sx) (led_lt hB sx)
    have b2 := nat_sub_lt (led_lt hA sy) (led_lt hB sy)
    have b3 := nat_sub_lt b2 b1
    rw [q] at m
    rw [eA] at l1 l3
    rw [eB] at l2 l4
    rw [eA, eB]
    simp only
    generalize ledF A x = a1 at *
    generalize ledF B x = a2 at *
    generalize ledF A (x + M) = a3 at *
    generalize ledF B (x + M) = a4 at *
    have eo : optD (some (x, M)) = .tup [.int x, .int M] := rfl
    rw [eo] at m
    by_cases zM : M = 0
    · subst zM
      by_cases za : a1 - a2 = 0
      · simp [runF, _law_meeting, startS, evSs, evS, evE, evEs, evT, m, l1, l2, za, eo, optD, lotD]
      · simp [runF, _law_meeting, startS, evSs, evS, evE, evEs, evT, m, l1, l2, za, optD]
    · rw [if_neg zM]
      by_cases zg : a3 - a4 - (a1 - a2) = 0
      · by_cases za : a1 - a2 = 0
        · simp [runF, _law_meeting, startS, evSs, evS, evE, evEs, evT, m, l1, l2, l3, l4, zM, zg, za, optD, lotD]
          rw [za] at zg
          simp at zg
          simp [zg, evE]
        · simp [runF, _law_meeting, startS, evSs, evS, evE, evEs, evT, m, l1, l2, l3, l4, zM, zg, za, optD, lotD]
      · rw [if_neg zg]
        have gb := sz_bigD (sz_of b3 (by omega))
        by_cases dv : (a1 - a2).fmod (a3 - a4 - (a1 - a2)) = 0
        · rw [if_pos dv]
          have k : mulOk ((a1 - a2).fdiv (a3 - a4 - (a1 - a2))) M = true := by
            refine sz_mul ?_ (sz_of Ms (by omega))
            obtain ⟨j, hj⟩ := fmod_zero.mp dv
            have ej : (a1 - a2).fdiv (a3 - a4 - (a1 - a2)) = j := by
              generalize a3 - a4 - (a1 - a2) = gg at *
              rw [hj]; exact Int.mul_fdiv_cancel_left j zg
            rw [ej]
            refine sz_le (j := a1 - a2) ?_ (sz_of b1 (by omega))
            have := congrArg Int.natAbs hj
            rw [Int.natAbs_mul] at this
            have : 1 * j.natAbs ≤ (a3 - a4 - (a1 - a2)).natAbs * j.natAbs := Nat.mul_le_mul_right _ (by omega)
            omega
          simp [runF, _law_meeting, startS, evSs, evS, evE, evEs, evT, m, l1, l2, l3, l4, zM, zg, gb, dv, k, optD, lotD]
        · rw [if_neg dv]
          simp [runF, _law_meeting, startS, evSs, evS, evE, evEs, evT, m, l1, l2, l3, l4, zM, zg, dv, optD]
/-! ### fixed -/
theorem fix_val {A : Fm} (h0 : 0 ≤ A.f) (h1 : A.f < A.m) (hne : A.m ≠ A.t) : fixF A = if (A.s - A.f).fmod (A.m - A.t) = 0 then some (A.f + (A.s - A.f).fdiv (A.m - A.t) * A.m) else none := by
  have m0 : A.m ≠ 0 := by omega
  have pm : 0 < A.m := by omega
  have hl : lcmF A.m 1 = A.m := by
    unfold lcmF
    have : Int.gcd A.m 1 = 1 := Int.gcd_one_right A.m
    rw [this]; simp
  have mt : Meet A.lot oneF.lot A.f := ⟨h0, by show A.f < lcmF A.m 1; rw [hl]; exact h1, by show A.m ∣ A.f - A.f; simp, by show (1 : Int) ∣ _; exact Int.one_dvd _⟩
  have me := metF_some (a := A.lot) (b := oneF.lot) m0 (by decide) mt
  have el : lcmF A.lot.2 oneF.lot.2 = A.m := hl
  rw [el] at me
  have t1 : ∀ x, ledF oneF x = x := fun x => by
    unfold ledF turnF oneF
    simp
  have t2 : ledF A A.f = A.s := by
    unfold ledF turnF
    rw [if_neg m0]
    simp
  have t3 : ledF A (A.f + A.m) = A.s + A.t := by
    unfold ledF turnF
    rw [if_neg m0, show A.f + A.m - A.f = A.m by omega, fdiv_pos pm, Int.ediv_self m0]
    simp
  unfold fixF meetF
  rw [me]
  simp only
  rw [if_neg m0, t1, t1, t2, t3]
  have eg : A.s + A.t - (A.f + A.m) - (A.s - A.f) = -(A.m - A.t) := by omega
  rw [eg, if_neg (by omega)]
  have d0 : A.m - A.t ≠ 0 := by omega
  by_cases dv : (A.m - A.t) ∣ (A.s - A.f)
  · have dv2 : -(A.m - A.t) ∣ (A.s - A.f) := Int.neg_dvd.mpr dv
    rw [if_pos (fmod_zero.mpr dv2), if_pos (fmod_zero.mpr dv)]
    obtain ⟨k, hk⟩ := dv
    generalize A.m - A.t = gg at *
    rw [hk, Int.mul_fdiv_cancel_left k d0]
    have : gg * k = -gg * -k := by grind
    rw [this, Int.mul_fdiv_cancel_left (-k) (show -gg ≠ 0 by omega)]
    simp
    grind
  · rw [if_neg fun z => dv (Int.neg_dvd.mp (fmod_zero.mp z)), if_neg fun z => dv (fmod_zero.mp z)]
    rfl
theorem law_fixed_ok {w : Nat} (n : Nat) (A : Fm) (h : Hh) (hA : FmS A) (h0 : 0 ≤ A.f) (h1 : A.f < A.m) (hne : A.m ≠ A.t) : callF (Pr w) (n + 1) 31 [formD A] h = .ok (intO (fixF A)) h := by
  rw [fix_val h0 h1 hne]
  have d0 : A.m - A.t ≠ 0 := by omega
  have b1 := nat_sub_lt hA.m hA.t
  have b2 := nat_sub_lt hA.s hA.f
  have gb := sz_bigD (sz_of b1 (by omega))
  have eA : formD A = .tup [.int A.f, .int A.m, .int A.s, .int A.t] := rfl
  rw [u31, eA]
  by_cases dv : (A.s - A.f).fmod (A.m - A.t) = 0
  · rw [if_pos dv]
    have k : mulOk ((A.s - A.f).fdiv (A.m - A.t)) A.m = true := by
      refine sz_mul ?_ (sz_of hA.m (by omega))
      obtain ⟨j, hj⟩ := fmod_zero.mp dv
      have ej : (A.s - A.f).fdiv (A.m - A.t) = j := by
        generalize A.m - A.t = gg at *
        rw [hj]; exact Int.mul_fdiv_cancel_left j d0
      rw [ej]
      refine sz_le (j := A.s - A.f) ?_ (sz_of b2 (by omega))
      have := congrArg Int.natAbs hj
      rw [Int.natAbs_mul] at this
      have : 1 * j.natAbs ≤ (A.m - A.t).natAbs * j.natAbs := Nat.mul_le_mul_right _ (by omega)
      omega
    simp [runF, _law_fixed, startS, evSs, evS, evE, evEs, evT, d0, gb, dv, k, intO]
  · rw [if_neg dv]
    simp [runF, _law_fixed, startS, evSs, evS, evE, evEs, evT, d0, dv, intO]
end Lk01

namespace Lk01
open Ivy
theorem lclash_inner {w : Nat} (n : Nat) (h : Hh) (ls : List Lot) (i : Nat) (hi : i < ls.length) (hl : ∀ l ∈ ls, LotB 20 l) : ∀ js : List Nat, (∀ j ∈ js, j < ls.length) →
    lpF [] (.name 2) [2] (evSs (gk w (n + 2)) _law_first_clash_l1) (js.map fun (j : Nat) => D.int (j : Int)) [some (.tup (ls.map lotD)), some (.int (i : Int)), none] h =
      match innF (noMeet ls) i js with
      | some r => .ret (lotD r) h
      | none => .nx [some (.tup (ls.map lotD)), some (.int (i : Int)), none] h
  | [], _ => by rw [List.map_nil, lpF_nil]; simp [innF]
  | j :: js, hj => by
    have hj1 := hj j (List.mem_cons_self ..)
    have la := hl ls[i] (List.getElem_mem ..)
    have lb := hl ls[j] (List.getElem_mem ..)
    have m := law_met_ok (w := w) n ls[i] ls[j] h (la.S (by omega)) (lb.S (by omega))
    have at1' : atP (ls.map lotD) (i : Int) = some (lotD ls[i]) := by rw [atP_nat (by simpa using hi)]; simp
    have at2' : atP (ls.map lotD) (j : Int) = some (lotD ls[j]) := by rw [atP_nat (by simpa using hj1)]; simp
    have e2 : D.pers (lotD ls[i]) = true := rfl
    have e3 : D.pers (lotD ls[j]) = true := rfl
    have nm : noMeet ls i j = (metF ls[i] ls[j]).isNone := by unfold noMeet; rw [List.getElem?_eq_getElem hi, List.getElem?_eq_getElem hj1]
    rw [List.map_cons]
    unfold innF
    rw [nm]
    cases q : (metF ls[i] ls[j]).isNone with
    | true =>
      rw [lpF_ret (δ1 := [some (.tup (ls.map lotD)), some (.int (i : Int)), some (.int (j : Int))]) (h2 := h) (d := .tup [.int i, .int j]) (by simp) (by
        simp [_law_first_clash_l1, evSs, evS, evE, evEs, evT, at1', at2', m, e2, e3, opt_none, q])]
      rfl
    | false =>
      rw [lpF_go (δ1 := [some (.tup (ls.map lotD)), some (.int (i : Int)), some (.int (j : Int))]) (h2 := h) (δ2 := [some (.tup (ls.map lotD)), some (.int (i : Int)), some (.int (j : Int))]) (by simp) (by
        simp [_law_first_clash_l1, evSs, evS, evE, evEs, evT, at1', at2', m, e2, e3, opt_none, q])]
      simp only [wipe1, wipe0, List.set_cons_succ, List.set_cons_zero, Bool.false_eq_true, if_false]
      exact lclash_inner n h ls i hi hl js fun j hj2 => hj j (List.mem_cons_of_mem _ hj2)
theorem lclash_outer {w : Nat} (n : Nat) (h : Hh) (ls : List Lot) (hl : ∀ l ∈ ls, LotB 20 l) : ∀ (is : List Nat), (∀ i ∈ is, i < ls.length) →
    lpF [] (.name 1) [1, 2] (evSs (gk w (n + 2)) _law_first_clash_l2) (is.map fun (j : Nat) => D.int (j : Int)) [some (.tup (ls.map lotD)), none, none] h =
      match outF (noMeet ls) ls.length is with
      | some r => .ret (lotD r) h
      | none => .nx [some (.tup (ls.map lotD)), none, none] h
  | [], _ => by rw [List.map_nil, lpF_nil]; simp [outF]
  | k :: is, hi => by
    have hk := hi k (List.mem_cons_self ..)
    have inn := lclash_inner (w := w) n h ls k hk hl (List.range' (k + 1) (ls.length - (k + 1))) (fun j hj => by
      rw [List.mem_range'_1] at hj; omega)
    have er : rangeL ((k : Int) + 1) (rangeN ((k : Int) + 1) (ls.length : Int) 1) 1 = (List.range' (k + 1) (ls.length - (k + 1))).map fun (j : Nat) => D.int (j : Int) := by
      rw [← range_nat, rangeN_one]
      have : ((k : Int) + 1) = ((k + 1 : Nat) : Int) := by omega
      rw [this]
      congr 1
      omega
    have src : rngS [.int ((k : Int) + 1), .int (ls.length : Int)] = some ⟨rangeL ((k : Int) + 1) (rangeN ((k : Int) + 1) (ls.length : Int) 1) 1, []⟩ := rfl
    rw [List.map_cons]
    unfold outF
    cases q : innF (noMeet ls) k (List.range' (k + 1) (ls.length - (k + 1))) with
    | some r =>
      rw [q] at inn
      rw [lpF_ret (δ1 := [some (.tup (ls.map lotD)), some (.int (k : Int)), none]) (h2 := h) (d := lotD r) (by simp) (by
        simp [_law_first_clash_l2, evSs, evS, evE, evEs, evT, evI, src, er, inn])]
    | none =>
      rw [q] at inn
      rw [lpF_go (δ1 := [some (.tup (ls.map lotD)), some (.int (k : Int)), none]) (h2 := h) (δ2 := [some (.tup (ls.map lotD)), some (.int (k : Int)), none]) (by simp) (by
        simp [_law_first_clash_l2, evSs, evS, evE, evEs, evT, evI, src, er, inn])]
      simp only [wipe1, wipe0, List.set_cons_succ, List.set_cons_zero]
      exact lclash_outer n h ls hl is fun i h => hi i (List.mem_cons_of_mem _ h)
theorem law_clash_ok {w : Nat} (n : Nat) (ls : List Lot) (h : Hh) (hl : ∀ l ∈ ls, LotB 20 l) : callF (Pr w) (n + 3) 38 [.tup (ls.map lotD)] h = .ok (optD (clashF ls)) h := by
  have lp := lclash_outer (w := w) n h ls hl (List.range' 0 ls.length) (fun i hi => by rw [List.mem_range'_1] at hi; omega)
  have er : rangeL 0 (rangeN 0 (ls.length : Int) 1) 1 = (List.range' 0 ls.length).map fun (j : Nat) => D.int (j : Int) := by
    have := range_nat 0 ls.length
    rw [← this, rangeN_one]
    simp
  have src : rngS [.int (ls.length : Int)] = some ⟨rangeL 0 (rangeN 0 (ls.length : Int) 1) 1, []⟩ := rfl
  rw [u38]
  unfold clashF
  cases q : outF (noMeet ls) ls.length (List.range' 0 ls.length) with
  | some r =>
    rw [q] at lp
    simp [runF, _law_first_clash, startS, evSs, evS, evE, evEs, evT, evI, src, er, lp, optD]
  | none =>
    rw [q] at lp
    simp [runF, _law_first_clash, startS, evSs, evS, evE, evEs, evT, evI, src, er, lp, optD]
/-! ### told and due alike -/
/-- flat data: None, a bool, an int -/
def Fl : D → Prop
  | .non => True
  | .bl _ => True
  | .int _ => True
  | _ => False
theorem same_flat {w : Nat} (n : Nat) (d : D) (h : Hh) (hd : Fl d) : callF (Pr w) (n + 1) 24 [d, d] h = .ok (.bl true) h := by
  rw [u24]
  cases d <;> first | exact hd.elim | skip
  · simp [runF, _law_same, startS, evSs, evS, evE, evEs, evT]
  · simp [runF, _law_same, startS, evSs, evS, evE, evEs, evT, tyIs, isB]
  · simp [runF, _law_same, startS, evSs, evS, evE, evEs, evT, tyIs, isB]
theorem lpC_const {step : D → Hh → R (Option D)} {h : Hh} : ∀ xs : List D, (∀ x ∈ xs, step x h = .ok (some (.bl true)) h) → lpC [] step xs h = .ok (List.replicate xs.length (.bl true)) h
  | [], _ => rfl
  | x :: xs, hx => by
    show whenR true (((step x h).calm).bind fun y h => (lpC [] step xs h).bind fun ys h => .ok (match y with
      | some y => y :: ys
      | none => ys) h) = _
    rw [hx x (List.mem_cons_self ..)]
    simp only [s_wt, s_calm, s_okb]
    rw [lpC_const xs fun y hy => hx y (List.mem_cons_of_mem _ hy)]
    rfl
theorem bools_rep : ∀ n : Nat, boolsL (List.replicate n (D.bl true)) = some (List.replicate n true)
  | 0 => rfl
  | n + 1 => by
    rw [List.replicate_succ, List.replicate_succ]
    show (boolsL (List.replicate n (D.bl true))).map _ = _
    rw [bools_rep n]
    rfl
theorem o_allL {s : Nat → Nat → Bool} {h : Hh} {n : Nat} : opApp s .all [.lst (List.replicate n (.bl true))] h = .ok (.bl true) h := by
  show (match (lsD h (.lst (List.replicate n (.bl true)))).bind boolsL with
    | some bs => blR (bs.all id) h
    | none => .no : R D) = _
  show (match boolsL (List.replicate n (D.bl true)) with
    | some bs => blR (bs.all id) h
    | none => .no : R D) = _
  rw [bools_rep]
  simp
theorem same_tup {w : Nat} (n : Nat) (ds : List D) (h : Hh) (hd : ∀ d ∈ ds, D.pers d = true ∧ callF (Pr w) n 24 [d, d] h = .ok (.bl true) h) (hl : ds.length ≤ 1000) : callF (Pr w) (n + 1) 24 [.tup ds, .tup ds] h = .ok (.bl true) h := by
  have src : rngS [.int (ds.length : Int)] = some ⟨rangeL 0 (rangeN 0 (ds.length : Int) 1) 1, []⟩ := rfl
  have er : rangeL 0 (rangeN 0 (ds.length : Int) 1) 1 = (List.range' 0 ds.length).map fun (j : Nat) => D.int (j : Int) := by
    have := range_nat 0 ds.length
    rw [← this, rangeN_one]
    simp
  rw [u24]
  simp [runF, _law_same, startS, evSs, evS, evE, evEs, evT, evI, tyIs, isB, src, er]
  rw [lpC_const]
  · simp [o_allL, show ds.length ≤ 16777216 by omega]
  · intro x hx
    obtain ⟨j, hj, rfl⟩ := List.mem_map.mp hx
    rw [List.mem_range'_1] at hj
    have hj2 : j < ds.length := by omega
    have a := atP_nat (xs := ds) hj2
    obtain ⟨p, c⟩ := hd ds[j] (List.getElem_mem ..)
    simp [evTs, evE, evEs, a, p, c]
end Lk01

namespace Lk01
open Ivy
/-! ### the spring: cells 0 and 1 of the heap -/
structure SprD (h : Hh) (cs : List Int) (k s : Int) : Prop where
  c : h[0]? = some (.lst (cs.map .int))
  s1 : h[1]? = some (.lst [.ref 0, .int k, .int s])
  pos : ∀ c ∈ cs, 0 ≤ c ∧ c < 2 ^ 2000
  len : cs.length ≤ 63
  k0 : 0 ≤ k
  s0 : 0 ≤ s
  sl : s < 9223372036854775783
def Spr (h : Hh) : Prop := ∃ cs k s, SprD h cs k s
/-- what stays: all but the two cells -/
structure Sp (h h' : Hh) : Prop where
  len : h'.length = h.length
  off : ∀ i, 2 ≤ i → h'[i]? = h[i]?
  spr : Spr h'
theorem Sp.trans {a b c : Hh} (x : Sp a b) (y : Sp b c) : Sp a c := ⟨y.len.trans x.len, fun i hi => (y.off i hi).trans (x.off i hi), y.spr⟩
theorem Spr.refl {h : Hh} (x : Spr h) : Sp h h := ⟨rfl, fun _ _ => rfl, x⟩
theorem set0 {h : Hh} {c : C} {i : Nat} (hi : i ≠ 0) : (h.set 0 c)[i]? = h[i]? := List.getElem?_set_ne (Ne.symm hi)
theorem set1 {h : Hh} {c : C} {i : Nat} (hi : i ≠ 1) : (h.set 1 c)[i]? = h[i]? := List.getElem?_set_ne (Ne.symm hi)
theorem SprD.bump {h : Hh} {cs cs' : List Int} {k s k' s' : Int} (x : SprD h cs k s) (hp : ∀ c ∈ cs', 0 ≤ c ∧ c < 2 ^ 2000) (hl : cs'.length ≤ 63) (hk : 0 ≤ k') (h0 : 0 ≤ s') (h1 : s' < 9223372036854775783) {h' : Hh}
    (e : ∀ i, h'[i]? = if i = 0 then some (.lst (cs'.map .int)) else if i = 1 then some (.lst [.ref 0, .int k', .int s']) else h[i]?) (el : h'.length = h.length) : Sp h h' :=
  ⟨el, fun i hi => by rw [e, if_neg (by omega), if_neg (by omega)], cs', k', s', ⟨by rw [e, if_pos rfl], by rw [e, if_neg (by omega), if_pos rfl], hp, hl, hk, h0, h1⟩⟩
theorem dat_ints : ∀ (cs : List Int) (k : Nat), D.datL k (cs.map .int) = true
  | [], k => by simp [D.datL]
  | c :: cs, k => by simp [D.datL, D.dat, dat_ints cs k]
theorem told_ints (cs : List Int) (k : Nat) (h : Hh) : (cs.map D.int).map (told k h) = cs.map D.int := by
  rw [List.map_map]
  refine List.map_congr_left fun c _ => ?_
  cases k <;> rfl
theorem ne_empty {s : Nat → Nat → Bool} {h : Hh} {n : Nat} {cs : List Int} (e : h[n]? = some (.lst (cs.map .int))) : opApp s .ne [.ref n, .lst []] h = .ok (.bl (!cs.isEmpty)) h := by
  show (match eqD h (.ref n) (.lst []) with
    | some k => blR (!k) h
    | none => .no : R D) = _
  have t1 : told 3 h (.ref n) = .lst (cs.map D.int) := by
    show (match h[n]? with
      | some (.lst xs) => .lst (xs.map (told 2 h))
      | _ => .ref n : D) = _
    rw [e]
    simp only
    rw [told_ints]
  have t2 : told 3 h (.lst []) = .lst [] := rfl
  have q : eqD h (.ref n) (.lst []) = some cs.isEmpty := by
    unfold eqD
    rw [t1, t2]
    cases cs <;> simp [scalD, D.dat, D.datL, dat_ints, D.eqv, D.eqvL]
  rw [q]
  rfl
theorem flow_ok {w : Nat} (n : Nat) (h : Hh) (m : Int) (hs : Spr h) (hm : 0 < m) (hz : Sz m) : ∃ t h', callF (Pr w) (n + 1) 21 [.ref 1, .int m] h = .ok (.int t) h' ∧ 0 ≤ t ∧ t < m ∧ Sp h h' := by
  obtain ⟨cs, k, s, x⟩ := hs
  have x0 := x.c; have x1 := x.s1; have k0 := x.k0; have s0 := x.s0; have sl := x.sl
  have l1 : 1 < h.length := (List.getElem?_eq_some_iff.mp x1).1
  have m0 : m ≠ 0 := by omega
  have mb := sz_bigD hz
  -- the heap behind the first store
  have e1 : opApp sub .idx [.ref 1, .int 1] h = .ok (.int k) h := by rw [o_idxL x1]; simp
  have e2 : opApp sub .setItem [.int (k + 1), .ref 1, .int 1] h = .ok .non (h.set 1 (.lst [.ref 0, .int (k + 1), .int s])) := by
    rw [o_setL x1]; simp [ixP]
  generalize hh1 : h.set 1 (.lst [.ref 0, .int (k + 1), .int s]) = h1 at *
  have y0 : h1[0]? = some (.lst (cs.map .int)) := by rw [← hh1, set1 (by omega)]; exact x0
  have y1 : h1[1]? = some (.lst [.ref 0, .int (k + 1), .int s]) := by rw [← hh1, List.getElem?_set_self l1]
  have e3 : opApp sub .idx [.ref 1, .int 0] h1 = .ok (.ref 0) h1 := by rw [o_idxL y1]; simp
  have e4 := ne_empty (s := sub) y0
  have e5 : opApp sub .idx [.ref 1, .int 1] h1 = .ok (.int (k + 1)) h1 := by rw [o_idxL y1]; simp
  have e6 : opApp sub .idx [.ref 1, .int 2] h1 = .ok (.int s) h1 := by rw [o_idxL y1]; simp
  -- the last part, from any s'
  have last : ∀ (g : Hh) (s' : Int), g[1]? = some (.lst [.ref 0, .int (k + 1), .int s']) → 0 ≤ s' → s' < 18446744073709551616 →
      opApp sub .idx [.ref 1, .int 2] g = .ok (.int s') g ∧ opApp sub .idx [.ref 1, .int 1] g = .ok (.int (k + 1)) g ∧ mulOk s' (s' / 8193 + 2862933555777941757) = true ∧
      (∀ v : Int, opApp sub .setItem [.int v, .ref 1, .int 2] g = .ok .non (g.set 1 (.lst [.ref 0, .int (k + 1), .int v]))) := fun g s' hg h0 hlt => by
    refine ⟨by rw [o_idxL hg]; simp, by rw [o_idxL hg]; simp, ?_, fun v => by rw [o_setL hg]; simp [ixP]⟩
    unfold mulOk
    have : s'.natAbs < 18446744073709551616 := by omega
    simp [this]
  have fin : ∀ (g : Hh) (v : Int), g.length = h.length → 0 ≤ v / 268435456 % m ∧ v / 268435456 % m < m := fun g v _ => ⟨Int.emod_nonneg _ m0, Int.emod_lt_of_pos _ hm⟩
  have p1 : (9223372036854775783 : Int) ≠ 0 := by decide
  have p2 : (0 : Int) < 9223372036854775783 := by decide
  have p3 : (8193 : Nat) < bigD := Nat.lt_of_lt_of_le (by decide : (8193 : Nat) < 2 ^ 14) (pw (by omega))
  have p4 : (268435456 : Nat) < bigD := Nat.lt_of_lt_of_le (by decide : (268435456 : Nat) < 2 ^ 29) (pw (by omega))
  cases cs with
  | nil =>
    obtain ⟨f1, f2, f3, f4⟩ := last h1 s y1 s0 (by omega)
    have vb := Int.emod_nonneg (s * (s / 8193 + 2862933555777941757) + (k + 1)) p1
    have vl := Int.emod_lt_of_pos (s * (s / 8193 + 2862933555777941757) + (k + 1)) p2
    generalize hv : (s * (s / 8193 + 2862933555777941757) + (k + 1)) % 9223372036854775783 = v at *
    have f5 := f4 v
    generalize hh2 : h1.set 1 (.lst [.ref 0, .int (k + 1), .int v]) = h2 at *
    have el : h2.length = h.length := by rw [← hh2, ← hh1]; simp
    have z1 : h2[1]? = some (.lst [.ref 0, .int (k + 1), .int v]) := by rw [← hh2, List.getElem?_set_self (by rw [← hh1]; simpa using l1)]
    have f6 : opApp sub .idx [.ref 1, .int 2] h2 = .ok (.int v) h2 := by rw [o_idxL z1]; simp
    refine ⟨v / 268435456 % m, h2, ?_, (fin h2 v el).1, (fin h2 v el).2, x.bump (cs' := []) (k' := k + 1) (s' := v) (by simp) (by simp) (by omega) vb vl (fun i => ?_) el⟩
    · rw [u21]
      simp [runF, _law_flow, startS, evSs, evS, evE, evEs, evT, e1, e2, e3, e4, f1, f2, f3, fdiv_pos (show (0 : Int) < 8193 by decide), fmod_pos p2, hv, f5, f6, p3, p4, fdiv_pos (show (0 : Int) < 268435456 by decide), fmod_pos hm, m0, endF, fin_len el]
    · rw [← hh2, ← hh1]
      by_cases i0 : i = 0
      · subst i0; simp [x0]
      · by_cases i1 : i = 1
        · subst i1; simp [l1]
        · rw [if_neg i0, if_neg i1, set1 i1, set1 i1]
  | cons c0 cs0 =>
    generalize hcs : c0 :: cs0 = cs at *
    have L0 : 0 < cs.length := by rw [← hcs]; simp
    have ne : cs.isEmpty = false := by rw [← hcs]; rfl
    have Lp : (0 : Int) < (cs.length : Int) := by omega
    have Ln : ¬ (cs.length : Int) = 0 := by omega
    have Lm : ¬ cs = [] := by rw [← hcs]; simp
    have a0 := Int.emod_nonneg (k + 1) (show (cs.length : Int) ≠ 0 by omega)
    have a1 := Int.emod_lt_of_pos (k + 1) Lp
    obtain ⟨at_, hat⟩ : ∃ j : Nat, (k + 1) % (cs.length : Int) = j := ⟨((k + 1) % (cs.length : Int)).toNat, by omega⟩
    have atl : at_ < cs.length := by omega
    have atl2 : at_ < (cs.map D.int).length := by simpa using atl
    have fat : (k + 1).fmod (cs.length : Int) = (at_ : Int) := by rw [fmod_pos Lp, hat]
    have g1 : opApp sub .len [.ref 0] h1 = .ok (.int cs.length) h1 := by rw [o_lenL y0]; simp
    have g2 : opApp sub .idx [.ref 0, .int (at_ : Int)] h1 = .ok (.int cs[at_]) h1 := by
      rw [o_idxL y0, atP_nat atl2]; simp
    have cb := x.pos cs[at_] (List.getElem_mem ..)
    generalize hc : cs[at_] = c at *
    by_cases big18 : 1000000000000000000 ≤ c
    · have g3 : opApp sub .setItem [.int (c / m), .ref 0, .int (at_ : Int)] h1 = .ok .non (h1.set 0 (.lst ((cs.set at_ (c / m)).map .int))) := by
        rw [o_setL y0]
        have : ixP (cs.map D.int).length (at_ : Int) = some at_ := by
          unfold ixP
          rw [if_pos (by omega), if_pos (by omega)]
          simp
        rw [this]
        simp [List.map_set]
      generalize hh2 : h1.set 0 (.lst ((cs.set at_ (c / m)).map .int)) = h2 at *
      have el : h2.length = h.length := by rw [← hh2, ← hh1]; simp
      have q0 := Int.ediv_nonneg cb.1 (show 0 ≤ m by omega)
      have q1 := ediv_le cb.1 hm
      refine ⟨c % m, h2, ?_, Int.emod_nonneg _ m0, Int.emod_lt_of_pos _ hm, x.bump (cs' := cs.set at_ (c / m)) (k' := k + 1) (s' := s) (fun y hy => ?_) (by rw [List.length_set]; exact x.len) (by omega) s0 sl (fun i => ?_) el⟩
      · rw [u21]
        simp [runF, _law_flow, startS, evSs, evS, evE, evEs, evT, e1, e2, e3, e4, e5, ne, Lm, g1, Ln, fat, g2, big18, fmod_pos hm, fdiv_pos hm, m0, mb, g3, endF, fin_len el]
      · rcases List.mem_or_eq_of_mem_set hy with z | z
        · exact x.pos y z
        · subst z; omega
      · rw [← hh2, ← hh1]
        by_cases i0 : i = 0
        · subst i0
          rw [if_pos rfl, List.getElem?_set_self (by simp; omega)]
        · by_cases i1 : i = 1
          · subst i1
            rw [if_neg i0, if_pos rfl, set0 i0, List.getElem?_set_self l1]
          · rw [if_neg i0, if_neg i1, set0 i0, set1 i1]
    · have g3 : opApp sub .setItem [.int (s + c), .ref 1, .int 2] h1 = .ok .non (h1.set 1 (.lst [.ref 0, .int (k + 1), .int (s + c)])) := by
        rw [o_setL y1]; simp [ixP]
      generalize hh2 : h1.set 1 (.lst [.ref 0, .int (k + 1), .int (s + c)]) = h2 at *
      have l1' : 1 < h1.length := by rw [← hh1]; simpa using l1
      have z1 : h2[1]? = some (.lst [.ref 0, .int (k + 1), .int (s + c)]) := by rw [← hh2, List.getElem?_set_self l1']
      obtain ⟨f1, f2, f3, f4⟩ := last h2 (s + c) z1 (by omega) (by omega)
      have vb := Int.emod_nonneg ((s + c) * ((s + c) / 8193 + 2862933555777941757) + (k + 1)) p1
      have vl := Int.emod_lt_of_pos ((s + c) * ((s + c) / 8193 + 2862933555777941757) + (k + 1)) p2
      generalize hv : ((s + c) * ((s + c) / 8193 + 2862933555777941757) + (k + 1)) % 9223372036854775783 = v at *
      have f5 := f4 v
      generalize hh3 : h2.set 1 (.lst [.ref 0, .int (k + 1), .int v]) = h3 at *
      have el : h3.length = h.length := by rw [← hh3, ← hh2, ← hh1]; simp
      have z3 : h3[1]? = some (.lst [.ref 0, .int (k + 1), .int v]) := by rw [← hh3, List.getElem?_set_self (by rw [← hh2, ← hh1]; simpa using l1)]
      have f6 : opApp sub .idx [.ref 1, .int 2] h3 = .ok (.int v) h3 := by rw [o_idxL z3]; simp
      refine ⟨v / 268435456 % m, h3, ?_, (fin h3 v el).1, (fin h3 v el).2, x.bump (cs' := cs) (k' := k + 1) (s' := v) x.pos x.len (by omega) vb vl (fun i => ?_) el⟩
      · rw [u21]
        simp [runF, _law_flow, startS, evSs, evS, evE, evEs, evT, e1, e2, e3, e4, e5, e6, ne, Lm, g1, Ln, fat, g2, big18, g3, f1, f2, f3, fdiv_pos (show (0 : Int) < 8193 by decide), fmod_pos p2, hv, f5, f6, p3, p4, fdiv_pos (show (0 : Int) < 268435456 by decide), fmod_pos hm, m0, endF, fin_len el]
      · rw [← hh3, ← hh2, ← hh1]
        by_cases i0 : i = 0
        · subst i0
          rw [if_pos rfl, set1 (by omega), set1 (by omega), set1 (by omega), x0]
        · by_cases i1 : i = 1
          · subst i1
            rw [if_neg i0, if_pos rfl, List.getElem?_set_self (by simpa using l1)]
          · rw [if_neg i0, if_neg i1, set1 i1, set1 i1, set1 i1]
end Lk01

namespace Lk01
open Ivy
/-! ### a call's end -/
mutual
theorem beq_refl : ∀ d : D, D.beq d d = true
  | .non => by simp [D.beq]
  | .bl b => by simp [D.beq]
  | .int b => by simp [D.beq]
  | .str b => by simp [D.beq]
  | .tup xs => by simp [D.beq, beqL_refl xs]
  | .rol xs => by simp [D.beq, beqL_refl xs]
  | .lst xs => by simp [D.beq, beqL_refl xs]
  | .dct xs => by simp [D.beq, beqK_refl xs]
  | .ref n => by simp [D.beq]
  | .exc c fs => by simp [D.beq, beqF_refl fs]
theorem beqL_refl : ∀ d : List D, D.beqL d d = true
  | [] => by simp [D.beqL]
  | d :: ds => by simp [D.beqL, beq_refl d, beqL_refl ds]
theorem beqK_refl : ∀ d : List (Ky × D), D.beqK d d = true
  | [] => by simp [D.beqK]
  | (k, d) :: ds => by simp [D.beqK, beq_refl d, beqK_refl ds]
theorem beqF_refl : ∀ d : List (Tx × D), D.beqF d d = true
  | [] => by simp [D.beqF]
  | (k, d) :: ds => by simp [D.beqF, beq_refl d, beqF_refl ds]
end
theorem cbeq_refl (c : C) : C.beq c c = true := by cases c <;> simp [C.beq, beqL_refl, beqK_refl, beqF_refl]
theorem trim_of {n : Nat} : ∀ (h g : Hh), h.length ≤ g.length → (∀ (i : Nat) (c c' : C), h[i]? = some c → g[i]? = some c' → c = c' ∨ C.low n c' = true) → trimOk n h g = true
  | [], _, _, _ => rfl
  | c :: h, [], hl, _ => by simp at hl
  | c :: h, c' :: g, hl, k => by
    show ((C.beq c c' || C.low n c') && trimOk n h g) = true
    rw [Bool.and_eq_true]
    refine ⟨?_, trim_of h g (by simpa using hl) fun i a b ha hb => k (i + 1) a b (by simpa using ha) (by simpa using hb)⟩
    rcases k 0 c c' rfl rfl with e | e
    · rw [e, cbeq_refl]; rfl
    · rw [e, Bool.or_true]
/-- the heap within a def's body: the def's own cells behind the old ones -/
structure Spx (h g : Hh) : Prop where
  len : h.length ≤ g.length
  off : ∀ i, 2 ≤ i → i < h.length → g[i]? = h[i]?
  spr : Spr g
theorem Spx.refl {h : Hh} (x : Spr h) : Spx h h := ⟨Nat.le_refl _, fun _ _ _ => rfl, x⟩
theorem Spx.go {h g g' : Hh} (x : Spx h g) (y : Sp g g') : Spx h g' := ⟨by rw [y.len]; exact x.len, fun i h2 hi => (y.off i h2).trans (x.off i h2 hi), y.spr⟩
theorem Spr.app {h : Hh} {c : C} (x : Spr h) : Spr (h ++ [c]) := by
  obtain ⟨cs, k, s, x⟩ := x
  have l1 := (List.getElem?_eq_some_iff.mp x.s1).1
  exact ⟨cs, k, s, ⟨by rw [List.getElem?_append_left (by omega)]; exact x.c, by rw [List.getElem?_append_left l1]; exact x.s1, x.pos, x.len, x.k0, x.s0, x.sl⟩⟩
theorem Spx.app {h g : Hh} {c : C} (x : Spx h g) : Spx h (g ++ [c]) := ⟨by have := x.len; simp; omega, fun i h2 hi => by
  rw [List.getElem?_append_left (by have := x.len; omega)]; exact x.off i h2 hi, x.spr.app⟩
theorem Spr.len {h : Hh} (x : Spr h) : 2 ≤ h.length := by
  obtain ⟨cs, k, s, x⟩ := x
  have l1 := (List.getElem?_eq_some_iff.mp x.s1).1
  omega
theorem low_ints (n : Nat) : ∀ cs : List Int, D.lowL n (cs.map .int) = true
  | [] => by simp [D.lowL]
  | c :: cs => by simp [D.lowL, D.low, low_ints n cs]
/-- data without cells -/
def Plain (d : D) : Prop := ∀ n, D.low n d = true
def isRef : D → Bool
  | .ref _ => true
  | _ => false
theorem fin_ok {h g : Hh} {d : D} (h0 : Spr h) (x : Spx h g) (hd : D.low h.length d = true) (hr : isRef d = false) : ∃ h', finish h d g = .ok d h' ∧ Sp h h' := by
  by_cases e : g.length = h.length
  · exact ⟨g, fin_len e, e, fun i h2 => by
      by_cases hi : i < h.length
      · exact x.off i h2 hi
      · rw [List.getElem?_eq_none (by omega), List.getElem?_eq_none (by omega)], x.spr⟩
  · have el : lift h.length g d = d := by cases d <;> first | rfl | cases hr
    have h2 := h0.len
    have tr : trimOk h.length h g = true := by
      refine trim_of h g x.len fun i c c' hc hc' => ?_
      have hi := (List.getElem?_eq_some_iff.mp hc).1
      obtain ⟨cs, k, s, y⟩ := x.spr
      by_cases i0 : i = 0
      · subst i0
        rw [y.c] at hc'
        cases hc'
        exact .inr (by simp [C.low, low_ints])
      · by_cases i1 : i = 1
        · subst i1
          rw [y.s1] at hc'
          cases hc'
          refine .inr ?_
          simp [C.low, D.lowL, D.low]
          omega
        · rw [x.off i (by omega) hi, hc] at hc'
          exact .inl (Option.some.inj hc')
    refine ⟨g.take h.length, ?_, ?_, ?_, ?_⟩
    · unfold finish
      rw [if_neg e, el, hd, tr]
      rfl
    · rw [List.length_take]; have := x.len; omega
    · intro i h2
      by_cases hi : i < h.length
      · rw [List.getElem?_take_of_lt hi]; exact x.off i h2 hi
      · rw [List.getElem?_eq_none (by rw [List.length_take]; omega), List.getElem?_eq_none (by omega)]
    · obtain ⟨cs, k, s, y⟩ := x.spr
      exact ⟨cs, k, s, ⟨by rw [List.getElem?_take_of_lt (by omega)]; exact y.c, by rw [List.getElem?_take_of_lt (by omega)]; exact y.s1, y.pos, y.len, y.k0, y.s0, y.sl⟩⟩
/-! ### among, wide -/
theorem among_ok {w : Nat} (n : Nat) (h : Hh) (r : Nat) (ds : List D) (hs : Spr h) (hr : h[r]? = some (.lst ds)) (h2 : 2 ≤ r) (hn : ds ≠ []) (hz : ds.length < 1000) (hp : ∀ d ∈ ds, D.low h.length d = true ∧ isRef d = false) :
    ∃ d h', callF (Pr w) (n + 2) 22 [.ref 1, .ref r] h = .ok d h' ∧ d ∈ ds ∧ Sp h h' := by
  have dl : 0 < ds.length := List.length_pos_iff.mpr hn
  obtain ⟨t, h1, e1, t0, t1, sp⟩ := flow_ok (w := w) n h (ds.length : Int) hs (by omega) (Nat.lt_of_lt_of_le (by omega : (ds.length : Int).natAbs < 2 ^ 10) (pw (by omega)))
  have e2 : opApp sub .len [.ref r] h = .ok (.int ds.length) h := o_lenL hr
  have hr1 : h1[r]? = some (.lst ds) := by rw [sp.off r h2]; exact hr
  obtain ⟨j, rfl⟩ : ∃ j : Nat, t = j := ⟨t.toNat, by omega⟩
  have jl : j < ds.length := by omega
  have e3 : opApp sub .idx [.ref r, .int (j : Int)] h1 = .ok ds[j] h1 := by rw [o_idxL hr1, atP_nat jl]
  have m := List.getElem_mem jl
  obtain ⟨h', f1, f2⟩ := fin_ok (d := ds[j]) hs ((Spx.refl hs).go sp) (hp _ m).1 (hp _ m).2
  refine ⟨ds[j], h', ?_, m, f2⟩
  rw [u22]
  simp [runF, _law_among, startS, evSs, evS, evE, evEs, evT, e2, e1, e3, endF, f1]
theorem wide_loop {w : Nat} (n : Nat) (m : Int) : ∀ (xs : List D) (h : Hh) (t : Int), Spr h → 0 ≤ t → (∀ x ∈ xs, D.pers x = true) → ∃ t' h', 0 ≤ t' ∧ Sp h h' ∧
    lpF [] (.name 3) [3] (evSs (gk w (n + 1)) _law_wide_l1) xs [some (.ref 1), some (.int m), some (.int t), none] h = .nx [some (.ref 1), some (.int m), some (.int t'), none] h'
  | [], h, t, hs, ht, _ => ⟨t, h, ht, hs.refl, by rw [lpF_nil]; simp⟩
  | x :: xs, h, t, hs, ht, hx => by
    obtain ⟨u, h1, e1, u0, u1, sp⟩ := flow_ok (w := w) n h 1000 hs (by omega) (Nat.lt_of_lt_of_le (by decide : (1000 : Int).natAbs < 2 ^ 10) (pw (by omega)))
    have k : mulOk t 1000 = true := by unfold mulOk; simp
    obtain ⟨t', h', a1, a2, a3⟩ := wide_loop n m xs h1 (t * 1000 + u) sp.spr (by omega) fun y hy => hx y (List.mem_cons_of_mem _ hy)
    refine ⟨t', h', a1, sp.trans a2, ?_⟩
    have px := hx x (List.mem_cons_self ..)
    rw [lpF_go (δ1 := [some (.ref 1), some (.int m), some (.int t), some x]) (h2 := h1) (δ2 := [some (.ref 1), some (.int m), some (.int (t * 1000 + u)), some x]) (by simp [px]) (by
      simp [_law_wide_l1, evSs, evS, evE, evEs, evT, k, e1])]
    simp only [wipe1, wipe0, List.set_cons_succ, List.set_cons_zero]
    exact a3
theorem wide_ok {w : Nat} (n : Nat) (h : Hh) (m : Int) (hs : Spr h) (hm : 0 < m) : ∃ t h', callF (Pr w) (n + 2) 23 [.ref 1, .int m] h = .ok (.int t) h' ∧ 0 ≤ t ∧ t < m ∧ Sp h h' := by
  obtain ⟨t, h1, t0, sp, e⟩ := wide_loop (w := w) n m (rangeL 0 (rangeN 0 10 1) 1) h 0 hs (by omega) range_pers
  have src : rngS [.int 10] = some ⟨rangeL 0 (rangeN 0 10 1) 1, []⟩ := rfl
  have m0 : m ≠ 0 := by omega
  refine ⟨t % m, h1, ?_, Int.emod_nonneg _ m0, Int.emod_lt_of_pos _ hm, sp⟩
  rw [u23]
  simp [runF, _law_wide, startS, evSs, evS, evE, evEs, evT, evI, src, e, m0, fmod_pos hm, endF, fin_len sp.len]
end Lk01

namespace Lk01
open Ivy
/-! ### ask, right -/
def sTold : Tx := [116, 111, 108, 100]
def sNamed : Tx := [110, 97, 109, 101, 100]
/-- an answer of a def of the program, as it stands in the heap -/
structure Ans (w n f : Nat) (ds : List D) (v : D) (g : Hh) : Prop where
  e : callF (Pr w) n f ds g = .ok v g
  p : D.pers v = true
  b : boxR v g = .ok v g
theorem ask_is {w n : Nat} {a b v : D} {g : Hh} {last : Tx} (pa : D.pers a = true) (pb : D.pers b = true) (x : Ans w n 6 [a] v g) (hl : last = [] ∨ last = sNamed) : callF (Pr w) (n + 1) 32 [.str [105, 115], a, b, .str last] g = .ok (.tup [.str sTold, v]) g := by
  rw [u32]
  rcases hl with rfl | rfl <;> simp [runF, _law_ask, startS, evSs, evS, evE, evEs, evT, pa, pb, pick, sNamed, sTold, x.e, x.p, x.b]
theorem ask_in {w n : Nat} {a b v : D} {g : Hh} {last : Tx} (pa : D.pers a = true) (pb : D.pers b = true) (x : Ans w n 7 [a, b] v g) (hl : last = [] ∨ last = sNamed) : callF (Pr w) (n + 1) 32 [.str [105, 110], a, b, .str last] g = .ok (.tup [.str sTold, v]) g := by
  rw [u32]
  rcases hl with rfl | rfl <;> simp [runF, _law_ask, startS, evSs, evS, evE, evEs, evT, pa, pb, pick, sNamed, sTold, x.e, x.p, x.b]
theorem ask_met {w n : Nat} {a b v : D} {g : Hh} {last : Tx} (pa : D.pers a = true) (pb : D.pers b = true) (x : Ans w n 8 [a, b] v g) (hl : last = [] ∨ last = sNamed) : callF (Pr w) (n + 1) 32 [.str [109, 101, 116], a, b, .str last] g = .ok (.tup [.str sTold, v]) g := by
  rw [u32]
  rcases hl with rfl | rfl <;> simp [runF, _law_ask, startS, evSs, evS, evE, evEs, evT, pa, pb, pick, sNamed, sTold, x.e, x.p, x.b]
theorem ask_within {w n : Nat} {a b v : D} {g : Hh} {last : Tx} (pa : D.pers a = true) (pb : D.pers b = true) (x : Ans w n 9 [a, b] v g) (hl : last = [] ∨ last = sNamed) : callF (Pr w) (n + 1) 32 [.str [119, 105, 116, 104, 105, 110], a, b, .str last] g = .ok (.tup [.str sTold, v]) g := by
  rw [u32]
  rcases hl with rfl | rfl <;> simp [runF, _law_ask, startS, evSs, evS, evE, evEs, evT, pa, pb, pick, sNamed, sTold, x.e, x.p, x.b]
theorem ask_meeting {w n : Nat} {a b v : D} {g : Hh} {last : Tx} (pa : D.pers a = true) (pb : D.pers b = true) (x : Ans w n 16 [a, b] v g) (hl : last = [] ∨ last = sNamed) : callF (Pr w) (n + 1) 32 [.str [109, 101, 101, 116, 105, 110, 103], a, b, .str last] g = .ok (.tup [.str sTold, v]) g := by
  rw [u32]
  rcases hl with rfl | rfl <;> simp [runF, _law_ask, startS, evSs, evS, evE, evEs, evT, pa, pb, pick, sNamed, sTold, x.e, x.p, x.b]
theorem ask_fixed {w n : Nat} {a b v : D} {g : Hh} {last : Tx} (pa : D.pers a = true) (pb : D.pers b = true) (x : Ans w n 17 [a] v g) (hl : last = [] ∨ last = sNamed) : callF (Pr w) (n + 1) 32 [.str [102, 105, 120, 101, 100], a, b, .str last] g = .ok (.tup [.str sTold, v]) g := by
  rw [u32]
  rcases hl with rfl | rfl <;> simp [runF, _law_ask, startS, evSs, evS, evE, evEs, evT, pa, pb, pick, sNamed, sTold, x.e, x.p, x.b]
theorem ask_all {w n : Nat} {a b v : D} {g : Hh} {last : Tx} (pa : D.pers a = true) (pb : D.pers b = true) (x : Ans w n 19 [a] v g) (hl : last = [] ∨ last = sNamed) : callF (Pr w) (n + 1) 32 [.str [97, 108, 108], a, b, .str last] g = .ok (.tup [.str sTold, v]) g := by
  rw [u32]
  rcases hl with rfl | rfl <;> simp [runF, _law_ask, startS, evSs, evS, evE, evEs, evT, pa, pb, pick, sNamed, sTold, x.e, x.p, x.b]
theorem ask_clash {w n : Nat} {a b v : D} {g : Hh} {last : Tx} (pa : D.pers a = true) (pb : D.pers b = true) (x : Ans w n 18 [a] v g) (hl : last = [] ∨ last = sNamed) : callF (Pr w) (n + 1) 32 [.str [99, 108, 97, 115, 104], a, b, .str last] g = .ok (.tup [.str sTold, v]) g := by
  rw [u32]
  rcases hl with rfl | rfl <;> simp [runF, _law_ask, startS, evSs, evS, evE, evEs, evT, pa, pb, pick, sNamed, sTold, x.e, x.p, x.b]
theorem ask_numbers {w n : Nat} {a v : D} {lo hi : Int} {g : Hh} {last : Tx} (pa : D.pers a = true) (x : Ans w n 10 [a, .int lo, .int hi] v g) (hl : last = [] ∨ last = sNamed) :
    callF (Pr w) (n + 1) 32 [.str [110, 117, 109, 98, 101, 114, 115], a, .tup [.int lo, .int hi], .str last] g = .ok (.tup [.str sTold, v]) g := by
  rw [u32]
  rcases hl with rfl | rfl <;> simp [runF, _law_ask, startS, evSs, evS, evE, evEs, evT, pa, pick, sNamed, sTold, x.e, x.p, x.b]
/-- right: told and due are the same -/
theorem right_ok {w : Nat} (n : Nat) (h : Hh) (wd : Tx) (a b v : D) (hs : Spr h) (pa : D.pers a = true) (pb : D.pers b = true) (pv : D.pers v = true)
    (hask : ∀ g last, Spr g → last = [] ∨ last = sNamed → callF (Pr w) (n + 2) 32 [.str wd, a, b, .str last] g = .ok (.tup [.str sTold, v]) g) (hsame : ∀ g, callF (Pr w) (n + 2) 24 [v, v] g = .ok (.bl true) g) :
    ∃ h', callF (Pr w) (n + 3) 33 [.ref 1, .str wd, a, b, v] h = .ok (.bl true) h' ∧ Sp h h' := by
  have l2 := hs.len
  obtain ⟨d, h1, e1, dm, sp⟩ := among_ok (w := w) n (h ++ [.lst [.str [], .str [], .str sNamed]]) h.length [.str [], .str [], .str sNamed] hs.app (by simp) l2 (by simp) (by simp) (by
    intro d hd
    simp at hd
    rcases hd with rfl | rfl <;> simp [D.low, isRef])
  have x1 : Spx h h1 := ((Spx.refl hs).app).go sp
  obtain ⟨last, rfl, hl⟩ : ∃ last, d = .str last ∧ (last = [] ∨ last = sNamed) := by
    simp at dm
    rcases dm with rfl | rfl
    · exact ⟨_, rfl, .inl rfl⟩
    · exact ⟨_, rfl, .inr rfl⟩
  have e2 := hask h1 last x1.spr hl
  have e3 := hsame h1
  obtain ⟨h', f1, f2⟩ := fin_ok (d := .bl true) hs x1 (by simp [D.low]) rfl
  refine ⟨h', ?_, f2⟩
  rw [u33]
  unfold sTold sNamed at *
  simp [runF, _law_right, startS, evSs, evS, evE, evEs, evT, pa, pb, pv, e1, e2, e3, endF, f1]
end Lk01

namespace Lk01
open Ivy
/-! ### is_lot of lots -/
structure LotG (k : Nat) (a : Lot) : Prop where
  m0 : 0 ≤ a.2
  ok : a.2 = 0 ∨ (0 ≤ a.1 ∧ a.1 < a.2)
  r : a.1.natAbs < 2 ^ k
  m : a.2.natAbs < 2 ^ k
theorem LotG.S {k : Nat} {a : Lot} (h : LotG k a) (hk : k ≤ 1000) : LotS a := ⟨h.m0, Nat.lt_of_lt_of_le h.r (pw hk), Nat.lt_of_lt_of_le h.m (pw hk)⟩
theorem LotG.up {k l : Nat} {a : Lot} (h : LotG k a) (hk : k ≤ l) : LotG l a := ⟨h.m0, h.ok, Nat.lt_of_lt_of_le h.r (pw hk), Nat.lt_of_lt_of_le h.m (pw hk)⟩
theorem isint_ok {w : Nat} (n : Nat) (x : Int) (h : Hh) : callF (Pr w) (n + 1) 4 [.int x] h = .ok (.bl true) h := by
  rw [u4]
  simp [runF, is_integer, startS, evSs, evS, evE, evEs, evT, tyIs, isB]
theorem istup_ok {w : Nat} (n : Nat) (ds : List D) (k : Int) (h : Hh) : callF (Pr w) (n + 1) 5 [.tup ds, .int k] h = .ok (.bl (decide ((ds.length : Int) = k))) h := by
  rw [u5]
  simp [runF, is_tuple, startS, evSs, evS, evE, evEs, evT, tyIs, isB]
theorem is_lot_ok {w : Nat} (n : Nat) (a : Lot) (h : Hh) {k : Nat} (ha : LotG k a) : callF (Pr w) (n + 2) 6 [lotD a] h = .ok (.bl true) h := by
  obtain ⟨r, m⟩ := a
  have m0 := ha.m0; have ok := ha.ok
  simp only at m0 ok
  have t := istup_ok (w := w) n [.int r, .int m] 2 h
  have i1 := isint_ok (w := w) n r h
  have i2 := isint_ok (w := w) n m h
  have lt : ¬ m < 0 := by omega
  have all : opApp sub .all [.lst [.bl true, .bl true]] h = .ok (.bl true) h := o_allL (n := 2)
  rw [u6]
  unfold lotD
  simp at t
  by_cases z : m = 0
  · subst z
    simp [runF, is_lot, startS, evSs, evS, evE, evEs, evT, evTs, evI, t, lpC, gdOk, i1, i2, all]
  · have c : 0 ≤ r ∧ r < m := by omega
    simp [runF, is_lot, startS, evSs, evS, evE, evEs, evT, evTs, evI, t, lpC, gdOk, i1, i2, all, z, lt, c.1, c.2]
/-! ### _law_lot -/
theorem sz_small {m : Int} {k : Nat} (h : m.natAbs < 2 ^ k) (hk : k ≤ 4000) : Sz m := sz_of h hk
theorem low_int {n : Nat} {x : Int} : D.low n (.int x) = true := by simp [D.low]
/-- among ints written in a list -/
theorem among_ints {w : Nat} (n : Nat) (h : Hh) (xs : List Int) (hs : Spr h) (hn : xs ≠ []) (hz : xs.length < 1000) : ∃ x h', callF (Pr w) (n + 2) 22 [.ref 1, .ref h.length] (h ++ [.lst (xs.map .int)]) = .ok (.int x) h' ∧ x ∈ xs ∧ Sp (h ++ [.lst (xs.map .int)]) h' := by
  obtain ⟨d, h', e, dm, sp⟩ := among_ok (w := w) n (h ++ [.lst (xs.map .int)]) h.length (xs.map .int) hs.app (by simp) hs.len (by simpa using hn) (by simpa using hz) (fun d hd => by
    obtain ⟨x, _, rfl⟩ := List.mem_map.mp hd
    exact ⟨low_int, rfl⟩)
  obtain ⟨x, hx, rfl⟩ := List.mem_map.mp dm
  exact ⟨x, h', e, hx, sp⟩
theorem lotD_low {n : Nat} {a : Lot} : D.low n (lotD a) = true := by simp [lotD, D.low, D.lowL]
theorem b25 {x : Int} (h0 : -(10 ^ 26) ≤ x) (h1 : x ≤ 10 ^ 26) : x.natAbs < 2 ^ 100 := by
  have : (10 : Int) ^ 26 = 100000000000000000000000000 := by decide
  have e : (2 : Nat) ^ 100 = 1267650600228229401496703205376 := by decide
  omega
theorem law_lot_ok {w : Nat} (n : Nat) (h : Hh) (kind : Int) (hs : Spr h) (hk : 0 ≤ kind ∧ kind ≤ 4) : ∃ a h', callF (Pr w) (n + 3) 34 [.ref 1, .int kind] h = .ok (lotD a) h' ∧ LotG 100 a ∧ Sp h h' := by
  have e25 : (10 : Int) ^ 25 = 10000000000000000000000000 := by decide
  by_cases k0 : kind = 0
  · subst k0
    obtain ⟨t, h1, e1, t0, t1, s1⟩ := flow_ok (w := w) (n + 1) h 60 hs (by omega) (sz_small (k := 10) (by decide) (by omega))
    obtain ⟨x, h2, e2, xm, s2⟩ := among_ints (w := w) n h1 [0, 1, -1, 7, t - 30] s1.spr (by simp) (by simp)
    have x2 : Spx h h2 := (((Spx.refl hs).go s1).app).go s2
    obtain ⟨h', f1, f2⟩ := fin_ok (d := lotD (x, 0)) hs x2 lotD_low rfl
    have xb : -100 ≤ x ∧ x ≤ 100 := by
      simp at xm
      omega
    refine ⟨(x, 0), h', ?_, ⟨by omega, .inl rfl, b25 (by simp only; omega) (by simp only; omega), b25 (by simp only; omega) (by simp only; omega)⟩, f2⟩
    rw [u34]
    simp at e2
    unfold lotD at *
    simp [runF, _law_lot, startS, evSs, evS, evE, evEs, evT, e1, e2, endF, f1]
  · obtain ⟨t, h1, e1, t0, t1, s1⟩ := flow_ok (w := w) (n + 1) h 12 hs (by omega) (sz_small (k := 10) (by decide) (by omega))
    -- the end, from any many
    have tail : ∀ (g : Hh) (many : Int), Spx h g → 0 < many → many ≤ 10 ^ 25 → ∃ r h' g1 g2 u, callF (Pr w) (n + 2) 23 [.ref 1, .int many] g = .ok (.int u) g1 ∧
        callF (Pr w) (n + 2) 22 [.ref 1, .ref g1.length] (g1 ++ [.lst [.int 0, .int (many - 1), .int u]]) = .ok (.int r) g2 ∧ finish h (.tup [.int r, .int many]) g2 = .ok (.tup [.int r, .int many]) h' ∧ LotG 100 (r, many) ∧ Sp h h' := fun g many xg m0 m1 => by
      obtain ⟨u, g1, a1, u0, u1, s2⟩ := wide_ok (w := w) n g many xg.spr m0
      obtain ⟨r, g2, a2, rm, s3⟩ := among_ints (w := w) n g1 [0, many - 1, u] s2.spr (by simp) (by simp)
      obtain ⟨h', f1, f2⟩ := fin_ok (d := lotD (r, many)) hs (((xg.go s2).app).go s3) lotD_low rfl
      have rb : 0 ≤ r ∧ r < many := by
        simp at rm
        omega
      rw [e25] at m1
      refine ⟨r, h', g1, g2, u, a1, ?_, f1, ⟨by simp only; omega, .inr rb, b25 (by simp only; omega) (by simp only; omega), b25 (by simp only; omega) (by simp only; omega)⟩, f2⟩
      simpa using a2
    have x1 : Spx h h1 := (Spx.refl hs).go s1
    by_cases k1 : kind = 1
    · subst k1
      obtain ⟨r, h', g1, g2, u, a1, a2, f1, lg, sp⟩ := tail h1 (1 + t) x1 (by omega) (by rw [e25]; omega)
      refine ⟨(r, 1 + t), h', ?_, lg, sp⟩
      rw [u34]
      unfold lotD
      simp [runF, _law_lot, startS, evSs, evS, evE, evEs, evT, e1, a1, a2, endF, f1]
    · by_cases k2 : kind = 2
      · subst k2
        obtain ⟨t2, h2, e2, t20, t21, s2⟩ := flow_ok (w := w) (n + 1) h1 1000000 s1.spr (by omega) (sz_small (k := 20) (by decide) (by omega))
        obtain ⟨r, h', g1, g2, u, a1, a2, f1, lg, sp⟩ := tail h2 (1 + t2) (x1.go s2) (by omega) (by rw [e25]; omega)
        refine ⟨(r, 1 + t2), h', ?_, lg, sp⟩
        rw [u34]
        unfold lotD
        simp [runF, _law_lot, startS, evSs, evS, evE, evEs, evT, e1, e2, a1, a2, endF, f1]
      · by_cases k3 : kind = 3
        · subst k3
          obtain ⟨t2, h2, e2, t20, t21, s2⟩ := wide_ok (w := w) n h1 10000000000000000000000000 s1.spr (by omega)
          obtain ⟨r, h', g1, g2, u, a1, a2, f1, lg, sp⟩ := tail h2 (1 + t2) (x1.go s2) (by omega) (by rw [e25]; omega)
          refine ⟨(r, 1 + t2), h', ?_, lg, sp⟩
          rw [u34]
          unfold lotD
          simp [runF, _law_lot, startS, evSs, evS, evE, evEs, evT, e1, e2, a1, a2, endF, f1]
        · have k4 : kind = 4 := by omega
          subst k4
          obtain ⟨t2, h2, e2, t20, t21, s2⟩ := wide_ok (w := w) n h1 10000000000000000000000000 s1.spr (by omega)
          obtain ⟨h', f1, f2⟩ := fin_ok (d := lotD (t2 - 1000000000000000000000000, 0)) hs (x1.go s2) lotD_low rfl
          refine ⟨(t2 - 1000000000000000000000000, 0), h', ?_, ⟨by omega, .inl rfl, b25 (by simp only; omega) (by simp only; omega), b25 (by simp only; omega) (by simp only; omega)⟩, f2⟩
          rw [u34]
          unfold lotD at *
          simp [runF, _law_lot, startS, evSs, evS, evE, evEs, evT, e1, e2, endF, f1]
end Lk01

namespace Lk01
open Ivy
theorem pair_low {n : Nat} {a b : Lot} : D.low n (.tup [lotD a, lotD b]) = true := by simp [lotD, D.low, D.lowL]
theorem lotD_pers (a : Lot) : D.pers (lotD a) = true := rfl
theorem lotD_box (a : Lot) (h : Hh) : boxR (lotD a) h = .ok (lotD a) h := rfl
theorem lotD_at0 {s : Nat → Nat → Bool} {a : Lot} {h : Hh} : opApp s .idx [lotD a, .int 0] h = .ok (.int a.1) h := by unfold lotD; simp
theorem lotD_at1 {s : Nat → Nat → Bool} {a : Lot} {h : Hh} : opApp s .idx [lotD a, .int 1] h = .ok (.int a.2) h := by unfold lotD; simp
theorem lotG_mod {a m : Int} (m0 : 0 < m) (mb : m.natAbs < 2 ^ 110) : LotG 150 (a % m, m) := by
  have r0 := Int.emod_nonneg a (by omega : m ≠ 0)
  have r1 := Int.emod_lt_of_pos a m0
  have rl : (a % m).natAbs ≤ m.natAbs := by omega
  have rb : (a % m).natAbs < 2 ^ 150 := Nat.lt_of_lt_of_le (Nat.lt_of_le_of_lt rl mb) (pw (by omega))
  have mm : m.natAbs < 2 ^ 150 := Nat.lt_of_lt_of_le mb (pw (by omega))
  exact ⟨Int.le_of_lt m0, .inr ⟨r0, r1⟩, rb, mm⟩
theorem law_pair_ok {w : Nat} (n : Nat) (h : Hh) (hs : Spr h) : ∃ a b h', callF (Pr w) (n + 4) 35 [.ref 1] h = .ok (.tup [lotD a, lotD b]) h' ∧ LotG 150 a ∧ LotG 150 b ∧ Sp h h' := by
  obtain ⟨kd, h1, e1, km, s1⟩ := among_ints (w := w) (n + 1) h [1, 1, 1, 0, 2, 3] hs (by simp) (by simp)
  have kb : 0 ≤ kd ∧ kd ≤ 4 := by simp at km; omega
  have x1 : Spx h h1 := ((Spx.refl hs).app).go s1
  obtain ⟨one, h2, e2, g1, s2⟩ := law_lot_ok (w := w) n h1 kd x1.spr kb
  obtain ⟨kd2, h3, e3, km2, s3⟩ := among_ints (w := w) (n + 1) h2 [kd, 1, 1, 0, 3, 4] s2.spr (by simp) (by simp)
  have kb2 : 0 ≤ kd2 ∧ kd2 ≤ 4 := by simp at km2; omega
  have x3 : Spx h h3 := ((x1.go s2).app).go s3
  obtain ⟨oth, h4, e4, g2, s4⟩ := law_lot_ok (w := w) n h3 kd2 x3.spr kb2
  have x4 := x3.go s4
  simp at e1 e3
  -- the end
  have fin : ∀ (g : Hh) (b : Lot), Spx h g → LotG 150 b → ∃ t g1 a' b' h', callF (Pr w) (n + 3) 21 [.ref 1, .int 2] g = .ok (.int t) g1 ∧ LotG 150 a' ∧ LotG 150 b' ∧ Sp h h' ∧
      ((t = 0 ∧ finish h (.tup [lotD one, lotD b]) g1 = .ok (.tup [lotD a', lotD b']) h') ∨ (t ≠ 0 ∧ finish h (.tup [lotD b, lotD one]) g1 = .ok (.tup [lotD a', lotD b']) h')) := fun g b xg gb => by
    obtain ⟨t, g1', a1, _, _, s5⟩ := flow_ok (w := w) (n + 2) g 2 xg.spr (by omega) (sz_small (k := 10) (by decide) (by omega))
    by_cases tz : t = 0
    · obtain ⟨h', f1, f2⟩ := fin_ok (d := .tup [lotD one, lotD b]) hs (xg.go s5) pair_low rfl
      exact ⟨t, g1', one, b, h', a1, g1.up (by omega), gb, f2, .inl ⟨tz, f1⟩⟩
    · obtain ⟨h', f1, f2⟩ := fin_ok (d := .tup [lotD b, lotD one]) hs (xg.go s5) pair_low rfl
      exact ⟨t, g1', b, one, h', a1, gb, g1.up (by omega), f2, .inr ⟨tz, f1⟩⟩
  by_cases c1 : 0 < one.2
  · obtain ⟨t3, h5, e5, _, _, s5⟩ := flow_ok (w := w) (n + 2) h4 3 x4.spr (by omega) (sz_small (k := 10) (by decide) (by omega))
    have x5 := x4.go s5
    by_cases c2 : 0 < t3
    · -- many
      obtain ⟨t4, h6, e6, _, _, s6⟩ := flow_ok (w := w) (n + 2) h5 2 x5.spr (by omega) (sz_small (k := 10) (by decide) (by omega))
      have x6 := x5.go s6
      have many : ∃ m h7, Spx h h7 ∧ 0 < m ∧ m.natAbs < 2 ^ 110 ∧ ((t4 = 0 ∧ ∃ t5, callF (Pr w) (n + 3) 21 [.ref 1, .int 6] h6 = .ok (.int t5) h7 ∧ mulOk one.2 (1 + t5) = true ∧ m = one.2 * (1 + t5)) ∨ (t4 ≠ 0 ∧ ∃ t5, callF (Pr w) (n + 3) 21 [.ref 1, .int 12] h6 = .ok (.int t5) h7 ∧ mulOk t5 2 = true ∧ m = 1 + t5 * 2)) := by
        by_cases z : t4 = 0
        · obtain ⟨t5, h7, e7, a0, a1, s7⟩ := flow_ok (w := w) (n + 2) h6 6 x6.spr (by omega) (sz_small (k := 10) (by decide) (by omega))
          have sb : (1 + t5).natAbs < 2 ^ 10 := by omega
          exact ⟨one.2 * (1 + t5), h7, x6.go s7, Int.mul_pos c1 (by omega), nat_mul_lt g1.m sb, .inl ⟨z, t5, e7, sz_mul (sz_of g1.m (by omega)) (sz_of sb (by omega)), rfl⟩⟩
        · obtain ⟨t5, h7, e7, a0, a1, s7⟩ := flow_ok (w := w) (n + 2) h6 12 x6.spr (by omega) (sz_small (k := 10) (by decide) (by omega))
          have sb : (1 + t5 * 2).natAbs < 2 ^ 10 := by omega
          exact ⟨1 + t5 * 2, h7, x6.go s7, by omega, Nat.lt_of_lt_of_le sb (pw (by omega)), .inr ⟨z, t5, e7, by unfold mulOk; simp, rfl⟩⟩
      obtain ⟨m, h7, x7, m0, mb, hm⟩ := many
      obtain ⟨t6, h8, e8, b0, b1, s8⟩ := flow_ok (w := w) (n + 2) h7 7 x7.spr (by omega) (sz_small (k := 10) (by decide) (by omega))
      obtain ⟨t7, h9, e9, b2, b3, s9⟩ := flow_ok (w := w) (n + 2) h8 2 s8.spr (by omega) (sz_small (k := 10) (by decide) (by omega))
      obtain ⟨t8, h10, e10, _, _, s10⟩ := flow_ok (w := w) (n + 2) h9 5 s9.spr (by omega) (sz_small (k := 10) (by decide) (by omega))
      have x10 := ((x7.go s8).go s9).go s10
      have k6 : mulOk one.2 t6 = true := sz_mul (sz_of g1.m (by omega)) (sz_of (k := 10) (by omega) (by omega))
      have bg : (one.1 + one.2 * t6 + t7).natAbs < 2 ^ 112 := by
        have z1 : (one.2 * t6).natAbs < 2 ^ 110 := nat_mul_lt g1.m (l := 10) (by omega)
        have z2 : one.1.natAbs < 2 ^ 110 := Nat.lt_of_lt_of_le g1.r (pw (by omega))
        have z3 := nat_add_lt z2 z1
        exact nat_add_lt z3 (Nat.lt_of_lt_of_le (by omega : t7.natAbs < 2 ^ 10) (pw (by omega)))
      have m1 : m ≠ 0 := by omega
      by_cases c3 : 0 < t8
      · have gb : LotG 150 ((one.1 + one.2 * t6 + t7) % m, m) := lotG_mod m0 mb
        obtain ⟨t, gg, a', b', h', q1, q2, q3, q4, q5⟩ := fin h10 _ x10 gb
        refine ⟨a', b', h', ?_, q2, q3, q4⟩
        have eL : ∀ y : Int, D.tup [.int y, .int m] = lotD (y, m) := fun _ => rfl
        rw [u35]
        rcases hm with ⟨z, t5, f1, f2, f3⟩ | ⟨z, t5, f1, f2, f3⟩ <;> rcases q5 with ⟨z2, q6⟩ | ⟨z2, q6⟩ <;>
          simp [runF, _law_pair, startS, evSs, evS, evE, evEs, evT, e1, e2, e3, e4, lotD_pers, lotD_box, lotD_at0, lotD_at1, c1, e5, c2, e6, z, f1, f2, ← f3, e8, k6, e9, e10, c3, m1, fmod_pos m0, eL, q1, z2, endF, q6]
      · have gb : LotG 150 (one.1 + one.2 * t6 + t7, 0) := ⟨by omega, .inl rfl, Nat.lt_of_lt_of_le bg (pw (by omega)), Nat.pow_pos (by omega)⟩
        obtain ⟨t, gg, a', b', h', q1, q2, q3, q4, q5⟩ := fin h10 _ x10 gb
        refine ⟨a', b', h', ?_, q2, q3, q4⟩
        have eL : ∀ y : Int, D.tup [.int y, .int 0] = lotD (y, 0) := fun _ => rfl
        rw [u35]
        rcases hm with ⟨z, t5, f1, f2, f3⟩ | ⟨z, t5, f1, f2, f3⟩ <;> rcases q5 with ⟨z2, q6⟩ | ⟨z2, q6⟩ <;>
          simp [runF, _law_pair, startS, evSs, evS, evE, evEs, evT, e1, e2, e3, e4, lotD_pers, lotD_box, lotD_at0, lotD_at1, c1, e5, c2, e6, z, f1, f2, ← f3, e8, k6, e9, e10, c3, eL, q1, z2, endF, q6]
    · obtain ⟨t, gg, a', b', h', q1, q2, q3, q4, q5⟩ := fin h5 oth x5 (g2.up (by omega))
      refine ⟨a', b', h', ?_, q2, q3, q4⟩
      rw [u35]
      rcases q5 with ⟨z2, q6⟩ | ⟨z2, q6⟩ <;> simp [runF, _law_pair, startS, evSs, evS, evE, evEs, evT, e1, e2, e3, e4, lotD_pers, lotD_box, lotD_at0, lotD_at1, c1, e5, c2, q1, z2, endF, q6]
  · obtain ⟨t, gg, a', b', h', q1, q2, q3, q4, q5⟩ := fin h4 oth x4 (g2.up (by omega))
    refine ⟨a', b', h', ?_, q2, q3, q4⟩
    rw [u35]
    rcases q5 with ⟨z2, q6⟩ | ⟨z2, q6⟩ <;> simp [runF, _law_pair, startS, evSs, evS, evE, evEs, evT, e1, e2, e3, e4, lotD_pers, lotD_box, lotD_at0, lotD_at1, c1, q1, z2, endF, q6]
end Lk01

namespace Lk01
open Ivy
/-! ### right, word by word -/
theorem same_int {w : Nat} (n : Nat) (x : Int) (h : Hh) : callF (Pr w) (n + 1) 24 [.int x, .int x] h = .ok (.bl true) h := same_flat n _ h trivial
theorem same_ints {w : Nat} (n : Nat) (xs : List Int) (h : Hh) (hl : xs.length ≤ 1000) : callF (Pr w) (n + 2) 24 [.tup (xs.map .int), .tup (xs.map .int)] h = .ok (.bl true) h :=
  same_tup (n + 1) _ h (fun d hd => by
    obtain ⟨x, _, rfl⟩ := List.mem_map.mp hd
    exact ⟨rfl, same_int n x h⟩) (by simpa using hl)
theorem same_opt {w : Nat} (n : Nat) (o : Option Lot) (h : Hh) : callF (Pr w) (n + 2) 24 [optD o, optD o] h = .ok (.bl true) h := by
  cases o with
  | none => exact same_flat (n + 1) _ h trivial
  | some a => exact same_ints n [a.1, a.2] h (by simp)
theorem same_io {w : Nat} (n : Nat) (o : Option Int) (h : Hh) : callF (Pr w) (n + 2) 24 [intO o, intO o] h = .ok (.bl true) h := by
  cases o with
  | none => exact same_flat (n + 1) _ h trivial
  | some a => exact same_int (n + 1) a h
theorem same_bl {w : Nat} (n : Nat) (b : Bool) (h : Hh) : callF (Pr w) (n + 1) 24 [.bl b, .bl b] h = .ok (.bl true) h := same_flat n _ h trivial
theorem rt_met {w : Nat} (n : Nat) (h : Hh) (a b : Lot) (hs : Spr h) (ha : LotS a) (hb : LotS b) (hw : 2 ^ 1000 ≤ w) :
    ∃ h', callF (Pr w) (n + 5) 33 [.ref 1, .str [109, 101, 116], lotD a, lotD b, optD (metF a b)] h = .ok (.bl true) h' ∧ Sp h h' :=
  right_ok (n + 2) h _ _ _ _ hs rfl rfl (opt_pers _) (fun g last sg hl => ask_met (n := n + 3) rfl rfl ⟨met_ok n a b g ha hb hw, opt_pers _, box_opt _ g⟩ hl) (fun g => same_opt (n + 2) _ g)
theorem rt_within {w : Nat} (n : Nat) (h : Hh) (a b : Lot) (hs : Spr h) :
    ∃ h', callF (Pr w) (n + 5) 33 [.ref 1, .str [119, 105, 116, 104, 105, 110], lotD a, lotD b, .bl (withinF a b)] h = .ok (.bl true) h' ∧ Sp h h' :=
  right_ok (n + 2) h _ _ _ _ hs rfl rfl rfl (fun g last sg hl => ask_within (n := n + 3) rfl rfl ⟨is_within_ok (n + 1) a b g, rfl, rfl⟩ hl) (fun g => same_bl (n + 3) _ g)
theorem rt_in {w : Nat} (n : Nat) (h : Hh) (a : Lot) (x : Int) (hs : Spr h) :
    ∃ h', callF (Pr w) (n + 5) 33 [.ref 1, .str [105, 110], lotD a, .int x, .bl (inF a x)] h = .ok (.bl true) h' ∧ Sp h h' :=
  right_ok (n + 2) h _ _ _ _ hs rfl rfl rfl (fun g last sg hl => ask_in (n := n + 3) rfl rfl ⟨in_lot_ok (n + 2) a x g, rfl, rfl⟩ hl) (fun g => same_bl (n + 3) _ g)
theorem rt_is {w : Nat} (n : Nat) (h : Hh) (d : D) (b : Bool) (hs : Spr h) (hd : D.pers d = true) (e : ∀ g, Spr g → callF (Pr w) (n + 3) 6 [d] g = .ok (.bl b) g) :
    ∃ h', callF (Pr w) (n + 5) 33 [.ref 1, .str [105, 115], d, .int 0, .bl b] h = .ok (.bl true) h' ∧ Sp h h' :=
  right_ok (n + 2) h _ _ _ _ hs hd rfl rfl (fun g last sg hl => ask_is (n := n + 3) hd rfl ⟨e g sg, rfl, rfl⟩ hl) (fun g => same_bl (n + 3) _ g)
theorem rt_meeting {w : Nat} (n : Nat) (h : Hh) (A B : Fm) (hs : Spr h) (hA : FmS A) (hB : FmS B) (hw : 2 ^ 1000 ≤ w) :
    ∃ h', callF (Pr w) (n + 6) 33 [.ref 1, .str [109, 101, 101, 116, 105, 110, 103], formD A, formD B, optD (meetF A B)] h = .ok (.bl true) h' ∧ Sp h h' :=
  right_ok (n + 3) h _ _ _ _ hs rfl rfl (opt_pers _) (fun g last sg hl => ask_meeting (n := n + 4) rfl rfl ⟨meeting_ok n A B g hA hB hw, opt_pers _, box_opt _ g⟩ hl) (fun g => same_opt (n + 3) _ g)
theorem rt_fixed {w : Nat} (n : Nat) (h : Hh) (A : Fm) (hs : Spr h) (hA : FmS A) (hw : 2 ^ 1000 ≤ w) :
    ∃ h', callF (Pr w) (n + 7) 33 [.ref 1, .str [102, 105, 120, 101, 100], formD A, .int 0, intO (fixF A)] h = .ok (.bl true) h' ∧ Sp h h' :=
  right_ok (n + 4) h _ _ _ _ hs rfl rfl (intO_pers _) (fun g last sg hl => ask_fixed (n := n + 5) rfl rfl ⟨fixed_ok n A g hA hw, intO_pers _, box_int _ g⟩ hl) (fun g => same_io (n + 4) _ g)
theorem lots_pers (ls : List Lot) : D.pers (.tup (ls.map lotD)) = true := rfl
theorem rt_all {w : Nat} (n : Nat) (h : Hh) (ls : List Lot) (hs : Spr h) (hl : ∀ l ∈ ls, LotB 20 l) (hn : ls.length ≤ 40) (hw : 2 ^ 1000 ≤ w) :
    ∃ h', callF (Pr w) (n + 6) 33 [.ref 1, .str [97, 108, 108], .tup (ls.map lotD), .int 0, optD (allF (some (0, 1)) ls)] h = .ok (.bl true) h' ∧ Sp h h' :=
  right_ok (n + 3) h _ _ _ _ hs (lots_pers ls) rfl (opt_pers _) (fun g last sg hl' => ask_all (n := n + 4) (lots_pers ls) rfl ⟨met_all_ok n ls g hl hn hw, opt_pers _, box_opt _ g⟩ hl') (fun g => same_opt (n + 3) _ g)
theorem rt_clash {w : Nat} (n : Nat) (h : Hh) (ls : List Lot) (hs : Spr h) (hl : ∀ l ∈ ls, LotB 20 l) (hw : 2 ^ 1000 ≤ w) :
    ∃ h', callF (Pr w) (n + 6) 33 [.ref 1, .str [99, 108, 97, 115, 104], .tup (ls.map lotD), .int 0, optD (clashF ls)] h = .ok (.bl true) h' ∧ Sp h h' :=
  right_ok (n + 3) h _ _ _ _ hs (lots_pers ls) rfl (opt_pers _) (fun g last sg hl' => ask_clash (n := n + 4) (lots_pers ls) rfl ⟨clash_ok n ls g hl hw, opt_pers _, box_opt _ g⟩ hl') (fun g => same_opt (n + 3) _ g)
theorem ints_pers (xs : List Int) : D.pers (.tup (xs.map .int)) = true := rfl
theorem rt_numbers {w : Nat} (n : Nat) (h : Hh) (a : Lot) (lo hi : Int) (hs : Spr h) (ha : LotS a) (hr : hi - lo ≤ 900) :
    ∃ h', callF (Pr w) (n + 5) 33 [.ref 1, .str [110, 117, 109, 98, 101, 114, 115], lotD a, .tup [.int lo, .int hi], .tup ((numsF a lo hi).map .int)] h = .ok (.bl true) h' ∧ Sp h h' := by
  have nl : (numsF a lo hi).length ≤ 1000 := by
    unfold numsF intsF
    exact Nat.le_trans (List.length_filter_le ..) (by simp; omega)
  exact right_ok (n + 2) h _ _ _ _ hs rfl rfl (ints_pers _) (fun g last sg hl => ask_numbers (n := n + 3) rfl ⟨numbers_in_ok (n + 2) a lo hi g ha (by omega), ints_pers _, by simp [boxR]⟩ hl) (fun g => same_ints (n + 2) _ g nl)
end Lk01

namespace Lk01
open Ivy
theorem inF_self (a : Lot) : inF a a.1 = true := by
  unfold inF
  split <;> simp
theorem withinF_self (a : Lot) : withinF a a = true := by
  unfold withinF
  rw [inF_self]
  by_cases z : a.2 = 0 <;> simp [z]
theorem lcm_self {m : Int} (h : 0 < m) : lcmF m m = m := by
  unfold lcmF
  rw [Int.gcd_self, Int.natAbs_of_nonneg (by omega), Int.ediv_self (by omega), Int.mul_one]
theorem metF_self {k : Nat} {a : Lot} (h : LotG k a) : metF a a = some a := by
  by_cases z : a.2 = 0
  · unfold metF
    rw [if_pos z, if_pos (inF_self a)]
  · have p : 0 < a.2 := by have := h.m0; omega
    have r : 0 ≤ a.1 ∧ a.1 < a.2 := h.ok.resolve_left z
    rw [metF_some (x := a.1) z z ⟨r.1, by rw [lcm_self p]; exact r.2, by simp, by simp⟩, lcm_self p]
theorem lpC_filter {step : D → Hh → R (Option D)} {h : Hh} (p : Int → Bool) : ∀ xs : List Int, (∀ x ∈ xs, step (.int x) h = .ok (if p x = true then some (.int x) else none) h) → lpC [] step (xs.map .int) h = .ok ((xs.filter p).map .int) h
  | [], _ => rfl
  | x :: xs, hx => by
    show whenR true (((step (.int x) h).calm).bind fun y h => (lpC [] step (xs.map .int) h).bind fun ys h => .ok (match y with
      | some y => y :: ys
      | none => ys) h) = _
    rw [hx x (List.mem_cons_self ..)]
    simp only [s_wt, s_calm, s_okb]
    rw [lpC_filter p xs fun y hy => hx y (List.mem_cons_of_mem _ hy)]
    by_cases c : p x = true
    · simp [c]
    · simp [c]
theorem ints_range (lo hi : Int) : rangeL lo (rangeN lo (hi + 1) 1) 1 = (intsF lo hi).map .int := by
  unfold intsF
  rw [rangeN_one]
  simp [rangeL]
theorem law_lots_ok {w : Nat} (n : Nat) (h : Hh) (hs : Spr h) (hw : 2 ^ 1000 ≤ w) : ∃ h', callF (Pr w) (n + 6) 36 [.ref 1] h = .ok (.bl true) h' ∧ Sp h h' := by
  obtain ⟨one, other, h1, e1, g1, g2, s1⟩ := law_pair_ok (w := w) (n + 1) h hs
  have S1 := g1.S (by omega)
  have S2 := g2.S (by omega)
  obtain ⟨h2, e2, s2⟩ := rt_met (w := w) n h1 one other s1.spr S1 S2 hw
  have m2 := law_met_ok (w := w) (n + 3) one other h1 S1 S2
  obtain ⟨h3, e3, s3⟩ := rt_within (w := w) n h2 one other s2.spr
  have m3 := law_inside_ok (w := w) (n + 3) one other h2 g2.m0
  obtain ⟨h4, e4, s4⟩ := rt_within (w := w) n h3 one one s3.spr
  rw [withinF_self] at e4
  obtain ⟨h5, e5, s5⟩ := rt_met (w := w) n h4 other other s4.spr S2 S2 hw
  rw [metF_self g2, optD_lot] at e5
  obtain ⟨x, h6, e6, xm, s6⟩ := among_ints (w := w) (n + 3) h5 [one.1, one.1 + one.2, one.1 - 3 * one.2, one.1 + 1, other.1, 0 - one.1] s5.spr (by simp) (by simp)
  obtain ⟨h7, e7, s7⟩ := rt_in (w := w) n h6 one x s6.spr
  have m7 := law_in_ok (w := w) (n + 4) one x h6
  obtain ⟨h8, e8, s8⟩ := rt_in (w := w) n h7 one one.1 s7.spr
  rw [inF_self] at e8
  obtain ⟨lo, h9, e9, lm, s9⟩ := among_ints (w := w) (n + 3) h8 [one.1, one.1 - 20, other.1 - 5, -30, one.1 + 1, one.1 - one.2 * 3] s8.spr (by simp) (by simp)
  obtain ⟨d, h10, e10, dm, s10⟩ := among_ints (w := w) (n + 3) h9 [0, -1, -7, 12, 59] s9.spr (by simp) (by simp)
  have db : d ≤ 59 := by simp at dm; omega
  obtain ⟨h11, e11, s11⟩ := rt_numbers (w := w) n h10 one lo (lo + d) s10.spr S1 (by omega)
  obtain ⟨h12, e12, s12⟩ := rt_is (w := w) n h11 (lotD one) true s11.spr rfl (fun g _ => is_lot_ok (n + 1) one g g1)
  obtain ⟨h13, e13, s13⟩ := rt_is (w := w) n h12 (lotD other) true s12.spr rfl (fun g _ => is_lot_ok (n + 1) other g g2)
  simp at e6 e9 e10
  have x5 := ((((((Spx.refl hs).go s1).go s2).go s3).go s4).go s5)
  have x10 := (((((x5.app).go s6).go s7).go s8).app.go s9).app.go s10
  obtain ⟨h', f1, f2⟩ := fin_ok (d := .bl true) hs (((x10.go s11).go s12).go s13) (by simp [D.low]) rfl
  refine ⟨h', ?_, f2⟩
  have k1 : mulOk 3 one.2 = true := sz_mul (sz_of (k := 10) (by omega) (by omega)) (sz_of g1.m (by omega))
  have k2 : mulOk one.2 3 = true := sz_mul (sz_of g1.m (by omega)) (sz_of (k := 10) (by omega) (by omega))
  have er := ints_range lo (lo + d)
  have fl : numsF one lo (lo + d) = (intsF lo (lo + d)).filter (inF one) := rfl
  have src : rngS [.int lo, .int (lo + d + 1)] = some ⟨rangeL lo (rangeN lo (lo + d + 1) 1) 1, []⟩ := rfl
  have il : (numsF one lo (lo + d)).length ≤ 1001 := nums_len one lo (lo + d) (by omega)
  rw [u36]
  simp [runF, _law_lots_ok, startS, evSs, evS, evE, evEs, evT, evI, e1, e2, e3, e4, e5, e6, e7, e8, e9, e10, m2, m3, m7, lotD_pers, lotD_box, lotD_at0, lotD_at1, k1, k2, box_opt, opt_pers, src, er]
  have tl : opApp sub .tuple [.lst ((numsF one lo (lo + d)).map .int)] h10 = .ok (.tup ((numsF one lo (lo + d)).map .int)) h10 := rfl
  rw [lpC_filter (inF one)]
  · rw [← fl]
    simp [show (numsF one lo (lo + d)).length ≤ 16777216 by omega, tl, e11, e12, e13, ints_pers, lotD_pers, endF, f1]
  · intro x hx
    have q := law_in_ok (w := w) (n + 4) one x h10
    simp [evTs, evE, evEs, evT, q, lotD_pers]
    by_cases c : inF one x = true <;> simp [c]
end Lk01

namespace Lk01
open Ivy
/-! ### drawn forms -/
structure FmG (A : Fm) : Prop where
  m0 : 0 ≤ A.m
  ok : A.m = 0 ∨ (0 ≤ A.f ∧ A.f < A.m)
  f : A.f.natAbs < 2 ^ 60
  m : A.m.natAbs < 2 ^ 60
  s : A.s.natAbs < 2 ^ 60
  t : A.t.natAbs < 2 ^ 60
theorem FmG.S {A : Fm} (h : FmG A) : FmS A := ⟨h.m0, Nat.lt_of_lt_of_le h.f (pw (by omega)), Nat.lt_of_lt_of_le h.m (pw (by omega)), Nat.lt_of_lt_of_le h.s (pw (by omega)), Nat.lt_of_lt_of_le h.t (pw (by omega))⟩
theorem formD_low {n : Nat} {A : Fm} : D.low n (formD A) = true := by simp [formD, D.low, D.lowL]
theorem law_form_ok {w : Nat} (n : Nat) (h : Hh) (great : Bool) (hs : Spr h) : ∃ A h', callF (Pr w) (n + 3) 40 [.ref 1, .bl great] h = .ok (formD A) h' ∧ FmG A ∧ Sp h h' := by
  obtain ⟨top, ht, h0, h9⟩ : ∃ top : Int, top = (if great = true then 1000000 else 9) ∧ 0 < top ∧ top ≤ 1000000 := ⟨_, rfl, by split <;> omega, by split <;> omega⟩
  obtain ⟨c, k, hc, hk, c0, k0⟩ : ∃ c k : Int, c = (if great = true then 1000000000000 else 41) ∧ k = (if great = true then 100000000000 else 20) ∧ (0 < c ∧ c ≤ 1000000000000) ∧ (0 ≤ k ∧ k ≤ 100000000000) := ⟨_, _, rfl, rfl, by split <;> omega, by split <;> omega⟩
  obtain ⟨t1, h1, e1, a1, b1, s1⟩ := flow_ok (w := w) (n + 1) h top hs h0 (sz_small (k := 60) (by omega) (by omega))
  obtain ⟨t2, h2, e2, a2, b2, s2⟩ := flow_ok (w := w) (n + 1) h1 (1 + t1) s1.spr (by omega) (sz_small (k := 60) (by omega) (by omega))
  obtain ⟨fi, h3, e3, fm, s3⟩ := among_ints (w := w) n h2 [0, 1 + t1 - 1, t2] s2.spr (by simp) (by simp)
  obtain ⟨t4, h4, e4, a4, b4, s4⟩ := flow_ok (w := w) (n + 1) h3 top s3.spr h0 (sz_small (k := 60) (by omega) (by omega))
  obtain ⟨sg, h5, e5, sm, s5⟩ := among_ints (w := w) n h4 [1, 1, -1] s4.spr (by simp) (by simp)
  obtain ⟨t6, h6, e6, a6, b6, s6⟩ := flow_ok (w := w) (n + 1) h5 c s5.spr c0.1 (sz_small (k := 60) (by omega) (by omega))
  obtain ⟨t7, h7, e7, a7, b7, s7⟩ := flow_ok (w := w) (n + 1) h6 8 s6.spr (by omega) (sz_small (k := 60) (by omega) (by omega))
  have x7 := ((((((((Spx.refl hs).go s1).go s2).app).go s3).go s4).app.go s5).go s6).go s7
  have fb : 0 ≤ fi ∧ fi < 1 + t1 := by simp at fm; omega
  have sb : sg = 1 ∨ sg = -1 := by simp at sm; omega
  have mk : mulOk (1 + t4) sg = true := by rcases sb with rfl | rfl <;> simp [mulOk]
  have gb : ((1 + t4) * sg).natAbs < 2 ^ 60 := by rcases sb with rfl | rfl <;> omega
  simp at e3 e5
  by_cases z : t7 = 0
  · obtain ⟨t8, h8, e8, a8, b8, s8⟩ := flow_ok (w := w) (n + 1) h7 31 s7.spr (by omega) (sz_small (k := 60) (by omega) (by omega))
    obtain ⟨h', f1, f2⟩ := fin_ok (d := formD ⟨t6 - k - fi, 0, t8 - 15, 0⟩) hs (x7.go s8) formD_low rfl
    refine ⟨⟨t6 - k - fi, 0, t8 - 15, 0⟩, h', ?_, ⟨by simp, .inl rfl, by simp only; omega, by simp, by simp only; omega, by simp⟩, f2⟩
    rw [u40]
    unfold formD at *
    cases great
    · simp at ht hc hk
      subst ht hc hk
      simp [runF, _law_form, startS, evSs, evS, evE, evEs, evT, e1, e2, e3, e4, e5, mk, e6, e7, z, e8, endF, f1]
    · simp at ht hc hk
      subst ht hc hk
      simp [runF, _law_form, startS, evSs, evS, evE, evEs, evT, e1, e2, e3, e4, e5, mk, e6, e7, z, e8, endF, f1]
  · obtain ⟨h', f1, f2⟩ := fin_ok (d := formD ⟨fi, 1 + t1, t6 - k, (1 + t4) * sg⟩) hs x7 formD_low rfl
    refine ⟨⟨fi, 1 + t1, t6 - k, (1 + t4) * sg⟩, h', ?_, ⟨by simp only; omega, .inr fb, by simp only; omega, by simp only; omega, by simp only; omega, gb⟩, f2⟩
    rw [u40]
    unfold formD at *
    cases great
    · simp at ht hc hk
      subst ht hc hk
      simp [runF, _law_form, startS, evSs, evS, evE, evEs, evT, e1, e2, e3, e4, e5, mk, e6, e7, z, endF, f1]
    · simp at ht hc hk
      subst ht hc hk
      simp [runF, _law_form, startS, evSs, evS, evE, evEs, evT, e1, e2, e3, e4, e5, mk, e6, e7, z, endF, f1]
end Lk01

namespace Lk01
open Ivy
theorem FmG.G {A : Fm} (h : FmG A) : LotG 60 A.lot := ⟨h.m0, h.ok, h.f, h.m⟩
theorem FmG.B {A : Fm} (h : FmG A) : LotB 60 A.lot := ⟨h.m0, h.f, h.m⟩
theorem meetF_self {A : Fm} (h : FmG A) : meetF A A = some A.lot := by
  unfold meetF
  rw [metF_self h.G]
  simp
theorem led_up (A : Fm) (x : Int) : ledF ⟨A.f, A.m, A.s + 1, A.t⟩ x = ledF A x + 1 := by
  unfold ledF turnF
  simp only
  omega
theorem meetF_up {A : Fm} (h : FmG A) : meetF A ⟨A.f, A.m, A.s + 1, A.t⟩ = none := by
  unfold meetF
  have e : Fm.lot ⟨A.f, A.m, A.s + 1, A.t⟩ = A.lot := rfl
  rw [e, metF_self h.G]
  simp only [led_up]
  rw [show ledF A A.lot.1 - (ledF A A.lot.1 + 1) = -1 by omega, show ledF A (A.lot.1 + A.lot.2) - (ledF A (A.lot.1 + A.lot.2) + 1) - -1 = 0 by omega]
  simp
/-- the greatest of four is beyond when one is -/
theorem max4 {s : Nat → Nat → Bool} {h : Hh} (a b c d : Int) : ∃ M : Int, opApp s .maxL [.lst [.int a, .int b, .int c, .int d]] h = .ok (.int M) h ∧ a ≤ M ∧ b ≤ M ∧ c ≤ M ∧ d ≤ M := by
  refine ⟨_, rfl, ?_⟩
  simp
  omega
end Lk01

namespace Lk01
open Ivy
theorem formD_pers (A : Fm) : D.pers (formD A) = true := rfl
theorem formD_box (A : Fm) (h : Hh) : boxR (formD A) h = .ok (formD A) h := rfl
theorem FmG.up {A : Fm} (h : FmG A) : FmS ⟨A.f, A.m, A.s + 1, A.t⟩ := ⟨h.m0, h.S.f, h.S.m, Nat.lt_of_lt_of_le (nat_add_lt (k := 60) h.s (by decide : (1 : Int).natAbs < 2 ^ 60)) (pw (by omega)), h.S.t⟩
theorem forms_tail {w : Nat} (n : Nat) {h g : Hh} {A C : Fm} (hs : Spr h) (x : Spx h g) (gA : FmG A) (sC : FmS C) (hw : 2 ^ 1000 ≤ w) : ∃ g1 g2 g3 h', callF (Pr w) (n + 6) 33 [.ref 1, .str [109, 101, 101, 116, 105, 110, 103], formD A, formD C, optD (meetF A C)] g = .ok (.bl true) g1 ∧
    callF (Pr w) (n + 6) 33 [.ref 1, .str [109, 101, 101, 116, 105, 110, 103], formD A, formD A, .tup [.int A.f, .int A.m]] g1 = .ok (.bl true) g2 ∧
    callF (Pr w) (n + 6) 33 [.ref 1, .str [109, 101, 101, 116, 105, 110, 103], formD A, .tup [.int A.f, .int A.m, .int (A.s + 1), .int A.t], .non] g2 = .ok (.bl true) g3 ∧ finish h (.bl true) g3 = .ok (.bl true) h' ∧ Sp h h' := by
  obtain ⟨g1, a1, s1⟩ := rt_meeting (w := w) n g A C x.spr gA.S sC hw
  obtain ⟨g2, a2, s2⟩ := rt_meeting (w := w) n g1 A A s1.spr gA.S gA.S hw
  obtain ⟨g3, a3, s3⟩ := rt_meeting (w := w) n g2 A _ s2.spr gA.S gA.up hw
  rw [meetF_self gA] at a2
  rw [meetF_up gA] at a3
  obtain ⟨h', f1, f2⟩ := fin_ok (d := .bl true) hs (((x.go s1).go s2).go s3) (by simp [D.low]) rfl
  exact ⟨g1, g2, g3, h', a1, a2, a3, f1, f2⟩
end Lk01

namespace Lk01
open Ivy
/-! ### the three conditions within _law_forms_ok -/
theorem fI {s : Nat → Nat → Bool} {h : Hh} {A : Fm} : opApp s .idx [formD A, .int 0] h = .ok (.int A.f) h ∧ opApp s .idx [formD A, .int 1] h = .ok (.int A.m) h ∧ opApp s .idx [formD A, .int 2] h = .ok (.int A.s) h ∧ opApp s .idx [formD A, .int 3] h = .ok (.int A.t) h := by
  unfold formD
  simp
def stA : St := .ite (.and (.ex (.op .eq [(.var 5), (.lit (.int 3))])) (.and (.ex (.op .gt [(.op .idx [(.var 2), (.lit (.int 1))]), (.lit (.int 0))])) (.and (.ex (.op .gt [(.op .idx [(.var 3), (.lit (.int 1))]), (.lit (.int 0))])) (.ex (.op .eq [(.op .mul [(.op .fdiv [(.op .mul [(.op .idx [(.var 2), (.lit (.int 3))]), (.op .idx [(.var 3), (.lit (.int 1))])]), (.op .idx [(.var 2), (.lit (.int 1))])]), (.op .idx [(.var 2), (.lit (.int 1))])]), (.op .mul [(.op .idx [(.var 2), (.lit (.int 3))]), (.op .idx [(.var 3), (.lit (.int 1))])])]))))) [.asg (.name 3) (.op .tup [(.op .idx [(.var 3), (.lit (.int 0))]), (.op .idx [(.var 3), (.lit (.int 1))]), (.op .idx [(.var 3), (.lit (.int 2))]), (.op .fdiv [(.op .mul [(.op .idx [(.var 2), (.lit (.int 3))]), (.op .idx [(.var 3), (.lit (.int 1))])]), (.op .idx [(.var 2), (.lit (.int 1))])])])] []
def stB : St := .ite (.ex (.op .gt [(.var 5), (.lit (.int 0))])) [.asg (.name 3) (.op .tup [(.op .idx [(.var 3), (.lit (.int 0))]), (.op .idx [(.var 3), (.lit (.int 1))]), (.op .sub [(.op .add [(.op .idx [(.var 3), (.lit (.int 2))]), (.var 7)]), (.call 29 [(.var 3), (.var 6)] [])]), (.op .idx [(.var 3), (.lit (.int 3))])])] []
def stC : St := .ite (.or (.ex (.op .gt [(.op .maxL [(.comp [8] (.name 8) (.seq (.var 3)) [] (.op .abs [(.var 8)]))]), (.op .pow [(.lit (.int 10)), (.lit (.int 12))])])) (.ex (.op .gt [(.op .abs [(.op .idx [(.var 3), (.lit (.int 3))])]), (.op .pow [(.lit (.int 10)), (.lit (.int 6))])]))) [.asg (.name 3) (.var 2)] []
def dlt (A C : Fm) (l : D) (k at' come great : D) : Sl := [some (.ref 1), some great, some (formD A), some (formD C), some l, some k, some at', some come, none, none]
theorem stA_ok {w n : Nat} {A B : Fm} {l x y g : D} {k : Int} {h : Hh} (gA : FmG A) (gB : FmG B) : ∃ C : Fm, evS (gk w n) stA (dlt A B l (.int k) x y g) h = .nx (dlt A C l (.int k) x y g) h ∧ C.f = B.f ∧ C.m = B.m ∧ FmS C := by
  have k1 : mulOk A.t B.m = true := sz_mul (sz_of gA.t (by omega)) (sz_of gB.m (by omega))
  have b1 : (A.t * B.m).natAbs < 2 ^ 120 := nat_mul_lt gA.t gB.m
  have b2 : ((A.t * B.m).fdiv A.m).natAbs < 2 ^ 120 := Nat.lt_of_le_of_lt (fdiv_le gA.m0) b1
  have k2 : mulOk ((A.t * B.m).fdiv A.m) A.m = true := sz_mul (sz_of b2 (by omega)) (sz_of gA.m (by omega))
  have bd : A.m.natAbs < bigD := sz_bigD (sz_of gA.m (by omega))
  by_cases c1 : k = 3 ∧ 0 < A.m ∧ 0 < B.m ∧ (A.t * B.m).fdiv A.m * A.m = A.t * B.m
  · obtain ⟨rfl, c2, c3, c4⟩ := c1
    refine ⟨⟨B.f, B.m, B.s, (A.t * B.m).fdiv A.m⟩, ?_, rfl, rfl, gB.S.m0, gB.S.f, gB.S.m, gB.S.s, Nat.lt_of_lt_of_le b2 (pw (by omega))⟩
    have e : formD ⟨B.f, B.m, B.s, (A.t * B.m).fdiv A.m⟩ = .tup [.int B.f, .int B.m, .int B.s, .int ((A.t * B.m).fdiv A.m)] := rfl
    have ne : A.m ≠ 0 := by omega
    simp only [dlt, e]
    simp [stA, evSs, evS, evE, evEs, evT, fI, k1, k2, c2, c3, c4, ne, bd]
  · refine ⟨B, ?_, rfl, rfl, gB.S⟩
    by_cases c2 : k = 3
    · subst c2
      by_cases c3 : 0 < A.m
      · have ne : A.m ≠ 0 := by omega
        by_cases c4 : 0 < B.m
        · have c5 : ¬ (A.t * B.m).fdiv A.m * A.m = A.t * B.m := fun q => c1 ⟨rfl, c3, c4, q⟩
          simp [stA, dlt, evSs, evS, evE, evEs, evT, fI, k1, k2, c3, c4, c5, ne, bd]
        · simp [stA, dlt, evSs, evS, evE, evEs, evT, fI, c3, c4]
      · simp [stA, dlt, evSs, evS, evE, evEs, evT, fI, c3]
    · simp [stA, dlt, evSs, evS, evE, evEs, evT, fI, c2]
theorem stB_ok {w n : Nat} {A C : Fm} {l g : D} {k x y : Int} {h : Hh} (sC : FmS C) (hx : x.natAbs < 2 ^ 1500) : ∃ C' : Fm, evS (gk w (n + 1)) stB (dlt A C l (.int k) (.int x) (.int y) g) h = .nx (dlt A C' l (.int k) (.int x) (.int y) g) h ∧ 0 ≤ C'.m := by
  have e1 := law_led_ok (w := w) n C x h sC hx
  by_cases c : 0 < k
  · refine ⟨⟨C.f, C.m, C.s + y - ledF C x, C.t⟩, ?_, sC.m0⟩
    have e : formD ⟨C.f, C.m, C.s + y - ledF C x, C.t⟩ = .tup [.int C.f, .int C.m, .int (C.s + y - ledF C x), .int C.t] := rfl
    simp only [dlt, e]
    simp [stB, evSs, evS, evE, evEs, evT, fI, c, formD_pers, e1]
  · refine ⟨C, ?_, sC.m0⟩
    simp [stB, dlt, evSs, evS, evE, evEs, evT, fI, c]
theorem stC_ok {w n : Nat} {A C : Fm} {l g : D} {k x y : Int} {h : Hh} (sA : FmS A) (c0 : 0 ≤ C.m) : ∃ C' : Fm, evS (gk w n) stC (dlt A C l (.int k) (.int x) (.int y) g) h = .nx (dlt A C' l (.int k) (.int x) (.int y) g) h ∧ FmS C' := by
  obtain ⟨M, e1, m1, m2, m3, m4⟩ := max4 (s := sub) (h := h) (if C.f < 0 then -C.f else C.f) (if C.m < 0 then -C.m else C.m) (if C.s < 0 then -C.s else C.s) (if C.t < 0 then -C.t else C.t)
  have gd : gdOk h [] = true := rfl
  have q : ∀ z : Int, (z.natAbs : Int) ≤ 1000000000000 → z.natAbs < 2 ^ 200 := fun z hz => Nat.lt_of_lt_of_le (show z.natAbs < 2 ^ 60 by omega) (pw (by omega))
  by_cases c : 1000000000000 < M
  · refine ⟨A, ?_, sA⟩
    simp [stC, dlt, evSs, evS, evE, evEs, evT, evI, fI, c, formD_pers, formD, lpC, evTs, gd, e1]
  · by_cases c2 : 1000000 < (if C.t < 0 then -C.t else C.t)
    · refine ⟨A, ?_, sA⟩
      simp [stC, dlt, evSs, evS, evE, evEs, evT, evI, fI, c, c2, formD_pers, formD, lpC, evTs, gd, e1]
    · refine ⟨C, ?_, c0, q _ (by split at m1 <;> omega), q _ (by split at m2 <;> omega), q _ (by split at m3 <;> omega), q _ (by split at m4 <;> omega)⟩
      simp [stC, dlt, evSs, evS, evE, evEs, evT, evI, fI, c, c2, formD_pers, formD, lpC, evTs, gd, e1]
end Lk01

namespace Lk01
open Ivy
theorem forms_body : _law_forms_ok = ⟨1, 10, [.asg (.name 1) (.op .eq [(.call 21 [(.var 0), (.lit (.int 4))] []), (.lit (.int 0))]), .asg (.tup [(.name 2), (.name 3)]) (.op .tup [(.box (.call 40 [(.var 0), (.var 1)] [])), (.box (.call 40 [(.var 0), (.var 1)] []))]), .asg (.name 4) (.box (.call 27 [(.op .tup [(.op .idx [(.var 2), (.lit (.int 0))]), (.op .idx [(.var 2), (.lit (.int 1))])]), (.op .tup [(.op .idx [(.var 3), (.lit (.int 0))]), (.op .idx [(.var 3), (.lit (.int 1))])])] [])), .asg (.name 5) (.box (.call 21 [(.var 0), (.lit (.int 5))] [])), .ite (.and (.ex (.op .notNone [(.var 4)])) (.ex (.op .lt [(.var 5), (.lit (.int 4))]))) [.asg (.name 6) (.box (.op .add [(.op .idx [(.var 4), (.lit (.int 0))]), (.op .mul [(.op .idx [(.var 4), (.lit (.int 1))]), (.op .sub [(.call 21 [(.var 0), (.lit (.int 9))] []), (.lit (.int 4))])])])), .asg (.name 7) (.box (.call 29 [(.var 2), (.var 6)] [])), stA, stB, stC] [], .ite (.not (.ex (.call 33 [(.var 0), (.lit (.str [109, 101, 101, 116, 105, 110, 103])), (.var 2), (.var 3), (.box (.call 30 [(.var 2), (.var 3)] []))] []))) [.ret (.lit (.bl false))] [], .asg (.name 9) (.op .tup [(.op .idx [(.var 2), (.lit (.int 0))]), (.op .idx [(.var 2), (.lit (.int 1))])]), .ite (.not (.ex (.call 33 [(.var 0), (.lit (.str [109, 101, 101, 116, 105, 110, 103])), (.var 2), (.var 2), (.var 9)] []))) [.ret (.lit (.bl false))] [], .ret (.call 33 [(.var 0), (.lit (.str [109, 101, 101, 116, 105, 110, 103])), (.var 2), (.op .tup [(.op .idx [(.var 2), (.lit (.int 0))]), (.op .idx [(.var 2), (.lit (.int 1))]), (.box (.op .add [(.op .idx [(.var 2), (.lit (.int 2))]), (.lit (.int 1))])), (.op .idx [(.var 2), (.lit (.int 3))])]), (.lit .non)] [])]⟩ := rfl
theorem lotD_isNon (a : Lot) : D.isNon (lotD a) = false := rfl
theorem optD_none : optD none = .non := rfl
theorem law_forms_ok {w : Nat} (n : Nat) (h : Hh) (hs : Spr h) (hw : 2 ^ 1000 ≤ w) : ∃ h', callF (Pr w) (n + 7) 41 [.ref 1] h = .ok (.bl true) h' ∧ Sp h h' := by
  obtain ⟨t0, h1, e1, _, _, s1⟩ := flow_ok (w := w) (n + 5) h 4 hs (by omega) (sz_small (k := 60) (by decide) (by omega))
  obtain ⟨A, h2, e2, gA, s2⟩ := law_form_ok (w := w) (n + 3) h1 (decide (t0 = 0)) s1.spr
  obtain ⟨B, h3, e3, gB, s3⟩ := law_form_ok (w := w) (n + 3) h2 (decide (t0 = 0)) s2.spr
  have m3 := law_met_ok (w := w) (n + 4) A.lot B.lot h3 (gA.G.S (by omega)) (gB.G.S (by omega))
  obtain ⟨kd, h4, e4, _, _, s4⟩ := flow_ok (w := w) (n + 5) h3 5 s3.spr (by omega) (sz_small (k := 60) (by decide) (by omega))
  have x4 := ((((Spx.refl hs).go s1).go s2).go s3).go s4
  rw [u41]
  have plain : ∀ C, FmS C → True := fun _ _ => trivial
  by_cases c : ∃ l, metF A.lot B.lot = some l ∧ kd < 4
  · obtain ⟨l, el, ck⟩ := c
    have lb := metF_B gA.B gB.B el
    obtain ⟨t5, h5, e5, p5, q5, s5⟩ := flow_ok (w := w) (n + 5) h4 9 s4.spr (by omega) (sz_small (k := 60) (by decide) (by omega))
    have k5 : mulOk l.2 (t5 - 4) = true := sz_mul (sz_of lb.2.2 (by omega)) (sz_of (k := 10) (by omega) (by omega))
    have xb : (l.1 + l.2 * (t5 - 4)).natAbs < 2 ^ 1500 := by
      have z1 : (l.2 * (t5 - 4)).natAbs < 2 ^ 140 := Nat.lt_of_lt_of_le (nat_mul_lt lb.2.2 (l := 10) (by omega)) (pw (by omega))
      have z2 : l.1.natAbs < 2 ^ 140 := Nat.lt_of_lt_of_le lb.2.1 (pw (by omega))
      exact Nat.lt_of_lt_of_le (nat_add_lt z2 z1) (pw (by omega))
    have m6 := law_led_ok (w := w) (n + 5) A (l.1 + l.2 * (t5 - 4)) h5 gA.S xb
    obtain ⟨C1, a1, _, _, S1⟩ := stA_ok (w := w) (n := n + 6) (l := lotD l) (x := .int (l.1 + l.2 * (t5 - 4))) (y := .int (ledF A (l.1 + l.2 * (t5 - 4)))) (g := .bl (decide (t0 = 0))) (k := kd) (h := h5) gA gB
    obtain ⟨C2, a2, S2⟩ := stB_ok (w := w) (n := n + 5) (A := A) (l := lotD l) (k := kd) (x := l.1 + l.2 * (t5 - 4)) (y := ledF A (l.1 + l.2 * (t5 - 4))) (g := .bl (decide (t0 = 0))) (h := h5) S1 xb
    obtain ⟨C3, a3, S3⟩ := stC_ok (w := w) (n := n + 6) (l := lotD l) (k := kd) (x := l.1 + l.2 * (t5 - 4)) (y := ledF A (l.1 + l.2 * (t5 - 4))) (g := .bl (decide (t0 = 0))) (h := h5) gA.S S2
    obtain ⟨g1, g2, g3, h', b1, b2, b3, f1, f2⟩ := forms_tail (w := w) n hs (x4.go s5) gA S3 hw
    have m5 := law_meeting_ok (w := w) (n + 3) A C3 h5 gA.S S3
    refine ⟨h', ?_, f2⟩
    unfold lotD Fm.lot at m3
    unfold Fm.lot at el
    rw [el] at m3
    unfold dlt at a1 a2 a3
    simp [runF, forms_body, startS, evSs, evS, evE, evEs, evT, evI, e1, e2, e3, formD_pers, formD_box, fI, m3, optD_lot, lotD_box, lotD_pers, lotD_at0, lotD_at1, ck, e4, e5, k5, m6, a1, a2, a3, m5, b1, b2, b3, endF, f1, box_opt, opt_pers, lotD_isNon]
  · obtain ⟨g1, g2, g3, h', a1, a2, a3, f1, f2⟩ := forms_tail (w := w) n hs x4 gA gB.S hw
    have m5 := law_meeting_ok (w := w) (n + 3) A B h4 gA.S gB.S
    refine ⟨h', ?_, f2⟩
    unfold lotD Fm.lot at m3
    cases el : metF A.lot B.lot with
    | none =>
      unfold Fm.lot at el
      rw [el] at m3
      simp [runF, _law_forms_ok, startS, evSs, evS, evE, evEs, evT, evI, e1, e2, e3, formD_pers, formD_box, fI, m3, optD_none, e4, m5, a1, a2, a3, endF, f1, box_opt, opt_pers, D.isNon]
    | some l =>
      have ck : ¬ kd < 4 := fun q => c ⟨l, el, q⟩
      unfold Fm.lot at el
      rw [el] at m3
      simp [runF, _law_forms_ok, startS, evSs, evS, evE, evEs, evT, evI, e1, e2, e3, formD_pers, formD_box, fI, m3, optD_lot, lotD_box, lotD_pers, ck, e4, m5, a1, a2, a3, endF, f1, box_opt, opt_pers, lotD, D.isNon]
end Lk01

namespace Lk01
open Ivy
theorem rt_fix2 {w : Nat} (n : Nat) (h : Hh) (A : Fm) (hs : Spr h) (hA : FmS A) (h0 : 0 ≤ A.f) (h1 : A.f < A.m) (hne : A.m ≠ A.t) (hw : 2 ^ 1000 ≤ w) :
    callF (Pr w) (n + 7) 31 [formD A] h = .ok (intO (fixF A)) h ∧ ∃ h', callF (Pr w) (n + 7) 33 [.ref 1, .str [102, 105, 120, 101, 100], formD A, .int 0, intO (fixF A)] h = .ok (.bl true) h' ∧ Sp h h' :=
  ⟨law_fixed_ok (n + 6) A h hA h0 h1 hne, rt_fixed n h A hs hA hw⟩
theorem fix_at {f m t q : Int} (h0 : 0 ≤ f) (h1 : f < m) (hne : m ≠ t) : fixF ⟨f, m, f + m * q - q * t, t⟩ = some (f + m * q) := by
  rw [fix_val (A := ⟨f, m, f + m * q - q * t, t⟩) h0 h1 hne]
  simp only
  have d0 : m - t ≠ 0 := by omega
  have e : f + m * q - q * t - f = (m - t) * q := by grind
  rw [e, if_pos (by rw [fmod_zero]; exact Int.dvd_mul_right ..), Int.mul_fdiv_cancel_left q d0]
  grind
theorem intO_some (x : Int) : intO (some x) = .int x := rfl
theorem intO_none : intO none = .non := rfl
theorem fixLit : fixF ⟨1, 6, 2, 4⟩ = none ∧ fixF ⟨1, 6, 3, 4⟩ = some 7 := by
  constructor
  · rw [fix_val (by decide) (by decide) (by decide)]
    decide
  · rw [fix_val (by decide) (by decide) (by decide)]
    decide
end Lk01

namespace Lk01
open Ivy
theorem tup4 (a b c d : Int) : D.tup [.int a, .int b, .int c, .int d] = formD ⟨a, b, c, d⟩ := rfl
theorem s60 {f m s t : Int} (m0 : 0 ≤ m) (hf : f.natAbs < 2 ^ 60) (hm : m.natAbs < 2 ^ 60) (h3 : s.natAbs < 2 ^ 60) (ht : t.natAbs < 2 ^ 60) : FmS ⟨f, m, s, t⟩ :=
  ⟨m0, Nat.lt_of_lt_of_le hf (pw (by omega)), Nat.lt_of_lt_of_le hm (pw (by omega)), Nat.lt_of_lt_of_le h3 (pw (by omega)), Nat.lt_of_lt_of_le ht (pw (by omega))⟩
theorem p60 : (2 : Nat) ^ 60 = 1152921504606846976 := by decide
@[simp] theorem srcD_lst {h : Hh} {xs : List D} : srcD h (.lst xs) = some ⟨xs, []⟩ := rfl
theorem evSs_cons {g : G} {s : St} {ss : List St} {δ δ2 : Sl} {h h2 : Hh} (e : evS g s δ h = .nx δ2 h2) : evSs g (s :: ss) δ h = evSs g ss δ2 h2 := by
  show (match evS g s δ h with
    | .nx δ2 h2 => evSs g ss δ2 h2
    | r => r) = _
  rw [e]
theorem evSs_app {g : G} : ∀ {ss ts : List St} {δ δ2 : Sl} {h h2 : Hh}, evSs g ss δ h = .nx δ2 h2 → evSs g (ss ++ ts) δ h = evSs g ts δ2 h2
  | [], ts, δ, δ2, h, h2, e => by
    have e : Rs.nx δ h = .nx δ2 h2 := e
    cases e
    rfl
  | s :: ss, ts, δ, δ2, h, h2, e => by
    have e : (match evS g s δ h with
      | .nx δ2 h2 => evSs g ss δ2 h2
      | r => r) = .nx δ2 h2 := e
    show (match evS g s δ h with
      | .nx δ2 h2 => evSs g (ss ++ ts) δ2 h2
      | r => r) = _
    cases q : evS g s δ h <;> rw [q] at e <;> first | exact evSs_app e | cases e
def stG : St := .ite (.or (.ex (.op .eq [(.op .mod [(.op .int [(.var 3)]), (.var 1)]), (.lit (.int 0))])) (.ex (.op .gt [(.op .abs [(.var 3)]), (.op .pow [(.lit (.int 10)), (.lit (.int 6))])]))) [.asg (.name 3) (.lit (.int 1))] []
def grF (M g0 : Int) : Int := if g0 % M = 0 ∨ 1000000 < g0.natAbs then 1 else g0
theorem stG_ok {w n : Nat} {M f g0 : Int} {a b c d : Option D} {h : Hh} (hM : 0 < M) : evS (gk w n) stG [some (.ref 1), some (.int M), some (.int f), some (.int g0), a, b, c, d] h = .nx [some (.ref 1), some (.int M), some (.int f), some (.int (grF M g0)), a, b, c, d] h := by
  have m0 : M ≠ 0 := by omega
  unfold grF
  by_cases c1 : g0 % M = 0
  · simp [stG, evSs, evS, evE, evEs, evT, fmod_pos hM, m0, c1]
  · by_cases c2 : 1000000 < g0.natAbs
    · have c3 : 1000000 < (if g0 < 0 then -g0 else g0) := by split <;> omega
      simp [stG, evSs, evS, evE, evEs, evT, fmod_pos hM, m0, c1, c2, c3]
    · have c3 : ¬ 1000000 < (if g0 < 0 then -g0 else g0) := by split <;> omega
      simp [stG, evSs, evS, evE, evEs, evT, fmod_pos hM, m0, c1, c2, c3]
theorem fixed_body : _law_fixed_ok.body.drop 3 = stG :: _law_fixed_ok.body.drop 4 := rfl
theorem fixed_loop {w : Nat} (n : Nat) (hw : 2 ^ 1000 ≤ w) {v1 v3 v4 : Option D} {f half : Int} (h2 : 2 ≤ half ∧ half ≤ 20) : ∀ (xs : List Int) (h : Hh), Spr h → (∀ x ∈ xs, x.natAbs < 2 ^ 60) →
    ∃ h', Sp h h' ∧ lpF [] (.name 5) [5, 6] (evSs (gk w (n + 7)) _law_fixed_ok_l1) (xs.map .int) [some (.ref 1), v1, some (.int f), v3, v4, none, none, some (.int half)] h = .nx [some (.ref 1), v1, some (.int f), v3, v4, none, none, some (.int half)] h'
  | [], h, hs, _ => ⟨h, hs.refl, by rw [List.map_nil, lpF_nil]; simp⟩
  | x :: xs, h, hs, hx => by
    have hx1 := hx x (List.mem_cons_self ..)
    have n0 : half ≠ 0 := by omega
    have r0 := Int.emod_nonneg f n0
    have r1 := Int.emod_lt_of_pos f (show 0 < half by omega)
    have k1 : mulOk 2 half = true := by unfold mulOk; simp
    have := p60
    obtain ⟨e1, h1, e2, s1⟩ := rt_fix2 (w := w) n h ⟨f % half, 2 * half, x, half⟩ hs (s60 (by omega) (by omega) (by omega) hx1 (by omega)) (by simp only; omega) (by simp only; omega) (by simp only; omega) hw
    obtain ⟨h', s2, e3⟩ := fixed_loop n hw (v1 := v1) (v3 := v3) (v4 := v4) (f := f) h2 xs h1 s1.spr fun y hy => hx y (List.mem_cons_of_mem _ hy)
    refine ⟨h', s1.trans s2, ?_⟩
    generalize hfx : fixF ⟨f % half, 2 * half, x, half⟩ = fx at *
    have d1 : D.pers (intO fx) = true := intO_pers _
    unfold formD at e1 e2
    simp only at e1 e2
    rw [List.map_cons, lpF_go (δ1 := [some (.ref 1), v1, some (.int f), v3, v4, some (.int x), none, some (.int half)]) (h2 := h1) (δ2 := [some (.ref 1), v1, some (.int f), v3, v4, some (.int x), some (.tup [.int (f % half), .int (2 * half), .int x, .int half]), some (.int half)]) (by simp) (by
      simp [_law_fixed_ok_l1, evSs, evS, evE, evEs, evT, n0, fmod_pos (show 0 < half by omega), k1, e1, e2, box_int, d1])]
    simp only [wipe1, wipe0, List.set_cons_succ, List.set_cons_zero]
    exact e3
theorem law_fixed2_ok {w : Nat} (n : Nat) (h : Hh) (hs : Spr h) (hw : 2 ^ 1000 ≤ w) : ∃ h', callF (Pr w) (n + 8) 42 [.ref 1] h = .ok (.bl true) h' ∧ Sp h h' := by
  have P60 := p60
  obtain ⟨c1, h1, e1, m1, s1⟩ := among_ints (w := w) (n + 5) h [9, 1000000 - 1] hs (by simp) (by simp)
  have b1 : 0 < c1 ∧ c1 ≤ 1000000 := by simp at m1; omega
  have x1 := ((Spx.refl hs).app).go s1
  obtain ⟨t2, h2, e2, p2, q2, s2⟩ := flow_ok (w := w) (n + 6) h1 c1 s1.spr b1.1 (sz_small (k := 60) (by omega) (by omega))
  generalize hM : 2 + t2 = M at *
  have bM : 2 ≤ M ∧ M ≤ 1000002 := by omega
  obtain ⟨f, h3, e3, p3, q3, s3⟩ := flow_ok (w := w) (n + 6) h2 M s2.spr (by omega) (sz_small (k := 60) (by omega) (by omega))
  obtain ⟨t4, h4, e4, p4, q4, s4⟩ := flow_ok (w := w) (n + 6) h3 30 s3.spr (by omega) (sz_small (k := 60) (by decide) (by omega))
  obtain ⟨g0, h5, e5, m5, s5⟩ := among_ints (w := w) (n + 5) h4 [1, M - 1, M + 1, -1, 1 - M, 2 * M + 1, t4 - 15] s4.spr (by simp) (by simp)
  have b5 : g0.natAbs ≤ 3000000 := by simp at m5; omega
  have k5 : mulOk 2 M = true := by unfold mulOk; simp
  have G := stG_ok (w := w) (n := n + 7) (f := f) (g0 := g0) (a := none) (b := none) (c := none) (d := none) (h := h5) (show 0 < M by omega)
  have bg : (grF M g0).natAbs ≤ 1000000 ∧ M ≠ grF M g0 := by
    unfold grF
    split
    · omega
    · rename_i c
      refine ⟨by omega, fun q => c (.inl ?_)⟩
      rw [← q]; exact Int.emod_self
  generalize hg : grF M g0 = gr at *
  have x5 := ((((x1.go s2).go s3).go s4).app).go s5
  obtain ⟨t6, h6, e6, p6, q6, s6⟩ := flow_ok (w := w) (n + 6) h5 2001 s5.spr (by omega) (sz_small (k := 60) (by decide) (by omega))
  obtain ⟨q, hq⟩ : ∃ q, q = t6 - 1000 := ⟨_, rfl⟩
  have bq : q.natAbs ≤ 1001 := by omega
  have k6 : mulOk M (t6 - 1000) = true := sz_mul (sz_small (k := 60) (by omega) (by omega)) (sz_small (k := 60) (by omega) (by omega))
  rw [← hq] at k6
  have bMq : (M * q).natAbs ≤ 1000002 * 1001 := by rw [Int.natAbs_mul]; exact Nat.mul_le_mul (by omega) bq
  have bqg : (q * gr).natAbs ≤ 1001 * 1000000 := by rw [Int.natAbs_mul]; exact Nat.mul_le_mul bq bg.1
  have dv : (f + M * q - f).fdiv M = q := by
    rw [show f + M * q - f = M * q by omega, Int.mul_fdiv_cancel_left q (by omega)]
  have k7 : mulOk q gr = true := sz_mul (sz_small (k := 60) (by omega) (by omega)) (sz_small (k := 60) (by omega) (by omega))
  have fxv := fix_at (q := q) p3 q3 bg.2
  obtain ⟨-, h7, e7, s7⟩ := rt_fix2 (w := w) n h6 ⟨f, M, f + M * q - q * gr, gr⟩ s6.spr (s60 (by omega) (by omega) (by omega) (by omega) (by omega)) (by simp only; omega) (by simp only; omega) bg.2 hw
  rw [fxv] at e7
  obtain ⟨t8, h8, e8, m8, s8⟩ := among_ints (w := w) (n + 5) h7 [1, -1, 2, 5] s7.spr (by simp) (by simp)
  have b8 : t8.natAbs ≤ 5 := by simp at m8; omega
  have x8 := (((x5.go s6).go s7).app).go s8
  obtain ⟨e9, h9, e10, s9⟩ := rt_fix2 (w := w) n h8 ⟨f, M, f + M * q - q * gr + t8, gr⟩ s8.spr (s60 (by omega) (by omega) (by omega) (by omega) (by omega)) (by simp only; omega) (by simp only; omega) bg.2 hw
  generalize hfx : fixF ⟨f, M, f + M * q - q * gr + t8, gr⟩ = fx at *
  have dfx : D.pers (intO fx) = true := intO_pers _
  obtain ⟨t11, h11, e11, p11, q11, s11⟩ := flow_ok (w := w) (n + 6) h9 8 s9.spr (by omega) (sz_small (k := 60) (by decide) (by omega))
  generalize hH : 2 + t11 = H at *
  have bH : 2 ≤ H ∧ H ≤ 20 := by omega
  have H0 : H ≠ 0 := by omega
  have hp : 0 < H := by omega
  have r0 := Int.emod_nonneg f H0
  have r1 := Int.emod_lt_of_pos f hp
  have hdiv : H / 2 ≤ 20 ∧ 0 ≤ H / 2 := by omega
  obtain ⟨h12, s12, e12⟩ := fixed_loop (w := w) n hw (v1 := some (.int M)) (v3 := some (.int gr)) (v4 := some (.int (f + M * q))) (f := f) bH [f % H, f % H + H / 2, f % H + H] h11 s11.spr (by
    intro x hx
    simp at hx
    omega)
  have l1 := fixLit
  obtain ⟨-, h13, e13, s13⟩ := rt_fix2 (w := w) n h12 ⟨1, 6, 2, 4⟩ s12.spr (s60 (by omega) (by omega) (by omega) (by omega) (by omega)) (by decide) (by decide) (by decide) hw
  rw [l1.1] at e13
  obtain ⟨-, h14, e14, s14⟩ := rt_fix2 (w := w) n h13 ⟨1, 6, 3, 4⟩ s13.spr (s60 (by omega) (by omega) (by omega) (by omega) (by omega)) (by decide) (by decide) (by decide) hw
  rw [l1.2] at e14
  obtain ⟨h', f1, f2⟩ := fin_ok (d := .bl true) hs (((((x8.go s9).go s11).go s12).go s13).go s14) (by simp [D.low]) rfl
  refine ⟨h', ?_, f2⟩
  unfold formD at e7 e9 e10 e13 e14
  simp only [intO_some, intO_none] at e7 e9 e10 e13 e14
  simp at e1 e5 e8 e12
  have bd : M.natAbs < bigD := sz_bigD (sz_small (k := 60) (by omega) (by omega))
  have M0 : M ≠ 0 := by omega
  have b2 : (2 : Nat) < bigD := Nat.lt_of_lt_of_le (by decide : (2 : Nat) < 2 ^ 2) (pw (by omega))
  have body : _law_fixed_ok = ⟨1, 8, _law_fixed_ok.body.take 3 ++ stG :: _law_fixed_ok.body.drop 4⟩ := rfl
  rw [u42]
  have st : evSs (gk w (n + 7)) (_law_fixed_ok.body.drop 4) [some (.ref 1), some (.int M), some (.int f), some (.int gr), none, none, none, none] h5 = .ret (.bl true) h14 := by
    simp [_law_fixed_ok, evSs, evS, evE, evEs, evT, evI, e6, ← hq, k6, dv, M0, bd, k7, e7, e8, e9, e10, box_int, dfx, e11, hH, H0, fmod_pos hp, fdiv_pos (show (0 : Int) < 2 by decide), b2, e12, e13, e14]
  have pre : evSs (gk w (n + 7)) (_law_fixed_ok.body.take 3) [some (.ref 1), none, none, none, none, none, none, none] h = .nx [some (.ref 1), some (.int M), some (.int f), some (.int g0), none, none, none, none] h5 := by
    simp [_law_fixed_ok, evSs, evS, evE, evEs, evT, evI, e1, e2, e3, e4, e5, hM, k5]
  have all : evSs (gk w (n + 7)) (_law_fixed_ok.body.take 3 ++ stG :: _law_fixed_ok.body.drop 4) [some (.ref 1), none, none, none, none, none, none, none] h = .ret (.bl true) h14 := by
    rw [evSs_app pre, evSs_cons G, st]
  rw [body]
  show endF h (evSs (gk w (n + 7)) (_law_fixed_ok.body.take 3 ++ stG :: _law_fixed_ok.body.drop 4) [some (.ref 1), none, none, none, none, none, none, none] h) = _
  rw [all]
  exact f1
end Lk01

namespace Lk01
open Ivy
theorem Spx.pre {h h' g : Hh} (x : Sp h h') (y : Spx h' g) : Spx h g := ⟨by rw [← x.len]; exact y.len, fun i h2 hi => (y.off i h2 (by rw [x.len]; exact hi)).trans (x.off i h2), y.spr⟩
/-- right, what is asked knows the heap -/
theorem right_ok2 {w : Nat} (n : Nat) (h : Hh) (wd : Tx) (a b v : D) (hs : Spr h) (pa : D.pers a = true) (pb : D.pers b = true) (pv : D.pers v = true)
    (hask : ∀ g last, Spx h g → last = [] ∨ last = sNamed → callF (Pr w) (n + 2) 32 [.str wd, a, b, .str last] g = .ok (.tup [.str sTold, v]) g) (hsame : ∀ g, callF (Pr w) (n + 2) 24 [v, v] g = .ok (.bl true) g) :
    ∃ h', callF (Pr w) (n + 3) 33 [.ref 1, .str wd, a, b, v] h = .ok (.bl true) h' ∧ Sp h h' := by
  have l2 := hs.len
  obtain ⟨d, h1, e1, dm, sp⟩ := among_ok (w := w) n (h ++ [.lst [.str [], .str [], .str sNamed]]) h.length [.str [], .str [], .str sNamed] hs.app (by simp) l2 (by simp) (by simp) (by
    intro d hd
    simp at hd
    rcases hd with rfl | rfl <;> simp [D.low, isRef])
  have x1 : Spx h h1 := ((Spx.refl hs).app).go sp
  obtain ⟨last, rfl, hl⟩ : ∃ last, d = .str last ∧ (last = [] ∨ last = sNamed) := by
    simp at dm
    rcases dm with rfl | rfl
    · exact ⟨_, rfl, .inl rfl⟩
    · exact ⟨_, rfl, .inr rfl⟩
  have e2 := hask h1 last x1 hl
  have e3 := hsame h1
  obtain ⟨h', f1, f2⟩ := fin_ok (d := .bl true) hs x1 (by simp [D.low]) rfl
  refine ⟨h', ?_, f2⟩
  rw [u33]
  unfold sTold sNamed at *
  simp [runF, _law_right, startS, evSs, evS, evE, evEs, evT, pa, pb, pv, e1, e2, e3, endF, f1]
theorem rt_is2 {w : Nat} (n : Nat) (h : Hh) (d : D) (b : Bool) (hs : Spr h) (hd : D.pers d = true) (e : ∀ g, Spx h g → callF (Pr w) (n + 3) 6 [d] g = .ok (.bl b) g) :
    ∃ h', callF (Pr w) (n + 5) 33 [.ref 1, .str [105, 115], d, .int 0, .bl b] h = .ok (.bl true) h' ∧ Sp h h' :=
  right_ok2 (n + 2) h _ _ _ _ hs hd rfl rfl (fun g last sg hl => ask_is (n := n + 3) hd rfl ⟨e g sg, rfl, rfl⟩ hl) (fun g => same_bl (n + 3) _ g)
/-! ### is_lot of other things -/
def Sc : D → Prop
  | .non => True
  | .bl _ => True
  | .int _ => True
  | .str _ => True
  | .tup _ => True
  | _ => False
def isI : D → Bool
  | .int _ => true
  | _ => false
theorem isint_any {w : Nat} (n : Nat) (d : D) (hd : Sc d) (h : Hh) : callF (Pr w) (n + 1) 4 [d] h = .ok (.bl (isI d)) h := by
  rw [u4]
  cases d <;> first | (cases hd; done) | simp [runF, is_integer, startS, evSs, evS, evE, evEs, evT, tyIs, isB, isI]
theorem nottup_ok {w : Nat} (n : Nat) (d : D) (k : Int) (h : Hh) {t : Ty} (hd : D.pers d = true) (ht : tyD h d = some (.inl t)) (hn : isB t .tuple = false) : callF (Pr w) (n + 1) 5 [d, .int k] h = .ok (.bl false) h := by
  rw [u5]
  simp [runF, is_tuple, startS, evSs, evS, evE, evEs, evT, tyIs, ht, hn]
theorem nolot_ty {w : Nat} (n : Nat) (d : D) (h : Hh) {t : Ty} (hd : D.pers d = true) (ht : tyD h d = some (.inl t)) (hn : isB t .tuple = false) : callF (Pr w) (n + 2) 6 [d] h = .ok (.bl false) h := by
  have e := nottup_ok (w := w) n d 2 h hd ht hn
  rw [u6]
  simp [runF, is_lot, startS, evSs, evS, evE, evEs, evT, hd, e]
theorem nolot_len {w : Nat} (n : Nat) (ds : List D) (h : Hh) (hl : ds.length ≠ 2) : callF (Pr w) (n + 2) 6 [.tup ds] h = .ok (.bl false) h := by
  have e := istup_ok (w := w) n ds 2 h
  have : decide ((ds.length : Int) = 2) = false := decide_eq_false (by omega)
  rw [this] at e
  rw [u6]
  simp [runF, is_lot, startS, evSs, evS, evE, evEs, evT, e]
theorem all2 {s : Nat → Nat → Bool} {h : Hh} {p q : Bool} : opApp s .all [.lst [.bl p, .bl q]] h = .ok (.bl (p && q)) h := by cases p <;> cases q <;> rfl
theorem Sc.p {d : D} (h : Sc d) : D.pers d = true := by cases d <;> first | rfl | cases h
theorem nolot_pair {w : Nat} (n : Nat) (x y : D) (h : Hh) (hx : Sc x) (hy : Sc y) (hi : (isI x && isI y) = false) : callF (Pr w) (n + 2) 6 [.tup [x, y]] h = .ok (.bl false) h := by
  have e := istup_ok (w := w) n [x, y] 2 h
  simp at e
  have i1 := isint_any (w := w) n x hx h
  have i2 := isint_any (w := w) n y hy h
  rw [u6]
  simp [runF, is_lot, startS, evSs, evS, evE, evEs, evT, evTs, evI, e, lpC, gdOk, i1, i2, all2, hx.p, hy.p, hi]
theorem lot_pair {w : Nat} (n : Nat) (x y : Int) (h : Hh) : callF (Pr w) (n + 2) 6 [.tup [.int x, .int y]] h = .ok (.bl (decide (0 ≤ y) && (decide (y = 0) || (decide (0 ≤ x) && decide (x < y))))) h := by
  have e := istup_ok (w := w) n [.int x, .int y] 2 h
  simp at e
  have i1 := isint_ok (w := w) n x h
  have i2 := isint_ok (w := w) n y h
  rw [u6]
  by_cases c : y < 0
  · have : ¬ 0 ≤ y := by omega
    simp [runF, is_lot, startS, evSs, evS, evE, evEs, evT, evTs, evI, e, lpC, gdOk, i1, i2, all2, c, this]
  · have : 0 ≤ y := by omega
    by_cases z : y = 0
    · subst z
      simp [runF, is_lot, startS, evSs, evS, evE, evEs, evT, evTs, evI, e, lpC, gdOk, i1, i2, all2]
    · by_cases z2 : 0 ≤ x
      · simp [runF, is_lot, startS, evSs, evS, evE, evEs, evT, evTs, evI, e, lpC, gdOk, i1, i2, all2, z, c, this, z2]
      · simp [runF, is_lot, startS, evSs, evS, evE, evEs, evT, evTs, evI, e, lpC, gdOk, i1, i2, all2, z, c, this, z2]
theorem gd_one {h : Hh} {r : Nat} {xs : List D} (e : h[r]? = some (.lst xs)) : gdOk h [(r, .lst xs)] = true := by
  simp [gdOk, e, cbeq_refl]
theorem nolots_loop1 {w : Nat} (n : Nat) {v1 v2 v3 : Option D} {r : Nat} {all : List D} (hr : 2 ≤ r) : ∀ (ds : List D) (h : Hh), Spr h → h[r]? = some (.lst all) → (∀ d ∈ ds, D.pers d = true ∧ ∀ g, Spx h g → callF (Pr w) (n + 3) 6 [d] g = .ok (.bl false) g) →
    ∃ h', Sp h h' ∧ lpF [(r, .lst all)] (.name 4) [4] (evSs (gk w (n + 5)) _law_no_lots_l1) ds [some (.ref 1), v1, v2, v3, none, none] h = .nx [some (.ref 1), v1, v2, v3, none, none] h'
  | [], h, hs, ha, _ => ⟨h, hs.refl, by
    show (if gdOk h [(r, .lst all)] = true then _ else _) = _
    rw [if_pos (gd_one ha)]; rfl⟩
  | d :: ds, h, hs, ha, hd => by
    obtain ⟨p, e⟩ := hd d (List.mem_cons_self ..)
    obtain ⟨h1, e1, s1⟩ := rt_is2 (w := w) n h d false hs p e
    obtain ⟨h', s2, e2⟩ := nolots_loop1 n (v1 := v1) (v2 := v2) (v3 := v3) hr ds h1 s1.spr ((s1.off r hr).trans ha) fun x hx => ⟨(hd x (List.mem_cons_of_mem _ hx)).1, fun g hg => (hd x (List.mem_cons_of_mem _ hx)).2 g (Spx.pre s1 hg)⟩
    refine ⟨h', s1.trans s2, ?_⟩
    show (if gdOk h [(r, .lst all)] = true then _ else _) = _
    rw [if_pos (gd_one ha)]
    simp only [g_name', p, if_true, List.set_cons_succ, List.set_cons_zero]
    have b : evSs (gk w (n + 5)) _law_no_lots_l1 [some (.ref 1), v1, v2, v3, some d, none] h = .nx [some (.ref 1), v1, v2, v3, some d, none] h1 := by
      simp [_law_no_lots_l1, evSs, evS, evE, evEs, evT, p, e1]
    rw [b]
    exact e2
theorem nolots_loop2 {w : Nat} (n : Nat) {v1 v2 v3 : Option D} : ∀ (ds : List D) (h : Hh), Spr h → (∀ d ∈ ds, D.pers d = true ∧ ∀ g, callF (Pr w) (n + 3) 6 [d] g = .ok (.bl true) g) →
    ∃ h', Sp h h' ∧ lpF [] (.name 5) [5] (evSs (gk w (n + 5)) _law_no_lots_l2) ds [some (.ref 1), v1, v2, v3, none, none] h = .nx [some (.ref 1), v1, v2, v3, none, none] h'
  | [], h, hs, _ => ⟨h, hs.refl, by rw [lpF_nil]; simp⟩
  | d :: ds, h, hs, hd => by
    obtain ⟨p, e⟩ := hd d (List.mem_cons_self ..)
    obtain ⟨h1, e1, s1⟩ := rt_is2 (w := w) n h d true hs p fun g _ => e g
    obtain ⟨h', s2, e2⟩ := nolots_loop2 n (v1 := v1) (v2 := v2) (v3 := v3) ds h1 s1.spr fun x hx => hd x (List.mem_cons_of_mem _ hx)
    refine ⟨h', s1.trans s2, ?_⟩
    rw [lpF_go (δ1 := [some (.ref 1), v1, v2, v3, none, some d]) (h2 := h1) (δ2 := [some (.ref 1), v1, v2, v3, none, some d]) (by simp [p]) (by
      simp [_law_no_lots_l2, evSs, evS, evE, evEs, evT, p, e1])]
    exact e2
theorem o_addL {s : Nat → Nat → Bool} {h : Hh} {n : Nat} {xs ys : List D} (e : h[n]? = some (.lst xs)) : opApp s .add [.ref n, .lst ys] h = whenR (decide (xs.length + ys.length ≤ cells)) (.ok (.lst (xs ++ ys)) h) := by
  show opAdd h (.ref n) (.lst ys) = _
  unfold opAdd
  simp [lmD, e]
theorem src_ref {h : Hh} {n : Nat} {xs : List D} (e : h[n]? = some (.lst xs)) : srcD h (.ref n) = some ⟨xs, [(n, .lst xs)]⟩ := by
  show srcL h (.ref n) = _
  unfold srcL
  simp [e]
theorem o_addR {s : Nat → Nat → Bool} {h : Hh} {n : Nat} {ys : List D} : opApp s .add [.ref n, .lst ys] h = (match h[n]? with
    | some (.lst xs) => whenR (decide (xs.length + ys.length ≤ cells)) (.ok (.lst (xs ++ ys)) h)
    | _ => .no) := by
  show opAdd h (.ref n) (.lst ys) = _
  unfold opAdd
  simp only [lmD]
  cases q : h[n]? with
  | none => rfl
  | some c => cases c <;> rfl
theorem srcD_ref {h : Hh} {n : Nat} : srcD h (.ref n) = (match h[n]? with
    | some (.lst xs) => some ⟨xs, [(n, .lst xs)]⟩
    | _ => none) := rfl
theorem o_strI {s : Nat → Nat → Bool} {h : Hh} {i : Int} (hi : i.natAbs < 1000) : opApp s .str [.int i] h = .ok (.str (strI i)) h := by
  show whenR (decide (i.natAbs.log2 < 1920)) (.ok (D.str (strI i)) h : R D) = _
  have : i.natAbs.log2 < 1920 := Nat.lt_of_le_of_lt (Nat.log2_le_self _) (by omega)
  simp [this]
theorem Spr.apps {h : Hh} (x : Spr h) (cs : List C) : Spr (h ++ cs) := by
  obtain ⟨ks, k, s, x⟩ := x
  have l1 := (List.getElem?_eq_some_iff.mp x.s1).1
  exact ⟨ks, k, s, ⟨by rw [List.getElem?_append_left (by omega)]; exact x.c, by rw [List.getElem?_append_left l1]; exact x.s1, x.pos, x.len, x.k0, x.s0, x.sl⟩⟩
theorem Spx.apps {h g : Hh} (x : Spx h g) (cs : List C) : Spx h (g ++ cs) := ⟨by have := x.len; simp; omega, fun i h2 hi => by
  rw [List.getElem?_append_left (by have := x.len; omega)]; exact x.off i h2 hi, x.spr.apps cs⟩
theorem law_no_lots_ok {w : Nat} (n : Nat) (h : Hh) (hs : Spr h) : ∃ h', callF (Pr w) (n + 6) 37 [.ref 1] h = .ok (.bl true) h' ∧ Sp h h' := by
  obtain ⟨t1, h1, e1, p1, q1, s1⟩ := flow_ok (w := w) (n + 4) h 30 hs (by omega) (sz_small (k := 60) (by decide) (by omega))
  generalize hM : 1 + t1 = M at *
  have P60 := p60
  obtain ⟨a, h2, e2, p2, q2, s2⟩ := flow_ok (w := w) (n + 4) h1 M s1.spr (by omega) (sz_small (k := 60) (by omega) (by omega))
  have x2 := ((Spx.refl hs).go s1).go s2
  have eS : ∀ g, opApp sub .str [.int M] g = .ok (.str (strI M)) g := fun g => o_strI (by omega)
  rw [u37]
  simp [runF, _law_no_lots, startS, evSs, evS, evE, evEs, evT, evI, e1, hM, e2, eS, o_addR, List.getElem?_append_right, srcD_ref]
  generalize hT : ([.tup [.int M, .int M], .tup [.int (-1), .int M], .tup [.int (a - M), .int M], .tup [.int (a + M), .int M], .tup [.int a, .int (-M)], .tup [.int 0, .int (-1)], .ref h2.length, .tup [.int a], .tup [.int a, .int M, .int 0], .tup [.int a, .str (strI M)], .tup [.non, .int M], .tup [.str [48], .int M], .tup [.int a, .non], .tup [.tup [.int a, .int M]], .int a, .str [97, 98], .non, .tup [], .tup [.bl false, .int M], .tup [.int 0, .bl true], .tup [.bl true, .int 0], .tup [.bl true, .int (M + 1)], .ref (h2.length + 3), .ref (h2.length + 3 + 1 + 2), .tup [.tup [.int a], .int M]] : List D) = T
  generalize hG : (h2 ++ [C.lst [.int a, .int M], .lst [.tup [.int M, .int M], .tup [.int (-1), .int M], .tup [.int (a - M), .int M], .tup [.int (a + M), .int M], .tup [.int a, .int (-M)], .tup [.int 0, .int (-1)], .ref h2.length, .tup [.int a]], .lst [.tup [.int M, .int M], .tup [.int (-1), .int M], .tup [.int (a - M), .int M], .tup [.int (a + M), .int M], .tup [.int a, .int (-M)], .tup [.int 0, .int (-1)], .ref h2.length, .tup [.int a], .tup [.int a, .int M, .int 0], .tup [.int a, .str (strI M)], .tup [.non, .int M], .tup [.str [48], .int M], .tup [.int a, .non], .tup [.tup [.int a, .int M]], .int a, .str [97, 98], .non], .lst [], .lst [.int a], .lst [.int M], .lst [.ref (h2.length + 3 + 1), .ref (h2.length + 3 + 1 + 1)], .lst T] : Hh) = G
  have Gg : ∀ k : Nat, G[h2.length + k]? = (G.drop h2.length)[k]? := fun k => by rw [List.getElem?_drop]
  have L2 := s2.spr.len
  have sG : Spr G := by rw [← hG]; exact s2.spr.apps _
  have x3 : Spx h G := by rw [← hG]; exact x2.apps _
  have r0 : G[h2.length]? = some (.lst [.int a, .int M]) := by rw [← hG]; simp
  have r3 : G[h2.length + 3]? = some (.lst []) := by rw [← hG]; simp [List.getElem?_append_right]
  have r6 : G[h2.length + 3 + 1 + 2]? = some (.lst [.ref (h2.length + 3 + 1), .ref (h2.length + 3 + 1 + 1)]) := by
    rw [show h2.length + 3 + 1 + 2 = h2.length + 6 by omega, ← hG, List.getElem?_append_right (by omega), Nat.add_sub_cancel_left]
    rfl
  have r7 : G[h2.length + 7]? = some (.lst T) := by rw [← hG]; simp [List.getElem?_append_right]
  have nr : ∀ (r : Nat) (xs : List D), 2 ≤ r → G[r]? = some (.lst xs) → ∀ g, Spx G g → callF (Pr w) (n + 3) 6 [.ref r] g = .ok (.bl false) g := fun r xs hr e g hg => by
    have e2 : g[r]? = some (.lst xs) := (hg.off r hr (List.getElem?_eq_some_iff.mp e).1).trans e
    exact nolot_ty (n + 1) _ g rfl (t := .list) (by simp [tyD, e2]) rfl
  have lp : ∀ (x y : Int) (g : Hh), ¬ (0 ≤ y ∧ (y = 0 ∨ (0 ≤ x ∧ x < y))) → callF (Pr w) (n + 3) 6 [.tup [.int x, .int y]] g = .ok (.bl false) g := fun x y g q => by
    rw [lot_pair (n + 1) x y g, ← Bool.decide_and, ← Bool.decide_or, ← Bool.decide_and, decide_eq_false q]
  have lt : ∀ (x y : Int) (g : Hh), (0 ≤ y ∧ (y = 0 ∨ (0 ≤ x ∧ x < y))) → callF (Pr w) (n + 3) 6 [.tup [.int x, .int y]] g = .ok (.bl true) g := fun x y g q => by
    rw [lot_pair (n + 1) x y g, ← Bool.decide_and, ← Bool.decide_or, ← Bool.decide_and, decide_eq_true q]
  obtain ⟨h3, s3, e3⟩ := nolots_loop1 (w := w) n (v1 := some (.int M)) (v2 := some (.int a)) (v3 := some (.ref (h2.length + 7))) (r := h2.length + 7) (all := T) (by omega) T G sG r7 (fun d hd => by
    rw [← hT] at hd
    simp only [List.mem_cons, List.not_mem_nil, or_false] at hd
    rcases hd with rfl | rfl | rfl | rfl | rfl | rfl | rfl | rfl | rfl | rfl | rfl | rfl | rfl | rfl | rfl | rfl | rfl | rfl | rfl | rfl | rfl | rfl | rfl | rfl | rfl
    · exact ⟨rfl, fun g hg => lp _ _ g (by omega)⟩
    · exact ⟨rfl, fun g hg => lp _ _ g (by omega)⟩
    · exact ⟨rfl, fun g hg => lp _ _ g (by omega)⟩
    · exact ⟨rfl, fun g hg => lp _ _ g (by omega)⟩
    · exact ⟨rfl, fun g hg => lp _ _ g (by omega)⟩
    · exact ⟨rfl, fun g hg => lp _ _ g (by omega)⟩
    · exact ⟨rfl, fun g hg => nr _ _ (by omega) r0 g hg⟩
    · exact ⟨rfl, fun g hg => nolot_len (n + 1) _ g (by simp)⟩
    · exact ⟨rfl, fun g hg => nolot_len (n + 1) _ g (by simp)⟩
    · exact ⟨rfl, fun g hg => nolot_pair (n + 1) _ _ g trivial trivial rfl⟩
    · exact ⟨rfl, fun g hg => nolot_pair (n + 1) _ _ g trivial trivial rfl⟩
    · exact ⟨rfl, fun g hg => nolot_pair (n + 1) _ _ g trivial trivial rfl⟩
    · exact ⟨rfl, fun g hg => nolot_pair (n + 1) _ _ g trivial trivial rfl⟩
    · exact ⟨rfl, fun g hg => nolot_len (n + 1) _ g (by simp)⟩
    · exact ⟨rfl, fun g hg => nolot_ty (n + 1) _ g (t := .int) rfl rfl rfl⟩
    · exact ⟨rfl, fun g hg => nolot_ty (n + 1) _ g (t := .str) rfl rfl rfl⟩
    · exact ⟨rfl, fun g hg => nolot_ty (n + 1) _ g (t := .none) rfl rfl rfl⟩
    · exact ⟨rfl, fun g hg => nolot_len (n + 1) _ g (by simp)⟩
    · exact ⟨rfl, fun g hg => nolot_pair (n + 1) _ _ g trivial trivial rfl⟩
    · exact ⟨rfl, fun g hg => nolot_pair (n + 1) _ _ g trivial trivial rfl⟩
    · exact ⟨rfl, fun g hg => nolot_pair (n + 1) _ _ g trivial trivial rfl⟩
    · exact ⟨rfl, fun g hg => nolot_pair (n + 1) _ _ g trivial trivial rfl⟩
    · exact ⟨rfl, fun g hg => nr _ _ (by omega) r3 g hg⟩
    · exact ⟨rfl, fun g hg => nr _ _ (by omega) r6 g hg⟩
    · exact ⟨rfl, fun g hg => nolot_pair (n + 1) _ _ g trivial trivial rfl⟩)
  obtain ⟨h4, s4, e4⟩ := nolots_loop2 (w := w) n (v1 := some (.int M)) (v2 := some (.int a)) (v3 := some (.ref (h2.length + 7))) [.tup [.int a, .int M], .tup [.int (-a - 1), .int 0], .tup [.int 0, .int 1], .tup [.int 0, .int 0], .tup [.int 100000000000000000000000000000, .int 0], .tup [.int 100000000000000000000000000000, .int 100000000000000000000000000001]] h3 s3.spr (fun d hd => by
    simp only [List.mem_cons, List.not_mem_nil, or_false] at hd
    rcases hd with rfl | rfl | rfl | rfl | rfl | rfl
    · exact ⟨rfl, fun g => lt _ _ g (by omega)⟩
    · exact ⟨rfl, fun g => lt _ _ g (by omega)⟩
    · exact ⟨rfl, fun g => lt _ _ g (by omega)⟩
    · exact ⟨rfl, fun g => lt _ _ g (by omega)⟩
    · exact ⟨rfl, fun g => lt _ _ g (by omega)⟩
    · exact ⟨rfl, fun g => lt _ _ g (by omega)⟩)
  obtain ⟨h', f1, f2⟩ := fin_ok (d := .bl true) hs ((x3.go s3).go s4) (by simp [D.low]) rfl
  refine ⟨h', ?_, f2⟩
  rw [e3]
  simp [e4, endF, f1]
end Lk01

namespace Lk01
open Ivy
/-! ### lots met one behind the other: where the last one stands, all stand -/
theorem metF_sub {a b c : Lot} (ha : 0 ≤ a.2) (hb : 0 ≤ b.2) (h : metF a b = some c) : 0 ≤ c.2 ∧ ∀ x, inF c x = true → inF a x = true ∧ inF b x = true := by
  by_cases za : a.2 = 0
  · unfold metF at h
    rw [if_pos za] at h
    split at h
    · rename_i q
      cases h
      refine ⟨ha, fun x hx => ?_⟩
      rw [inF_zero za] at hx
      have e : x = a.1 := of_decide_eq_true hx
      rw [e]
      exact ⟨inF_self a, q⟩
    · cases h
  · by_cases zb : b.2 = 0
    · unfold metF at h
      rw [if_neg za, if_pos zb] at h
      split at h
      · rename_i q
        cases h
        refine ⟨hb, fun x hx => ?_⟩
        rw [inF_zero zb] at hx
        have e : x = b.1 := of_decide_eq_true hx
        rw [e]
        exact ⟨q, inF_self b⟩
      · cases h
    · obtain ⟨e, _, _, m1, m2⟩ := metF_spec (by omega) (by omega) h
      have lp := lcm_pos (show 0 < a.2 by omega) (show 0 < b.2 by omega)
      refine ⟨by omega, fun x hx => ?_⟩
      rw [inF_pos (by omega), e] at hx
      rw [inF_pos za, inF_pos zb]
      constructor
      · have : x - a.1 = (x - c.1) + (c.1 - a.1) := by omega
        rw [this]; exact Int.dvd_add (Int.dvd_trans dvd_lcmL hx) m1
      · have : x - b.1 = (x - c.1) + (c.1 - b.1) := by omega
        rw [this]; exact Int.dvd_add (Int.dvd_trans dvd_lcmR hx) m2
theorem allF_sub : ∀ (ls : List Lot) (o : Option Lot) (c : Lot), (∀ a, o = some a → 0 ≤ a.2) → (∀ l ∈ ls, 0 ≤ l.2) → allF o ls = some c → ∀ x, inF c x = true → (∀ a, o = some a → inF a x = true) ∧ ∀ l ∈ ls, inF l x = true
  | [], o, c, _, _, e, x, hx => by
    have e : o = some c := e
    subst e
    exact ⟨fun a h => by cases h; exact hx, fun l h => by cases h⟩
  | l :: ls, o, c, ho, hl, e, x, hx => by
    have e : allF (o.bind fun a => metF a l) ls = some c := e
    have h1 := hl l (List.mem_cons_self ..)
    cases o with
    | none =>
      exfalso
      have : ∀ ls : List Lot, allF none ls = none := fun ls => by
        induction ls with
        | nil => rfl
        | cons l ls ih => exact ih
      rw [show ((none : Option Lot).bind fun a => metF a l) = none from rfl, this] at e
      cases e
    | some a =>
      have e : allF (metF a l) ls = some c := e
      obtain ⟨i1, i2⟩ := allF_sub ls (metF a l) c (fun b hb => (metF_sub (ho a rfl) h1 hb).1) (fun y hy => hl y (List.mem_cons_of_mem _ hy)) e x hx
      cases q : metF a l with
      | none =>
        exfalso
        rw [q] at e
        have : ∀ ls : List Lot, allF none ls = none := fun ls => by
          induction ls with
          | nil => rfl
          | cons l ls ih => exact ih
        rw [this] at e
        cases e
      | some b =>
        have i3 := (metF_sub (ho a rfl) h1 q).2 x (i1 b q)
        refine ⟨fun y hy => by cases hy; exact i3.1, fun y hy => ?_⟩
        rcases List.mem_cons.mp hy with rfl | hy
        · exact i3.2
        · exact i2 y hy
theorem allF_none {ls : List Lot} {a b : Lot} (hl : ∀ l ∈ ls, 0 ≤ l.2) (ha : a ∈ ls) (hb : b ∈ ls) (h : ∀ x, inF a x = true → inF b x = true → False) : allF (some (0, 1)) ls = none := by
  cases q : allF (some (0, 1)) ls with
  | none => rfl
  | some c =>
    obtain ⟨_, i⟩ := allF_sub ls (some (0, 1)) c (fun a h => by cases h; decide) hl q c.1 (inF_self c)
    exact (h c.1 (i a ha) (i b hb)).elim
theorem metF_one {k : Nat} {l : Lot} (h : LotG k l) : metF (0, 1) l = some l := by
  by_cases z : l.2 = 0
  · unfold metF
    rw [if_neg (show ¬ ((0, 1) : Lot).2 = 0 by decide), if_pos z, if_pos]
    rw [inF_pos (by decide)]
    exact Int.one_dvd _
  · have p : 0 < l.2 := by have := h.m0; omega
    have r : 0 ≤ l.1 ∧ l.1 < l.2 := h.ok.resolve_left z
    have lc : lcmF 1 l.2 = l.2 := by unfold lcmF; simp
    rw [metF_some (x := l.1) (by decide) z ⟨r.1, by show l.1 < lcmF 1 l.2; rw [lc]; exact r.2, Int.one_dvd _, by simp⟩]
    show some (l.1, lcmF 1 l.2) = _
    rw [lc]
theorem LotG.B {k : Nat} {a : Lot} (h : LotG k a) : LotB k a := ⟨h.m0, h.r, h.m⟩
/-! ### pieces of tuples -/
theorem cut_drop {α : Type} (xs : List α) (k : Nat) (h : k ≤ xs.length) : cut xs (some (k : Int)) none = xs.drop k := by
  simp only [cut, clip]
  rw [if_neg (by omega)]
  have : min ((k : Int).toNat) xs.length = k := by omega
  simp only [this]
  rw [List.take_of_length_le (by rw [List.length_drop]; omega)]
theorem cut_take {α : Type} (xs : List α) (k : Nat) (h : k ≤ xs.length) : cut xs none (some (k : Int)) = xs.take k := by
  simp only [cut, clip]
  rw [if_neg (by omega)]
  have : min ((k : Int).toNat) xs.length = k := by omega
  simp only [this]
  simp
/-! ### the loops -/
theorem ck_lst {h : Hh} {n : Nat} {xs : List D} (e : h[n]? = some (.lst xs)) : ckR 1 (.ref n) h = .ok (.ref n) h := by
  unfold ckR
  simp [e]
theorem o_append {s : Nat → Nat → Bool} {h : Hh} {n : Nat} {xs : List D} {d : D} (e : h[n]? = some (.lst xs)) : opApp s .append [.ref n, d] h = whenR (D.pers d && decide (xs.length < cells)) (.ok .non (h.set n (.lst (xs ++ [d])))) := by
  show (match h[n]? with
    | some (.lst xs) => whenR (D.pers d && decide (xs.length < cells)) (chg h n (xs ++ [d]) .non)
    | _ => .no) = _
  rw [e]
  rfl
theorem Spx.set {h g : Hh} {c : C} {r : Nat} (h0 : Spr h) (x : Spx h g) (hr : h.length ≤ r) : Spx h (g.set r c) := by
  have l2 := h0.len
  refine ⟨by rw [List.length_set]; exact x.len, fun i h2 hi => by rw [List.getElem?_set_ne (by omega)]; exact x.off i h2 hi, ?_⟩
  obtain ⟨cs, k, s, y⟩ := x.spr
  exact ⟨cs, k, s, ⟨by rw [List.getElem?_set_ne (by omega)]; exact y.c, by rw [List.getElem?_set_ne (by omega)]; exact y.s1, y.pos, y.len, y.k0, y.s0, y.sl⟩⟩
def dmn (c : Int) (r : Nat) (mv : Int) (a b d : Option D) : Sl := [some (.ref 1), some (.int c), some (.ref r), some (.int mv), a, b, d, none, none, none, none, none, none, none, none]
def stAt : St := .asg (.name 6) (.box (.op .add [(.var 1), (.ifx (.and (.ex (.op .gt [(.var 3), (.lit (.int 0))])) (.ex (.op .eq [(.call 21 [(.var 0), (.op .sub [(.lit (.int 4)), (.var 3)])] []), (.lit (.int 0))]))) (.lit (.int 1)) (.lit (.int 0)))]))
theorem stAt_ok {w n : Nat} {c mv : Int} {r : Nat} {a b : Option D} {h : Hh} (hs : Spr h) (hc : c.natAbs ≤ 200) (hm : mv = 0 ∨ mv = 1 ∨ mv = 3) : ∃ (A : Int) (h' : Hh), A.natAbs ≤ 201 ∧ Sp h h' ∧ evS (gk w (n + 6)) stAt (dmn c r mv a b none) h = .nx (dmn c r mv a b (some (.int A))) h' := by
  by_cases p : 0 < mv
  · obtain ⟨t, h1, e1, _, _, s1⟩ := flow_ok (w := w) (n + 5) h (4 - mv) hs (by omega) (sz_small (k := 60) (by have := p60; omega) (by omega))
    by_cases z : t = 0
    · refine ⟨c + 1, h1, by omega, s1, ?_⟩
      simp [stAt, dmn, evSs, evS, evE, evEs, evT, p, e1, z]
    · refine ⟨c, h1, by omega, s1, ?_⟩
      simp [stAt, dmn, evSs, evS, evE, evEs, evT, p, e1, z]
  · refine ⟨c, h, by omega, hs.refl, ?_⟩
    simp [stAt, dmn, evSs, evS, evE, evEs, evT, p]
theorem many_loop1 {w : Nat} (n : Nat) {h0 : Hh} {c mv : Int} {r : Nat} (s0 : Spr h0) (hc : c.natAbs ≤ 200) (hm : mv = 0 ∨ mv = 1 ∨ mv = 3) (hr : h0.length ≤ r) : ∀ (xs : List D) (h : Hh) (ls : List Lot), (∀ x ∈ xs, D.pers x = true) → Spx h0 h → h[r]? = some (.lst (ls.map lotD)) → (∀ l ∈ ls, LotG 20 l) → ls.length + xs.length ≤ 10 →
    ∃ (ls' : List Lot) (h' : Hh), Spx h0 h' ∧ h'[r]? = some (.lst (ls'.map lotD)) ∧ (∀ l ∈ ls', LotG 20 l) ∧ ls'.length = ls.length + xs.length ∧ lpF [] (.name 4) [4, 5, 6] (evSs (gk w (n + 6)) _law_many_ok_l1) xs (dmn c r mv none none none) h = .nx (dmn c r mv none none none) h'
  | [], h, ls, _, x, e, g, _ => ⟨ls, h, x, e, g, rfl, by rw [lpF_nil]; simp [dmn, wipeS]⟩
  | y :: ys, h, ls, hp, x, e, g, hl => by
    have P20 : (2 : Nat) ^ 20 = 1048576 := by decide
    rw [List.length_cons] at hl
    have l2 := s0.len
    have py := hp y (List.mem_cons_self ..)
    obtain ⟨t1, h1, e1, p1, q1, s1⟩ := flow_ok (w := w) (n + 5) h 12 x.spr (by omega) (sz_small (k := 60) (by decide) (by omega))
    obtain ⟨A, h2, bA, s2, e2⟩ := stAt_ok (w := w) (n := n) (r := r) (a := some y) (b := some (.int (1 + t1))) s1.spr hc hm
    have r2 : h2[r]? = some (.lst (ls.map lotD)) := (s2.off r (by omega)).trans ((s1.off r (by omega)).trans e)
    obtain ⟨t3, h3, e3, p3, q3, s3⟩ := flow_ok (w := w) (n + 5) h2 9 s2.spr (by omega) (sz_small (k := 60) (by decide) (by omega))
    have r3 : h3[r]? = some (.lst (ls.map lotD)) := (s3.off r (by omega)).trans r2
    have k2 := ck_lst r2
    have m0 : 1 + t1 ≠ 0 := by omega
    have mp : 0 < 1 + t1 := by omega
    have a0 := Int.emod_nonneg A m0
    have a1 := Int.emod_lt_of_pos A mp
    obtain ⟨l, gl, el⟩ : ∃ l : Lot, LotG 20 l ∧ l = (if t3 = 0 then (A, 0) else (A % (1 + t1), 1 + t1)) := by
      refine ⟨_, ?_, rfl⟩
      split
      · exact ⟨Int.le_refl _, .inl rfl, by simp only; omega, by simp⟩
      · exact ⟨by simp only; omega, .inr ⟨a0, a1⟩, by simp only; omega, by simp only; omega⟩
    have ap := o_append (s := sub) (d := lotD l) r3
    have hmn : D.pers (lotD l) = true := rfl
    rw [hmn] at ap
    simp [show ls.length < 16777216 by omega] at ap
    have r4 : (h3.set r (.lst (ls.map lotD ++ [lotD l])))[r]? = some (.lst ((ls ++ [l]).map lotD)) := by
      rw [List.getElem?_set_self (List.getElem?_eq_some_iff.mp r3).1, List.map_append]; rfl
    have x3 := ((x.go s1).go s2).go s3
    obtain ⟨ls', h', a1', a2, a3, a4, a5⟩ := many_loop1 n s0 hc hm hr ys _ (ls ++ [l]) (fun z hz => hp z (List.mem_cons_of_mem _ hz)) (x3.set s0 hr (c := .lst (ls.map lotD ++ [lotD l]))) r4 (fun z hz => by
      rcases List.mem_append.mp hz with q | q
      · exact g z q
      · simp at q; subst q; exact gl) (by simp; omega)
    refine ⟨ls', h', a1', a2, a3, by rw [a4]; simp; omega, ?_⟩
    have body : evSs (gk w (n + 6)) _law_many_ok_l1 (dmn c r mv (some y) none none) h = .nx (dmn c r mv (some y) (some (.int (1 + t1))) (some (.int A))) (h3.set r (.lst (ls.map lotD ++ [lotD l]))) := by
      have e0 : _law_many_ok_l1 = [.asg (.name 5) (.box (.op .add [(.lit (.int 1)), (.call 21 [(.var 0), (.lit (.int 12))] [])])), stAt, .ex (.op .append [(.ck 1 (.var 2)), (.ifx (.ex (.op .eq [(.call 21 [(.var 0), (.lit (.int 9))] []), (.lit (.int 0))])) (.op .tup [(.var 6), (.lit (.int 0))]) (.op .tup [(.op .mod [(.op .int [(.var 6)]), (.var 5)]), (.var 5)]))])] := rfl
      rw [e0, evSs_cons (δ2 := dmn c r mv (some y) (some (.int (1 + t1))) none) (h2 := h1) (by simp [dmn, evSs, evS, evE, evEs, evT, e1]), evSs_cons e2]
      subst el
      unfold lotD at *
      by_cases z : t3 = 0
      · simp [z] at ap
        simp [dmn, evSs, evS, evE, evEs, evT, k2, e3, z, ap]
      · simp [z] at ap
        simp [dmn, evSs, evS, evE, evEs, evT, k2, e3, z, m0, fmod_pos mp, ap]
    rw [lpF_go (δ1 := dmn c r mv (some y) none none) (by simp [dmn, py]) body]
    exact a5
end Lk01

namespace Lk01
open Ivy
theorem many_loop2 {w : Nat} (n : Nat) {v0 v1 v2 v3 : Option D} {r : Nat} {all : List D} {h : Hh} (e : h[r]? = some (.lst all)) : ∀ (rs : List Lot) (k : Nat) (o : Option Lot), (∀ a, o = some a → LotB k a) → (∀ l ∈ rs, LotB 20 l) → k + 20 * rs.length ≤ 1000 →
    lpF [(r, .lst all)] (.name 8) [8] (evSs (gk w (n + 6)) _law_many_ok_l2) (rs.map lotD) [v0, v1, v2, v3, none, none, none, some (optD o), none, none, none, none, none, none, none] h =
      .nx [v0, v1, v2, v3, none, none, none, some (optD (allF o rs)), none, none, none, none, none, none, none] h
  | [], k, o, _, _, _ => by
    show (if gdOk h [(r, .lst all)] = true then _ else _) = _
    rw [if_pos (gd_one e)]; rfl
  | l :: ls, k, o, ho, hl, hk => by
    have hl1 := hl l (List.mem_cons_self ..)
    rw [List.length_cons] at hk
    have m : callF (Pr w) (n + 6) 27 [optD o, lotD l] h = .ok (optD (o.bind fun a => metF a l)) h := by
      cases o with
      | none => exact law_met_none (n + 5) _ h rfl
      | some a => exact law_met_ok (n + 4) a l h ((ho a rfl).S (by omega)) (hl1.S (by omega))
    have ih := many_loop2 (w := w) n (v0 := v0) (v1 := v1) (v2 := v2) (v3 := v3) e ls (k + 20) (o.bind fun a => metF a l) (fun c hc => by
      cases o with
      | none => cases hc
      | some a => exact metF_B (ho a rfl) hl1 hc) (fun x hx => hl x (List.mem_cons_of_mem _ hx)) (by omega)
    have body : evSs (gk w (n + 6)) _law_many_ok_l2 [v0, v1, v2, v3, none, none, none, some (optD o), some (lotD l), none, none, none, none, none, none] h = .nx [v0, v1, v2, v3, none, none, none, some (optD (o.bind fun a => metF a l)), some (lotD l), none, none, none, none, none, none] h := by
      simp [_law_many_ok_l2, evSs, evS, evE, evEs, evT, m, opt_pers, lotD_pers, box_opt]
    show (if gdOk h [(r, .lst all)] = true then _ else _) = _
    rw [if_pos (gd_one e)]
    simp only [g_name', lotD_pers, if_true, List.set_cons_succ, List.set_cons_zero]
    rw [body]
    exact ih
theorem many_loop3 {w : Nat} (n : Nat) (hw : 2 ^ 1000 ≤ w) {v1 v2 v3 v7 : Option D} : ∀ (ps : List (List Lot)) (h : Hh), Spr h → (∀ L ∈ ps, (∀ l ∈ L, LotB 20 l) ∧ L.length ≤ 40) →
    ∃ h', Sp h h' ∧ lpF [] (.tup [.name 9, .name 10]) [9, 10] (evSs (gk w (n + 6)) _law_many_ok_l3) (ps.map fun L => .tup [.tup (L.map lotD), optD (allF (some (0, 1)) L)]) [some (.ref 1), v1, v2, v3, none, none, none, v7, none, none, none, none, none, none, none] h =
      .nx [some (.ref 1), v1, v2, v3, none, none, none, v7, none, none, none, none, none, none, none] h'
  | [], h, hs, _ => ⟨h, hs.refl, by rw [List.map_nil, lpF_nil]; simp⟩
  | L :: ps, h, hs, hp => by
    obtain ⟨g, gl⟩ := hp L (List.mem_cons_self ..)
    obtain ⟨h1, e1, s1⟩ := rt_all (w := w) n h L hs g gl hw
    obtain ⟨h2, e2, s2⟩ := rt_clash (w := w) n h1 L s1.spr g hw
    have e3 := law_clash_ok (w := w) (n + 3) L h1 g
    obtain ⟨h', s3, e4⟩ := many_loop3 n hw (v1 := v1) (v2 := v2) (v3 := v3) (v7 := v7) ps h2 s2.spr fun x hx => hp x (List.mem_cons_of_mem _ hx)
    refine ⟨h', (s1.trans s2).trans s3, ?_⟩
    have pL := lots_pers L
    have pA := opt_pers (allF (some (0, 1)) L)
    have pC := opt_pers (clashF L)
    rw [List.map_cons, lpF_go (δ1 := [some (.ref 1), v1, v2, v3, none, none, none, v7, none, some (.tup (L.map lotD)), some (optD (allF (some (0, 1)) L)), none, none, none, none]) (h2 := h2) (δ2 := [some (.ref 1), v1, v2, v3, none, none, none, v7, none, some (.tup (L.map lotD)), some (optD (allF (some (0, 1)) L)), none, none, none, none]) (by simp [pA]) (by
      simp [_law_many_ok_l3, evSs, evS, evE, evEs, evT, pA, pC, e1, e2, e3, box_opt])]
    simp only [wipe1, wipe0, List.set_cons_succ, List.set_cons_zero]
    exact e4
def shut0 : List Lot := [(0, 4), (1, 3), (2, 5), (3, 4), (2, 4)]
def late0 (s : Int) : List Lot := [(0, 1), (s, 2), (0, 1), (s, 4), (1 - s, 2), (1 - s, 6)]
theorem smallG {r m : Int} (h : m = 0 ∨ (0 ≤ r ∧ r < m)) (h1 : r.natAbs ≤ 1000) (h2 : m.natAbs ≤ 1000) (h3 : 0 ≤ m) : LotG 20 (r, m) := by
  have P20 : (2 : Nat) ^ 20 = 1048576 := by decide
  exact ⟨h3, h, by simp only; omega, by simp only; omega⟩
theorem shut_G : ∀ l ∈ shut0, LotG 20 l := by
  intro l hl
  simp only [shut0, List.mem_cons, List.not_mem_nil, or_false] at hl
  rcases hl with rfl | rfl | rfl | rfl | rfl <;> exact smallG (by decide) (by decide) (by decide) (by decide)
theorem late_G {s : Int} (hs : s = 0 ∨ s = 1) : ∀ l ∈ late0 s, LotG 20 l := by
  intro l hl
  simp only [late0, List.mem_cons, List.not_mem_nil, or_false] at hl
  rcases hl with rfl | rfl | rfl | rfl | rfl | rfl <;> exact smallG (by omega) (by omega) (by omega) (by omega)
theorem inF_off {a m x : Int} (h : m ≠ 0) : inF (a, m) x = true ↔ m ∣ x - a := inF_pos (a := (a, m)) h
theorem shut_none {L : List Lot} (hl : ∀ l ∈ L, LotG 20 l) (h1 : (0, 4) ∈ L) (h2 : (2, 4) ∈ L) : allF (some (0, 1)) L = none :=
  allF_none (fun l h => (hl l h).m0) h1 h2 fun x q1 q2 => by
    rw [inF_off (by decide)] at q1 q2
    omega
theorem late_none {L : List Lot} {s : Int} (hs : s = 0 ∨ s = 1) (hl : ∀ l ∈ L, LotG 20 l) (h1 : (s, 2) ∈ L) (h2 : (1 - s, 2) ∈ L) : allF (some (0, 1)) L = none :=
  allF_none (fun l h => (hl l h).m0) h1 h2 fun x q1 q2 => by
    rw [inF_off (by decide)] at q1 q2
    omega
theorem isN_in {a b : Lot} (x : Int) (ha : 0 < a.2) (hb : 0 < b.2) (h1 : a.2 ∣ x - a.1) (h2 : b.2 ∣ x - b.1) : (metF a b).isNone = false := by
  obtain ⟨y, e, _⟩ := metF_of_in ha hb h1 h2
  rw [e]; rfl
theorem late_clash {s : Int} (hs : s = 0 ∨ s = 1) (k : Nat) (hk : k = 5 ∨ k = 6) : clashF ((late0 s).take k) = some (1, 4) := by
  have o1 : ∀ b : Lot, 0 < b.2 → (metF (0, 1) b).isNone = false := fun b hb => isN_in b.1 (by decide) hb (Int.one_dvd _) (by simp)
  have o2 : (metF (s, 2) (0, 1)).isNone = false := isN_in s (show (0 : Int) < 2 by decide) (by decide) (by simp) (Int.one_dvd _)
  have o3 : (metF (s, 2) (s, 4)).isNone = false := isN_in s (show (0 : Int) < 2 by decide) (show (0 : Int) < 4 by decide) (by simp) (by simp)
  have o4 : (metF (s, 2) (1 - s, 2)).isNone = true := by
    rw [metF_none (show (2 : Int) ≠ 0 by decide) (show (2 : Int) ≠ 0 by decide)]
    · rfl
    · show ¬ ((Int.gcd 2 2 : Nat) : Int) ∣ (1 - s) - s
      have : ((Int.gcd 2 2 : Nat) : Int) = 2 := by decide
      rw [this]
      omega
  have o5 := o1 (s, 2) (by simp)
  have o6 := o1 (0, 1) (by simp)
  have o7 := o1 (s, 4) (by simp)
  have o8 := o1 (1 - s, 2) (by simp)
  have o9 := o1 (1 - s, 6) (by simp)
  unfold clashF
  rcases hk with rfl | rfl <;> simp [late0, outF, innF, noMeet, List.range', o2, o3, o4, o5, o6, o7, o8, o9]
theorem o_addT {s : Nat → Nat → Bool} {h : Hh} {x y : List D} : opApp s .add [.tup x, .tup y] h = whenR (decide (x.length + y.length ≤ cells)) (.ok (.tup (x ++ y)) h) := rfl
theorem o_tupR {s : Nat → Nat → Bool} {h : Hh} {n : Nat} {xs : List D} (e : h[n]? = some (.lst xs)) : opApp s .tuple [.ref n] h = .ok (.tup xs) h := by
  show (match lsD h (.ref n) with
    | some xs => .ok (.tup xs) h
    | none => .no : R D) = _
  simp [lsD, e]
theorem o_tupL {s : Nat → Nat → Bool} {h : Hh} {xs : List D} : opApp s .tuple [.lst xs] h = .ok (.tup xs) h := rfl
theorem o_sl01R {s : Nat → Nat → Bool} {h : Hh} {n : Nat} {xs : List D} {j : Int} (e : h[n]? = some (.lst xs)) : opApp s (.slice false true) [.ref n, .int j] h = .ok (.lst (cut xs none (some j))) h := by
  show opSlice h (.ref n) none (some j) = _
  unfold opSlice
  simp [lsD, e]
end Lk01

namespace Lk01
open Ivy
theorem allF_one {l : Lot} (h : LotG 20 l) : allF (some (0, 1)) [l] = some l := metF_one h
theorem law_many_ok {w : Nat} (n : Nat) (h : Hh) (hs : Spr h) (hw : 2 ^ 1000 ≤ w) : ∃ h', callF (Pr w) (n + 7) 39 [.ref 1] h = .ok (.bl true) h' ∧ Sp h h' := by
  obtain ⟨t1, h1, e1, p1, q1, s1⟩ := flow_ok (w := w) (n + 5) h 400 hs (by omega) (sz_small (k := 60) (by decide) (by omega))
  have L1 := s1.spr.len
  obtain ⟨mv, h2, e2, m2, s2⟩ := among_ints (w := w) (n + 4) (h1 ++ [.lst []]) [0, 0, 0, 1, 3] s1.spr.app (by simp) (by simp)
  have bm : mv = 0 ∨ mv = 1 ∨ mv = 3 := by simp at m2; omega
  have r2 : h2[h1.length]? = some (.lst []) := by rw [s2.off _ L1]; simp
  have x2 : Spx h h2 := ((((Spx.refl hs).go s1).app).app).go s2
  obtain ⟨t3, h3, e3, p3, q3, s3⟩ := flow_ok (w := w) (n + 5) h2 4 s2.spr (by omega) (sz_small (k := 60) (by decide) (by omega))
  have r3 : h3[h1.length]? = some (.lst (([] : List Lot).map lotD)) := (s3.off _ L1).trans r2
  have xl : (rangeL 0 (rangeN 0 (2 + t3) 1) 1).length = (2 + t3).toNat := by rw [rangeN_one]; simp [rangeL]
  obtain ⟨ls, h4, x4, r4, g4, l4, e4⟩ := many_loop1 (w := w) n hs (c := t1 - 200) (mv := mv) (r := h1.length) (by omega) bm (by have := s1.len; omega) (rangeL 0 (rangeN 0 (2 + t3) 1) 1) h3 [] range_pers (x2.go s3) r3 (by simp) (by rw [xl]; simp; omega)
  rw [xl] at l4
  obtain ⟨l0, rs, rfl⟩ : ∃ l0 rs, ls = l0 :: rs := by
    cases ls with
    | nil => simp at l4; omega
    | cons a b => exact ⟨a, b, rfl⟩
  have b4 : ∀ l ∈ l0 :: rs, LotB 20 l := fun l hl => (g4 l hl).B
  have n4 : (l0 :: rs).length ≤ 10 := by simp at l4 ⊢; omega
  have e5 := many_loop2 (w := w) n (v0 := some (.ref 1)) (v1 := some (.int (t1 - 200))) (v2 := some (.ref h1.length)) (v3 := some (.int mv)) r4 (l0 :: rs) 20 (some (0, 1)) (fun a e => by cases e; exact ⟨by decide, by decide, by decide⟩) b4 (by omega)
  obtain ⟨h6, s6, e6⟩ := many_loop3 (w := w) n hw (v1 := some (.int (t1 - 200))) (v2 := some (.ref h1.length)) (v3 := some (.int mv)) (v7 := some (optD (allF (some (0, 1)) (l0 :: rs)))) [l0 :: rs, [l0], []] h4 x4.spr (fun L hL => by
    simp only [List.mem_cons, List.not_mem_nil, or_false] at hL
    rcases hL with rfl | rfl | rfl
    · exact ⟨b4, by omega⟩
    · exact ⟨fun l hl => b4 l (by simp at hl; simp [hl]), by simp⟩
    · exact ⟨(fun l hl => by cases hl), by simp⟩)
  obtain ⟨t7, h7, e7, p7, q7, s7⟩ := flow_ok (w := w) (n + 5) h6 5 s6.spr (by omega) (sz_small (k := 60) (by decide) (by omega))
  obtain ⟨k, hk⟩ : ∃ k : Nat, t7 = k := ⟨t7.toNat, by omega⟩
  subst hk
  have k5 : k < 5 := by omega
  obtain ⟨S, hS⟩ : ∃ S : List Lot, S = shut0.drop k ++ shut0.take k := ⟨_, rfl⟩
  have S1 : ((0, 4) : Lot) ∈ S := by rw [hS]; exact (by decide : ∀ k < 5, ((0, 4) : Int × Int) ∈ shut0.drop k ++ shut0.take k) k k5
  have S2 : ((2, 4) : Lot) ∈ S := by rw [hS]; exact (by decide : ∀ k < 5, ((2, 4) : Int × Int) ∈ shut0.drop k ++ shut0.take k) k k5
  have S3 : ∀ l ∈ S, LotG 20 l := fun l hl => shut_G l (by
    rw [hS] at hl
    rcases List.mem_append.mp hl with q | q
    · exact List.mem_of_mem_drop q
    · exact List.mem_of_mem_take q)
  have S4 : S.length ≤ 40 := by rw [hS]; simp [shut0]; omega
  have sN := shut_none S3 S1 S2
  have eAdd : ∀ g, opApp sub .add [.tup (cut [.tup [.int 0, .int 4], .tup [.int 1, .int 3], .tup [.int 2, .int 5], .tup [.int 3, .int 4], .tup [.int 2, .int 4]] (some (k : Int)) none), .tup (cut [.tup [.int 0, .int 4], .tup [.int 1, .int 3], .tup [.int 2, .int 5], .tup [.int 3, .int 4], .tup [.int 2, .int 4]] none (some (k : Int)))] g = .ok (.tup (S.map lotD)) g := fun g => by
    have e : ([.tup [.int 0, .int 4], .tup [.int 1, .int 3], .tup [.int 2, .int 5], .tup [.int 3, .int 4], .tup [.int 2, .int 4]] : List D) = shut0.map lotD := rfl
    rw [e, cut_drop _ k (by simp [shut0]; omega), cut_take _ k (by simp [shut0]; omega), o_addT, hS, List.map_append, List.map_drop, List.map_take]
    have : decide (((shut0.map lotD).drop k).length + ((shut0.map lotD).take k).length ≤ cells) = true := by
      refine decide_eq_true ?_
      simp [shut0]
      omega
    rw [this]
    rfl
  obtain ⟨sd, h8, e8, p8, q8, s8⟩ := flow_ok (w := w) (n + 5) h7 2 s7.spr (by omega) (sz_small (k := 60) (by decide) (by omega))
  have bs : sd = 0 ∨ sd = 1 := by omega
  obtain ⟨t9, h9, e9, p9, q9, s9⟩ := flow_ok (w := w) (n + 5) h8 2 s8.spr (by omega) (sz_small (k := 60) (by decide) (by omega))
  obtain ⟨j, hj⟩ : ∃ j : Nat, 5 + t9 = j := ⟨(5 + t9).toNat, by omega⟩
  have bj : j = 5 ∨ j = 6 := by omega
  obtain ⟨L, hL⟩ : ∃ L : List Lot, L = (late0 sd).take j := ⟨_, rfl⟩
  have eL : cut [.tup [.int 0, .int 1], .tup [.int sd, .int 2], .tup [.int 0, .int 1], .tup [.int sd, .int 4], .tup [.int (1 - sd), .int 2], .tup [.int (1 - sd), .int 6]] none (some (j : Int)) = L.map lotD := by
    have e : ([.tup [.int 0, .int 1], .tup [.int sd, .int 2], .tup [.int 0, .int 1], .tup [.int sd, .int 4], .tup [.int (1 - sd), .int 2], .tup [.int (1 - sd), .int 6]] : List D) = (late0 sd).map lotD := rfl
    rw [e, cut_take _ j (by simp [late0]; omega), hL, List.map_take]
  have L3 : ∀ l ∈ L, LotG 20 l := fun l hl => late_G bs l (by rw [hL] at hl; exact List.mem_of_mem_take hl)
  have L4 : L.length ≤ 40 := by rw [hL]; simp [late0]; omega
  have lN : allF (some (0, 1)) L = none := late_none bs L3 (by rw [hL]; rcases bj with rfl | rfl <;> simp [late0]) (by rw [hL]; rcases bj with rfl | rfl <;> simp [late0])
  have lC : clashF L = some (1, 4) := by rw [hL]; exact late_clash bs j bj
  obtain ⟨h10, e10, s10⟩ := rt_clash (w := w) n h9 L s9.spr (fun l hl => (L3 l hl).B) hw
  obtain ⟨h11, e11, s11⟩ := rt_all (w := w) n h10 L s10.spr (fun l hl => (L3 l hl).B) L4 hw
  obtain ⟨h12, e12, s12⟩ := rt_all (w := w) n h11 S s11.spr (fun l hl => (S3 l hl).B) S4 hw
  obtain ⟨h13, e13, s13⟩ := rt_clash (w := w) n h12 S s12.spr (fun l hl => (S3 l hl).B) hw
  have e14 := law_clash_ok (w := w) (n + 3) S h12 (fun l hl => (S3 l hl).B)
  rw [lC] at e10
  rw [lN] at e11
  rw [sN] at e12
  have d14 : optD (some (1, 4)) = .tup [.int 1, .int 4] := rfl
  have d0 : optD none = .non := rfl
  rw [d14] at e10
  rw [d0] at e11 e12
  obtain ⟨h', f1, f2⟩ := fin_ok (d := .bl true) hs ((((((((x4.go s6).go s7).go s8).go s9).go s10).go s11).go s12).go s13) (by simp [D.low]) rfl
  refine ⟨h', ?_, f2⟩
  have ct : cut (lotD l0 :: rs.map lotD) none (some 1) = [lotD l0] := by
    have := cut_take (lotD l0 :: rs.map lotD) 1 (by simp)
    simpa using this
  have pA := opt_pers (allF (some (0, 1)) (l0 :: rs))
  have pC := opt_pers (clashF S)
  have src : rngS [.int (2 + t3)] = some ⟨rangeL 0 (rangeN 0 (2 + t3) 1) 1, []⟩ := rfl
  have al := allF_one (g4 l0 (List.mem_cons_self ..))
  unfold dmn at e4
  have o1 : optD (some (0, 1)) = .tup [.int 0, .int 1] := rfl
  have a0 : allF (some (0, 1)) [] = some (0, 1) := rfl
  rw [o1] at e5
  simp only [List.map_cons, List.map_nil, al, a0, optD_lot, o1] at e5 e6 r4
  simp at e2
  rw [u39]
  simp [runF, _law_many_ok, startS, evSs, evS, evE, evEs, evT, evI, e1, e2, e3, src, e4, src_ref r4, e5, o_tupR r4, o_sl01R r4, ct, o_tupL, o_idxL r4, pA, lotD_pers, e6, e7, eAdd, e8, e9, hj, eL, e10, e11, e12, e13, e14, pC, box_opt, endF, f1]
end Lk01

namespace Lk01
open Ivy
/-! ### the spring made -/
@[simp] theorem p_rol {xs : List D} : D.pers (.rol xs) = true := rfl
@[simp] theorem p_lst {xs : List D} : D.pers (.lst xs) = false := rfl
theorem cut63 {xs : List D} (h : xs.length ≤ 63) : cut xs none (some 63) = xs := by
  simp only [cut, clip]
  rw [if_neg (by omega)]
  have : min ((63 : Int).toNat) xs.length = xs.length := by omega
  simp only [this]
  simp
theorem lpC_map {step : D → Hh → R (Option D)} {h : Hh} (f : Int → Int) : ∀ xs : List Int, (∀ x ∈ xs, step (.int x) h = .ok (some (.int (f x))) h) → lpC [] step (xs.map .int) h = .ok ((xs.map f).map .int) h
  | [], _ => rfl
  | x :: xs, hx => by
    show whenR true (((step (.int x) h).calm).bind fun y h => (lpC [] step (xs.map .int) h).bind fun ys h => .ok (match y with
      | some y => y :: ys
      | none => ys) h) = _
    rw [hx x (List.mem_cons_self ..)]
    simp only [s_wt, s_calm, s_okb]
    rw [lpC_map f xs fun y hy => hx y (List.mem_cons_of_mem _ hy)]
    simp
theorem o_shl1 {s : Nat → Nat → Bool} {h : Hh} : opApp s .shl [.int 1, .int 2000] h = .ok (.int (2 ^ 2000)) h := by
  rw [o_shlI]
  have : (1 : Int).natAbs < big := Nat.lt_of_lt_of_le (by decide : (1 : Nat) < 2 ^ 1) (Nat.pow_le_pow_right (by omega) (by omega))
  simp only [this, decide_true, Bool.and_true, Int.one_mul]
  rfl
theorem spring_ok {w : Nat} (n : Nat) (ns : List Int) (hn : ns.length ≤ 63) : ∃ cs : List Int, cs.length ≤ 63 ∧ (∀ c ∈ cs, 0 ≤ c ∧ c < 2 ^ 2000) ∧ callF (Pr w) (n + 1) 20 [.rol (ns.map .int)] [] = .ok (.lst [.ref 0, .int 0, .int 1299709]) [.lst (cs.map .int)] := by
  obtain ⟨P, hP, p0⟩ : ∃ P : Int, P = 2 ^ 2000 ∧ 0 < P := ⟨_, rfl, Int.pow_pos (by decide)⟩
  have e1 := fun h => o_shl1 (s := sub) (h := h)
  rw [← hP] at e1
  have P0 : P ≠ 0 := by omega
  refine ⟨ns.map fun x => (if x < 0 then -x else x) % P, by simpa using hn, fun c hc => ?_, ?_⟩
  · obtain ⟨x, _, rfl⟩ := List.mem_map.mp hc
    rw [← hP]
    exact ⟨Int.emod_nonneg _ P0, Int.emod_lt_of_pos _ p0⟩
  · rw [u20]
    have sl : opApp sub (.slice false true) [.rol (ns.map .int), .int 63] [] = .ok (.lst (ns.map .int)) [] := by
      show opSlice [] (.rol (ns.map .int)) none (some 63) = _
      unfold opSlice
      simp [lsD, cut63 (xs := ns.map D.int) (by simpa using hn)]
    simp [-o_shlI, runF, _law_spring, startS, evSs, evS, evE, evEs, evT, evI, sl, e1]
    rw [lpC_map fun x => (if x < 0 then -x else x) % P]
    · simp [show ns.length ≤ 16777216 by omega, endF, finish, lift, D.low, D.lowL]
    · intro x hx
      simp [-o_shlI, evTs, evE, evEs, e1, P0, fmod_pos p0]
/-! ### the law's loops -/
theorem law_loop1 {w : Nat} (n : Nat) (hw : 2 ^ 1000 ≤ w) {v0 : Option D} : ∀ (xs : List D) (h : Hh), (∀ x ∈ xs, D.pers x = true) → Spr h →
    ∃ h', Sp h h' ∧ lpF [] (.name 2) [2] (evSs (gk w (n + 8)) law_l1) xs [v0, some (.ref 1), none, none, none, none, none, none] h = .nx [v0, some (.ref 1), none, none, none, none, none, none] h'
  | [], h, _, hs => ⟨h, hs.refl, by rw [lpF_nil]; simp⟩
  | x :: xs, h, hp, hs => by
    obtain ⟨h1, e1, s1⟩ := law_lots_ok (w := w) (n + 2) h hs hw
    obtain ⟨h2, e2, s2⟩ := law_forms_ok (w := w) (n + 1) h1 s1.spr hw
    obtain ⟨h', s3, e3⟩ := law_loop1 n hw (v0 := v0) xs h2 (fun y hy => hp y (List.mem_cons_of_mem _ hy)) s2.spr
    refine ⟨h', (s1.trans s2).trans s3, ?_⟩
    have px := hp x (List.mem_cons_self ..)
    rw [lpF_go (δ1 := [v0, some (.ref 1), some x, none, none, none, none, none]) (h2 := h2) (δ2 := [v0, some (.ref 1), some x, none, none, none, none, none]) (by simp [px]) (by
      simp [law_l1, evSs, evS, evE, evEs, evT, e1, e2])]
    exact e3
theorem law_loop2 {w : Nat} (n : Nat) (hw : 2 ^ 1000 ≤ w) {v0 : Option D} : ∀ (xs : List D) (h : Hh), (∀ x ∈ xs, D.pers x = true) → Spr h →
    ∃ h', Sp h h' ∧ lpF [] (.name 2) [2] (evSs (gk w (n + 8)) law_l2) xs [v0, some (.ref 1), none, none, none, none, none, none] h = .nx [v0, some (.ref 1), none, none, none, none, none, none] h'
  | [], h, _, hs => ⟨h, hs.refl, by rw [lpF_nil]; simp⟩
  | x :: xs, h, hp, hs => by
    obtain ⟨h1, e1, s1⟩ := law_many_ok (w := w) (n + 1) h hs hw
    obtain ⟨h2, e2, s2⟩ := law_fixed2_ok (w := w) n h1 s1.spr hw
    obtain ⟨h', s3, e3⟩ := law_loop2 n hw (v0 := v0) xs h2 (fun y hy => hp y (List.mem_cons_of_mem _ hy)) s2.spr
    refine ⟨h', (s1.trans s2).trans s3, ?_⟩
    have px := hp x (List.mem_cons_self ..)
    rw [lpF_go (δ1 := [v0, some (.ref 1), some x, none, none, none, none, none]) (h2 := h2) (δ2 := [v0, some (.ref 1), some x, none, none, none, none, none]) (by simp [px]) (by
      simp [law_l2, evSs, evS, evE, evEs, evT, e1, e2])]
    exact e3
/-! ### the written cases -/
theorem met_same {k : Nat} {m : Int} (h : LotG k (0, m)) : metF (0, m) (0, m) = some (0, m) := metF_self h
theorem w1 (u : Int) : meetF ⟨0, 1, 0, 2⟩ ⟨0, 1, u, 1⟩ = some (u, 0) := by
  have e : metF (0, 1) (0, 1) = some (0, 1) := met_same (k := 20) (smallG (by decide) (by decide) (by decide) (by decide))
  simp only [meetF, Fm.lot, e, ledF, turnF]
  have q1 : ((0 : Int) - 0).fdiv 1 = 0 := by decide
  have q2 : ((0 : Int) + 1 - 0).fdiv 1 = 1 := by decide
  have q3 : (0 + 2 * 1 - (u + 1 * 1) - (0 + 2 * 0 - (u + 1 * 0)) : Int) = 1 := by omega
  have q4 : (0 + 2 * 0 - (u + 1 * 0) : Int) = -u := by omega
  rw [if_neg (by decide)]
  simp only [if_neg (show ¬ (1 : Int) = 0 by decide), q1, q2]
  rw [q3, q4, if_neg (by decide), if_pos (fmod_zero.mpr (Int.one_dvd _))]
  simp
theorem w2 : meetF ⟨0, 1, 0, 2⟩ ⟨0, 1, 1, 4⟩ = none := by
  have e : metF (0, 1) (0, 1) = some (0, 1) := met_same (k := 20) (smallG (by decide) (by decide) (by decide) (by decide))
  simp only [meetF, Fm.lot, e, ledF, turnF]
  decide
theorem e22 : metF (0, 2) (0, 2) = some (0, 2) := met_same (k := 20) (smallG (by decide) (by decide) (by decide) (by decide))
theorem w3 (u : Int) : meetF ⟨0, 2, 0, 2⟩ ⟨0, 2, u, 4⟩ = if u % 2 = 0 then some (0 - u, 0) else none := by
  simp only [meetF, Fm.lot, e22, ledF, turnF]
  have q1 : ((0 : Int) - 0).fdiv 2 = 0 := by decide
  have q2 : ((0 : Int) + 2 - 0).fdiv 2 = 1 := by decide
  have q3 : (0 + 2 * 1 - (u + 4 * 1) - (0 + 2 * 0 - (u + 4 * 0)) : Int) = -2 := by omega
  have q4 : (0 + 2 * 0 - (u + 4 * 0) : Int) = -u := by omega
  rw [if_neg (by decide)]
  simp only [if_neg (show ¬ (2 : Int) = 0 by decide), q1, q2]
  rw [q3, q4, if_neg (by decide)]
  by_cases c : u % 2 = 0
  · obtain ⟨k, hk⟩ := Int.dvd_of_emod_eq_zero c
    subst hk
    have d : (-(2 * k)).fmod (-2) = 0 := fmod_zero.mpr ⟨k, by omega⟩
    have f : (-(2 * k)).fdiv (-2) = k := by
      rw [show (-(2 * k) : Int) = -2 * k by omega]
      exact Int.mul_fdiv_cancel_left k (by decide)
    rw [if_pos d, if_pos c, f]
    congr 2
    omega
  · have d : ¬ (-u).fmod (-2) = 0 := fun z => by
      obtain ⟨k, hk⟩ := fmod_zero.mp z
      omega
    rw [if_neg d, if_neg c]
theorem w4 (u : Int) : meetF ⟨0, 2, 2 * u + 1, 4⟩ ⟨0, 2, 0, 2⟩ = none := by
  simp only [meetF, Fm.lot, e22, ledF, turnF]
  have q1 : ((0 : Int) - 0).fdiv 2 = 0 := by decide
  have q2 : ((0 : Int) + 2 - 0).fdiv 2 = 1 := by decide
  have q3 : (2 * u + 1 + 4 * 1 - (0 + 2 * 1) - (2 * u + 1 + 4 * 0 - (0 + 2 * 0)) : Int) = 2 := by omega
  have q4 : (2 * u + 1 + 4 * 0 - (0 + 2 * 0) : Int) = 2 * u + 1 := by omega
  rw [if_neg (by decide)]
  simp only [if_neg (show ¬ (2 : Int) = 0 by decide), q1, q2]
  rw [q3, q4, if_neg (by decide)]
  have d : ¬ (2 * u + 1).fmod 2 = 0 := fun z => by
    obtain ⟨k, hk⟩ := fmod_zero.mp z
    omega
  rw [if_neg d]
theorem halfG : FmG ⟨0, 2, 0, 1⟩ := by
  have := p60
  exact ⟨by decide, .inr (by decide), by simp only; omega, by simp only; omega, by simp only; omega, by simp only; omega⟩
theorem w5 (u : Int) : meetF ⟨0, 2, 0, 1⟩ ⟨u % 2, 2, u % 2, 1⟩ = if u % 2 = 0 then some (0, 2) else none := by
  by_cases c : u % 2 = 0
  · rw [c, if_pos rfl]
    exact meetF_self halfG
  · have c1 : u % 2 = 1 := by omega
    rw [c1, if_neg (by decide)]
    have e : metF (0, 2) (1, 2) = none := by
      rw [metF_none (by decide) (by decide)]
      decide
    simp only [meetF, Fm.lot, e]
theorem w6 (u : Int) : metF (u, 0) (u % 7, 7) = some (u, 0) := by
  unfold metF
  rw [if_pos rfl, if_pos]
  rw [inF_off (by decide)]
  omega
theorem w7 (u : Int) : metF (u, 0) (u + 1, 0) = none := by
  unfold metF
  rw [if_pos rfl, if_neg]
  rw [inF_zero rfl]
  simp
  omega
theorem fin_bl {h g : Hh} {b : Bool} : ∃ h', finish h (.bl b) g = .ok (.bl b) h' := by
  unfold finish
  split
  · exact ⟨_, rfl⟩
  · split
    · exact ⟨_, rfl⟩
    · exact ⟨_, rfl⟩
theorem law_ok {w : Nat} (n : Nat) (ns : List Int) (hn : ns.length ≤ 63) (hw : 2 ^ 1000 ≤ w) : ∃ h, callF (Pr w) (n + 9) 43 [.rol (ns.map .int)] [] = .ok (.bl true) h := by
  have P60 := p60
  obtain ⟨cs, c1, c2, e1⟩ := spring_ok (w := w) (n + 7) ns hn
  obtain ⟨H, hH⟩ : ∃ H : Hh, H = [.lst (cs.map .int), .lst [.ref 0, .int 0, .int 1299709]] := ⟨_, rfl⟩
  have sH : Spr H := ⟨cs, 0, 1299709, by rw [hH]; exact ⟨rfl, rfl, c2, c1, by decide, by decide, by decide⟩⟩
  obtain ⟨h2, s2, e2⟩ := law_loop1 (w := w) n hw (v0 := some (.rol (ns.map .int))) (rangeL 0 (rangeN 0 5 1) 1) H range_pers sH
  obtain ⟨h3, s3, e3⟩ := law_loop2 (w := w) n hw (v0 := some (.rol (ns.map .int))) (rangeL 0 (rangeN 0 3 1) 1) h2 range_pers s2.spr
  obtain ⟨u, h4, e4, p4, q4, s4⟩ := flow_ok (w := w) (n + 7) h3 100 s3.spr (by omega) (sz_small (k := 60) (by decide) (by omega))
  have sm : ∀ {a b c d : Int}, 0 ≤ b → a.natAbs < 1000 → b.natAbs < 1000 → c.natAbs < 1000 → d.natAbs < 1000 → FmS ⟨a, b, c, d⟩ := fun h0 h1 h2 h3 h4 => s60 h0 (by omega) (by omega) (by omega) (by omega)
  have u2 : u % 2 = 0 ∨ u % 2 = 1 := by omega
  obtain ⟨h5, e5, s5⟩ := rt_meeting (w := w) (n + 2) h4 ⟨0, 1, 0, 2⟩ ⟨0, 1, u, 1⟩ s4.spr (sm (by decide) (by decide) (by decide) (by decide) (by decide)) (sm (by decide) (by decide) (by decide) (by omega) (by decide)) hw
  obtain ⟨h6, e6, s6⟩ := rt_meeting (w := w) (n + 2) h5 ⟨0, 1, 0, 2⟩ ⟨0, 1, 1, 4⟩ s5.spr (sm (by decide) (by decide) (by decide) (by decide) (by decide)) (sm (by decide) (by decide) (by decide) (by decide) (by decide)) hw
  obtain ⟨h7, e7, s7⟩ := rt_meeting (w := w) (n + 2) h6 ⟨0, 2, 0, 2⟩ ⟨0, 2, u, 4⟩ s6.spr (sm (by decide) (by decide) (by decide) (by decide) (by decide)) (sm (by decide) (by decide) (by decide) (by omega) (by decide)) hw
  obtain ⟨h8, e8, s8⟩ := rt_meeting (w := w) (n + 2) h7 ⟨0, 2, 2 * u + 1, 4⟩ ⟨0, 2, 0, 2⟩ s7.spr (sm (by decide) (by decide) (by decide) (by omega) (by decide)) (sm (by decide) (by decide) (by decide) (by decide) (by decide)) hw
  obtain ⟨h9, e9, s9⟩ := rt_meeting (w := w) (n + 2) h8 ⟨0, 2, 0, 1⟩ ⟨u % 2, 2, u % 2, 1⟩ s8.spr (sm (by decide) (by decide) (by decide) (by decide) (by decide)) (sm (by decide) (by omega) (by decide) (by omega) (by decide)) hw
  have lS : ∀ {a b : Int}, 0 ≤ b → a.natAbs < 1000 → b.natAbs < 1000 → LotS (a, b) := fun h0 h1 h2 => ⟨h0, Nat.lt_of_lt_of_le (Nat.lt_trans h1 (by decide : 1000 < 2 ^ 10)) (pw (by omega)), Nat.lt_of_lt_of_le (Nat.lt_trans h2 (by decide : 1000 < 2 ^ 10)) (pw (by omega))⟩
  obtain ⟨h10, e10, s10⟩ := rt_met (w := w) (n + 3) h9 (u, 0) (u % 7, 7) s9.spr (lS (by decide) (by omega) (by decide)) (lS (by decide) (by omega) (by decide)) hw
  obtain ⟨h11, e11, s11⟩ := rt_met (w := w) (n + 3) h10 (u, 0) (u + 1, 0) s10.spr (lS (by decide) (by omega) (by decide)) (lS (by decide) (by omega) (by decide)) hw
  obtain ⟨h12, e12, s12⟩ := law_no_lots_ok (w := w) (n + 2) h11 s11.spr
  rw [w1] at e5
  rw [w2] at e6
  rw [w3] at e7
  rw [w4] at e8
  rw [w5] at e9
  rw [w6] at e10
  rw [w7] at e11
  obtain ⟨h', f⟩ := fin_bl (h := []) (g := h12) (b := true)
  refine ⟨h', ?_⟩
  have src5 : rngS [.int 5] = some ⟨rangeL 0 (rangeN 0 5 1) 1, []⟩ := rfl
  have src3 : rngS [.int 3] = some ⟨rangeL 0 (rangeN 0 3 1) 1, []⟩ := rfl
  have k2 : mulOk 2 u = true := by unfold mulOk; simp
  have f2 : u.fmod 2 = u % 2 := fmod_pos (by decide)
  have f7 : u.fmod 7 = u % 7 := fmod_pos (by decide)
  unfold formD at e5 e6 e7 e8 e9
  unfold lotD at e10 e11
  simp only [optD_lot, optD_none] at e5 e6 e8 e10 e11
  unfold lotD at e5 e10
  simp only at e5 e6 e7 e8 e9 e10 e11
  rw [hH] at e2
  rw [Lk01.u43]
  rcases u2 with z | z
  · rw [if_pos z, optD_lot] at e7 e9
    unfold lotD at e7 e9
    rw [z] at e9
    simp only [Int.zero_sub] at e7 e9
    simp [runF, law, startS, evSs, evS, evE, evEs, evT, evI, e1, src5, e2, src3, e3, e4, e5, e6, e7, f2, z, cut2, o_addT, k2, e8, e9, f7, e10, e11, e12, endF, f]
  · rw [if_neg (by omega), optD_none] at e7 e9
    rw [z] at e9
    simp [runF, law, startS, evSs, evS, evE, evEs, evT, evI, e1, src5, e2, src3, e3, e4, e5, e6, e7, f2, z, cut2, o_addT, k2, e8, e9, f7, e10, e11, e12, endF, f]
end Lk01

namespace Lk01
open Ivy
open PySem PySem.Spec PyProof.Rows L2
def top (i : Nat) : Stmt := PySem.Challenge.pw_whichpass_k01_lots_meetings.main.body.getD i (.Pass ⟨0, 0, 0, 0⟩)
def nms : List PySem.Str := (["gcd_of", "inverse_of", "solved", "fraction_of", "is_integer", "is_tuple", "is_lot", "in_lot", "met", "is_within", "numbers_in", "line_of", "turn_of", "image"] : List PySem.Str) ++ (["single_meeting", "crossing", "meeting", "fixed_number", "clash_of", "met_all", "_law_spring", "_law_flow", "_law_among", "_law_wide", "_law_same", "_law_factor", "_law_in", "_law_met"] : List PySem.Str) ++ (["_law_inside", "_law_led", "_law_meeting", "_law_fixed", "_law_ask", "_law_right", "_law_lot", "_law_pair", "_law_lots_ok", "_law_no_lots", "_law_first_clash", "_law_many_ok", "_law_form", "_law_forms_ok"] : List PySem.Str) ++ (["_law_fixed_ok", "law"] : List PySem.Str)
def nm (i : Nat) : PySem.Str := nms.getD i ""
def tix : List Nat := [1, 2, 3, 4, 6, 7, 9, 10, 11, 12, 13, 17, 18, 19, 21, 22, 23, 24, 25, 26, 28, 29, 30, 31, 32, 33, 34, 35, 36, 37, 38, 39, 40, 41, 42, 43, 44, 45, 46, 47, 48, 49, 50, 51]
def tp (i : Nat) : Stmt := top (tix.getD i 0)
def ps0 : List PySem.Str := (["one", "other"] : List PySem.Str)
def N0 : List PySem.Str := (["one", "other"] : List PySem.Str)
def ps1 : List PySem.Str := (["number", "modulus"] : List PySem.Str)
def N1 : List PySem.Str := (["number", "modulus", "one", "other", "factor", "next_factor", "times"] : List PySem.Str)
def ps2 : List PySem.Str := (["factor", "wanted", "modulus"] : List PySem.Str)
def N2 : List PySem.Str := (["factor", "wanted", "modulus", "common", "rest"] : List PySem.Str)
def ps3 : List PySem.Str := (["top", "bottom"] : List PySem.Str)
def N3 : List PySem.Str := (["top", "bottom", "common", "sign"] : List PySem.Str)
def ps4 : List PySem.Str := (["thing"] : List PySem.Str)
def N4 : List PySem.Str := (["thing"] : List PySem.Str)
def ps5 : List PySem.Str := (["thing", "many"] : List PySem.Str)
def N5 : List PySem.Str := (["thing", "many"] : List PySem.Str)
def ps6 : List PySem.Str := (["thing"] : List PySem.Str)
def N6 : List PySem.Str := (["thing", "number"] : List PySem.Str)
def ps7 : List PySem.Str := (["lot", "number"] : List PySem.Str)
def N7 : List PySem.Str := (["lot", "number", "first", "step"] : List PySem.Str)
def ps8 : List PySem.Str := (["one", "other"] : List PySem.Str)
def N8 : List PySem.Str := (["one", "other", "told", "step"] : List PySem.Str)
def ps9 : List PySem.Str := (["one", "other"] : List PySem.Str)
def N9 : List PySem.Str := (["one", "other"] : List PySem.Str)
def ps10 : List PySem.Str := (["lot", "low", "high"] : List PySem.Str)
def N10 : List PySem.Str := (["lot", "low", "high", "first", "step"] : List PySem.Str)
def ps11 : List PySem.Str := (["form"] : List PySem.Str)
def N11 : List PySem.Str := (["form", "first", "step", "behind", "step_behind"] : List PySem.Str)
def ps12 : List PySem.Str := (["form", "number"] : List PySem.Str)
def N12 : List PySem.Str := (["form", "number"] : List PySem.Str)
def ps13 : List PySem.Str := (["form", "number"] : List PySem.Str)
def N13 : List PySem.Str := (["form", "number"] : List PySem.Str)
def ps14 : List PySem.Str := (["one", "other", "number"] : List PySem.Str)
def N14 : List PySem.Str := (["one", "other", "number"] : List PySem.Str)
def ps15 : List PySem.Str := (["one", "other"] : List PySem.Str)
def N15 : List PySem.Str := (["one", "other", "top", "bottom", "other_top", "other_bottom", "slope", "rise"] : List PySem.Str)
def ps16 : List PySem.Str := (["one", "other"] : List PySem.Str)
def N16 : List PySem.Str := (["one", "other", "number"] : List PySem.Str)
def ps17 : List PySem.Str := (["form"] : List PySem.Str)
def N17 : List PySem.Str := (["form", "told"] : List PySem.Str)
def ps18 : List PySem.Str := (["lots"] : List PySem.Str)
def N18 : List PySem.Str := (["lots", "one", "lot", "other"] : List PySem.Str)
def ps19 : List PySem.Str := (["lots"] : List PySem.Str)
def N19 : List PySem.Str := (["lots", "found", "lot"] : List PySem.Str)
def ps20 : List PySem.Str := (["script"] : List PySem.Str)
def N20 : List PySem.Str := (["script", "cell"] : List PySem.Str)
def ps21 : List PySem.Str := (["spring", "many"] : List PySem.Str)
def N21 : List PySem.Str := (["spring", "many", "cells", "at", "told"] : List PySem.Str)
def ps22 : List PySem.Str := (["spring", "things"] : List PySem.Str)
def N22 : List PySem.Str := (["spring", "things"] : List PySem.Str)
def ps23 : List PySem.Str := (["spring", "many"] : List PySem.Str)
def N23 : List PySem.Str := (["spring", "many", "told", "k"] : List PySem.Str)
def ps24 : List PySem.Str := (["told", "due"] : List PySem.Str)
def N24 : List PySem.Str := (["told", "due", "k"] : List PySem.Str)
def ps25 : List PySem.Str := (["one", "other"] : List PySem.Str)
def N25 : List PySem.Str := (["one", "other", "old", "new", "left", "right", "k", "times"] : List PySem.Str)
def ps26 : List PySem.Str := (["lot", "number"] : List PySem.Str)
def N26 : List PySem.Str := (["lot", "number"] : List PySem.Str)
def ps27 : List PySem.Str := (["one", "other"] : List PySem.Str)
def N27 : List PySem.Str := (["one", "other", "single", "wide", "both", "times", "away", "step", "whole"] : List PySem.Str)
def ps28 : List PySem.Str := (["one", "other"] : List PySem.Str)
def N28 : List PySem.Str := (["one", "other"] : List PySem.Str)
def ps29 : List PySem.Str := (["form", "number"] : List PySem.Str)
def N29 : List PySem.Str := (["form", "number"] : List PySem.Str)
def ps30 : List PySem.Str := (["one", "other"] : List PySem.Str)
def N30 : List PySem.Str := (["one", "other", "lot", "apart", "next_one", "grows"] : List PySem.Str)
def ps31 : List PySem.Str := (["form"] : List PySem.Str)
def N31 : List PySem.Str := (["form", "first", "step", "come", "grows"] : List PySem.Str)
def ps32 : List PySem.Str := (["word", "one", "other", "last"] : List PySem.Str)
def N32 : List PySem.Str := (["word", "one", "other", "last", "named"] : List PySem.Str)
def ps33 : List PySem.Str := (["spring", "word", "one", "other", "due"] : List PySem.Str)
def N33 : List PySem.Str := (["spring", "word", "one", "other", "due", "told"] : List PySem.Str)
def ps34 : List PySem.Str := (["spring", "kind"] : List PySem.Str)
def N34 : List PySem.Str := (["spring", "kind", "many"] : List PySem.Str)
def ps35 : List PySem.Str := (["spring"] : List PySem.Str)
def N35 : List PySem.Str := (["spring", "kind", "one", "other", "many", "begin"] : List PySem.Str)
def ps36 : List PySem.Str := (["spring"] : List PySem.Str)
def N36 : List PySem.Str := (["spring", "one", "other", "number", "low", "high", "due", "x"] : List PySem.Str)
def ps37 : List PySem.Str := (["spring"] : List PySem.Str)
def N37 : List PySem.Str := (["spring", "many", "at", "things", "thing", "lot"] : List PySem.Str)
def ps38 : List PySem.Str := (["lots"] : List PySem.Str)
def N38 : List PySem.Str := (["lots", "i", "j"] : List PySem.Str)
def ps39 : List PySem.Str := (["spring"] : List PySem.Str)
def N39 : List PySem.Str := (["spring", "center", "lots", "moved", "k", "many", "at", "both", "lot", "some", "due", "shut", "turn", "side"] : List PySem.Str) ++ (["late"] : List PySem.Str)
def ps40 : List PySem.Str := (["spring", "great"] : List PySem.Str)
def N40 : List PySem.Str := (["spring", "great", "top", "many", "first", "grows", "come"] : List PySem.Str)
def ps41 : List PySem.Str := (["spring"] : List PySem.Str)
def N41 : List PySem.Str := (["spring", "great", "one", "other", "lot", "kind", "at", "come", "number", "whole"] : List PySem.Str)
def ps42 : List PySem.Str := (["spring"] : List PySem.Str)
def N42 : List PySem.Str := (["spring", "many", "first", "grows", "at", "come", "form", "half"] : List PySem.Str)
def ps43 : List PySem.Str := (["script"] : List PySem.Str)
def N43 : List PySem.Str := (["script", "spring", "k", "line", "half", "up", "evens", "twice"] : List PySem.Str)
def ps (i : Nat) : List PySem.Str := match i with
  | 0 => ps0
  | 1 => ps1
  | 2 => ps2
  | 3 => ps3
  | 4 => ps4
  | 5 => ps5
  | 6 => ps6
  | 7 => ps7
  | 8 => ps8
  | 9 => ps9
  | 10 => ps10
  | 11 => ps11
  | 12 => ps12
  | 13 => ps13
  | 14 => ps14
  | 15 => ps15
  | 16 => ps16
  | 17 => ps17
  | 18 => ps18
  | 19 => ps19
  | 20 => ps20
  | 21 => ps21
  | 22 => ps22
  | 23 => ps23
  | 24 => ps24
  | 25 => ps25
  | 26 => ps26
  | 27 => ps27
  | 28 => ps28
  | 29 => ps29
  | 30 => ps30
  | 31 => ps31
  | 32 => ps32
  | 33 => ps33
  | 34 => ps34
  | 35 => ps35
  | 36 => ps36
  | 37 => ps37
  | 38 => ps38
  | 39 => ps39
  | 40 => ps40
  | 41 => ps41
  | 42 => ps42
  | 43 => ps43
  | _ => []
def bl : List PySem.Str := (["abs", "isinstance", "bool", "int", "len", "tuple", "all", "range", "enumerate", "str", "max"] : List PySem.Str)
def fa (K : PySem.W.Frag) (i : Nat) : Addr := He.fAd K (nm i, none)
def ev (K : PySem.W.Frag) : Ev := ⟨K, fun _ => 0, fun _ => false, none⟩
abbrev FnP (K : PySem.W.Frag) (i : Nat) (fd : FuncData) : Prop := FunD K (nm i) (nm i) (defArgs (tp i)) (defBody (tp i)) (defScope (tp i)) [] [] (fa K i) fd
theorem ib {K : PySem.W.Frag} : InsB K (ev K) := ⟨fun c h => by cases h⟩
theorem sc0 : FnScope N0 ps0 (defScope (tp 0)) := ⟨rfl, rfl, rfl, by decide +kernel, rfl, by decide +kernel, by decide +kernel⟩
theorem sc1 : FnScope N1 ps1 (defScope (tp 1)) := ⟨rfl, rfl, rfl, by decide +kernel, rfl, by decide +kernel, by decide +kernel⟩
theorem sc2 : FnScope N2 ps2 (defScope (tp 2)) := ⟨rfl, rfl, rfl, by decide +kernel, rfl, by decide +kernel, by decide +kernel⟩
theorem sc3 : FnScope N3 ps3 (defScope (tp 3)) := ⟨rfl, rfl, rfl, by decide +kernel, rfl, by decide +kernel, by decide +kernel⟩
theorem sc4 : FnScope N4 ps4 (defScope (tp 4)) := ⟨rfl, rfl, rfl, by decide +kernel, rfl, by decide +kernel, by decide +kernel⟩
theorem sc5 : FnScope N5 ps5 (defScope (tp 5)) := ⟨rfl, rfl, rfl, by decide +kernel, rfl, by decide +kernel, by decide +kernel⟩
theorem sc6 : FnScope N6 ps6 (defScope (tp 6)) := ⟨rfl, rfl, rfl, by decide +kernel, rfl, by decide +kernel, by decide +kernel⟩
theorem sc7 : FnScope N7 ps7 (defScope (tp 7)) := ⟨rfl, rfl, rfl, by decide +kernel, rfl, by decide +kernel, by decide +kernel⟩
theorem sc8 : FnScope N8 ps8 (defScope (tp 8)) := ⟨rfl, rfl, rfl, by decide +kernel, rfl, by decide +kernel, by decide +kernel⟩
theorem sc9 : FnScope N9 ps9 (defScope (tp 9)) := ⟨rfl, rfl, rfl, by decide +kernel, rfl, by decide +kernel, by decide +kernel⟩
theorem sc10 : FnScope N10 ps10 (defScope (tp 10)) := ⟨rfl, rfl, rfl, by decide +kernel, rfl, by decide +kernel, by decide +kernel⟩
theorem sc11 : FnScope N11 ps11 (defScope (tp 11)) := ⟨rfl, rfl, rfl, by decide +kernel, rfl, by decide +kernel, by decide +kernel⟩
theorem sc12 : FnScope N12 ps12 (defScope (tp 12)) := ⟨rfl, rfl, rfl, by decide +kernel, rfl, by decide +kernel, by decide +kernel⟩
theorem sc13 : FnScope N13 ps13 (defScope (tp 13)) := ⟨rfl, rfl, rfl, by decide +kernel, rfl, by decide +kernel, by decide +kernel⟩
theorem sc14 : FnScope N14 ps14 (defScope (tp 14)) := ⟨rfl, rfl, rfl, by decide +kernel, rfl, by decide +kernel, by decide +kernel⟩
theorem sc15 : FnScope N15 ps15 (defScope (tp 15)) := ⟨rfl, rfl, rfl, by decide +kernel, rfl, by decide +kernel, by decide +kernel⟩
theorem sc16 : FnScope N16 ps16 (defScope (tp 16)) := ⟨rfl, rfl, rfl, by decide +kernel, rfl, by decide +kernel, by decide +kernel⟩
theorem sc17 : FnScope N17 ps17 (defScope (tp 17)) := ⟨rfl, rfl, rfl, by decide +kernel, rfl, by decide +kernel, by decide +kernel⟩
theorem sc18 : FnScope N18 ps18 (defScope (tp 18)) := ⟨rfl, rfl, rfl, by decide +kernel, rfl, by decide +kernel, by decide +kernel⟩
theorem sc19 : FnScope N19 ps19 (defScope (tp 19)) := ⟨rfl, rfl, rfl, by decide +kernel, rfl, by decide +kernel, by decide +kernel⟩
theorem sc20 : FnScope N20 ps20 (defScope (tp 20)) := ⟨rfl, rfl, rfl, by decide +kernel, rfl, by decide +kernel, by decide +kernel⟩
theorem sc21 : FnScope N21 ps21 (defScope (tp 21)) := ⟨rfl, rfl, rfl, by decide +kernel, rfl, by decide +kernel, by decide +kernel⟩
theorem sc22 : FnScope N22 ps22 (defScope (tp 22)) := ⟨rfl, rfl, rfl, by decide +kernel, rfl, by decide +kernel, by decide +kernel⟩
theorem sc23 : FnScope N23 ps23 (defScope (tp 23)) := ⟨rfl, rfl, rfl, by decide +kernel, rfl, by decide +kernel, by decide +kernel⟩
theorem sc24 : FnScope N24 ps24 (defScope (tp 24)) := ⟨rfl, rfl, rfl, by decide +kernel, rfl, by decide +kernel, by decide +kernel⟩
theorem sc25 : FnScope N25 ps25 (defScope (tp 25)) := ⟨rfl, rfl, rfl, by decide +kernel, rfl, by decide +kernel, by decide +kernel⟩
theorem sc26 : FnScope N26 ps26 (defScope (tp 26)) := ⟨rfl, rfl, rfl, by decide +kernel, rfl, by decide +kernel, by decide +kernel⟩
theorem sc27 : FnScope N27 ps27 (defScope (tp 27)) := ⟨rfl, rfl, rfl, by decide +kernel, rfl, by decide +kernel, by decide +kernel⟩
theorem sc28 : FnScope N28 ps28 (defScope (tp 28)) := ⟨rfl, rfl, rfl, by decide +kernel, rfl, by decide +kernel, by decide +kernel⟩
theorem sc29 : FnScope N29 ps29 (defScope (tp 29)) := ⟨rfl, rfl, rfl, by decide +kernel, rfl, by decide +kernel, by decide +kernel⟩
theorem sc30 : FnScope N30 ps30 (defScope (tp 30)) := ⟨rfl, rfl, rfl, by decide +kernel, rfl, by decide +kernel, by decide +kernel⟩
theorem sc31 : FnScope N31 ps31 (defScope (tp 31)) := ⟨rfl, rfl, rfl, by decide +kernel, rfl, by decide +kernel, by decide +kernel⟩
theorem sc32 : FnScope N32 ps32 (defScope (tp 32)) := ⟨rfl, rfl, rfl, by decide +kernel, rfl, by decide +kernel, by decide +kernel⟩
theorem sc33 : FnScope N33 ps33 (defScope (tp 33)) := ⟨rfl, rfl, rfl, by decide +kernel, rfl, by decide +kernel, by decide +kernel⟩
theorem sc34 : FnScope N34 ps34 (defScope (tp 34)) := ⟨rfl, rfl, rfl, by decide +kernel, rfl, by decide +kernel, by decide +kernel⟩
theorem sc35 : FnScope N35 ps35 (defScope (tp 35)) := ⟨rfl, rfl, rfl, by decide +kernel, rfl, by decide +kernel, by decide +kernel⟩
theorem sc36 : FnScope N36 ps36 (defScope (tp 36)) := ⟨rfl, rfl, rfl, by decide +kernel, rfl, by decide +kernel, by decide +kernel⟩
theorem sc37 : FnScope N37 ps37 (defScope (tp 37)) := ⟨rfl, rfl, rfl, by decide +kernel, rfl, by decide +kernel, by decide +kernel⟩
theorem sc38 : FnScope N38 ps38 (defScope (tp 38)) := ⟨rfl, rfl, rfl, by decide +kernel, rfl, by decide +kernel, by decide +kernel⟩
theorem sc39 : FnScope N39 ps39 (defScope (tp 39)) := ⟨rfl, rfl, rfl, by decide +kernel, rfl, by decide +kernel, by decide +kernel⟩
theorem sc40 : FnScope N40 ps40 (defScope (tp 40)) := ⟨rfl, rfl, rfl, by decide +kernel, rfl, by decide +kernel, by decide +kernel⟩
theorem sc41 : FnScope N41 ps41 (defScope (tp 41)) := ⟨rfl, rfl, rfl, by decide +kernel, rfl, by decide +kernel, by decide +kernel⟩
theorem sc42 : FnScope N42 ps42 (defScope (tp 42)) := ⟨rfl, rfl, rfl, by decide +kernel, rfl, by decide +kernel, by decide +kernel⟩
theorem sc43 : FnScope N43 ps43 (defScope (tp 43)) := ⟨rfl, rfl, rfl, by decide +kernel, rfl, by decide +kernel, by decide +kernel⟩
section
variable {P : Program} {w : World} {K : PySem.W.Frag} {mg : PySem.Str → Option Value} {base : Heap} {fd : Nat → FuncData} {wl n : Nat}
abbrev KB0 (fd : Nat → FuncData) : Prop := KBp (fd 10) (ps 10) (["high", "low", "lot"] : List PySem.Str) 0 [2, 1, 0]
abbrev KB1 (fd : Nat → FuncData) : Prop := KBp (fd 18) (ps 18) (["lots"] : List PySem.Str) 0 [0]
abbrev KB2 (fd : Nat → FuncData) : Prop := KBp (fd 19) (ps 19) (["lots"] : List PySem.Str) 0 [0]
abbrev KB3 (fd : Nat → FuncData) : Prop := KBp (fd 17) (ps 17) (["form"] : List PySem.Str) 0 [0]
abbrev KB4 (fd : Nat → FuncData) : Prop := KBp (fd 16) (ps 16) (["other", "one"] : List PySem.Str) 0 [1, 0]
abbrev KB5 (fd : Nat → FuncData) : Prop := KBp (fd 9) (ps 9) (["other", "one"] : List PySem.Str) 0 [1, 0]
abbrev KB6 (fd : Nat → FuncData) : Prop := KBp (fd 8) (ps 8) (["other", "one"] : List PySem.Str) 0 [1, 0]
abbrev KB7 (fd : Nat → FuncData) : Prop := KBp (fd 7) (ps 7) (["number", "lot"] : List PySem.Str) 0 [1, 0]
abbrev KB8 (fd : Nat → FuncData) : Prop := KBp (fd 6) (ps 6) (["thing"] : List PySem.Str) 0 [0]
theorem d0 (fx : Fx K mg (fa K) fd nm ps bl 44) (kb0 : KB0 fd) (kb1 : KB1 fd) (kb2 : KB2 fd) (kb3 : KB3 fd) (kb4 : KB4 fd) (kb5 : KB5 fd) (kb6 : KB6 fd) (kb7 : KB7 fd) (kb8 : KB8 fd) (L : Lv P w K mg base (ev K) (Pr wl) (fa K) fd ps 44 n) (F : FnP K 0 (fd 0)) : FnOk P w K mg base (L2.CX P w) (n + 2) (fa K 0) (fd 0) (ps 0) (spD (ev K) (callF (Pr wl) (n + 1) 0) (ps 0).length) := by
  refine lv_fn rfl rfl F sc0 rfl (by decide) fun cdv A outer s H E hr hc => ?_
  exact (ss_cons (s_whl hc.po (t_c ob_ne (c_cmp (o_ne hc.toCb.hK hc.toCb.hu64) (v_ne) (e_var rfl) e_int)) (ss_cons (s_par hc.calm hc.toCb.nd rfl rfl (by decide) rfl rfl (a_cons (e_var rfl) (a_cons (e_bin op_modN v_mod (e_var rfl) (e_var rfl)) a_nil)) rfl) ss_nil)) (ss_cons (s_ret (e_callB call_abs n_abs rfl (fx.m 0 _ rfl) bt_abs (a_cons (e_var rfl) a_nil))) ss_nil))
theorem d1 (fx : Fx K mg (fa K) fd nm ps bl 44) (kb0 : KB0 fd) (kb1 : KB1 fd) (kb2 : KB2 fd) (kb3 : KB3 fd) (kb4 : KB4 fd) (kb5 : KB5 fd) (kb6 : KB6 fd) (kb7 : KB7 fd) (kb8 : KB8 fd) (L : Lv P w K mg base (ev K) (Pr wl) (fa K) fd ps 44 n) (F : FnP K 1 (fd 1)) : FnOk P w K mg base (L2.CX P w) (n + 2) (fa K 1) (fd 1) (ps 1) (spD (ev K) (callF (Pr wl) (n + 1) 1) (ps 1).length) := by
  refine lv_fn rfl rfl F sc1 rfl (by decide) fun cdv A outer s H E hr hc => ?_
  exact (ss_cons (s_par hc.calm hc.toCb.nd rfl rfl (by decide) rfl rfl (a_cons (e_var rfl) (a_cons (e_bin op_modN v_mod (e_var rfl) (e_var rfl)) a_nil)) rfl) (ss_cons (s_asg (e_tup (a_cons e_int (a_cons e_int a_nil))) (g_tup hc.toCb hc.calm (gs_cons (g_name hc.toCb.nd rfl (Or.inl rfl)) (gs_cons (g_name hc.toCb.nd rfl (Or.inl rfl)) gs_nil)))) (ss_cons (s_whl hc.po (t_c ob_ne (c_cmp (o_ne hc.toCb.hK hc.toCb.hu64) (v_ne) (e_var rfl) e_int)) (ss_cons (s_set hc.toCb.nd rfl (Or.inl rfl) (e_bin o_fdiv v_fdiv (e_var rfl) (e_var rfl))) (ss_cons (s_par hc.calm hc.toCb.nd rfl rfl (by decide) rfl rfl (a_cons (e_var rfl) (a_cons (e_bin op_sub v_sub (e_var rfl) (e_bin (o_mul hc.toCb.hK) v_mul (e_var rfl) (e_var rfl))) a_nil)) rfl) (ss_cons (s_par hc.calm hc.toCb.nd rfl rfl (by decide) rfl rfl (a_cons (e_var rfl) (a_cons (e_bin op_sub v_sub (e_var rfl) (e_bin (o_mul hc.toCb.hK) v_mul (e_var rfl) (e_var rfl))) a_nil)) rfl) ss_nil)))) (ss_cons (s_ret (e_bin op_modN v_mod (e_var rfl) (e_var rfl))) ss_nil))))
theorem d2 (fx : Fx K mg (fa K) fd nm ps bl 44) (kb0 : KB0 fd) (kb1 : KB1 fd) (kb2 : KB2 fd) (kb3 : KB3 fd) (kb4 : KB4 fd) (kb5 : KB5 fd) (kb6 : KB6 fd) (kb7 : KB7 fd) (kb8 : KB8 fd) (L : Lv P w K mg base (ev K) (Pr wl) (fa K) fd ps 44 n) (F : FnP K 2 (fd 2)) : FnOk P w K mg base (L2.CX P w) (n + 2) (fa K 2) (fd 2) (ps 2) (spD (ev K) (callF (Pr wl) (n + 1) 2) (ps 2).length) := by
  refine lv_fn rfl rfl F sc2 rfl (by decide) fun cdv A outer s H E hr hc => ?_
  exact (ss_cons (s_set hc.toCb.nd rfl (Or.inl rfl) (e_box (e_call hc.toCb (L 0 (by decide)) hr rfl (fx.g 0 (by decide)) (fx.k 0 (by decide)) (fx.b 0 (by decide)) (a_cons (e_var rfl) (a_cons (e_var rfl) a_nil))))) (ss_cons (s_ite (t_c ob_ne (c_cmp (o_ne hc.toCb.hK hc.toCb.hu64) (v_ne) (e_bin op_modN v_mod (e_var rfl) (e_var rfl)) e_int)) (ss_cons (s_ret e_non) ss_nil) ss_nil) (ss_cons (s_set hc.toCb.nd rfl (Or.inl rfl) (e_bin o_fdiv v_fdiv (e_var rfl) (e_var rfl))) (ss_cons (s_ret (e_tup (a_cons (e_bin op_modN v_mod (e_bin (o_mul hc.toCb.hK) v_mul (e_bin o_fdiv v_fdiv (e_var rfl) (e_var rfl)) (e_call hc.toCb (L 1 (by decide)) hr rfl (fx.g 1 (by decide)) (fx.k 1 (by decide)) (fx.b 1 (by decide)) (a_cons (e_bin o_fdiv v_fdiv (e_var rfl) (e_var rfl)) (a_cons (e_var rfl) a_nil)))) (e_var rfl)) (a_cons (e_var rfl) a_nil)))) ss_nil))))
theorem d3 (fx : Fx K mg (fa K) fd nm ps bl 44) (kb0 : KB0 fd) (kb1 : KB1 fd) (kb2 : KB2 fd) (kb3 : KB3 fd) (kb4 : KB4 fd) (kb5 : KB5 fd) (kb6 : KB6 fd) (kb7 : KB7 fd) (kb8 : KB8 fd) (L : Lv P w K mg base (ev K) (Pr wl) (fa K) fd ps 44 n) (F : FnP K 3 (fd 3)) : FnOk P w K mg base (L2.CX P w) (n + 2) (fa K 3) (fd 3) (ps 3) (spD (ev K) (callF (Pr wl) (n + 1) 3) (ps 3).length) := by
  refine lv_fn rfl rfl F sc3 rfl (by decide) fun cdv A outer s H E hr hc => ?_
  exact (ss_cons (s_set hc.toCb.nd rfl (Or.inl rfl) (e_box (e_call hc.toCb (L 0 (by decide)) hr rfl (fx.g 0 (by decide)) (fx.k 0 (by decide)) (fx.b 0 (by decide)) (a_cons (e_var rfl) (a_cons (e_var rfl) a_nil))))) (ss_cons (s_set hc.toCb.nd rfl (Or.inl rfl) (e_ifx (t_c ob_lt (c_cmp o_lt v_lt (e_var rfl) e_int)) (e_un un_neg v_neg e_int) e_int)) (ss_cons (s_ret (e_tup (a_cons (e_bin o_fdiv v_fdiv (e_bin (o_mul hc.toCb.hK) v_mul (e_var rfl) (e_var rfl)) (e_var rfl)) (a_cons (e_bin o_fdiv v_fdiv (e_bin (o_mul hc.toCb.hK) v_mul (e_var rfl) (e_var rfl)) (e_var rfl)) a_nil)))) ss_nil)))
theorem d4 (fx : Fx K mg (fa K) fd nm ps bl 44) (kb0 : KB0 fd) (kb1 : KB1 fd) (kb2 : KB2 fd) (kb3 : KB3 fd) (kb4 : KB4 fd) (kb5 : KB5 fd) (kb6 : KB6 fd) (kb7 : KB7 fd) (kb8 : KB8 fd) (L : Lv P w K mg base (ev K) (Pr wl) (fa K) fd ps 44 n) (F : FnP K 4 (fd 4)) : FnOk P w K mg base (L2.CX P w) (n + 2) (fa K 4) (fd 4) (ps 4) (spD (ev K) (callF (Pr wl) (n + 1) 4) (ps 4).length) := by
  refine lv_fn rfl rfl F sc4 rfl (by decide) fun cdv A outer s H E hr hc => ?_
  exact (ss_cons (s_ret (e_and (e_isi hc.toCb ib rfl (fx.m 1 _ rfl) bt_isinstance (e_var rfl) (pe_bltn rfl (fx.m 3 _ rfl) bt_int rfl) (by intro c h; cases h)) (e_one (e_notE hc.toCb (e_isi hc.toCb ib rfl (fx.m 1 _ rfl) bt_isinstance (e_var rfl) (pe_bltn rfl (fx.m 2 _ rfl) bt_bool rfl) (by intro c h; cases h)))))) ss_nil)
theorem d5 (fx : Fx K mg (fa K) fd nm ps bl 44) (kb0 : KB0 fd) (kb1 : KB1 fd) (kb2 : KB2 fd) (kb3 : KB3 fd) (kb4 : KB4 fd) (kb5 : KB5 fd) (kb6 : KB6 fd) (kb7 : KB7 fd) (kb8 : KB8 fd) (L : Lv P w K mg base (ev K) (Pr wl) (fa K) fd ps 44 n) (F : FnP K 5 (fd 5)) : FnOk P w K mg base (L2.CX P w) (n + 2) (fa K 5) (fd 5) (ps 5) (spD (ev K) (callF (Pr wl) (n + 1) 5) (ps 5).length) := by
  refine lv_fn rfl rfl F sc5 rfl (by decide) fun cdv A outer s H E hr hc => ?_
  exact (ss_cons (s_ret (e_and (e_isi hc.toCb ib rfl (fx.m 1 _ rfl) bt_isinstance (e_var rfl) (pe_bltn rfl (fx.m 5 _ rfl) bt_tuple rfl) (by intro c h; cases h)) (e_one (e_c (c_cmp (o_eq hc.toCb.hK hc.toCb.hu64) (v_eq) (e_callB c_len (n_len hc.toCb.hK) rfl (fx.m 4 _ rfl) bt_len (a_cons (e_var rfl) a_nil)) (e_var rfl)))))) ss_nil)
theorem d6 (fx : Fx K mg (fa K) fd nm ps bl 44) (kb0 : KB0 fd) (kb1 : KB1 fd) (kb2 : KB2 fd) (kb3 : KB3 fd) (kb4 : KB4 fd) (kb5 : KB5 fd) (kb6 : KB6 fd) (kb7 : KB7 fd) (kb8 : KB8 fd) (L : Lv P w K mg base (ev K) (Pr wl) (fa K) fd ps 44 n) (F : FnP K 6 (fd 6)) : FnOk P w K mg base (L2.CX P w) (n + 2) (fa K 6) (fd 6) (ps 6) (spD (ev K) (callF (Pr wl) (n + 1) 6) (ps 6).length) := by
  refine lv_fn rfl rfl F sc6 rfl (by decide) fun cdv A outer s H E hr hc => ?_
  exact (ss_cons (s_ite (t_w (w_or (t_not (t_ex hc.toCb (e_call hc.toCb (L 5 (by decide)) hr rfl (fx.g 5 (by decide)) (fx.k 5 (by decide)) (fx.b 5 (by decide)) (a_cons (e_var rfl) (a_cons e_int a_nil))))) (w_or (t_not (t_ex hc.toCb (e_callB (cr_all hc.calm) (n_all hc.toCb.hK) rfl (fx.m 6 _ rfl) bt_all (a_cons (e_comp hc.calm hc.toCb.nd (i_seq hc.toCb (e_var rfl)) (show BlkOk N6 (defScope (tp 6)) _ [("number", 1)] from ⟨rfl, by decide +kernel, by decide +kernel, by decide +kernel, by decide +kernel⟩) (fun _ _ _ _ _ => (g_name (Cc.blk hc).toCb.nd rfl (Or.inl rfl))) (fun _ _ _ _ _ => ts_nil) (fun _ _ _ _ _ => (e_box (e_call (Cc.blk hc).toCb (L 4 (by decide)) hr rfl (fx.g 4 (by decide)) (fx.k 4 (by decide)) (fx.b 4 (by decide)) (a_cons (e_var rfl) a_nil)))) (by decide)) a_nil)))) (w_one (t_c ob_lt (c_cmp o_lt v_lt (e_idx hc.toCb (e_var rfl) e_int) e_int)))))) (ss_cons (s_ret e_bl) ss_nil) ss_nil) (ss_cons (s_ret (e_or (e_c (c_cmp (o_eq hc.toCb.hK hc.toCb.hu64) (v_eq) (e_idx hc.toCb (e_var rfl) e_int) e_int)) (e_one (e_chain o_le o_lt v_le v_lt e_int (e_idx hc.toCb (e_var rfl) e_int) (e_idx hc.toCb (e_var rfl) e_int))))) ss_nil))
theorem d7 (fx : Fx K mg (fa K) fd nm ps bl 44) (kb0 : KB0 fd) (kb1 : KB1 fd) (kb2 : KB2 fd) (kb3 : KB3 fd) (kb4 : KB4 fd) (kb5 : KB5 fd) (kb6 : KB6 fd) (kb7 : KB7 fd) (kb8 : KB8 fd) (L : Lv P w K mg base (ev K) (Pr wl) (fa K) fd ps 44 n) (F : FnP K 7 (fd 7)) : FnOk P w K mg base (L2.CX P w) (n + 2) (fa K 7) (fd 7) (ps 7) (spD (ev K) (callF (Pr wl) (n + 1) 7) (ps 7).length) := by
  refine lv_fn rfl rfl F sc7 rfl (by decide) fun cdv A outer s H E hr hc => ?_
  exact (ss_cons (s_asg (e_var rfl) (g_tup hc.toCb hc.calm (gs_cons (g_name hc.toCb.nd rfl (Or.inl rfl)) (gs_cons (g_name hc.toCb.nd rfl (Or.inl rfl)) gs_nil)))) (ss_cons (s_ret (e_ifx (t_c ob_eq (c_cmp (o_eq hc.toCb.hK hc.toCb.hu64) (v_eq) (e_var rfl) e_int)) (e_c (c_cmp (o_eq hc.toCb.hK hc.toCb.hu64) (v_eq) (e_var rfl) (e_var rfl))) (e_c (c_cmp (o_eq hc.toCb.hK hc.toCb.hu64) (v_eq) (e_bin op_modN v_mod (e_bin op_sub v_sub (e_var rfl) (e_var rfl)) (e_var rfl)) e_int)))) ss_nil))
theorem d8 (fx : Fx K mg (fa K) fd nm ps bl 44) (kb0 : KB0 fd) (kb1 : KB1 fd) (kb2 : KB2 fd) (kb3 : KB3 fd) (kb4 : KB4 fd) (kb5 : KB5 fd) (kb6 : KB6 fd) (kb7 : KB7 fd) (kb8 : KB8 fd) (L : Lv P w K mg base (ev K) (Pr wl) (fa K) fd ps 44 n) (F : FnP K 8 (fd 8)) : FnOk P w K mg base (L2.CX P w) (n + 2) (fa K 8) (fd 8) (ps 8) (spD (ev K) (callF (Pr wl) (n + 1) 8) (ps 8).length) := by
  refine lv_fn rfl rfl F sc8 rfl (by decide) fun cdv A outer s H E hr hc => ?_
  exact (ss_cons (s_ite (t_c ob_eq (c_cmp (o_eq hc.toCb.hK hc.toCb.hu64) (v_eq) (e_idx hc.toCb (e_var rfl) e_int) e_int)) (ss_cons (s_ret (e_ifx (t_ex hc.toCb (e_call hc.toCb (L 7 (by decide)) hr rfl (fx.g 7 (by decide)) (fx.k 7 (by decide)) (fx.b 7 (by decide)) (a_cons (e_var rfl) (a_cons (e_idx hc.toCb (e_var rfl) e_int) a_nil)))) (e_var rfl) e_non)) ss_nil) ss_nil) (ss_cons (s_ite (t_c ob_eq (c_cmp (o_eq hc.toCb.hK hc.toCb.hu64) (v_eq) (e_idx hc.toCb (e_var rfl) e_int) e_int)) (ss_cons (s_ret (e_ifx (t_ex hc.toCb (e_call hc.toCb (L 7 (by decide)) hr rfl (fx.g 7 (by decide)) (fx.k 7 (by decide)) (fx.b 7 (by decide)) (a_cons (e_var rfl) (a_cons (e_idx hc.toCb (e_var rfl) e_int) a_nil)))) (e_var rfl) e_non)) ss_nil) ss_nil) (ss_cons (s_set hc.toCb.nd rfl (Or.inl rfl) (e_box (e_call hc.toCb (L 2 (by decide)) hr rfl (fx.g 2 (by decide)) (fx.k 2 (by decide)) (fx.b 2 (by decide)) (a_cons (e_idx hc.toCb (e_var rfl) e_int) (a_cons (e_bin op_sub v_sub (e_idx hc.toCb (e_var rfl) e_int) (e_idx hc.toCb (e_var rfl) e_int)) (a_cons (e_idx hc.toCb (e_var rfl) e_int) a_nil)))))) (ss_cons (s_ite (t_c ob_isN (c_isN (e_var rfl))) (ss_cons (s_ret e_non) ss_nil) ss_nil) (ss_cons (s_set hc.toCb.nd rfl (Or.inl rfl) (e_box (e_bin (o_mul hc.toCb.hK) v_mul (e_idx hc.toCb (e_var rfl) e_int) (e_idx hc.toCb (e_var rfl) e_int)))) (ss_cons (s_ret (e_tup (a_cons (e_bin op_modN v_mod (e_bin (o_add hc.toCb.hK) v_add (e_idx hc.toCb (e_var rfl) e_int) (e_bin (o_mul hc.toCb.hK) v_mul (e_idx hc.toCb (e_var rfl) e_int) (e_idx hc.toCb (e_var rfl) e_int))) (e_var rfl)) (a_cons (e_var rfl) a_nil)))) ss_nil))))))
theorem d9 (fx : Fx K mg (fa K) fd nm ps bl 44) (kb0 : KB0 fd) (kb1 : KB1 fd) (kb2 : KB2 fd) (kb3 : KB3 fd) (kb4 : KB4 fd) (kb5 : KB5 fd) (kb6 : KB6 fd) (kb7 : KB7 fd) (kb8 : KB8 fd) (L : Lv P w K mg base (ev K) (Pr wl) (fa K) fd ps 44 n) (F : FnP K 9 (fd 9)) : FnOk P w K mg base (L2.CX P w) (n + 2) (fa K 9) (fd 9) (ps 9) (spD (ev K) (callF (Pr wl) (n + 1) 9) (ps 9).length) := by
  refine lv_fn rfl rfl F sc9 rfl (by decide) fun cdv A outer s H E hr hc => ?_
  exact (ss_cons (s_ite (t_not (t_ex hc.toCb (e_call hc.toCb (L 7 (by decide)) hr rfl (fx.g 7 (by decide)) (fx.k 7 (by decide)) (fx.b 7 (by decide)) (a_cons (e_var rfl) (a_cons (e_idx hc.toCb (e_var rfl) e_int) a_nil))))) (ss_cons (s_ret e_bl) ss_nil) ss_nil) (ss_cons (s_ret (e_or (e_c (c_cmp (o_eq hc.toCb.hK hc.toCb.hu64) (v_eq) (e_idx hc.toCb (e_var rfl) e_int) e_int)) (e_one (e_and (e_c (c_cmp (o_ne hc.toCb.hK hc.toCb.hu64) (v_ne) (e_idx hc.toCb (e_var rfl) e_int) e_int)) (e_one (e_c (c_cmp (o_eq hc.toCb.hK hc.toCb.hu64) (v_eq) (e_bin op_modN v_mod (e_idx hc.toCb (e_var rfl) e_int) (e_idx hc.toCb (e_var rfl) e_int)) e_int))))))) ss_nil))
theorem d10 (fx : Fx K mg (fa K) fd nm ps bl 44) (kb0 : KB0 fd) (kb1 : KB1 fd) (kb2 : KB2 fd) (kb3 : KB3 fd) (kb4 : KB4 fd) (kb5 : KB5 fd) (kb6 : KB6 fd) (kb7 : KB7 fd) (kb8 : KB8 fd) (L : Lv P w K mg base (ev K) (Pr wl) (fa K) fd ps 44 n) (F : FnP K 10 (fd 10)) : FnOk P w K mg base (L2.CX P w) (n + 2) (fa K 10) (fd 10) (ps 10) (spD (ev K) (callF (Pr wl) (n + 1) 10) (ps 10).length) := by
  refine lv_fn rfl rfl F sc10 rfl (by decide) fun cdv A outer s H E hr hc => ?_
  exact (ss_cons (s_asg (e_var rfl) (g_tup hc.toCb hc.calm (gs_cons (g_name hc.toCb.nd rfl (Or.inl rfl)) (gs_cons (g_name hc.toCb.nd rfl (Or.inl rfl)) gs_nil)))) (ss_cons (s_ite (t_c ob_eq (c_cmp (o_eq hc.toCb.hK hc.toCb.hu64) (v_eq) (e_var rfl) e_int)) (ss_cons (s_ret (e_ifx (t_chain ob_le o_le o_le v_le v_le (e_var rfl) (e_var rfl) (e_var rfl)) (e_tup (a_cons (e_var rfl) a_nil)) (e_tup a_nil))) ss_nil) ss_nil) (ss_cons (s_ret (e_tupRng hc rfl (fx.m 5 _ rfl) rfl (fx.m 7 _ rfl) (a_cons (e_bin (o_add hc.toCb.hK) v_add (e_var rfl) (e_bin op_modN v_mod (e_bin op_sub v_sub (e_var rfl) (e_var rfl)) (e_var rfl))) (a_cons (e_bin (o_add hc.toCb.hK) v_add (e_var rfl) e_int) (a_cons (e_var rfl) a_nil))))) ss_nil)))
theorem d11 (fx : Fx K mg (fa K) fd nm ps bl 44) (kb0 : KB0 fd) (kb1 : KB1 fd) (kb2 : KB2 fd) (kb3 : KB3 fd) (kb4 : KB4 fd) (kb5 : KB5 fd) (kb6 : KB6 fd) (kb7 : KB7 fd) (kb8 : KB8 fd) (L : Lv P w K mg base (ev K) (Pr wl) (fa K) fd ps 44 n) (F : FnP K 11 (fd 11)) : FnOk P w K mg base (L2.CX P w) (n + 2) (fa K 11) (fd 11) (ps 11) (spD (ev K) (callF (Pr wl) (n + 1) 11) (ps 11).length) := by
  refine lv_fn rfl rfl F sc11 rfl (by decide) fun cdv A outer s H E hr hc => ?_
  exact (ss_cons (s_asg (e_var rfl) (g_tup hc.toCb hc.calm (gs_cons (g_name hc.toCb.nd rfl (Or.inl rfl)) (gs_cons (g_name hc.toCb.nd rfl (Or.inl rfl)) (gs_cons (g_name hc.toCb.nd rfl (Or.inl rfl)) (gs_cons (g_name hc.toCb.nd rfl (Or.inl rfl)) gs_nil)))))) (ss_cons (s_ret (e_tup (a_cons (e_box (e_call hc.toCb (L 3 (by decide)) hr rfl (fx.g 3 (by decide)) (fx.k 3 (by decide)) (fx.b 3 (by decide)) (a_cons (e_var rfl) (a_cons (e_var rfl) a_nil)))) (a_cons (e_box (e_call hc.toCb (L 3 (by decide)) hr rfl (fx.g 3 (by decide)) (fx.k 3 (by decide)) (fx.b 3 (by decide)) (a_cons (e_bin op_sub v_sub (e_bin (o_mul hc.toCb.hK) v_mul (e_var rfl) (e_var rfl)) (e_bin (o_mul hc.toCb.hK) v_mul (e_var rfl) (e_var rfl))) (a_cons (e_var rfl) a_nil)))) a_nil)))) ss_nil))
theorem d12 (fx : Fx K mg (fa K) fd nm ps bl 44) (kb0 : KB0 fd) (kb1 : KB1 fd) (kb2 : KB2 fd) (kb3 : KB3 fd) (kb4 : KB4 fd) (kb5 : KB5 fd) (kb6 : KB6 fd) (kb7 : KB7 fd) (kb8 : KB8 fd) (L : Lv P w K mg base (ev K) (Pr wl) (fa K) fd ps 44 n) (F : FnP K 12 (fd 12)) : FnOk P w K mg base (L2.CX P w) (n + 2) (fa K 12) (fd 12) (ps 12) (spD (ev K) (callF (Pr wl) (n + 1) 12) (ps 12).length) := by
  refine lv_fn rfl rfl F sc12 rfl (by decide) fun cdv A outer s H E hr hc => ?_
  exact (ss_cons (s_ret (e_ifx (t_c ob_eq (c_cmp (o_eq hc.toCb.hK hc.toCb.hu64) (v_eq) (e_idx hc.toCb (e_var rfl) e_int) e_int)) e_int (e_bin o_fdiv v_fdiv (e_bin op_sub v_sub (e_var rfl) (e_idx hc.toCb (e_var rfl) e_int)) (e_idx hc.toCb (e_var rfl) e_int)))) ss_nil)
theorem d13 (fx : Fx K mg (fa K) fd nm ps bl 44) (kb0 : KB0 fd) (kb1 : KB1 fd) (kb2 : KB2 fd) (kb3 : KB3 fd) (kb4 : KB4 fd) (kb5 : KB5 fd) (kb6 : KB6 fd) (kb7 : KB7 fd) (kb8 : KB8 fd) (L : Lv P w K mg base (ev K) (Pr wl) (fa K) fd ps 44 n) (F : FnP K 13 (fd 13)) : FnOk P w K mg base (L2.CX P w) (n + 2) (fa K 13) (fd 13) (ps 13) (spD (ev K) (callF (Pr wl) (n + 1) 13) (ps 13).length) := by
  refine lv_fn rfl rfl F sc13 rfl (by decide) fun cdv A outer s H E hr hc => ?_
  exact (ss_cons (s_ret (e_bin (o_add hc.toCb.hK) v_add (e_idx hc.toCb (e_var rfl) e_int) (e_bin (o_mul hc.toCb.hK) v_mul (e_idx hc.toCb (e_var rfl) e_int) (e_call hc.toCb (L 12 (by decide)) hr rfl (fx.g 12 (by decide)) (fx.k 12 (by decide)) (fx.b 12 (by decide)) (a_cons (e_var rfl) (a_cons (e_var rfl) a_nil)))))) ss_nil)
theorem d14 (fx : Fx K mg (fa K) fd nm ps bl 44) (kb0 : KB0 fd) (kb1 : KB1 fd) (kb2 : KB2 fd) (kb3 : KB3 fd) (kb4 : KB4 fd) (kb5 : KB5 fd) (kb6 : KB6 fd) (kb7 : KB7 fd) (kb8 : KB8 fd) (L : Lv P w K mg base (ev K) (Pr wl) (fa K) fd ps 44 n) (F : FnP K 14 (fd 14)) : FnOk P w K mg base (L2.CX P w) (n + 2) (fa K 14) (fd 14) (ps 14) (spD (ev K) (callF (Pr wl) (n + 1) 14) (ps 14).length) := by
  refine lv_fn rfl rfl F sc14 rfl (by decide) fun cdv A outer s H E hr hc => ?_
  exact (ss_cons (s_ite (t_w (w_or (t_not (t_ex hc.toCb (e_call hc.toCb (L 7 (by decide)) hr rfl (fx.g 7 (by decide)) (fx.k 7 (by decide)) (fx.b 7 (by decide)) (a_cons (e_box (e_sl01 hc.toCb (e_var rfl) e_int)) (a_cons (e_var rfl) a_nil))))) (w_one (t_not (t_ex hc.toCb (e_call hc.toCb (L 7 (by decide)) hr rfl (fx.g 7 (by decide)) (fx.k 7 (by decide)) (fx.b 7 (by decide)) (a_cons (e_box (e_sl01 hc.toCb (e_var rfl) e_int)) (a_cons (e_var rfl) a_nil)))))))) (ss_cons (s_ret e_non) ss_nil) ss_nil) (ss_cons (s_ret (e_ifx (t_c ob_eq (c_cmp (o_eq hc.toCb.hK hc.toCb.hu64) (v_eq) (e_call hc.toCb (L 13 (by decide)) hr rfl (fx.g 13 (by decide)) (fx.k 13 (by decide)) (fx.b 13 (by decide)) (a_cons (e_var rfl) (a_cons (e_var rfl) a_nil))) (e_call hc.toCb (L 13 (by decide)) hr rfl (fx.g 13 (by decide)) (fx.k 13 (by decide)) (fx.b 13 (by decide)) (a_cons (e_var rfl) (a_cons (e_var rfl) a_nil))))) (e_tup (a_cons (e_var rfl) (a_cons e_int a_nil))) e_non)) ss_nil))
theorem d15 (fx : Fx K mg (fa K) fd nm ps bl 44) (kb0 : KB0 fd) (kb1 : KB1 fd) (kb2 : KB2 fd) (kb3 : KB3 fd) (kb4 : KB4 fd) (kb5 : KB5 fd) (kb6 : KB6 fd) (kb7 : KB7 fd) (kb8 : KB8 fd) (L : Lv P w K mg base (ev K) (Pr wl) (fa K) fd ps 44 n) (F : FnP K 15 (fd 15)) : FnOk P w K mg base (L2.CX P w) (n + 2) (fa K 15) (fd 15) (ps 15) (spD (ev K) (callF (Pr wl) (n + 1) 15) (ps 15).length) := by
  refine lv_fn rfl rfl F sc15 rfl (by decide) fun cdv A outer s H E hr hc => ?_
  exact (ss_cons (s_asg (e_idx hc.toCb (e_var rfl) e_int) (g_tup hc.toCb hc.calm (gs_cons (g_name hc.toCb.nd rfl (Or.inl rfl)) (gs_cons (g_name hc.toCb.nd rfl (Or.inl rfl)) gs_nil)))) (ss_cons (s_asg (e_idx hc.toCb (e_var rfl) e_int) (g_tup hc.toCb hc.calm (gs_cons (g_name hc.toCb.nd rfl (Or.inl rfl)) (gs_cons (g_name hc.toCb.nd rfl (Or.inl rfl)) gs_nil)))) (ss_cons (s_set hc.toCb.nd rfl (Or.inl rfl) (e_bin op_sub v_sub (e_bin (o_mul hc.toCb.hK) v_mul (e_var rfl) (e_var rfl)) (e_bin (o_mul hc.toCb.hK) v_mul (e_var rfl) (e_var rfl)))) (ss_cons (s_ite (t_c ob_eq (c_cmp (o_eq hc.toCb.hK hc.toCb.hu64) (v_eq) (e_var rfl) e_int)) (ss_cons (s_ret e_non) ss_nil) ss_nil) (ss_cons (s_set hc.toCb.nd rfl (Or.inl rfl) (e_bin op_sub v_sub (e_bin (o_mul hc.toCb.hK) v_mul (e_idx hc.toCb (e_idx hc.toCb (e_var rfl) e_int) e_int) (e_idx hc.toCb (e_idx hc.toCb (e_var rfl) e_int) e_int)) (e_bin (o_mul hc.toCb.hK) v_mul (e_idx hc.toCb (e_idx hc.toCb (e_var rfl) e_int) e_int) (e_idx hc.toCb (e_idx hc.toCb (e_var rfl) e_int) e_int)))) (ss_cons (s_aug hc.toCb.nd rfl (Or.inl rfl) o_imul v_imul (e_bin (o_mul hc.toCb.hK) v_mul (e_var rfl) (e_var rfl))) (ss_cons (s_aug hc.toCb.nd rfl (Or.inl rfl) o_imul v_imul (e_bin (o_mul hc.toCb.hK) v_mul (e_idx hc.toCb (e_idx hc.toCb (e_var rfl) e_int) e_int) (e_idx hc.toCb (e_idx hc.toCb (e_var rfl) e_int) e_int))) (ss_cons (s_ret (e_ifx (t_c ob_eq (c_cmp (o_eq hc.toCb.hK hc.toCb.hu64) (v_eq) (e_bin op_modN v_mod (e_var rfl) (e_var rfl)) e_int)) (e_bin o_fdiv v_fdiv (e_var rfl) (e_var rfl)) e_non)) ss_nil))))))))
theorem d16 (fx : Fx K mg (fa K) fd nm ps bl 44) (kb0 : KB0 fd) (kb1 : KB1 fd) (kb2 : KB2 fd) (kb3 : KB3 fd) (kb4 : KB4 fd) (kb5 : KB5 fd) (kb6 : KB6 fd) (kb7 : KB7 fd) (kb8 : KB8 fd) (L : Lv P w K mg base (ev K) (Pr wl) (fa K) fd ps 44 n) (F : FnP K 16 (fd 16)) : FnOk P w K mg base (L2.CX P w) (n + 2) (fa K 16) (fd 16) (ps 16) (spD (ev K) (callF (Pr wl) (n + 1) 16) (ps 16).length) := by
  refine lv_fn rfl rfl F sc16 rfl (by decide) fun cdv A outer s H E hr hc => ?_
  exact (ss_cons (s_ite (t_c ob_eq (c_cmp (o_eq hc.toCb.hK hc.toCb.hu64) (v_eq) (e_idx hc.toCb (e_var rfl) e_int) e_int)) (ss_cons (s_ret (e_call hc.toCb (L 14 (by decide)) hr rfl (fx.g 14 (by decide)) (fx.k 14 (by decide)) (fx.b 14 (by decide)) (a_cons (e_var rfl) (a_cons (e_var rfl) (a_cons (e_idx hc.toCb (e_var rfl) e_int) a_nil))))) ss_nil) ss_nil) (ss_cons (s_ite (t_c ob_eq (c_cmp (o_eq hc.toCb.hK hc.toCb.hu64) (v_eq) (e_idx hc.toCb (e_var rfl) e_int) e_int)) (ss_cons (s_ret (e_call hc.toCb (L 14 (by decide)) hr rfl (fx.g 14 (by decide)) (fx.k 14 (by decide)) (fx.b 14 (by decide)) (a_cons (e_var rfl) (a_cons (e_var rfl) (a_cons (e_idx hc.toCb (e_var rfl) e_int) a_nil))))) ss_nil) ss_nil) (ss_cons (s_ite (t_c ob_eq (c_cmp (o_eq hc.toCb.hK hc.toCb.hu64) (v_eq) (e_call hc.toCb (L 11 (by decide)) hr rfl (fx.g 11 (by decide)) (fx.k 11 (by decide)) (fx.b 11 (by decide)) (a_cons (e_var rfl) a_nil)) (e_call hc.toCb (L 11 (by decide)) hr rfl (fx.g 11 (by decide)) (fx.k 11 (by decide)) (fx.b 11 (by decide)) (a_cons (e_var rfl) a_nil)))) (ss_cons (s_ret (e_call hc.toCb (L 8 (by decide)) hr rfl (fx.g 8 (by decide)) (fx.k 8 (by decide)) (fx.b 8 (by decide)) (a_cons (e_box (e_sl01 hc.toCb (e_var rfl) e_int)) (a_cons (e_box (e_sl01 hc.toCb (e_var rfl) e_int)) a_nil)))) ss_nil) ss_nil) (ss_cons (s_set hc.toCb.nd rfl (Or.inl rfl) (e_box (e_call hc.toCb (L 15 (by decide)) hr rfl (fx.g 15 (by decide)) (fx.k 15 (by decide)) (fx.b 15 (by decide)) (a_cons (e_box (e_call hc.toCb (L 11 (by decide)) hr rfl (fx.g 11 (by decide)) (fx.k 11 (by decide)) (fx.b 11 (by decide)) (a_cons (e_var rfl) a_nil))) (a_cons (e_box (e_call hc.toCb (L 11 (by decide)) hr rfl (fx.g 11 (by decide)) (fx.k 11 (by decide)) (fx.b 11 (by decide)) (a_cons (e_var rfl) a_nil))) a_nil))))) (ss_cons (s_ret (e_ifx (t_c ob_isN (c_isN (e_var rfl))) e_non (e_call hc.toCb (L 14 (by decide)) hr rfl (fx.g 14 (by decide)) (fx.k 14 (by decide)) (fx.b 14 (by decide)) (a_cons (e_var rfl) (a_cons (e_var rfl) (a_cons (e_var rfl) a_nil)))))) ss_nil)))))
theorem d17 (fx : Fx K mg (fa K) fd nm ps bl 44) (kb0 : KB0 fd) (kb1 : KB1 fd) (kb2 : KB2 fd) (kb3 : KB3 fd) (kb4 : KB4 fd) (kb5 : KB5 fd) (kb6 : KB6 fd) (kb7 : KB7 fd) (kb8 : KB8 fd) (L : Lv P w K mg base (ev K) (Pr wl) (fa K) fd ps 44 n) (F : FnP K 17 (fd 17)) : FnOk P w K mg base (L2.CX P w) (n + 2) (fa K 17) (fd 17) (ps 17) (spD (ev K) (callF (Pr wl) (n + 1) 17) (ps 17).length) := by
  refine lv_fn rfl rfl F sc17 rfl (by decide) fun cdv A outer s H E hr hc => ?_
  exact (ss_cons (s_set hc.toCb.nd rfl (Or.inl rfl) (e_box (e_call hc.toCb (L 16 (by decide)) hr rfl (fx.g 16 (by decide)) (fx.k 16 (by decide)) (fx.b 16 (by decide)) (a_cons (e_var rfl) (a_cons (e_tup (a_cons e_int (a_cons e_int (a_cons e_int (a_cons e_int a_nil))))) a_nil))))) (ss_cons (s_ret (e_ifx (t_c ob_isN (c_isN (e_var rfl))) e_non (e_idx hc.toCb (e_var rfl) e_int))) ss_nil))
theorem d18 (fx : Fx K mg (fa K) fd nm ps bl 44) (kb0 : KB0 fd) (kb1 : KB1 fd) (kb2 : KB2 fd) (kb3 : KB3 fd) (kb4 : KB4 fd) (kb5 : KB5 fd) (kb6 : KB6 fd) (kb7 : KB7 fd) (kb8 : KB8 fd) (L : Lv P w K mg base (ev K) (Pr wl) (fa K) fd ps 44 n) (F : FnP K 18 (fd 18)) : FnOk P w K mg base (L2.CX P w) (n + 2) (fa K 18) (fd 18) (ps 18) (spD (ev K) (callF (Pr wl) (n + 1) 18) (ps 18).length) := by
  refine lv_fn rfl rfl F sc18 rfl (by decide) fun cdv A outer s H E hr hc => ?_
  exact (ss_cons (s_for hc.po hc.calm (i_enum hc.toCb rfl rfl (fx.m 8 _ rfl) (e_var rfl)) (g_tup hc.toCb hc.calm (gs_cons (g_name hc.toCb.nd rfl (Or.inl rfl)) (gs_cons (g_name hc.toCb.nd rfl (Or.inl rfl)) gs_nil))) (ss_cons (s_for hc.po hc.calm (i_rng rfl rfl (fx.m 7 _ rfl) (a_cons (e_bin (o_add hc.toCb.hK) v_add (e_var rfl) e_int) (a_cons (e_callB c_len (n_len hc.toCb.hK) rfl (fx.m 4 _ rfl) bt_len (a_cons (e_var rfl) a_nil)) a_nil))) (g_name hc.toCb.nd rfl (Or.inl rfl)) (ss_cons (s_ite (t_c ob_isN (c_isN (e_call hc.toCb (L 8 (by decide)) hr rfl (fx.g 8 (by decide)) (fx.k 8 (by decide)) (fx.b 8 (by decide)) (a_cons (e_var rfl) (a_cons (e_idx hc.toCb (e_var rfl) (e_var rfl)) a_nil))))) (ss_cons (s_ret (e_tup (a_cons (e_var rfl) (a_cons (e_var rfl) a_nil)))) ss_nil) ss_nil) ss_nil)) ss_nil)) (ss_cons (s_ret e_non) ss_nil))
theorem d19 (fx : Fx K mg (fa K) fd nm ps bl 44) (kb0 : KB0 fd) (kb1 : KB1 fd) (kb2 : KB2 fd) (kb3 : KB3 fd) (kb4 : KB4 fd) (kb5 : KB5 fd) (kb6 : KB6 fd) (kb7 : KB7 fd) (kb8 : KB8 fd) (L : Lv P w K mg base (ev K) (Pr wl) (fa K) fd ps 44 n) (F : FnP K 19 (fd 19)) : FnOk P w K mg base (L2.CX P w) (n + 2) (fa K 19) (fd 19) (ps 19) (spD (ev K) (callF (Pr wl) (n + 1) 19) (ps 19).length) := by
  refine lv_fn rfl rfl F sc19 rfl (by decide) fun cdv A outer s H E hr hc => ?_
  exact (ss_cons (s_set hc.toCb.nd rfl (Or.inl rfl) (e_tup (a_cons e_int (a_cons e_int a_nil)))) (ss_cons (s_for hc.po hc.calm (i_seq hc.toCb (e_var rfl)) (g_name hc.toCb.nd rfl (Or.inl rfl)) (ss_cons (s_set hc.toCb.nd rfl (Or.inl rfl) (e_box (e_ifx (t_c ob_isN (c_isN (e_var rfl))) e_non (e_call hc.toCb (L 8 (by decide)) hr rfl (fx.g 8 (by decide)) (fx.k 8 (by decide)) (fx.b 8 (by decide)) (a_cons (e_var rfl) (a_cons (e_var rfl) a_nil)))))) ss_nil)) (ss_cons (s_ret (e_var rfl)) ss_nil)))
theorem d20 (fx : Fx K mg (fa K) fd nm ps bl 44) (kb0 : KB0 fd) (kb1 : KB1 fd) (kb2 : KB2 fd) (kb3 : KB3 fd) (kb4 : KB4 fd) (kb5 : KB5 fd) (kb6 : KB6 fd) (kb7 : KB7 fd) (kb8 : KB8 fd) (L : Lv P w K mg base (ev K) (Pr wl) (fa K) fd ps 44 n) (F : FnP K 20 (fd 20)) : FnOk P w K mg base (L2.CX P w) (n + 2) (fa K 20) (fd 20) (ps 20) (spD (ev K) (callF (Pr wl) (n + 1) 20) (ps 20).length) := by
  refine lv_fn rfl rfl F sc20 rfl (by decide) fun cdv A outer s H E hr hc => ?_
  exact (ss_cons (s_ret (e_lst (a_cons (e_box (e_comp hc.calm hc.toCb.nd (i_seq hc.toCb (e_sl01 hc.toCb (e_var rfl) e_int)) (show BlkOk N20 (defScope (tp 20)) _ [("cell", 1)] from ⟨rfl, by decide +kernel, by decide +kernel, by decide +kernel, by decide +kernel⟩) (fun _ _ _ _ _ => (g_name (Cc.blk hc).toCb.nd rfl (Or.inl rfl))) (fun _ _ _ _ _ => ts_nil) (fun _ _ _ _ _ => (e_bin op_modN v_mod (e_callB call_abs n_abs rfl (fx.m 0 _ rfl) bt_abs (a_cons (e_callT c_int n_int1 rfl (fx.m 3 _ rfl) bt_int (a_cons (e_var rfl) a_nil)) a_nil)) (e_bin op_shlW v_shl e_int e_int))) (by decide))) (a_cons e_int (a_cons e_int a_nil))))) ss_nil)
theorem d21 (fx : Fx K mg (fa K) fd nm ps bl 44) (kb0 : KB0 fd) (kb1 : KB1 fd) (kb2 : KB2 fd) (kb3 : KB3 fd) (kb4 : KB4 fd) (kb5 : KB5 fd) (kb6 : KB6 fd) (kb7 : KB7 fd) (kb8 : KB8 fd) (L : Lv P w K mg base (ev K) (Pr wl) (fa K) fd ps 44 n) (F : FnP K 21 (fd 21)) : FnOk P w K mg base (L2.CX P w) (n + 2) (fa K 21) (fd 21) (ps 21) (spD (ev K) (callF (Pr wl) (n + 1) 21) (ps 21).length) := by
  refine lv_fn rfl rfl F sc21 rfl (by decide) fun cdv A outer s H E hr hc => ?_
  exact (ss_cons (s_setItem hc.toCb (e_box (e_bin (o_add hc.toCb.hK) v_add (e_idx hc.toCb (e_var rfl) e_int) e_int)) (e_var rfl) e_int) (ss_cons (s_set hc.toCb.nd rfl (Or.inl rfl) (e_idx hc.toCb (e_var rfl) e_int)) (ss_cons (s_ite (t_c ob_ne (c_cmp (o_ne hc.toCb.hK hc.toCb.hu64) (v_ne) (e_var rfl) (e_lst a_nil))) (ss_cons (s_set hc.toCb.nd rfl (Or.inl rfl) (e_bin op_modN v_mod (e_idx hc.toCb (e_var rfl) e_int) (e_callB c_len (n_len hc.toCb.hK) rfl (fx.m 4 _ rfl) bt_len (a_cons (e_var rfl) a_nil)))) (ss_cons (s_ite (t_c ob_ge (c_cmp o_ge v_ge (e_idx hc.toCb (e_var rfl) (e_var rfl)) (e_bin op_pow v_pow e_int e_int))) (ss_cons (s_set hc.toCb.nd rfl (Or.inl rfl) (e_bin op_modN v_mod (e_callT c_int n_int1 rfl (fx.m 3 _ rfl) bt_int (a_cons (e_idx hc.toCb (e_var rfl) (e_var rfl)) a_nil)) (e_var rfl))) (ss_cons (s_setItem hc.toCb (e_bin o_fdiv v_fdiv (e_idx hc.toCb (e_var rfl) (e_var rfl)) (e_var rfl)) (e_var rfl) (e_var rfl)) (ss_cons (s_ret (e_var rfl)) ss_nil))) ss_nil) (ss_cons (s_setItem hc.toCb (e_box (e_bin (o_add hc.toCb.hK) v_add (e_idx hc.toCb (e_var rfl) e_int) (e_idx hc.toCb (e_var rfl) (e_var rfl)))) (e_var rfl) e_int) ss_nil))) ss_nil) (ss_cons (s_setItem hc.toCb (e_bin op_modN v_mod (e_callT c_int n_int1 rfl (fx.m 3 _ rfl) bt_int (a_cons (e_bin (o_add hc.toCb.hK) v_add (e_bin (o_mul hc.toCb.hK) v_mul (e_idx hc.toCb (e_var rfl) e_int) (e_bin (o_add hc.toCb.hK) v_add (e_bin o_fdiv v_fdiv (e_idx hc.toCb (e_var rfl) e_int) e_int) e_int)) (e_idx hc.toCb (e_var rfl) e_int)) a_nil)) e_int) (e_var rfl) e_int) (ss_cons (s_ret (e_bin op_modN v_mod (e_bin o_fdiv v_fdiv (e_idx hc.toCb (e_var rfl) e_int) e_int) (e_var rfl))) ss_nil)))))
theorem d22 (fx : Fx K mg (fa K) fd nm ps bl 44) (kb0 : KB0 fd) (kb1 : KB1 fd) (kb2 : KB2 fd) (kb3 : KB3 fd) (kb4 : KB4 fd) (kb5 : KB5 fd) (kb6 : KB6 fd) (kb7 : KB7 fd) (kb8 : KB8 fd) (L : Lv P w K mg base (ev K) (Pr wl) (fa K) fd ps 44 n) (F : FnP K 22 (fd 22)) : FnOk P w K mg base (L2.CX P w) (n + 2) (fa K 22) (fd 22) (ps 22) (spD (ev K) (callF (Pr wl) (n + 1) 22) (ps 22).length) := by
  refine lv_fn rfl rfl F sc22 rfl (by decide) fun cdv A outer s H E hr hc => ?_
  exact (ss_cons (s_ret (e_idx hc.toCb (e_var rfl) (e_call hc.toCb (L 21 (by decide)) hr rfl (fx.g 21 (by decide)) (fx.k 21 (by decide)) (fx.b 21 (by decide)) (a_cons (e_var rfl) (a_cons (e_callB c_len (n_len hc.toCb.hK) rfl (fx.m 4 _ rfl) bt_len (a_cons (e_var rfl) a_nil)) a_nil))))) ss_nil)
theorem d23 (fx : Fx K mg (fa K) fd nm ps bl 44) (kb0 : KB0 fd) (kb1 : KB1 fd) (kb2 : KB2 fd) (kb3 : KB3 fd) (kb4 : KB4 fd) (kb5 : KB5 fd) (kb6 : KB6 fd) (kb7 : KB7 fd) (kb8 : KB8 fd) (L : Lv P w K mg base (ev K) (Pr wl) (fa K) fd ps 44 n) (F : FnP K 23 (fd 23)) : FnOk P w K mg base (L2.CX P w) (n + 2) (fa K 23) (fd 23) (ps 23) (spD (ev K) (callF (Pr wl) (n + 1) 23) (ps 23).length) := by
  refine lv_fn rfl rfl F sc23 rfl (by decide) fun cdv A outer s H E hr hc => ?_
  exact (ss_cons (s_set hc.toCb.nd rfl (Or.inl rfl) e_int) (ss_cons (s_for hc.po hc.calm (i_rng rfl rfl (fx.m 7 _ rfl) (a_cons e_int a_nil)) (g_name hc.toCb.nd rfl (Or.inl rfl)) (ss_cons (s_set hc.toCb.nd rfl (Or.inl rfl) (e_box (e_bin (o_add hc.toCb.hK) v_add (e_bin (o_mul hc.toCb.hK) v_mul (e_var rfl) e_int) (e_call hc.toCb (L 21 (by decide)) hr rfl (fx.g 21 (by decide)) (fx.k 21 (by decide)) (fx.b 21 (by decide)) (a_cons (e_var rfl) (a_cons e_int a_nil)))))) ss_nil)) (ss_cons (s_ret (e_bin op_modN v_mod (e_var rfl) (e_var rfl))) ss_nil)))
theorem d24 (fx : Fx K mg (fa K) fd nm ps bl 44) (kb0 : KB0 fd) (kb1 : KB1 fd) (kb2 : KB2 fd) (kb3 : KB3 fd) (kb4 : KB4 fd) (kb5 : KB5 fd) (kb6 : KB6 fd) (kb7 : KB7 fd) (kb8 : KB8 fd) (L : Lv P w K mg base (ev K) (Pr wl) (fa K) fd ps 44 n) (F : FnP K 24 (fd 24)) : FnOk P w K mg base (L2.CX P w) (n + 2) (fa K 24) (fd 24) (ps 24) (spD (ev K) (callF (Pr wl) (n + 1) 24) (ps 24).length) := by
  refine lv_fn rfl rfl F sc24 rfl (by decide) fun cdv A outer s H E hr hc => ?_
  exact (ss_cons (s_ite (t_c ob_isN (c_isN (e_var rfl))) (ss_cons (s_ret (e_c (c_isN (e_var rfl)))) ss_nil) ss_nil) (ss_cons (s_ite (t_ex hc.toCb (e_isi hc.toCb ib rfl (fx.m 1 _ rfl) bt_isinstance (e_var rfl) (pe_bltn rfl (fx.m 2 _ rfl) bt_bool rfl) (by intro c h; cases h))) (ss_cons (s_ret (e_and (e_isi hc.toCb ib rfl (fx.m 1 _ rfl) bt_isinstance (e_var rfl) (pe_bltn rfl (fx.m 2 _ rfl) bt_bool rfl) (by intro c h; cases h)) (e_one (e_c (c_cmp (o_eq hc.toCb.hK hc.toCb.hu64) (v_eq) (e_var rfl) (e_var rfl)))))) ss_nil) ss_nil) (ss_cons (s_ite (t_ex hc.toCb (e_isi hc.toCb ib rfl (fx.m 1 _ rfl) bt_isinstance (e_var rfl) (pe_bltn rfl (fx.m 3 _ rfl) bt_int rfl) (by intro c h; cases h))) (ss_cons (s_ret (e_and (e_isi hc.toCb ib rfl (fx.m 1 _ rfl) bt_isinstance (e_var rfl) (pe_bltn rfl (fx.m 3 _ rfl) bt_int rfl) (by intro c h; cases h)) (e_and (e_notE hc.toCb (e_isi hc.toCb ib rfl (fx.m 1 _ rfl) bt_isinstance (e_var rfl) (pe_bltn rfl (fx.m 2 _ rfl) bt_bool rfl) (by intro c h; cases h))) (e_one (e_c (c_cmp (o_eq hc.toCb.hK hc.toCb.hu64) (v_eq) (e_var rfl) (e_var rfl))))))) ss_nil) ss_nil) (ss_cons (s_ite (t_w (w_or (t_not (t_ex hc.toCb (e_isi hc.toCb ib rfl (fx.m 1 _ rfl) bt_isinstance (e_var rfl) (pe_bltn rfl (fx.m 5 _ rfl) bt_tuple rfl) (by intro c h; cases h)))) (w_one (t_c ob_ne (c_cmp (o_ne hc.toCb.hK hc.toCb.hu64) (v_ne) (e_callB c_len (n_len hc.toCb.hK) rfl (fx.m 4 _ rfl) bt_len (a_cons (e_var rfl) a_nil)) (e_callB c_len (n_len hc.toCb.hK) rfl (fx.m 4 _ rfl) bt_len (a_cons (e_var rfl) a_nil))))))) (ss_cons (s_ret e_bl) ss_nil) ss_nil) (ss_cons (s_ret (e_callB (cr_all hc.calm) (n_all hc.toCb.hK) rfl (fx.m 6 _ rfl) bt_all (a_cons (e_comp hc.calm hc.toCb.nd (i_rng rfl rfl (fx.m 7 _ rfl) (a_cons (e_callB c_len (n_len hc.toCb.hK) rfl (fx.m 4 _ rfl) bt_len (a_cons (e_var rfl) a_nil)) a_nil)) (show BlkOk N24 (defScope (tp 24)) _ [("k", 2)] from ⟨rfl, by decide +kernel, by decide +kernel, by decide +kernel, by decide +kernel⟩) (fun _ _ _ _ _ => (g_name (Cc.blk hc).toCb.nd rfl (Or.inl rfl))) (fun _ _ _ _ _ => ts_nil) (fun _ _ _ _ _ => (e_box (e_call (Cc.blk hc).toCb (L 24 (by decide)) hr rfl (fx.g 24 (by decide)) (fx.k 24 (by decide)) (fx.b 24 (by decide)) (a_cons (e_idx (Cc.blk hc).toCb (e_var rfl) (e_var rfl)) (a_cons (e_idx (Cc.blk hc).toCb (e_var rfl) (e_var rfl)) a_nil))))) (by decide)) a_nil))) ss_nil)))))
theorem d25 (fx : Fx K mg (fa K) fd nm ps bl 44) (kb0 : KB0 fd) (kb1 : KB1 fd) (kb2 : KB2 fd) (kb3 : KB3 fd) (kb4 : KB4 fd) (kb5 : KB5 fd) (kb6 : KB6 fd) (kb7 : KB7 fd) (kb8 : KB8 fd) (L : Lv P w K mg base (ev K) (Pr wl) (fa K) fd ps 44 n) (F : FnP K 25 (fd 25)) : FnOk P w K mg base (L2.CX P w) (n + 2) (fa K 25) (fd 25) (ps 25) (spD (ev K) (callF (Pr wl) (n + 1) 25) (ps 25).length) := by
  refine lv_fn rfl rfl F sc25 rfl (by decide) fun cdv A outer s H E hr hc => ?_
  exact (ss_cons (s_par hc.calm hc.toCb.nd rfl rfl (by decide) rfl rfl (a_cons (e_var rfl) (a_cons (e_var rfl) a_nil)) rfl) (ss_cons (s_asg (e_tup (a_cons e_int (a_cons e_int a_nil))) (g_tup hc.toCb hc.calm (gs_cons (g_name hc.toCb.nd rfl (Or.inl rfl)) (gs_cons (g_name hc.toCb.nd rfl (Or.inl rfl)) gs_nil)))) (ss_cons (s_for hc.po hc.calm (i_rng rfl rfl (fx.m 7 _ rfl) (a_cons (e_bin (o_add hc.toCb.hK) v_add (e_bin (o_mul hc.toCb.hK) v_mul e_int (e_bin (o_add hc.toCb.hK) v_add (e_bits (e_var rfl)) (e_bits (e_var rfl)))) e_int) a_nil)) (g_name hc.toCb.nd rfl (Or.inl rfl)) (ss_cons (s_ite (t_c ob_eq (c_cmp (o_eq hc.toCb.hK hc.toCb.hu64) (v_eq) (e_var rfl) e_int)) (ss_cons s_brk ss_nil) ss_nil) (ss_cons (s_set hc.toCb.nd rfl (Or.inl rfl) (e_bin o_fdiv v_fdiv (e_var rfl) (e_var rfl))) (ss_cons (s_par hc.calm hc.toCb.nd rfl rfl (by decide) rfl rfl (a_cons (e_var rfl) (a_cons (e_bin op_sub v_sub (e_var rfl) (e_bin (o_mul hc.toCb.hK) v_mul (e_var rfl) (e_var rfl))) a_nil)) rfl) (ss_cons (s_par hc.calm hc.toCb.nd rfl rfl (by decide) rfl rfl (a_cons (e_var rfl) (a_cons (e_bin op_sub v_sub (e_var rfl) (e_bin (o_mul hc.toCb.hK) v_mul (e_var rfl) (e_var rfl))) a_nil)) rfl) ss_nil))))) (ss_cons (s_ret (e_tup (a_cons (e_var rfl) (a_cons (e_var rfl) a_nil)))) ss_nil))))
theorem d26 (fx : Fx K mg (fa K) fd nm ps bl 44) (kb0 : KB0 fd) (kb1 : KB1 fd) (kb2 : KB2 fd) (kb3 : KB3 fd) (kb4 : KB4 fd) (kb5 : KB5 fd) (kb6 : KB6 fd) (kb7 : KB7 fd) (kb8 : KB8 fd) (L : Lv P w K mg base (ev K) (Pr wl) (fa K) fd ps 44 n) (F : FnP K 26 (fd 26)) : FnOk P w K mg base (L2.CX P w) (n + 2) (fa K 26) (fd 26) (ps 26) (spD (ev K) (callF (Pr wl) (n + 1) 26) (ps 26).length) := by
  refine lv_fn rfl rfl F sc26 rfl (by decide) fun cdv A outer s H E hr hc => ?_
  exact (ss_cons (s_ite (t_c ob_eq (c_cmp (o_eq hc.toCb.hK hc.toCb.hu64) (v_eq) (e_idx hc.toCb (e_var rfl) e_int) e_int)) (ss_cons (s_ret (e_c (c_cmp (o_eq hc.toCb.hK hc.toCb.hu64) (v_eq) (e_var rfl) (e_idx hc.toCb (e_var rfl) e_int)))) ss_nil) ss_nil) (ss_cons (s_ret (e_c (c_cmp (o_eq hc.toCb.hK hc.toCb.hu64) (v_eq) (e_bin op_modN v_mod (e_callT c_int n_int1 rfl (fx.m 3 _ rfl) bt_int (a_cons (e_bin op_sub v_sub (e_var rfl) (e_idx hc.toCb (e_var rfl) e_int)) a_nil)) (e_idx hc.toCb (e_var rfl) e_int)) e_int))) ss_nil))
theorem d27 (fx : Fx K mg (fa K) fd nm ps bl 44) (kb0 : KB0 fd) (kb1 : KB1 fd) (kb2 : KB2 fd) (kb3 : KB3 fd) (kb4 : KB4 fd) (kb5 : KB5 fd) (kb6 : KB6 fd) (kb7 : KB7 fd) (kb8 : KB8 fd) (L : Lv P w K mg base (ev K) (Pr wl) (fa K) fd ps 44 n) (F : FnP K 27 (fd 27)) : FnOk P w K mg base (L2.CX P w) (n + 2) (fa K 27) (fd 27) (ps 27) (spD (ev K) (callF (Pr wl) (n + 1) 27) (ps 27).length) := by
  refine lv_fn rfl rfl F sc27 rfl (by decide) fun cdv A outer s H E hr hc => ?_
  exact (ss_cons (s_ite (t_w (w_or (t_c ob_isN (c_isN (e_var rfl))) (w_one (t_c ob_isN (c_isN (e_var rfl)))))) (ss_cons (s_ret e_non) ss_nil) ss_nil) (ss_cons (s_ite (t_w (w_or (t_c ob_eq (c_cmp (o_eq hc.toCb.hK hc.toCb.hu64) (v_eq) (e_idx hc.toCb (e_var rfl) e_int) e_int)) (w_one (t_c ob_eq (c_cmp (o_eq hc.toCb.hK hc.toCb.hu64) (v_eq) (e_idx hc.toCb (e_var rfl) e_int) e_int))))) (ss_cons (s_asg (e_ifx (t_c ob_eq (c_cmp (o_eq hc.toCb.hK hc.toCb.hu64) (v_eq) (e_idx hc.toCb (e_var rfl) e_int) e_int)) (e_tup (a_cons (e_var rfl) (a_cons (e_var rfl) a_nil))) (e_tup (a_cons (e_var rfl) (a_cons (e_var rfl) a_nil)))) (g_tup hc.toCb hc.calm (gs_cons (g_name hc.toCb.nd rfl (Or.inl rfl)) (gs_cons (g_name hc.toCb.nd rfl (Or.inl rfl)) gs_nil)))) (ss_cons (s_ret (e_ifx (t_ex hc.toCb (e_call hc.toCb (L 26 (by decide)) hr rfl (fx.g 26 (by decide)) (fx.k 26 (by decide)) (fx.b 26 (by decide)) (a_cons (e_var rfl) (a_cons (e_idx hc.toCb (e_var rfl) e_int) a_nil)))) (e_var rfl) e_non)) ss_nil)) ss_nil) (ss_cons (s_asg (e_call hc.toCb (L 25 (by decide)) hr rfl (fx.g 25 (by decide)) (fx.k 25 (by decide)) (fx.b 25 (by decide)) (a_cons (e_idx hc.toCb (e_var rfl) e_int) (a_cons (e_idx hc.toCb (e_var rfl) e_int) a_nil))) (g_tup hc.toCb hc.calm (gs_cons (g_name hc.toCb.nd rfl (Or.inl rfl)) (gs_cons (g_name hc.toCb.nd rfl (Or.inl rfl)) gs_nil)))) (ss_cons (s_set hc.toCb.nd rfl (Or.inl rfl) (e_bin op_sub v_sub (e_idx hc.toCb (e_var rfl) e_int) (e_idx hc.toCb (e_var rfl) e_int))) (ss_cons (s_ite (t_c ob_ne (c_cmp (o_ne hc.toCb.hK hc.toCb.hu64) (v_ne) (e_bin op_modN v_mod (e_callT c_int n_int1 rfl (fx.m 3 _ rfl) bt_int (a_cons (e_var rfl) a_nil)) (e_var rfl)) e_int)) (ss_cons (s_ret e_non) ss_nil) ss_nil) (ss_cons (s_set hc.toCb.nd rfl (Or.inl rfl) (e_bin o_fdiv v_fdiv (e_idx hc.toCb (e_var rfl) e_int) (e_var rfl))) (ss_cons (s_set hc.toCb.nd rfl (Or.inl rfl) (e_box (e_bin (o_mul hc.toCb.hK) v_mul (e_idx hc.toCb (e_var rfl) e_int) (e_var rfl)))) (ss_cons (s_ret (e_tup (a_cons (e_bin op_modN v_mod (e_callT c_int n_int1 rfl (fx.m 3 _ rfl) bt_int (a_cons (e_bin (o_add hc.toCb.hK) v_add (e_idx hc.toCb (e_var rfl) e_int) (e_bin (o_mul hc.toCb.hK) v_mul (e_idx hc.toCb (e_var rfl) e_int) (e_bin op_modN v_mod (e_callT c_int n_int1 rfl (fx.m 3 _ rfl) bt_int (a_cons (e_bin (o_mul hc.toCb.hK) v_mul (e_bin o_fdiv v_fdiv (e_var rfl) (e_var rfl)) (e_var rfl)) a_nil)) (e_var rfl)))) a_nil)) (e_var rfl)) (a_cons (e_var rfl) a_nil)))) ss_nil))))))))
theorem d28 (fx : Fx K mg (fa K) fd nm ps bl 44) (kb0 : KB0 fd) (kb1 : KB1 fd) (kb2 : KB2 fd) (kb3 : KB3 fd) (kb4 : KB4 fd) (kb5 : KB5 fd) (kb6 : KB6 fd) (kb7 : KB7 fd) (kb8 : KB8 fd) (L : Lv P w K mg base (ev K) (Pr wl) (fa K) fd ps 44 n) (F : FnP K 28 (fd 28)) : FnOk P w K mg base (L2.CX P w) (n + 2) (fa K 28) (fd 28) (ps 28) (spD (ev K) (callF (Pr wl) (n + 1) 28) (ps 28).length) := by
  refine lv_fn rfl rfl F sc28 rfl (by decide) fun cdv A outer s H E hr hc => ?_
  exact (ss_cons (s_ite (t_c ob_eq (c_cmp (o_eq hc.toCb.hK hc.toCb.hu64) (v_eq) (e_idx hc.toCb (e_var rfl) e_int) e_int)) (ss_cons (s_ret (e_call hc.toCb (L 26 (by decide)) hr rfl (fx.g 26 (by decide)) (fx.k 26 (by decide)) (fx.b 26 (by decide)) (a_cons (e_var rfl) (a_cons (e_idx hc.toCb (e_var rfl) e_int) a_nil)))) ss_nil) ss_nil) (ss_cons (s_ret (e_and (e_c (c_cmp o_gt v_gt (e_idx hc.toCb (e_var rfl) e_int) e_int)) (e_and (e_c (c_cmp (o_eq hc.toCb.hK hc.toCb.hu64) (v_eq) (e_bin op_modN v_mod (e_idx hc.toCb (e_var rfl) e_int) (e_idx hc.toCb (e_var rfl) e_int)) e_int)) (e_one (e_call hc.toCb (L 26 (by decide)) hr rfl (fx.g 26 (by decide)) (fx.k 26 (by decide)) (fx.b 26 (by decide)) (a_cons (e_var rfl) (a_cons (e_idx hc.toCb (e_var rfl) e_int) a_nil))))))) ss_nil))
theorem d29 (fx : Fx K mg (fa K) fd nm ps bl 44) (kb0 : KB0 fd) (kb1 : KB1 fd) (kb2 : KB2 fd) (kb3 : KB3 fd) (kb4 : KB4 fd) (kb5 : KB5 fd) (kb6 : KB6 fd) (kb7 : KB7 fd) (kb8 : KB8 fd) (L : Lv P w K mg base (ev K) (Pr wl) (fa K) fd ps 44 n) (F : FnP K 29 (fd 29)) : FnOk P w K mg base (L2.CX P w) (n + 2) (fa K 29) (fd 29) (ps 29) (spD (ev K) (callF (Pr wl) (n + 1) 29) (ps 29).length) := by
  refine lv_fn rfl rfl F sc29 rfl (by decide) fun cdv A outer s H E hr hc => ?_
  exact (ss_cons (s_ret (e_ifx (t_c ob_eq (c_cmp (o_eq hc.toCb.hK hc.toCb.hu64) (v_eq) (e_idx hc.toCb (e_var rfl) e_int) e_int)) (e_idx hc.toCb (e_var rfl) e_int) (e_bin (o_add hc.toCb.hK) v_add (e_idx hc.toCb (e_var rfl) e_int) (e_bin (o_mul hc.toCb.hK) v_mul (e_bin o_fdiv v_fdiv (e_bin op_sub v_sub (e_var rfl) (e_idx hc.toCb (e_var rfl) e_int)) (e_idx hc.toCb (e_var rfl) e_int)) (e_idx hc.toCb (e_var rfl) e_int))))) ss_nil)
theorem d30 (fx : Fx K mg (fa K) fd nm ps bl 44) (kb0 : KB0 fd) (kb1 : KB1 fd) (kb2 : KB2 fd) (kb3 : KB3 fd) (kb4 : KB4 fd) (kb5 : KB5 fd) (kb6 : KB6 fd) (kb7 : KB7 fd) (kb8 : KB8 fd) (L : Lv P w K mg base (ev K) (Pr wl) (fa K) fd ps 44 n) (F : FnP K 30 (fd 30)) : FnOk P w K mg base (L2.CX P w) (n + 2) (fa K 30) (fd 30) (ps 30) (spD (ev K) (callF (Pr wl) (n + 1) 30) (ps 30).length) := by
  refine lv_fn rfl rfl F sc30 rfl (by decide) fun cdv A outer s H E hr hc => ?_
  exact (ss_cons (s_set hc.toCb.nd rfl (Or.inl rfl) (e_box (e_call hc.toCb (L 27 (by decide)) hr rfl (fx.g 27 (by decide)) (fx.k 27 (by decide)) (fx.b 27 (by decide)) (a_cons (e_tup (a_cons (e_idx hc.toCb (e_var rfl) e_int) (a_cons (e_idx hc.toCb (e_var rfl) e_int) a_nil))) (a_cons (e_tup (a_cons (e_idx hc.toCb (e_var rfl) e_int) (a_cons (e_idx hc.toCb (e_var rfl) e_int) a_nil))) a_nil))))) (ss_cons (s_ite (t_c ob_isN (c_isN (e_var rfl))) (ss_cons (s_ret e_non) ss_nil) ss_nil) (ss_cons (s_set hc.toCb.nd rfl (Or.inl rfl) (e_bin op_sub v_sub (e_call hc.toCb (L 29 (by decide)) hr rfl (fx.g 29 (by decide)) (fx.k 29 (by decide)) (fx.b 29 (by decide)) (a_cons (e_var rfl) (a_cons (e_idx hc.toCb (e_var rfl) e_int) a_nil))) (e_call hc.toCb (L 29 (by decide)) hr rfl (fx.g 29 (by decide)) (fx.k 29 (by decide)) (fx.b 29 (by decide)) (a_cons (e_var rfl) (a_cons (e_idx hc.toCb (e_var rfl) e_int) a_nil))))) (ss_cons (s_ite (t_c ob_eq (c_cmp (o_eq hc.toCb.hK hc.toCb.hu64) (v_eq) (e_idx hc.toCb (e_var rfl) e_int) e_int)) (ss_cons (s_ret (e_ifx (t_c ob_eq (c_cmp (o_eq hc.toCb.hK hc.toCb.hu64) (v_eq) (e_var rfl) e_int)) (e_var rfl) e_non)) ss_nil) ss_nil) (ss_cons (s_set hc.toCb.nd rfl (Or.inl rfl) (e_box (e_bin (o_add hc.toCb.hK) v_add (e_idx hc.toCb (e_var rfl) e_int) (e_idx hc.toCb (e_var rfl) e_int)))) (ss_cons (s_set hc.toCb.nd rfl (Or.inl rfl) (e_bin op_sub v_sub (e_bin op_sub v_sub (e_call hc.toCb (L 29 (by decide)) hr rfl (fx.g 29 (by decide)) (fx.k 29 (by decide)) (fx.b 29 (by decide)) (a_cons (e_var rfl) (a_cons (e_var rfl) a_nil))) (e_call hc.toCb (L 29 (by decide)) hr rfl (fx.g 29 (by decide)) (fx.k 29 (by decide)) (fx.b 29 (by decide)) (a_cons (e_var rfl) (a_cons (e_var rfl) a_nil)))) (e_var rfl))) (ss_cons (s_ite (t_c ob_eq (c_cmp (o_eq hc.toCb.hK hc.toCb.hu64) (v_eq) (e_var rfl) e_int)) (ss_cons (s_ret (e_ifx (t_c ob_eq (c_cmp (o_eq hc.toCb.hK hc.toCb.hu64) (v_eq) (e_var rfl) e_int)) (e_var rfl) e_non)) ss_nil) ss_nil) (ss_cons (s_ite (t_c ob_ne (c_cmp (o_ne hc.toCb.hK hc.toCb.hu64) (v_ne) (e_bin op_modN v_mod (e_callT c_int n_int1 rfl (fx.m 3 _ rfl) bt_int (a_cons (e_var rfl) a_nil)) (e_var rfl)) e_int)) (ss_cons (s_ret e_non) ss_nil) ss_nil) (ss_cons (s_ret (e_tup (a_cons (e_bin op_sub v_sub (e_idx hc.toCb (e_var rfl) e_int) (e_bin (o_mul hc.toCb.hK) v_mul (e_bin o_fdiv v_fdiv (e_var rfl) (e_var rfl)) (e_idx hc.toCb (e_var rfl) e_int))) (a_cons e_int a_nil)))) ss_nil)))))))))
theorem d31 (fx : Fx K mg (fa K) fd nm ps bl 44) (kb0 : KB0 fd) (kb1 : KB1 fd) (kb2 : KB2 fd) (kb3 : KB3 fd) (kb4 : KB4 fd) (kb5 : KB5 fd) (kb6 : KB6 fd) (kb7 : KB7 fd) (kb8 : KB8 fd) (L : Lv P w K mg base (ev K) (Pr wl) (fa K) fd ps 44 n) (F : FnP K 31 (fd 31)) : FnOk P w K mg base (L2.CX P w) (n + 2) (fa K 31) (fd 31) (ps 31) (spD (ev K) (callF (Pr wl) (n + 1) 31) (ps 31).length) := by
  refine lv_fn rfl rfl F sc31 rfl (by decide) fun cdv A outer s H E hr hc => ?_
  exact (ss_cons (s_asg (e_var rfl) (g_tup hc.toCb hc.calm (gs_cons (g_name hc.toCb.nd rfl (Or.inl rfl)) (gs_cons (g_name hc.toCb.nd rfl (Or.inl rfl)) (gs_cons (g_name hc.toCb.nd rfl (Or.inl rfl)) (gs_cons (g_name hc.toCb.nd rfl (Or.inl rfl)) gs_nil)))))) (ss_cons (s_ite (t_c ob_ne (c_cmp (o_ne hc.toCb.hK hc.toCb.hu64) (v_ne) (e_bin op_modN v_mod (e_callT c_int n_int1 rfl (fx.m 3 _ rfl) bt_int (a_cons (e_bin op_sub v_sub (e_var rfl) (e_var rfl)) a_nil)) (e_bin op_sub v_sub (e_var rfl) (e_var rfl))) e_int)) (ss_cons (s_ret e_non) ss_nil) ss_nil) (ss_cons (s_ret (e_bin (o_add hc.toCb.hK) v_add (e_var rfl) (e_bin (o_mul hc.toCb.hK) v_mul (e_bin o_fdiv v_fdiv (e_bin op_sub v_sub (e_var rfl) (e_var rfl)) (e_bin op_sub v_sub (e_var rfl) (e_var rfl))) (e_var rfl)))) ss_nil)))
theorem d32 (fx : Fx K mg (fa K) fd nm ps bl 44) (kb0 : KB0 fd) (kb1 : KB1 fd) (kb2 : KB2 fd) (kb3 : KB3 fd) (kb4 : KB4 fd) (kb5 : KB5 fd) (kb6 : KB6 fd) (kb7 : KB7 fd) (kb8 : KB8 fd) (L : Lv P w K mg base (ev K) (Pr wl) (fa K) fd ps 44 n) (F : FnP K 32 (fd 32)) : FnOk P w K mg base (L2.CX P w) (n + 2) (fa K 32) (fd 32) (ps 32) (spD (ev K) (callF (Pr wl) (n + 1) 32) (ps 32).length) := by
  refine lv_fn rfl rfl F sc32 rfl (by decide) fun cdv A outer s H E hr hc => ?_
  exact (ss_cons (s_set hc.toCb.nd rfl (Or.inl rfl) (e_c (c_cmp (o_eq hc.toCb.hK hc.toCb.hu64) (v_eq) (e_var rfl) (e_str rfl)))) (ss_cons (s_thru (ss_cons (s_ite (t_c ob_eq (c_cmp (o_eq (Cc.nox hc).toCb.hK (Cc.nox hc).toCb.hu64) (v_eq) (e_var rfl) (e_str rfl))) (ss_cons (s_ret (e_tup (a_cons (e_str rfl) (a_cons (e_box (e_ifx (t_ex (Cc.nox hc).toCb (e_var rfl)) (e_callKO (Cc.nox hc).toCb (L 6 (by decide)) hr rfl (fx.g 6 (by decide)) (fx.k 6 (by decide)) kb8 (k_cons (e_var rfl) k_nil) (by decide) (fun ds h => match ds, h with | [_], _ => rfl)) (e_call (Cc.nox hc).toCb (L 6 (by decide)) hr rfl (fx.g 6 (by decide)) (fx.k 6 (by decide)) (fx.b 6 (by decide)) (a_cons (e_var rfl) a_nil)))) a_nil)))) ss_nil) ss_nil) (ss_cons (s_ite (t_c ob_eq (c_cmp (o_eq (Cc.nox hc).toCb.hK (Cc.nox hc).toCb.hu64) (v_eq) (e_var rfl) (e_str rfl))) (ss_cons (s_ret (e_tup (a_cons (e_str rfl) (a_cons (e_box (e_ifx (t_ex (Cc.nox hc).toCb (e_var rfl)) (e_callKO (Cc.nox hc).toCb (L 7 (by decide)) hr rfl (fx.g 7 (by decide)) (fx.k 7 (by decide)) kb7 (k_cons (e_var rfl) (k_cons (e_var rfl) k_nil)) (by decide) (fun ds h => match ds, h with | [_, _], _ => rfl)) (e_call (Cc.nox hc).toCb (L 7 (by decide)) hr rfl (fx.g 7 (by decide)) (fx.k 7 (by decide)) (fx.b 7 (by decide)) (a_cons (e_var rfl) (a_cons (e_var rfl) a_nil))))) a_nil)))) ss_nil) ss_nil) (ss_cons (s_ite (t_c ob_eq (c_cmp (o_eq (Cc.nox hc).toCb.hK (Cc.nox hc).toCb.hu64) (v_eq) (e_var rfl) (e_str rfl))) (ss_cons (s_ret (e_tup (a_cons (e_str rfl) (a_cons (e_box (e_ifx (t_ex (Cc.nox hc).toCb (e_var rfl)) (e_callKO (Cc.nox hc).toCb (L 8 (by decide)) hr rfl (fx.g 8 (by decide)) (fx.k 8 (by decide)) kb6 (k_cons (e_var rfl) (k_cons (e_var rfl) k_nil)) (by decide) (fun ds h => match ds, h with | [_, _], _ => rfl)) (e_call (Cc.nox hc).toCb (L 8 (by decide)) hr rfl (fx.g 8 (by decide)) (fx.k 8 (by decide)) (fx.b 8 (by decide)) (a_cons (e_var rfl) (a_cons (e_var rfl) a_nil))))) a_nil)))) ss_nil) ss_nil) (ss_cons (s_ite (t_c ob_eq (c_cmp (o_eq (Cc.nox hc).toCb.hK (Cc.nox hc).toCb.hu64) (v_eq) (e_var rfl) (e_str rfl))) (ss_cons (s_ret (e_tup (a_cons (e_str rfl) (a_cons (e_box (e_ifx (t_ex (Cc.nox hc).toCb (e_var rfl)) (e_callKO (Cc.nox hc).toCb (L 9 (by decide)) hr rfl (fx.g 9 (by decide)) (fx.k 9 (by decide)) kb5 (k_cons (e_var rfl) (k_cons (e_var rfl) k_nil)) (by decide) (fun ds h => match ds, h with | [_, _], _ => rfl)) (e_call (Cc.nox hc).toCb (L 9 (by decide)) hr rfl (fx.g 9 (by decide)) (fx.k 9 (by decide)) (fx.b 9 (by decide)) (a_cons (e_var rfl) (a_cons (e_var rfl) a_nil))))) a_nil)))) ss_nil) ss_nil) (ss_cons (s_ite (t_c ob_eq (c_cmp (o_eq (Cc.nox hc).toCb.hK (Cc.nox hc).toCb.hu64) (v_eq) (e_var rfl) (e_str rfl))) (ss_cons (s_ret (e_tup (a_cons (e_str rfl) (a_cons (e_box (e_ifx (t_ex (Cc.nox hc).toCb (e_var rfl)) (e_callKO (Cc.nox hc).toCb (L 16 (by decide)) hr rfl (fx.g 16 (by decide)) (fx.k 16 (by decide)) kb4 (k_cons (e_var rfl) (k_cons (e_var rfl) k_nil)) (by decide) (fun ds h => match ds, h with | [_, _], _ => rfl)) (e_call (Cc.nox hc).toCb (L 16 (by decide)) hr rfl (fx.g 16 (by decide)) (fx.k 16 (by decide)) (fx.b 16 (by decide)) (a_cons (e_var rfl) (a_cons (e_var rfl) a_nil))))) a_nil)))) ss_nil) ss_nil) (ss_cons (s_ite (t_c ob_eq (c_cmp (o_eq (Cc.nox hc).toCb.hK (Cc.nox hc).toCb.hu64) (v_eq) (e_var rfl) (e_str rfl))) (ss_cons (s_ret (e_tup (a_cons (e_str rfl) (a_cons (e_box (e_ifx (t_ex (Cc.nox hc).toCb (e_var rfl)) (e_callKO (Cc.nox hc).toCb (L 17 (by decide)) hr rfl (fx.g 17 (by decide)) (fx.k 17 (by decide)) kb3 (k_cons (e_var rfl) k_nil) (by decide) (fun ds h => match ds, h with | [_], _ => rfl)) (e_call (Cc.nox hc).toCb (L 17 (by decide)) hr rfl (fx.g 17 (by decide)) (fx.k 17 (by decide)) (fx.b 17 (by decide)) (a_cons (e_var rfl) a_nil)))) a_nil)))) ss_nil) ss_nil) (ss_cons (s_ite (t_c ob_eq (c_cmp (o_eq (Cc.nox hc).toCb.hK (Cc.nox hc).toCb.hu64) (v_eq) (e_var rfl) (e_str rfl))) (ss_cons (s_ret (e_tup (a_cons (e_str rfl) (a_cons (e_box (e_ifx (t_ex (Cc.nox hc).toCb (e_var rfl)) (e_callKO (Cc.nox hc).toCb (L 19 (by decide)) hr rfl (fx.g 19 (by decide)) (fx.k 19 (by decide)) kb2 (k_cons (e_var rfl) k_nil) (by decide) (fun ds h => match ds, h with | [_], _ => rfl)) (e_call (Cc.nox hc).toCb (L 19 (by decide)) hr rfl (fx.g 19 (by decide)) (fx.k 19 (by decide)) (fx.b 19 (by decide)) (a_cons (e_var rfl) a_nil)))) a_nil)))) ss_nil) ss_nil) (ss_cons (s_ite (t_c ob_eq (c_cmp (o_eq (Cc.nox hc).toCb.hK (Cc.nox hc).toCb.hu64) (v_eq) (e_var rfl) (e_str rfl))) (ss_cons (s_ret (e_tup (a_cons (e_str rfl) (a_cons (e_box (e_ifx (t_ex (Cc.nox hc).toCb (e_var rfl)) (e_callKO (Cc.nox hc).toCb (L 18 (by decide)) hr rfl (fx.g 18 (by decide)) (fx.k 18 (by decide)) kb1 (k_cons (e_var rfl) k_nil) (by decide) (fun ds h => match ds, h with | [_], _ => rfl)) (e_call (Cc.nox hc).toCb (L 18 (by decide)) hr rfl (fx.g 18 (by decide)) (fx.k 18 (by decide)) (fx.b 18 (by decide)) (a_cons (e_var rfl) a_nil)))) a_nil)))) ss_nil) ss_nil) (ss_cons (s_ite (t_ex (Cc.nox hc).toCb (e_var rfl)) (ss_cons (s_ret (e_tup (a_cons (e_str rfl) (a_cons (e_box (e_callKO (Cc.nox hc).toCb (L 10 (by decide)) hr rfl (fx.g 10 (by decide)) (fx.k 10 (by decide)) kb0 (k_cons (e_idx (Cc.nox hc).toCb (e_var rfl) e_int) (k_cons (e_idx (Cc.nox hc).toCb (e_var rfl) e_int) (k_cons (e_var rfl) k_nil))) (by decide) (fun ds h => match ds, h with | [_, _, _], _ => rfl))) a_nil)))) ss_nil) ss_nil) (ss_cons (s_ret (e_tup (a_cons (e_str rfl) (a_cons (e_box (e_call (Cc.nox hc).toCb (L 10 (by decide)) hr rfl (fx.g 10 (by decide)) (fx.k 10 (by decide)) (fx.b 10 (by decide)) (a_cons (e_var rfl) (a_cons (e_idx (Cc.nox hc).toCb (e_var rfl) e_int) (a_cons (e_idx (Cc.nox hc).toCb (e_var rfl) e_int) a_nil))))) a_nil)))) ss_nil))))))))))) ss_nil))
theorem d33 (fx : Fx K mg (fa K) fd nm ps bl 44) (kb0 : KB0 fd) (kb1 : KB1 fd) (kb2 : KB2 fd) (kb3 : KB3 fd) (kb4 : KB4 fd) (kb5 : KB5 fd) (kb6 : KB6 fd) (kb7 : KB7 fd) (kb8 : KB8 fd) (L : Lv P w K mg base (ev K) (Pr wl) (fa K) fd ps 44 n) (F : FnP K 33 (fd 33)) : FnOk P w K mg base (L2.CX P w) (n + 2) (fa K 33) (fd 33) (ps 33) (spD (ev K) (callF (Pr wl) (n + 1) 33) (ps 33).length) := by
  refine lv_fn rfl rfl F sc33 rfl (by decide) fun cdv A outer s H E hr hc => ?_
  exact (ss_cons (s_set hc.toCb.nd rfl (Or.inl rfl) (e_box (e_call hc.toCb (L 32 (by decide)) hr rfl (fx.g 32 (by decide)) (fx.k 32 (by decide)) (fx.b 32 (by decide)) (a_cons (e_var rfl) (a_cons (e_var rfl) (a_cons (e_var rfl) (a_cons (e_box (e_call hc.toCb (L 22 (by decide)) hr rfl (fx.g 22 (by decide)) (fx.k 22 (by decide)) (fx.b 22 (by decide)) (a_cons (e_var rfl) (a_cons (e_box (e_lst (a_cons (e_str rfl) (a_cons (e_str rfl) (a_cons (e_str rfl) a_nil))))) a_nil)))) a_nil))))))) (ss_cons (s_ret (e_and (e_c (c_cmp (o_eq hc.toCb.hK hc.toCb.hu64) (v_eq) (e_idx hc.toCb (e_var rfl) e_int) (e_str rfl))) (e_one (e_call hc.toCb (L 24 (by decide)) hr rfl (fx.g 24 (by decide)) (fx.k 24 (by decide)) (fx.b 24 (by decide)) (a_cons (e_idx hc.toCb (e_var rfl) e_int) (a_cons (e_var rfl) a_nil)))))) ss_nil))
theorem d34 (fx : Fx K mg (fa K) fd nm ps bl 44) (kb0 : KB0 fd) (kb1 : KB1 fd) (kb2 : KB2 fd) (kb3 : KB3 fd) (kb4 : KB4 fd) (kb5 : KB5 fd) (kb6 : KB6 fd) (kb7 : KB7 fd) (kb8 : KB8 fd) (L : Lv P w K mg base (ev K) (Pr wl) (fa K) fd ps 44 n) (F : FnP K 34 (fd 34)) : FnOk P w K mg base (L2.CX P w) (n + 2) (fa K 34) (fd 34) (ps 34) (spD (ev K) (callF (Pr wl) (n + 1) 34) (ps 34).length) := by
  refine lv_fn rfl rfl F sc34 rfl (by decide) fun cdv A outer s H E hr hc => ?_
  exact (ss_cons (s_ite (t_c ob_eq (c_cmp (o_eq hc.toCb.hK hc.toCb.hu64) (v_eq) (e_var rfl) e_int)) (ss_cons (s_ret (e_tup (a_cons (e_box (e_call hc.toCb (L 22 (by decide)) hr rfl (fx.g 22 (by decide)) (fx.k 22 (by decide)) (fx.b 22 (by decide)) (a_cons (e_var rfl) (a_cons (e_box (e_lst (a_cons e_int (a_cons e_int (a_cons (e_un un_neg v_neg e_int) (a_cons e_int (a_cons (e_bin op_sub v_sub (e_call hc.toCb (L 21 (by decide)) hr rfl (fx.g 21 (by decide)) (fx.k 21 (by decide)) (fx.b 21 (by decide)) (a_cons (e_var rfl) (a_cons e_int a_nil))) e_int) a_nil))))))) a_nil)))) (a_cons e_int a_nil)))) ss_nil) ss_nil) (ss_cons (s_set hc.toCb.nd rfl (Or.inl rfl) (e_box (e_bin (o_add hc.toCb.hK) v_add e_int (e_call hc.toCb (L 21 (by decide)) hr rfl (fx.g 21 (by decide)) (fx.k 21 (by decide)) (fx.b 21 (by decide)) (a_cons (e_var rfl) (a_cons e_int a_nil)))))) (ss_cons (s_ite (t_c ob_eq (c_cmp (o_eq hc.toCb.hK hc.toCb.hu64) (v_eq) (e_var rfl) e_int)) (ss_cons (s_set hc.toCb.nd rfl (Or.inl rfl) (e_box (e_bin (o_add hc.toCb.hK) v_add e_int (e_call hc.toCb (L 21 (by decide)) hr rfl (fx.g 21 (by decide)) (fx.k 21 (by decide)) (fx.b 21 (by decide)) (a_cons (e_var rfl) (a_cons (e_bin op_pow v_pow e_int e_int) a_nil)))))) ss_nil) ss_nil) (ss_cons (s_ite (t_c ob_eq (c_cmp (o_eq hc.toCb.hK hc.toCb.hu64) (v_eq) (e_var rfl) e_int)) (ss_cons (s_set hc.toCb.nd rfl (Or.inl rfl) (e_box (e_bin (o_add hc.toCb.hK) v_add e_int (e_call hc.toCb (L 23 (by decide)) hr rfl (fx.g 23 (by decide)) (fx.k 23 (by decide)) (fx.b 23 (by decide)) (a_cons (e_var rfl) (a_cons (e_bin op_pow v_pow e_int e_int) a_nil)))))) ss_nil) ss_nil) (ss_cons (s_ite (t_c ob_eq (c_cmp (o_eq hc.toCb.hK hc.toCb.hu64) (v_eq) (e_var rfl) e_int)) (ss_cons (s_ret (e_tup (a_cons (e_bin op_sub v_sub (e_call hc.toCb (L 23 (by decide)) hr rfl (fx.g 23 (by decide)) (fx.k 23 (by decide)) (fx.b 23 (by decide)) (a_cons (e_var rfl) (a_cons (e_bin op_pow v_pow e_int e_int) a_nil))) (e_bin op_pow v_pow e_int e_int)) (a_cons e_int a_nil)))) ss_nil) ss_nil) (ss_cons (s_ret (e_tup (a_cons (e_box (e_call hc.toCb (L 22 (by decide)) hr rfl (fx.g 22 (by decide)) (fx.k 22 (by decide)) (fx.b 22 (by decide)) (a_cons (e_var rfl) (a_cons (e_box (e_lst (a_cons e_int (a_cons (e_bin op_sub v_sub (e_var rfl) e_int) (a_cons (e_box (e_call hc.toCb (L 23 (by decide)) hr rfl (fx.g 23 (by decide)) (fx.k 23 (by decide)) (fx.b 23 (by decide)) (a_cons (e_var rfl) (a_cons (e_var rfl) a_nil)))) a_nil))))) a_nil)))) (a_cons (e_var rfl) a_nil)))) ss_nil))))))
theorem d35 (fx : Fx K mg (fa K) fd nm ps bl 44) (kb0 : KB0 fd) (kb1 : KB1 fd) (kb2 : KB2 fd) (kb3 : KB3 fd) (kb4 : KB4 fd) (kb5 : KB5 fd) (kb6 : KB6 fd) (kb7 : KB7 fd) (kb8 : KB8 fd) (L : Lv P w K mg base (ev K) (Pr wl) (fa K) fd ps 44 n) (F : FnP K 35 (fd 35)) : FnOk P w K mg base (L2.CX P w) (n + 2) (fa K 35) (fd 35) (ps 35) (spD (ev K) (callF (Pr wl) (n + 1) 35) (ps 35).length) := by
  refine lv_fn rfl rfl F sc35 rfl (by decide) fun cdv A outer s H E hr hc => ?_
  exact (ss_cons (s_set hc.toCb.nd rfl (Or.inl rfl) (e_box (e_call hc.toCb (L 22 (by decide)) hr rfl (fx.g 22 (by decide)) (fx.k 22 (by decide)) (fx.b 22 (by decide)) (a_cons (e_var rfl) (a_cons (e_box (e_lst (a_cons e_int (a_cons e_int (a_cons e_int (a_cons e_int (a_cons e_int (a_cons e_int a_nil)))))))) a_nil))))) (ss_cons (s_set hc.toCb.nd rfl (Or.inl rfl) (e_box (e_call hc.toCb (L 34 (by decide)) hr rfl (fx.g 34 (by decide)) (fx.k 34 (by decide)) (fx.b 34 (by decide)) (a_cons (e_var rfl) (a_cons (e_var rfl) a_nil))))) (ss_cons (s_set hc.toCb.nd rfl (Or.inl rfl) (e_box (e_call hc.toCb (L 34 (by decide)) hr rfl (fx.g 34 (by decide)) (fx.k 34 (by decide)) (fx.b 34 (by decide)) (a_cons (e_var rfl) (a_cons (e_box (e_call hc.toCb (L 22 (by decide)) hr rfl (fx.g 22 (by decide)) (fx.k 22 (by decide)) (fx.b 22 (by decide)) (a_cons (e_var rfl) (a_cons (e_box (e_lst (a_cons (e_var rfl) (a_cons e_int (a_cons e_int (a_cons e_int (a_cons e_int (a_cons e_int a_nil)))))))) a_nil)))) a_nil))))) (ss_cons (s_ite (t_w (w_and (t_c ob_gt (c_cmp o_gt v_gt (e_idx hc.toCb (e_var rfl) e_int) e_int)) (w_one (t_c ob_gt (c_cmp o_gt v_gt (e_call hc.toCb (L 21 (by decide)) hr rfl (fx.g 21 (by decide)) (fx.k 21 (by decide)) (fx.b 21 (by decide)) (a_cons (e_var rfl) (a_cons e_int a_nil))) e_int))))) (ss_cons (s_set hc.toCb.nd rfl (Or.inl rfl) (e_box (e_ifx (t_c ob_eq (c_cmp (o_eq hc.toCb.hK hc.toCb.hu64) (v_eq) (e_call hc.toCb (L 21 (by decide)) hr rfl (fx.g 21 (by decide)) (fx.k 21 (by decide)) (fx.b 21 (by decide)) (a_cons (e_var rfl) (a_cons e_int a_nil))) e_int)) (e_bin (o_mul hc.toCb.hK) v_mul (e_idx hc.toCb (e_var rfl) e_int) (e_bin (o_add hc.toCb.hK) v_add e_int (e_call hc.toCb (L 21 (by decide)) hr rfl (fx.g 21 (by decide)) (fx.k 21 (by decide)) (fx.b 21 (by decide)) (a_cons (e_var rfl) (a_cons e_int a_nil))))) (e_bin (o_add hc.toCb.hK) v_add e_int (e_bin (o_mul hc.toCb.hK) v_mul (e_call hc.toCb (L 21 (by decide)) hr rfl (fx.g 21 (by decide)) (fx.k 21 (by decide)) (fx.b 21 (by decide)) (a_cons (e_var rfl) (a_cons e_int a_nil))) e_int))))) (ss_cons (s_set hc.toCb.nd rfl (Or.inl rfl) (e_box (e_bin (o_add hc.toCb.hK) v_add (e_bin (o_add hc.toCb.hK) v_add (e_idx hc.toCb (e_var rfl) e_int) (e_bin (o_mul hc.toCb.hK) v_mul (e_idx hc.toCb (e_var rfl) e_int) (e_call hc.toCb (L 21 (by decide)) hr rfl (fx.g 21 (by decide)) (fx.k 21 (by decide)) (fx.b 21 (by decide)) (a_cons (e_var rfl) (a_cons e_int a_nil))))) (e_call hc.toCb (L 21 (by decide)) hr rfl (fx.g 21 (by decide)) (fx.k 21 (by decide)) (fx.b 21 (by decide)) (a_cons (e_var rfl) (a_cons e_int a_nil)))))) (ss_cons (s_set hc.toCb.nd rfl (Or.inl rfl) (e_ifx (t_c ob_gt (c_cmp o_gt v_gt (e_call hc.toCb (L 21 (by decide)) hr rfl (fx.g 21 (by decide)) (fx.k 21 (by decide)) (fx.b 21 (by decide)) (a_cons (e_var rfl) (a_cons e_int a_nil))) e_int)) (e_tup (a_cons (e_bin op_modN v_mod (e_callT c_int n_int1 rfl (fx.m 3 _ rfl) bt_int (a_cons (e_var rfl) a_nil)) (e_var rfl)) (a_cons (e_var rfl) a_nil))) (e_tup (a_cons (e_var rfl) (a_cons e_int a_nil))))) ss_nil))) ss_nil) (ss_cons (s_ret (e_ifx (t_c ob_eq (c_cmp (o_eq hc.toCb.hK hc.toCb.hu64) (v_eq) (e_call hc.toCb (L 21 (by decide)) hr rfl (fx.g 21 (by decide)) (fx.k 21 (by decide)) (fx.b 21 (by decide)) (a_cons (e_var rfl) (a_cons e_int a_nil))) e_int)) (e_tup (a_cons (e_var rfl) (a_cons (e_var rfl) a_nil))) (e_tup (a_cons (e_var rfl) (a_cons (e_var rfl) a_nil))))) ss_nil)))))
theorem d36 (fx : Fx K mg (fa K) fd nm ps bl 44) (kb0 : KB0 fd) (kb1 : KB1 fd) (kb2 : KB2 fd) (kb3 : KB3 fd) (kb4 : KB4 fd) (kb5 : KB5 fd) (kb6 : KB6 fd) (kb7 : KB7 fd) (kb8 : KB8 fd) (L : Lv P w K mg base (ev K) (Pr wl) (fa K) fd ps 44 n) (F : FnP K 36 (fd 36)) : FnOk P w K mg base (L2.CX P w) (n + 2) (fa K 36) (fd 36) (ps 36) (spD (ev K) (callF (Pr wl) (n + 1) 36) (ps 36).length) := by
  refine lv_fn rfl rfl F sc36 rfl (by decide) fun cdv A outer s H E hr hc => ?_
  exact (ss_cons (s_asg (e_call hc.toCb (L 35 (by decide)) hr rfl (fx.g 35 (by decide)) (fx.k 35 (by decide)) (fx.b 35 (by decide)) (a_cons (e_var rfl) a_nil)) (g_tup hc.toCb hc.calm (gs_cons (g_name hc.toCb.nd rfl (Or.inr rfl)) (gs_cons (g_name hc.toCb.nd rfl (Or.inl rfl)) gs_nil)))) (ss_cons (s_ite (t_not (t_ex hc.toCb (e_call hc.toCb (L 33 (by decide)) hr rfl (fx.g 33 (by decide)) (fx.k 33 (by decide)) (fx.b 33 (by decide)) (a_cons (e_var rfl) (a_cons (e_str rfl) (a_cons (e_var rfl) (a_cons (e_var rfl) (a_cons (e_box (e_call hc.toCb (L 27 (by decide)) hr rfl (fx.g 27 (by decide)) (fx.k 27 (by decide)) (fx.b 27 (by decide)) (a_cons (e_var rfl) (a_cons (e_var rfl) a_nil)))) a_nil)))))))) (ss_cons (s_ret e_bl) ss_nil) ss_nil) (ss_cons (s_ite (t_not (t_ex hc.toCb (e_call hc.toCb (L 33 (by decide)) hr rfl (fx.g 33 (by decide)) (fx.k 33 (by decide)) (fx.b 33 (by decide)) (a_cons (e_var rfl) (a_cons (e_str rfl) (a_cons (e_var rfl) (a_cons (e_var rfl) (a_cons (e_box (e_call hc.toCb (L 28 (by decide)) hr rfl (fx.g 28 (by decide)) (fx.k 28 (by decide)) (fx.b 28 (by decide)) (a_cons (e_var rfl) (a_cons (e_var rfl) a_nil)))) a_nil)))))))) (ss_cons (s_ret e_bl) ss_nil) ss_nil) (ss_cons (s_ite (t_w (w_or (t_not (t_ex hc.toCb (e_call hc.toCb (L 33 (by decide)) hr rfl (fx.g 33 (by decide)) (fx.k 33 (by decide)) (fx.b 33 (by decide)) (a_cons (e_var rfl) (a_cons (e_str rfl) (a_cons (e_var rfl) (a_cons (e_var rfl) (a_cons e_bl a_nil)))))))) (w_one (t_not (t_ex hc.toCb (e_call hc.toCb (L 33 (by decide)) hr rfl (fx.g 33 (by decide)) (fx.k 33 (by decide)) (fx.b 33 (by decide)) (a_cons (e_var rfl) (a_cons (e_str rfl) (a_cons (e_var rfl) (a_cons (e_var rfl) (a_cons (e_var rfl) a_nil))))))))))) (ss_cons (s_ret e_bl) ss_nil) ss_nil) (ss_cons (s_set hc.toCb.nd rfl (Or.inl rfl) (e_box (e_call hc.toCb (L 22 (by decide)) hr rfl (fx.g 22 (by decide)) (fx.k 22 (by decide)) (fx.b 22 (by decide)) (a_cons (e_var rfl) (a_cons (e_box (e_lst (a_cons (e_idx hc.toCb (e_var rfl) e_int) (a_cons (e_box (e_bin (o_add hc.toCb.hK) v_add (e_idx hc.toCb (e_var rfl) e_int) (e_idx hc.toCb (e_var rfl) e_int))) (a_cons (e_bin op_sub v_sub (e_idx hc.toCb (e_var rfl) e_int) (e_bin (o_mul hc.toCb.hK) v_mul e_int (e_idx hc.toCb (e_var rfl) e_int))) (a_cons (e_box (e_bin (o_add hc.toCb.hK) v_add (e_idx hc.toCb (e_var rfl) e_int) e_int)) (a_cons (e_idx hc.toCb (e_var rfl) e_int) (a_cons (e_bin op_sub v_sub e_int (e_idx hc.toCb (e_var rfl) e_int)) a_nil)))))))) a_nil))))) (ss_cons (s_ite (t_w (w_or (t_not (t_ex hc.toCb (e_call hc.toCb (L 33 (by decide)) hr rfl (fx.g 33 (by decide)) (fx.k 33 (by decide)) (fx.b 33 (by decide)) (a_cons (e_var rfl) (a_cons (e_str rfl) (a_cons (e_var rfl) (a_cons (e_var rfl) (a_cons (e_box (e_call hc.toCb (L 26 (by decide)) hr rfl (fx.g 26 (by decide)) (fx.k 26 (by decide)) (fx.b 26 (by decide)) (a_cons (e_var rfl) (a_cons (e_var rfl) a_nil)))) a_nil)))))))) (w_one (t_not (t_ex hc.toCb (e_call hc.toCb (L 33 (by decide)) hr rfl (fx.g 33 (by decide)) (fx.k 33 (by decide)) (fx.b 33 (by decide)) (a_cons (e_var rfl) (a_cons (e_str rfl) (a_cons (e_var rfl) (a_cons (e_idx hc.toCb (e_var rfl) e_int) (a_cons e_bl a_nil))))))))))) (ss_cons (s_ret e_bl) ss_nil) ss_nil) (ss_cons (s_set hc.toCb.nd rfl (Or.inl rfl) (e_box (e_call hc.toCb (L 22 (by decide)) hr rfl (fx.g 22 (by decide)) (fx.k 22 (by decide)) (fx.b 22 (by decide)) (a_cons (e_var rfl) (a_cons (e_box (e_lst (a_cons (e_idx hc.toCb (e_var rfl) e_int) (a_cons (e_bin op_sub v_sub (e_idx hc.toCb (e_var rfl) e_int) e_int) (a_cons (e_bin op_sub v_sub (e_idx hc.toCb (e_var rfl) e_int) e_int) (a_cons (e_un un_neg v_neg e_int) (a_cons (e_box (e_bin (o_add hc.toCb.hK) v_add (e_idx hc.toCb (e_var rfl) e_int) e_int)) (a_cons (e_bin op_sub v_sub (e_idx hc.toCb (e_var rfl) e_int) (e_bin (o_mul hc.toCb.hK) v_mul (e_idx hc.toCb (e_var rfl) e_int) e_int)) a_nil)))))))) a_nil))))) (ss_cons (s_set hc.toCb.nd rfl (Or.inl rfl) (e_box (e_bin (o_add hc.toCb.hK) v_add (e_var rfl) (e_call hc.toCb (L 22 (by decide)) hr rfl (fx.g 22 (by decide)) (fx.k 22 (by decide)) (fx.b 22 (by decide)) (a_cons (e_var rfl) (a_cons (e_box (e_lst (a_cons e_int (a_cons (e_un un_neg v_neg e_int) (a_cons (e_un un_neg v_neg e_int) (a_cons e_int (a_cons e_int a_nil))))))) a_nil)))))) (ss_cons (s_set hc.toCb.nd rfl (Or.inl rfl) (e_callT call_tuple_of (n_tuple hc.toCb.hK) rfl (fx.m 5 _ rfl) bt_tuple (a_cons (e_comp hc.calm hc.toCb.nd (i_rng rfl rfl (fx.m 7 _ rfl) (a_cons (e_var rfl) (a_cons (e_bin (o_add hc.toCb.hK) v_add (e_var rfl) e_int) a_nil))) (show BlkOk N36 (defScope (tp 36)) _ [("x", 7)] from ⟨rfl, by decide +kernel, by decide +kernel, by decide +kernel, by decide +kernel⟩) (fun _ _ _ _ _ => (g_name (Cc.blk hc).toCb.nd rfl (Or.inl rfl))) (fun _ _ _ _ _ => (ts_one (t_ex (Cc.blk hc).toCb (e_call (Cc.blk hc).toCb (L 26 (by decide)) hr rfl (fx.g 26 (by decide)) (fx.k 26 (by decide)) (fx.b 26 (by decide)) (a_cons (e_var rfl) (a_cons (e_var rfl) a_nil)))))) (fun _ _ _ _ _ => (e_var rfl)) (by decide)) a_nil))) (ss_cons (s_ite (t_not (t_ex hc.toCb (e_call hc.toCb (L 33 (by decide)) hr rfl (fx.g 33 (by decide)) (fx.k 33 (by decide)) (fx.b 33 (by decide)) (a_cons (e_var rfl) (a_cons (e_str rfl) (a_cons (e_var rfl) (a_cons (e_tup (a_cons (e_var rfl) (a_cons (e_var rfl) a_nil))) (a_cons (e_var rfl) a_nil)))))))) (ss_cons (s_ret e_bl) ss_nil) ss_nil) (ss_cons (s_ret (e_and (e_call hc.toCb (L 33 (by decide)) hr rfl (fx.g 33 (by decide)) (fx.k 33 (by decide)) (fx.b 33 (by decide)) (a_cons (e_var rfl) (a_cons (e_str rfl) (a_cons (e_var rfl) (a_cons e_int (a_cons e_bl a_nil)))))) (e_one (e_call hc.toCb (L 33 (by decide)) hr rfl (fx.g 33 (by decide)) (fx.k 33 (by decide)) (fx.b 33 (by decide)) (a_cons (e_var rfl) (a_cons (e_str rfl) (a_cons (e_var rfl) (a_cons e_int (a_cons e_bl a_nil))))))))) ss_nil)))))))))))
theorem d37 (fx : Fx K mg (fa K) fd nm ps bl 44) (kb0 : KB0 fd) (kb1 : KB1 fd) (kb2 : KB2 fd) (kb3 : KB3 fd) (kb4 : KB4 fd) (kb5 : KB5 fd) (kb6 : KB6 fd) (kb7 : KB7 fd) (kb8 : KB8 fd) (L : Lv P w K mg base (ev K) (Pr wl) (fa K) fd ps 44 n) (F : FnP K 37 (fd 37)) : FnOk P w K mg base (L2.CX P w) (n + 2) (fa K 37) (fd 37) (ps 37) (spD (ev K) (callF (Pr wl) (n + 1) 37) (ps 37).length) := by
  refine lv_fn rfl rfl F sc37 rfl (by decide) fun cdv A outer s H E hr hc => ?_
  exact (ss_cons (s_set hc.toCb.nd rfl (Or.inl rfl) (e_box (e_bin (o_add hc.toCb.hK) v_add e_int (e_call hc.toCb (L 21 (by decide)) hr rfl (fx.g 21 (by decide)) (fx.k 21 (by decide)) (fx.b 21 (by decide)) (a_cons (e_var rfl) (a_cons e_int a_nil)))))) (ss_cons (s_set hc.toCb.nd rfl (Or.inl rfl) (e_box (e_call hc.toCb (L 21 (by decide)) hr rfl (fx.g 21 (by decide)) (fx.k 21 (by decide)) (fx.b 21 (by decide)) (a_cons (e_var rfl) (a_cons (e_var rfl) a_nil))))) (ss_cons (s_set hc.toCb.nd rfl (Or.inl rfl) (e_box (e_lst (a_cons (e_tup (a_cons (e_var rfl) (a_cons (e_var rfl) a_nil))) (a_cons (e_tup (a_cons (e_un un_neg v_neg e_int) (a_cons (e_var rfl) a_nil))) (a_cons (e_tup (a_cons (e_bin op_sub v_sub (e_var rfl) (e_var rfl)) (a_cons (e_var rfl) a_nil))) (a_cons (e_tup (a_cons (e_box (e_bin (o_add hc.toCb.hK) v_add (e_var rfl) (e_var rfl))) (a_cons (e_var rfl) a_nil))) (a_cons (e_tup (a_cons (e_var rfl) (a_cons (e_un un_neg v_neg (e_var rfl)) a_nil))) (a_cons (e_tup (a_cons e_int (a_cons (e_un un_neg v_neg e_int) a_nil))) (a_cons (e_box (e_lst (a_cons (e_var rfl) (a_cons (e_var rfl) a_nil)))) (a_cons (e_tup (a_cons (e_var rfl) a_nil)) a_nil))))))))))) (ss_cons (s_set hc.toCb.nd rfl (Or.inl rfl) (e_box (e_bin (o_add hc.toCb.hK) v_add (e_var rfl) (e_lst (a_cons (e_tup (a_cons (e_var rfl) (a_cons (e_var rfl) (a_cons e_int a_nil)))) (a_cons (e_tup (a_cons (e_var rfl) (a_cons (e_callT c_str n_str rfl (fx.m 9 _ rfl) bt_str (a_cons (e_var rfl) a_nil)) a_nil))) (a_cons (e_tup (a_cons e_non (a_cons (e_var rfl) a_nil))) (a_cons (e_tup (a_cons (e_str rfl) (a_cons (e_var rfl) a_nil))) (a_cons (e_tup (a_cons (e_var rfl) (a_cons e_non a_nil))) (a_cons (e_tup (a_cons (e_tup (a_cons (e_var rfl) (a_cons (e_var rfl) a_nil))) a_nil)) (a_cons (e_var rfl) (a_cons (e_str rfl) (a_cons e_non a_nil))))))))))))) (ss_cons (s_set hc.toCb.nd rfl (Or.inl rfl) (e_box (e_bin (o_add hc.toCb.hK) v_add (e_var rfl) (e_lst (a_cons (e_tup a_nil) (a_cons (e_tup (a_cons e_bl (a_cons (e_var rfl) a_nil))) (a_cons (e_tup (a_cons e_int (a_cons e_bl a_nil))) (a_cons (e_tup (a_cons e_bl (a_cons e_int a_nil))) (a_cons (e_tup (a_cons e_bl (a_cons (e_box (e_bin (o_add hc.toCb.hK) v_add (e_var rfl) e_int)) a_nil))) (a_cons (e_box (e_lst a_nil)) (a_cons (e_box (e_lst (a_cons (e_box (e_lst (a_cons (e_var rfl) a_nil))) (a_cons (e_box (e_lst (a_cons (e_var rfl) a_nil))) a_nil)))) (a_cons (e_tup (a_cons (e_tup (a_cons (e_var rfl) a_nil)) (a_cons (e_var rfl) a_nil))) a_nil)))))))))))) (ss_cons (s_for hc.po hc.calm (i_seq hc.toCb (e_var rfl)) (g_name hc.toCb.nd rfl (Or.inl rfl)) (ss_cons (s_ite (t_not (t_ex hc.toCb (e_call hc.toCb (L 33 (by decide)) hr rfl (fx.g 33 (by decide)) (fx.k 33 (by decide)) (fx.b 33 (by decide)) (a_cons (e_var rfl) (a_cons (e_str rfl) (a_cons (e_var rfl) (a_cons e_int (a_cons e_bl a_nil)))))))) (ss_cons (s_ret e_bl) ss_nil) ss_nil) ss_nil)) (ss_cons (s_for hc.po hc.calm (i_seq hc.toCb (e_lst (a_cons (e_tup (a_cons (e_var rfl) (a_cons (e_var rfl) a_nil))) (a_cons (e_tup (a_cons (e_bin op_sub v_sub (e_un un_neg v_neg (e_var rfl)) e_int) (a_cons e_int a_nil))) (a_cons (e_tup (a_cons e_int (a_cons e_int a_nil))) (a_cons (e_tup (a_cons e_int (a_cons e_int a_nil))) (a_cons (e_tup (a_cons (e_bin op_pow v_pow e_int e_int) (a_cons e_int a_nil))) (a_cons (e_tup (a_cons (e_bin op_pow v_pow e_int e_int) (a_cons (e_box (e_bin (o_add hc.toCb.hK) v_add (e_bin op_pow v_pow e_int e_int) e_int)) a_nil))) a_nil)))))))) (g_name hc.toCb.nd rfl (Or.inl rfl)) (ss_cons (s_ite (t_not (t_ex hc.toCb (e_call hc.toCb (L 33 (by decide)) hr rfl (fx.g 33 (by decide)) (fx.k 33 (by decide)) (fx.b 33 (by decide)) (a_cons (e_var rfl) (a_cons (e_str rfl) (a_cons (e_var rfl) (a_cons e_int (a_cons e_bl a_nil)))))))) (ss_cons (s_ret e_bl) ss_nil) ss_nil) ss_nil)) (ss_cons (s_ret e_bl) ss_nil))))))))
theorem d38 (fx : Fx K mg (fa K) fd nm ps bl 44) (kb0 : KB0 fd) (kb1 : KB1 fd) (kb2 : KB2 fd) (kb3 : KB3 fd) (kb4 : KB4 fd) (kb5 : KB5 fd) (kb6 : KB6 fd) (kb7 : KB7 fd) (kb8 : KB8 fd) (L : Lv P w K mg base (ev K) (Pr wl) (fa K) fd ps 44 n) (F : FnP K 38 (fd 38)) : FnOk P w K mg base (L2.CX P w) (n + 2) (fa K 38) (fd 38) (ps 38) (spD (ev K) (callF (Pr wl) (n + 1) 38) (ps 38).length) := by
  refine lv_fn rfl rfl F sc38 rfl (by decide) fun cdv A outer s H E hr hc => ?_
  exact (ss_cons (s_for hc.po hc.calm (i_rng rfl rfl (fx.m 7 _ rfl) (a_cons (e_callB c_len (n_len hc.toCb.hK) rfl (fx.m 4 _ rfl) bt_len (a_cons (e_var rfl) a_nil)) a_nil)) (g_name hc.toCb.nd rfl (Or.inl rfl)) (ss_cons (s_for hc.po hc.calm (i_rng rfl rfl (fx.m 7 _ rfl) (a_cons (e_bin (o_add hc.toCb.hK) v_add (e_var rfl) e_int) (a_cons (e_callB c_len (n_len hc.toCb.hK) rfl (fx.m 4 _ rfl) bt_len (a_cons (e_var rfl) a_nil)) a_nil))) (g_name hc.toCb.nd rfl (Or.inl rfl)) (ss_cons (s_ite (t_c ob_isN (c_isN (e_call hc.toCb (L 27 (by decide)) hr rfl (fx.g 27 (by decide)) (fx.k 27 (by decide)) (fx.b 27 (by decide)) (a_cons (e_idx hc.toCb (e_var rfl) (e_var rfl)) (a_cons (e_idx hc.toCb (e_var rfl) (e_var rfl)) a_nil))))) (ss_cons (s_ret (e_tup (a_cons (e_var rfl) (a_cons (e_var rfl) a_nil)))) ss_nil) ss_nil) ss_nil)) ss_nil)) (ss_cons (s_ret e_non) ss_nil))
theorem d39 (fx : Fx K mg (fa K) fd nm ps bl 44) (kb0 : KB0 fd) (kb1 : KB1 fd) (kb2 : KB2 fd) (kb3 : KB3 fd) (kb4 : KB4 fd) (kb5 : KB5 fd) (kb6 : KB6 fd) (kb7 : KB7 fd) (kb8 : KB8 fd) (L : Lv P w K mg base (ev K) (Pr wl) (fa K) fd ps 44 n) (F : FnP K 39 (fd 39)) : FnOk P w K mg base (L2.CX P w) (n + 2) (fa K 39) (fd 39) (ps 39) (spD (ev K) (callF (Pr wl) (n + 1) 39) (ps 39).length) := by
  refine lv_fn rfl rfl F sc39 rfl (by decide) fun cdv A outer s H E hr hc => ?_
  exact (ss_cons (s_set hc.toCb.nd rfl (Or.inl rfl) (e_bin op_sub v_sub (e_call hc.toCb (L 21 (by decide)) hr rfl (fx.g 21 (by decide)) (fx.k 21 (by decide)) (fx.b 21 (by decide)) (a_cons (e_var rfl) (a_cons e_int a_nil))) e_int)) (ss_cons (s_set hc.toCb.nd rfl (Or.inl rfl) (e_box (e_lst a_nil))) (ss_cons (s_set hc.toCb.nd rfl (Or.inl rfl) (e_box (e_call hc.toCb (L 22 (by decide)) hr rfl (fx.g 22 (by decide)) (fx.k 22 (by decide)) (fx.b 22 (by decide)) (a_cons (e_var rfl) (a_cons (e_box (e_lst (a_cons e_int (a_cons e_int (a_cons e_int (a_cons e_int (a_cons e_int a_nil))))))) a_nil))))) (ss_cons (s_for hc.po hc.calm (i_rng rfl rfl (fx.m 7 _ rfl) (a_cons (e_bin (o_add hc.toCb.hK) v_add e_int (e_call hc.toCb (L 21 (by decide)) hr rfl (fx.g 21 (by decide)) (fx.k 21 (by decide)) (fx.b 21 (by decide)) (a_cons (e_var rfl) (a_cons e_int a_nil)))) a_nil)) (g_name hc.toCb.nd rfl (Or.inl rfl)) (ss_cons (s_set hc.toCb.nd rfl (Or.inl rfl) (e_box (e_bin (o_add hc.toCb.hK) v_add e_int (e_call hc.toCb (L 21 (by decide)) hr rfl (fx.g 21 (by decide)) (fx.k 21 (by decide)) (fx.b 21 (by decide)) (a_cons (e_var rfl) (a_cons e_int a_nil)))))) (ss_cons (s_set hc.toCb.nd rfl (Or.inl rfl) (e_box (e_bin (o_add hc.toCb.hK) v_add (e_var rfl) (e_ifx (t_w (w_and (t_c ob_gt (c_cmp o_gt v_gt (e_var rfl) e_int)) (w_one (t_c ob_eq (c_cmp (o_eq hc.toCb.hK hc.toCb.hu64) (v_eq) (e_call hc.toCb (L 21 (by decide)) hr rfl (fx.g 21 (by decide)) (fx.k 21 (by decide)) (fx.b 21 (by decide)) (a_cons (e_var rfl) (a_cons (e_bin op_sub v_sub e_int (e_var rfl)) a_nil))) e_int))))) e_int e_int)))) (ss_cons (s_ex (e_append hc.toCb (e_var rfl) (e_ifx (t_c ob_eq (c_cmp (o_eq hc.toCb.hK hc.toCb.hu64) (v_eq) (e_call hc.toCb (L 21 (by decide)) hr rfl (fx.g 21 (by decide)) (fx.k 21 (by decide)) (fx.b 21 (by decide)) (a_cons (e_var rfl) (a_cons e_int a_nil))) e_int)) (e_tup (a_cons (e_var rfl) (a_cons e_int a_nil))) (e_tup (a_cons (e_bin op_modN v_mod (e_callT c_int n_int1 rfl (fx.m 3 _ rfl) bt_int (a_cons (e_var rfl) a_nil)) (e_var rfl)) (a_cons (e_var rfl) a_nil)))))) ss_nil)))) (ss_cons (s_set hc.toCb.nd rfl (Or.inl rfl) (e_tup (a_cons e_int (a_cons e_int a_nil)))) (ss_cons (s_for hc.po hc.calm (i_seq hc.toCb (e_var rfl)) (g_name hc.toCb.nd rfl (Or.inl rfl)) (ss_cons (s_set hc.toCb.nd rfl (Or.inl rfl) (e_box (e_call hc.toCb (L 27 (by decide)) hr rfl (fx.g 27 (by decide)) (fx.k 27 (by decide)) (fx.b 27 (by decide)) (a_cons (e_var rfl) (a_cons (e_var rfl) a_nil))))) ss_nil)) (ss_cons (s_for hc.po hc.calm (i_seq hc.toCb (e_lst (a_cons (e_tup (a_cons (e_callT call_tuple_of (n_tuple hc.toCb.hK) rfl (fx.m 5 _ rfl) bt_tuple (a_cons (e_var rfl) a_nil)) (a_cons (e_var rfl) a_nil))) (a_cons (e_tup (a_cons (e_callT call_tuple_of (n_tuple hc.toCb.hK) rfl (fx.m 5 _ rfl) bt_tuple (a_cons (e_sl01 hc.toCb (e_var rfl) e_int) a_nil)) (a_cons (e_idx hc.toCb (e_var rfl) e_int) a_nil))) (a_cons (e_tup (a_cons (e_tup a_nil) (a_cons (e_tup (a_cons e_int (a_cons e_int a_nil))) a_nil))) a_nil))))) (g_tup hc.toCb hc.calm (gs_cons (g_name hc.toCb.nd rfl (Or.inl rfl)) (gs_cons (g_name hc.toCb.nd rfl (Or.inl rfl)) gs_nil))) (ss_cons (s_ite (t_not (t_ex hc.toCb (e_call hc.toCb (L 33 (by decide)) hr rfl (fx.g 33 (by decide)) (fx.k 33 (by decide)) (fx.b 33 (by decide)) (a_cons (e_var rfl) (a_cons (e_str rfl) (a_cons (e_var rfl) (a_cons e_int (a_cons (e_var rfl) a_nil)))))))) (ss_cons (s_ret e_bl) ss_nil) ss_nil) (ss_cons (s_ite (t_not (t_ex hc.toCb (e_call hc.toCb (L 33 (by decide)) hr rfl (fx.g 33 (by decide)) (fx.k 33 (by decide)) (fx.b 33 (by decide)) (a_cons (e_var rfl) (a_cons (e_str rfl) (a_cons (e_var rfl) (a_cons e_int (a_cons (e_box (e_call hc.toCb (L 38 (by decide)) hr rfl (fx.g 38 (by decide)) (fx.k 38 (by decide)) (fx.b 38 (by decide)) (a_cons (e_var rfl) a_nil))) a_nil)))))))) (ss_cons (s_ret e_bl) ss_nil) ss_nil) ss_nil))) (ss_cons (s_set hc.toCb.nd rfl (Or.inl rfl) (e_tup (a_cons (e_tup (a_cons e_int (a_cons e_int a_nil))) (a_cons (e_tup (a_cons e_int (a_cons e_int a_nil))) (a_cons (e_tup (a_cons e_int (a_cons e_int a_nil))) (a_cons (e_tup (a_cons e_int (a_cons e_int a_nil))) (a_cons (e_tup (a_cons e_int (a_cons e_int a_nil))) a_nil))))))) (ss_cons (s_set hc.toCb.nd rfl (Or.inl rfl) (e_box (e_call hc.toCb (L 21 (by decide)) hr rfl (fx.g 21 (by decide)) (fx.k 21 (by decide)) (fx.b 21 (by decide)) (a_cons (e_var rfl) (a_cons e_int a_nil))))) (ss_cons (s_set hc.toCb.nd rfl (Or.inl rfl) (e_box (e_bin (o_add hc.toCb.hK) v_add (e_sl10 hc.toCb (e_var rfl) (e_var rfl)) (e_sl01 hc.toCb (e_var rfl) (e_var rfl))))) (ss_cons (s_set hc.toCb.nd rfl (Or.inl rfl) (e_box (e_call hc.toCb (L 21 (by decide)) hr rfl (fx.g 21 (by decide)) (fx.k 21 (by decide)) (fx.b 21 (by decide)) (a_cons (e_var rfl) (a_cons e_int a_nil))))) (ss_cons (s_set hc.toCb.nd rfl (Or.inl rfl) (e_box (e_sl01 hc.toCb (e_tup (a_cons (e_tup (a_cons e_int (a_cons e_int a_nil))) (a_cons (e_tup (a_cons (e_var rfl) (a_cons e_int a_nil))) (a_cons (e_tup (a_cons e_int (a_cons e_int a_nil))) (a_cons (e_tup (a_cons (e_var rfl) (a_cons e_int a_nil))) (a_cons (e_tup (a_cons (e_bin op_sub v_sub e_int (e_var rfl)) (a_cons e_int a_nil))) (a_cons (e_tup (a_cons (e_bin op_sub v_sub e_int (e_var rfl)) (a_cons e_int a_nil))) a_nil))))))) (e_bin (o_add hc.toCb.hK) v_add e_int (e_call hc.toCb (L 21 (by decide)) hr rfl (fx.g 21 (by decide)) (fx.k 21 (by decide)) (fx.b 21 (by decide)) (a_cons (e_var rfl) (a_cons e_int a_nil))))))) (ss_cons (s_ite (t_w (w_or (t_not (t_ex hc.toCb (e_call hc.toCb (L 33 (by decide)) hr rfl (fx.g 33 (by decide)) (fx.k 33 (by decide)) (fx.b 33 (by decide)) (a_cons (e_var rfl) (a_cons (e_str rfl) (a_cons (e_var rfl) (a_cons e_int (a_cons (e_tup (a_cons e_int (a_cons e_int a_nil))) a_nil)))))))) (w_one (t_not (t_ex hc.toCb (e_call hc.toCb (L 33 (by decide)) hr rfl (fx.g 33 (by decide)) (fx.k 33 (by decide)) (fx.b 33 (by decide)) (a_cons (e_var rfl) (a_cons (e_str rfl) (a_cons (e_var rfl) (a_cons e_int (a_cons e_non a_nil))))))))))) (ss_cons (s_ret e_bl) ss_nil) ss_nil) (ss_cons (s_ret (e_and (e_call hc.toCb (L 33 (by decide)) hr rfl (fx.g 33 (by decide)) (fx.k 33 (by decide)) (fx.b 33 (by decide)) (a_cons (e_var rfl) (a_cons (e_str rfl) (a_cons (e_var rfl) (a_cons e_int (a_cons e_non a_nil)))))) (e_one (e_call hc.toCb (L 33 (by decide)) hr rfl (fx.g 33 (by decide)) (fx.k 33 (by decide)) (fx.b 33 (by decide)) (a_cons (e_var rfl) (a_cons (e_str rfl) (a_cons (e_var rfl) (a_cons e_int (a_cons (e_box (e_call hc.toCb (L 38 (by decide)) hr rfl (fx.g 38 (by decide)) (fx.k 38 (by decide)) (fx.b 38 (by decide)) (a_cons (e_var rfl) a_nil))) a_nil))))))))) ss_nil))))))))))))))
theorem d40 (fx : Fx K mg (fa K) fd nm ps bl 44) (kb0 : KB0 fd) (kb1 : KB1 fd) (kb2 : KB2 fd) (kb3 : KB3 fd) (kb4 : KB4 fd) (kb5 : KB5 fd) (kb6 : KB6 fd) (kb7 : KB7 fd) (kb8 : KB8 fd) (L : Lv P w K mg base (ev K) (Pr wl) (fa K) fd ps 44 n) (F : FnP K 40 (fd 40)) : FnOk P w K mg base (L2.CX P w) (n + 2) (fa K 40) (fd 40) (ps 40) (spD (ev K) (callF (Pr wl) (n + 1) 40) (ps 40).length) := by
  refine lv_fn rfl rfl F sc40 rfl (by decide) fun cdv A outer s H E hr hc => ?_
  exact (ss_cons (s_set hc.toCb.nd rfl (Or.inl rfl) (e_ifx (t_ex hc.toCb (e_var rfl)) (e_bin op_pow v_pow e_int e_int) e_int)) (ss_cons (s_set hc.toCb.nd rfl (Or.inl rfl) (e_box (e_bin (o_add hc.toCb.hK) v_add e_int (e_call hc.toCb (L 21 (by decide)) hr rfl (fx.g 21 (by decide)) (fx.k 21 (by decide)) (fx.b 21 (by decide)) (a_cons (e_var rfl) (a_cons (e_var rfl) a_nil)))))) (ss_cons (s_set hc.toCb.nd rfl (Or.inl rfl) (e_box (e_call hc.toCb (L 22 (by decide)) hr rfl (fx.g 22 (by decide)) (fx.k 22 (by decide)) (fx.b 22 (by decide)) (a_cons (e_var rfl) (a_cons (e_box (e_lst (a_cons e_int (a_cons (e_bin op_sub v_sub (e_var rfl) e_int) (a_cons (e_box (e_call hc.toCb (L 21 (by decide)) hr rfl (fx.g 21 (by decide)) (fx.k 21 (by decide)) (fx.b 21 (by decide)) (a_cons (e_var rfl) (a_cons (e_var rfl) a_nil)))) a_nil))))) a_nil))))) (ss_cons (s_set hc.toCb.nd rfl (Or.inl rfl) (e_box (e_bin (o_mul hc.toCb.hK) v_mul (e_bin (o_add hc.toCb.hK) v_add e_int (e_call hc.toCb (L 21 (by decide)) hr rfl (fx.g 21 (by decide)) (fx.k 21 (by decide)) (fx.b 21 (by decide)) (a_cons (e_var rfl) (a_cons (e_var rfl) a_nil)))) (e_call hc.toCb (L 22 (by decide)) hr rfl (fx.g 22 (by decide)) (fx.k 22 (by decide)) (fx.b 22 (by decide)) (a_cons (e_var rfl) (a_cons (e_box (e_lst (a_cons e_int (a_cons e_int (a_cons (e_un un_neg v_neg e_int) a_nil))))) a_nil)))))) (ss_cons (s_set hc.toCb.nd rfl (Or.inl rfl) (e_ifx (t_ex hc.toCb (e_var rfl)) (e_bin op_sub v_sub (e_call hc.toCb (L 21 (by decide)) hr rfl (fx.g 21 (by decide)) (fx.k 21 (by decide)) (fx.b 21 (by decide)) (a_cons (e_var rfl) (a_cons (e_bin op_pow v_pow e_int e_int) a_nil))) (e_bin op_pow v_pow e_int e_int)) (e_bin op_sub v_sub (e_call hc.toCb (L 21 (by decide)) hr rfl (fx.g 21 (by decide)) (fx.k 21 (by decide)) (fx.b 21 (by decide)) (a_cons (e_var rfl) (a_cons e_int a_nil))) e_int))) (ss_cons (s_ite (t_c ob_eq (c_cmp (o_eq hc.toCb.hK hc.toCb.hu64) (v_eq) (e_call hc.toCb (L 21 (by decide)) hr rfl (fx.g 21 (by decide)) (fx.k 21 (by decide)) (fx.b 21 (by decide)) (a_cons (e_var rfl) (a_cons e_int a_nil))) e_int)) (ss_cons (s_ret (e_tup (a_cons (e_bin op_sub v_sub (e_var rfl) (e_var rfl)) (a_cons e_int (a_cons (e_bin op_sub v_sub (e_call hc.toCb (L 21 (by decide)) hr rfl (fx.g 21 (by decide)) (fx.k 21 (by decide)) (fx.b 21 (by decide)) (a_cons (e_var rfl) (a_cons e_int a_nil))) e_int) (a_cons e_int a_nil)))))) ss_nil) ss_nil) (ss_cons (s_ret (e_tup (a_cons (e_var rfl) (a_cons (e_var rfl) (a_cons (e_var rfl) (a_cons (e_var rfl) a_nil)))))) ss_nil)))))))
theorem d41 (fx : Fx K mg (fa K) fd nm ps bl 44) (kb0 : KB0 fd) (kb1 : KB1 fd) (kb2 : KB2 fd) (kb3 : KB3 fd) (kb4 : KB4 fd) (kb5 : KB5 fd) (kb6 : KB6 fd) (kb7 : KB7 fd) (kb8 : KB8 fd) (L : Lv P w K mg base (ev K) (Pr wl) (fa K) fd ps 44 n) (F : FnP K 41 (fd 41)) : FnOk P w K mg base (L2.CX P w) (n + 2) (fa K 41) (fd 41) (ps 41) (spD (ev K) (callF (Pr wl) (n + 1) 41) (ps 41).length) := by
  refine lv_fn rfl rfl F sc41 rfl (by decide) fun cdv A outer s H E hr hc => ?_
  exact (ss_cons (s_set hc.toCb.nd rfl (Or.inl rfl) (e_c (c_cmp (o_eq hc.toCb.hK hc.toCb.hu64) (v_eq) (e_call hc.toCb (L 21 (by decide)) hr rfl (fx.g 21 (by decide)) (fx.k 21 (by decide)) (fx.b 21 (by decide)) (a_cons (e_var rfl) (a_cons e_int a_nil))) e_int))) (ss_cons (s_par hc.calm hc.toCb.nd rfl rfl (by decide) rfl rfl (a_cons (e_box (e_call hc.toCb (L 40 (by decide)) hr rfl (fx.g 40 (by decide)) (fx.k 40 (by decide)) (fx.b 40 (by decide)) (a_cons (e_var rfl) (a_cons (e_var rfl) a_nil)))) (a_cons (e_box (e_call hc.toCb (L 40 (by decide)) hr rfl (fx.g 40 (by decide)) (fx.k 40 (by decide)) (fx.b 40 (by decide)) (a_cons (e_var rfl) (a_cons (e_var rfl) a_nil)))) a_nil)) rfl) (ss_cons (s_set hc.toCb.nd rfl (Or.inl rfl) (e_box (e_call hc.toCb (L 27 (by decide)) hr rfl (fx.g 27 (by decide)) (fx.k 27 (by decide)) (fx.b 27 (by decide)) (a_cons (e_tup (a_cons (e_idx hc.toCb (e_var rfl) e_int) (a_cons (e_idx hc.toCb (e_var rfl) e_int) a_nil))) (a_cons (e_tup (a_cons (e_idx hc.toCb (e_var rfl) e_int) (a_cons (e_idx hc.toCb (e_var rfl) e_int) a_nil))) a_nil))))) (ss_cons (s_set hc.toCb.nd rfl (Or.inl rfl) (e_box (e_call hc.toCb (L 21 (by decide)) hr rfl (fx.g 21 (by decide)) (fx.k 21 (by decide)) (fx.b 21 (by decide)) (a_cons (e_var rfl) (a_cons e_int a_nil))))) (ss_cons (s_ite (t_w (w_and (t_c ob_notN (c_notN (e_var rfl))) (w_one (t_c ob_lt (c_cmp o_lt v_lt (e_var rfl) e_int))))) (ss_cons (s_set hc.toCb.nd rfl (Or.inl rfl) (e_box (e_bin (o_add hc.toCb.hK) v_add (e_idx hc.toCb (e_var rfl) e_int) (e_bin (o_mul hc.toCb.hK) v_mul (e_idx hc.toCb (e_var rfl) e_int) (e_bin op_sub v_sub (e_call hc.toCb (L 21 (by decide)) hr rfl (fx.g 21 (by decide)) (fx.k 21 (by decide)) (fx.b 21 (by decide)) (a_cons (e_var rfl) (a_cons e_int a_nil))) e_int))))) (ss_cons (s_set hc.toCb.nd rfl (Or.inl rfl) (e_box (e_call hc.toCb (L 29 (by decide)) hr rfl (fx.g 29 (by decide)) (fx.k 29 (by decide)) (fx.b 29 (by decide)) (a_cons (e_var rfl) (a_cons (e_var rfl) a_nil))))) (ss_cons (s_ite (t_w (w_and (t_c ob_eq (c_cmp (o_eq hc.toCb.hK hc.toCb.hu64) (v_eq) (e_var rfl) e_int)) (w_and (t_c ob_gt (c_cmp o_gt v_gt (e_idx hc.toCb (e_var rfl) e_int) e_int)) (w_and (t_c ob_gt (c_cmp o_gt v_gt (e_idx hc.toCb (e_var rfl) e_int) e_int)) (w_one (t_c ob_eq (c_cmp (o_eq hc.toCb.hK hc.toCb.hu64) (v_eq) (e_bin (o_mul hc.toCb.hK) v_mul (e_bin o_fdiv v_fdiv (e_bin (o_mul hc.toCb.hK) v_mul (e_idx hc.toCb (e_var rfl) e_int) (e_idx hc.toCb (e_var rfl) e_int)) (e_idx hc.toCb (e_var rfl) e_int)) (e_idx hc.toCb (e_var rfl) e_int)) (e_bin (o_mul hc.toCb.hK) v_mul (e_idx hc.toCb (e_var rfl) e_int) (e_idx hc.toCb (e_var rfl) e_int))))))))) (ss_cons (s_set hc.toCb.nd rfl (Or.inl rfl) (e_tup (a_cons (e_idx hc.toCb (e_var rfl) e_int) (a_cons (e_idx hc.toCb (e_var rfl) e_int) (a_cons (e_idx hc.toCb (e_var rfl) e_int) (a_cons (e_bin o_fdiv v_fdiv (e_bin (o_mul hc.toCb.hK) v_mul (e_idx hc.toCb (e_var rfl) e_int) (e_idx hc.toCb (e_var rfl) e_int)) (e_idx hc.toCb (e_var rfl) e_int)) a_nil)))))) ss_nil) ss_nil) (ss_cons (s_ite (t_c ob_gt (c_cmp o_gt v_gt (e_var rfl) e_int)) (ss_cons (s_set hc.toCb.nd rfl (Or.inl rfl) (e_tup (a_cons (e_idx hc.toCb (e_var rfl) e_int) (a_cons (e_idx hc.toCb (e_var rfl) e_int) (a_cons (e_bin op_sub v_sub (e_bin (o_add hc.toCb.hK) v_add (e_idx hc.toCb (e_var rfl) e_int) (e_var rfl)) (e_call hc.toCb (L 29 (by decide)) hr rfl (fx.g 29 (by decide)) (fx.k 29 (by decide)) (fx.b 29 (by decide)) (a_cons (e_var rfl) (a_cons (e_var rfl) a_nil)))) (a_cons (e_idx hc.toCb (e_var rfl) e_int) a_nil)))))) ss_nil) ss_nil) (ss_cons (s_ite (t_w (w_or (t_c ob_gt (c_cmp o_gt v_gt (e_callB (cr_max hc.calm) (n_maxL hc.toCb.hK) rfl (fx.m 10 _ rfl) bt_max (a_cons (e_comp hc.calm hc.toCb.nd (i_seq hc.toCb (e_var rfl)) (show BlkOk N41 (defScope (tp 41)) _ [("number", 8)] from ⟨rfl, by decide +kernel, by decide +kernel, by decide +kernel, by decide +kernel⟩) (fun _ _ _ _ _ => (g_name (Cc.blk hc).toCb.nd rfl (Or.inl rfl))) (fun _ _ _ _ _ => ts_nil) (fun _ _ _ _ _ => (e_callB call_abs n_abs rfl (fx.m 0 _ rfl) bt_abs (a_cons (e_var rfl) a_nil))) (by decide)) a_nil)) (e_bin op_pow v_pow e_int e_int))) (w_one (t_c ob_gt (c_cmp o_gt v_gt (e_callB call_abs n_abs rfl (fx.m 0 _ rfl) bt_abs (a_cons (e_idx hc.toCb (e_var rfl) e_int) a_nil)) (e_bin op_pow v_pow e_int e_int)))))) (ss_cons (s_set hc.toCb.nd rfl (Or.inl rfl) (e_var rfl)) ss_nil) ss_nil) ss_nil))))) ss_nil) (ss_cons (s_ite (t_not (t_ex hc.toCb (e_call hc.toCb (L 33 (by decide)) hr rfl (fx.g 33 (by decide)) (fx.k 33 (by decide)) (fx.b 33 (by decide)) (a_cons (e_var rfl) (a_cons (e_str rfl) (a_cons (e_var rfl) (a_cons (e_var rfl) (a_cons (e_box (e_call hc.toCb (L 30 (by decide)) hr rfl (fx.g 30 (by decide)) (fx.k 30 (by decide)) (fx.b 30 (by decide)) (a_cons (e_var rfl) (a_cons (e_var rfl) a_nil)))) a_nil)))))))) (ss_cons (s_ret e_bl) ss_nil) ss_nil) (ss_cons (s_set hc.toCb.nd rfl (Or.inl rfl) (e_tup (a_cons (e_idx hc.toCb (e_var rfl) e_int) (a_cons (e_idx hc.toCb (e_var rfl) e_int) a_nil)))) (ss_cons (s_ite (t_not (t_ex hc.toCb (e_call hc.toCb (L 33 (by decide)) hr rfl (fx.g 33 (by decide)) (fx.k 33 (by decide)) (fx.b 33 (by decide)) (a_cons (e_var rfl) (a_cons (e_str rfl) (a_cons (e_var rfl) (a_cons (e_var rfl) (a_cons (e_var rfl) a_nil)))))))) (ss_cons (s_ret e_bl) ss_nil) ss_nil) (ss_cons (s_ret (e_call hc.toCb (L 33 (by decide)) hr rfl (fx.g 33 (by decide)) (fx.k 33 (by decide)) (fx.b 33 (by decide)) (a_cons (e_var rfl) (a_cons (e_str rfl) (a_cons (e_var rfl) (a_cons (e_tup (a_cons (e_idx hc.toCb (e_var rfl) e_int) (a_cons (e_idx hc.toCb (e_var rfl) e_int) (a_cons (e_box (e_bin (o_add hc.toCb.hK) v_add (e_idx hc.toCb (e_var rfl) e_int) e_int)) (a_cons (e_idx hc.toCb (e_var rfl) e_int) a_nil))))) (a_cons e_non a_nil))))))) ss_nil)))))))))
theorem d42 (fx : Fx K mg (fa K) fd nm ps bl 44) (kb0 : KB0 fd) (kb1 : KB1 fd) (kb2 : KB2 fd) (kb3 : KB3 fd) (kb4 : KB4 fd) (kb5 : KB5 fd) (kb6 : KB6 fd) (kb7 : KB7 fd) (kb8 : KB8 fd) (L : Lv P w K mg base (ev K) (Pr wl) (fa K) fd ps 44 n) (F : FnP K 42 (fd 42)) : FnOk P w K mg base (L2.CX P w) (n + 2) (fa K 42) (fd 42) (ps 42) (spD (ev K) (callF (Pr wl) (n + 1) 42) (ps 42).length) := by
  refine lv_fn rfl rfl F sc42 rfl (by decide) fun cdv A outer s H E hr hc => ?_
  exact (ss_cons (s_set hc.toCb.nd rfl (Or.inl rfl) (e_box (e_bin (o_add hc.toCb.hK) v_add e_int (e_call hc.toCb (L 21 (by decide)) hr rfl (fx.g 21 (by decide)) (fx.k 21 (by decide)) (fx.b 21 (by decide)) (a_cons (e_var rfl) (a_cons (e_box (e_call hc.toCb (L 22 (by decide)) hr rfl (fx.g 22 (by decide)) (fx.k 22 (by decide)) (fx.b 22 (by decide)) (a_cons (e_var rfl) (a_cons (e_box (e_lst (a_cons e_int (a_cons (e_bin op_sub v_sub (e_bin op_pow v_pow e_int e_int) e_int) a_nil)))) a_nil)))) a_nil)))))) (ss_cons (s_set hc.toCb.nd rfl (Or.inl rfl) (e_box (e_call hc.toCb (L 21 (by decide)) hr rfl (fx.g 21 (by decide)) (fx.k 21 (by decide)) (fx.b 21 (by decide)) (a_cons (e_var rfl) (a_cons (e_var rfl) a_nil))))) (ss_cons (s_set hc.toCb.nd rfl (Or.inl rfl) (e_box (e_call hc.toCb (L 22 (by decide)) hr rfl (fx.g 22 (by decide)) (fx.k 22 (by decide)) (fx.b 22 (by decide)) (a_cons (e_var rfl) (a_cons (e_box (e_lst (a_cons e_int (a_cons (e_bin op_sub v_sub (e_var rfl) e_int) (a_cons (e_box (e_bin (o_add hc.toCb.hK) v_add (e_var rfl) e_int)) (a_cons (e_un un_neg v_neg e_int) (a_cons (e_bin op_sub v_sub e_int (e_var rfl)) (a_cons (e_box (e_bin (o_add hc.toCb.hK) v_add (e_bin (o_mul hc.toCb.hK) v_mul e_int (e_var rfl)) e_int)) (a_cons (e_bin op_sub v_sub (e_call hc.toCb (L 21 (by decide)) hr rfl (fx.g 21 (by decide)) (fx.k 21 (by decide)) (fx.b 21 (by decide)) (a_cons (e_var rfl) (a_cons e_int a_nil))) e_int) a_nil))))))))) a_nil))))) (ss_cons (s_ite (t_w (w_or (t_c ob_eq (c_cmp (o_eq hc.toCb.hK hc.toCb.hu64) (v_eq) (e_bin op_modN v_mod (e_callT c_int n_int1 rfl (fx.m 3 _ rfl) bt_int (a_cons (e_var rfl) a_nil)) (e_var rfl)) e_int)) (w_one (t_c ob_gt (c_cmp o_gt v_gt (e_callB call_abs n_abs rfl (fx.m 0 _ rfl) bt_abs (a_cons (e_var rfl) a_nil)) (e_bin op_pow v_pow e_int e_int)))))) (ss_cons (s_set hc.toCb.nd rfl (Or.inl rfl) e_int) ss_nil) ss_nil) (ss_cons (s_set hc.toCb.nd rfl (Or.inl rfl) (e_box (e_bin (o_add hc.toCb.hK) v_add (e_var rfl) (e_bin (o_mul hc.toCb.hK) v_mul (e_var rfl) (e_bin op_sub v_sub (e_call hc.toCb (L 21 (by decide)) hr rfl (fx.g 21 (by decide)) (fx.k 21 (by decide)) (fx.b 21 (by decide)) (a_cons (e_var rfl) (a_cons e_int a_nil))) e_int))))) (ss_cons (s_set hc.toCb.nd rfl (Or.inl rfl) (e_bin op_sub v_sub (e_var rfl) (e_bin (o_mul hc.toCb.hK) v_mul (e_bin o_fdiv v_fdiv (e_bin op_sub v_sub (e_var rfl) (e_var rfl)) (e_var rfl)) (e_var rfl)))) (ss_cons (s_ite (t_not (t_ex hc.toCb (e_call hc.toCb (L 33 (by decide)) hr rfl (fx.g 33 (by decide)) (fx.k 33 (by decide)) (fx.b 33 (by decide)) (a_cons (e_var rfl) (a_cons (e_str rfl) (a_cons (e_tup (a_cons (e_var rfl) (a_cons (e_var rfl) (a_cons (e_var rfl) (a_cons (e_var rfl) a_nil))))) (a_cons e_int (a_cons (e_var rfl) a_nil)))))))) (ss_cons (s_ret e_bl) ss_nil) ss_nil) (ss_cons (s_set hc.toCb.nd rfl (Or.inl rfl) (e_tup (a_cons (e_var rfl) (a_cons (e_var rfl) (a_cons (e_box (e_bin (o_add hc.toCb.hK) v_add (e_var rfl) (e_call hc.toCb (L 22 (by decide)) hr rfl (fx.g 22 (by decide)) (fx.k 22 (by decide)) (fx.b 22 (by decide)) (a_cons (e_var rfl) (a_cons (e_box (e_lst (a_cons e_int (a_cons (e_un un_neg v_neg e_int) (a_cons e_int (a_cons e_int a_nil)))))) a_nil))))) (a_cons (e_var rfl) a_nil)))))) (ss_cons (s_ite (t_not (t_ex hc.toCb (e_call hc.toCb (L 33 (by decide)) hr rfl (fx.g 33 (by decide)) (fx.k 33 (by decide)) (fx.b 33 (by decide)) (a_cons (e_var rfl) (a_cons (e_str rfl) (a_cons (e_var rfl) (a_cons e_int (a_cons (e_box (e_call hc.toCb (L 31 (by decide)) hr rfl (fx.g 31 (by decide)) (fx.k 31 (by decide)) (fx.b 31 (by decide)) (a_cons (e_var rfl) a_nil))) a_nil)))))))) (ss_cons (s_ret e_bl) ss_nil) ss_nil) (ss_cons (s_set hc.toCb.nd rfl (Or.inl rfl) (e_box (e_bin (o_add hc.toCb.hK) v_add e_int (e_call hc.toCb (L 21 (by decide)) hr rfl (fx.g 21 (by decide)) (fx.k 21 (by decide)) (fx.b 21 (by decide)) (a_cons (e_var rfl) (a_cons e_int a_nil)))))) (ss_cons (s_for hc.po hc.calm (i_seq hc.toCb (e_lst (a_cons (e_bin op_modN v_mod (e_var rfl) (e_var rfl)) (a_cons (e_box (e_bin (o_add hc.toCb.hK) v_add (e_bin op_modN v_mod (e_var rfl) (e_var rfl)) (e_bin o_fdiv v_fdiv (e_var rfl) e_int))) (a_cons (e_box (e_bin (o_add hc.toCb.hK) v_add (e_bin op_modN v_mod (e_var rfl) (e_var rfl)) (e_var rfl))) a_nil))))) (g_name hc.toCb.nd rfl (Or.inl rfl)) (ss_cons (s_set hc.toCb.nd rfl (Or.inl rfl) (e_tup (a_cons (e_bin op_modN v_mod (e_var rfl) (e_var rfl)) (a_cons (e_box (e_bin (o_mul hc.toCb.hK) v_mul e_int (e_var rfl))) (a_cons (e_var rfl) (a_cons (e_var rfl) a_nil)))))) (ss_cons (s_ite (t_not (t_ex hc.toCb (e_call hc.toCb (L 33 (by decide)) hr rfl (fx.g 33 (by decide)) (fx.k 33 (by decide)) (fx.b 33 (by decide)) (a_cons (e_var rfl) (a_cons (e_str rfl) (a_cons (e_var rfl) (a_cons e_int (a_cons (e_box (e_call hc.toCb (L 31 (by decide)) hr rfl (fx.g 31 (by decide)) (fx.k 31 (by decide)) (fx.b 31 (by decide)) (a_cons (e_var rfl) a_nil))) a_nil)))))))) (ss_cons (s_ret e_bl) ss_nil) ss_nil) ss_nil))) (ss_cons (s_ret (e_and (e_call hc.toCb (L 33 (by decide)) hr rfl (fx.g 33 (by decide)) (fx.k 33 (by decide)) (fx.b 33 (by decide)) (a_cons (e_var rfl) (a_cons (e_str rfl) (a_cons (e_tup (a_cons e_int (a_cons e_int (a_cons e_int (a_cons e_int a_nil))))) (a_cons e_int (a_cons e_non a_nil)))))) (e_one (e_call hc.toCb (L 33 (by decide)) hr rfl (fx.g 33 (by decide)) (fx.k 33 (by decide)) (fx.b 33 (by decide)) (a_cons (e_var rfl) (a_cons (e_str rfl) (a_cons (e_tup (a_cons e_int (a_cons e_int (a_cons e_int (a_cons e_int a_nil))))) (a_cons e_int (a_cons e_int a_nil))))))))) ss_nil))))))))))))
theorem d43 (fx : Fx K mg (fa K) fd nm ps bl 44) (kb0 : KB0 fd) (kb1 : KB1 fd) (kb2 : KB2 fd) (kb3 : KB3 fd) (kb4 : KB4 fd) (kb5 : KB5 fd) (kb6 : KB6 fd) (kb7 : KB7 fd) (kb8 : KB8 fd) (L : Lv P w K mg base (ev K) (Pr wl) (fa K) fd ps 44 n) (F : FnP K 43 (fd 43)) : FnOk P w K mg base (L2.CX P w) (n + 2) (fa K 43) (fd 43) (ps 43) (spD (ev K) (callF (Pr wl) (n + 1) 43) (ps 43).length) := by
  refine lv_fn rfl rfl F sc43 rfl (by decide) fun cdv A outer s H E hr hc => ?_
  exact (ss_cons (s_set hc.toCb.nd rfl (Or.inl rfl) (e_box (e_call hc.toCb (L 20 (by decide)) hr rfl (fx.g 20 (by decide)) (fx.k 20 (by decide)) (fx.b 20 (by decide)) (a_cons (e_var rfl) a_nil)))) (ss_cons (s_for hc.po hc.calm (i_rng rfl rfl (fx.m 7 _ rfl) (a_cons e_int a_nil)) (g_name hc.toCb.nd rfl (Or.inl rfl)) (ss_cons (s_ite (t_w (w_or (t_not (t_ex hc.toCb (e_call hc.toCb (L 36 (by decide)) hr rfl (fx.g 36 (by decide)) (fx.k 36 (by decide)) (fx.b 36 (by decide)) (a_cons (e_var rfl) a_nil)))) (w_one (t_not (t_ex hc.toCb (e_call hc.toCb (L 41 (by decide)) hr rfl (fx.g 41 (by decide)) (fx.k 41 (by decide)) (fx.b 41 (by decide)) (a_cons (e_var rfl) a_nil))))))) (ss_cons (s_ret e_bl) ss_nil) ss_nil) ss_nil)) (ss_cons (s_for hc.po hc.calm (i_rng rfl rfl (fx.m 7 _ rfl) (a_cons e_int a_nil)) (g_name hc.toCb.nd rfl (Or.inl rfl)) (ss_cons (s_ite (t_w (w_or (t_not (t_ex hc.toCb (e_call hc.toCb (L 39 (by decide)) hr rfl (fx.g 39 (by decide)) (fx.k 39 (by decide)) (fx.b 39 (by decide)) (a_cons (e_var rfl) a_nil)))) (w_one (t_not (t_ex hc.toCb (e_call hc.toCb (L 42 (by decide)) hr rfl (fx.g 42 (by decide)) (fx.k 42 (by decide)) (fx.b 42 (by decide)) (a_cons (e_var rfl) a_nil))))))) (ss_cons (s_ret e_bl) ss_nil) ss_nil) ss_nil)) (ss_cons (s_asg (e_tup (a_cons (e_tup (a_cons e_int (a_cons e_int (a_cons e_int (a_cons e_int a_nil))))) (a_cons (e_tup (a_cons e_int (a_cons e_int (a_cons e_int (a_cons e_int a_nil))))) a_nil))) (g_tup hc.toCb hc.calm (gs_cons (g_name hc.toCb.nd rfl (Or.inl rfl)) (gs_cons (g_name hc.toCb.nd rfl (Or.inl rfl)) gs_nil)))) (ss_cons (s_set hc.toCb.nd rfl (Or.inl rfl) (e_box (e_call hc.toCb (L 21 (by decide)) hr rfl (fx.g 21 (by decide)) (fx.k 21 (by decide)) (fx.b 21 (by decide)) (a_cons (e_var rfl) (a_cons e_int a_nil))))) (ss_cons (s_ite (t_w (w_or (t_not (t_ex hc.toCb (e_call hc.toCb (L 33 (by decide)) hr rfl (fx.g 33 (by decide)) (fx.k 33 (by decide)) (fx.b 33 (by decide)) (a_cons (e_var rfl) (a_cons (e_str rfl) (a_cons (e_var rfl) (a_cons (e_tup (a_cons e_int (a_cons e_int (a_cons (e_var rfl) (a_cons e_int a_nil))))) (a_cons (e_tup (a_cons (e_var rfl) (a_cons e_int a_nil))) a_nil)))))))) (w_one (t_not (t_ex hc.toCb (e_call hc.toCb (L 33 (by decide)) hr rfl (fx.g 33 (by decide)) (fx.k 33 (by decide)) (fx.b 33 (by decide)) (a_cons (e_var rfl) (a_cons (e_str rfl) (a_cons (e_var rfl) (a_cons (e_tup (a_cons e_int (a_cons e_int (a_cons e_int (a_cons e_int a_nil))))) (a_cons e_non a_nil))))))))))) (ss_cons (s_ret e_bl) ss_nil) ss_nil) (ss_cons (s_par hc.calm hc.toCb.nd rfl rfl (by decide) rfl rfl (a_cons (e_tup (a_cons e_int (a_cons e_int (a_cons e_int (a_cons e_int a_nil))))) (a_cons (e_tup (a_cons e_int (a_cons e_int (a_cons (e_var rfl) (a_cons e_int a_nil))))) a_nil)) rfl) (ss_cons (s_ite (t_not (t_ex hc.toCb (e_call hc.toCb (L 33 (by decide)) hr rfl (fx.g 33 (by decide)) (fx.k 33 (by decide)) (fx.b 33 (by decide)) (a_cons (e_var rfl) (a_cons (e_str rfl) (a_cons (e_var rfl) (a_cons (e_var rfl) (a_cons (e_ifx (t_c ob_eq (c_cmp (o_eq hc.toCb.hK hc.toCb.hu64) (v_eq) (e_bin op_modN v_mod (e_var rfl) e_int) e_int)) (e_tup (a_cons (e_bin op_sub v_sub e_int (e_var rfl)) (a_cons e_int a_nil))) e_non) a_nil)))))))) (ss_cons (s_ret e_bl) ss_nil) ss_nil) (ss_cons (s_ite (t_not (t_ex hc.toCb (e_call hc.toCb (L 33 (by decide)) hr rfl (fx.g 33 (by decide)) (fx.k 33 (by decide)) (fx.b 33 (by decide)) (a_cons (e_var rfl) (a_cons (e_str rfl) (a_cons (e_box (e_bin (o_add hc.toCb.hK) v_add (e_sl01 hc.toCb (e_var rfl) e_int) (e_tup (a_cons (e_box (e_bin (o_add hc.toCb.hK) v_add (e_bin (o_mul hc.toCb.hK) v_mul e_int (e_var rfl)) e_int)) (a_cons e_int a_nil))))) (a_cons (e_var rfl) (a_cons e_non a_nil)))))))) (ss_cons (s_ret e_bl) ss_nil) ss_nil) (ss_cons (s_ite (t_not (t_ex hc.toCb (e_call hc.toCb (L 33 (by decide)) hr rfl (fx.g 33 (by decide)) (fx.k 33 (by decide)) (fx.b 33 (by decide)) (a_cons (e_var rfl) (a_cons (e_str rfl) (a_cons (e_var rfl) (a_cons (e_tup (a_cons (e_bin op_modN v_mod (e_var rfl) e_int) (a_cons e_int (a_cons (e_bin op_modN v_mod (e_var rfl) e_int) (a_cons e_int a_nil))))) (a_cons (e_ifx (t_c ob_eq (c_cmp (o_eq hc.toCb.hK hc.toCb.hu64) (v_eq) (e_bin op_modN v_mod (e_var rfl) e_int) e_int)) (e_tup (a_cons e_int (a_cons e_int a_nil))) e_non) a_nil)))))))) (ss_cons (s_ret e_bl) ss_nil) ss_nil) (ss_cons (s_ite (t_w (w_or (t_not (t_ex hc.toCb (e_call hc.toCb (L 33 (by decide)) hr rfl (fx.g 33 (by decide)) (fx.k 33 (by decide)) (fx.b 33 (by decide)) (a_cons (e_var rfl) (a_cons (e_str rfl) (a_cons (e_tup (a_cons (e_var rfl) (a_cons e_int a_nil))) (a_cons (e_tup (a_cons (e_bin op_modN v_mod (e_var rfl) e_int) (a_cons e_int a_nil))) (a_cons (e_tup (a_cons (e_var rfl) (a_cons e_int a_nil))) a_nil)))))))) (w_one (t_not (t_ex hc.toCb (e_call hc.toCb (L 33 (by decide)) hr rfl (fx.g 33 (by decide)) (fx.k 33 (by decide)) (fx.b 33 (by decide)) (a_cons (e_var rfl) (a_cons (e_str rfl) (a_cons (e_tup (a_cons (e_var rfl) (a_cons e_int a_nil))) (a_cons (e_tup (a_cons (e_box (e_bin (o_add hc.toCb.hK) v_add (e_var rfl) e_int)) (a_cons e_int a_nil))) (a_cons e_non a_nil))))))))))) (ss_cons (s_ret e_bl) ss_nil) ss_nil) (ss_cons (s_ret (e_call hc.toCb (L 37 (by decide)) hr rfl (fx.g 37 (by decide)) (fx.k 37 (by decide)) (fx.b 37 (by decide)) (a_cons (e_var rfl) a_nil))) ss_nil))))))))))))
end
def wlF : Nat := 2 ^ 1000
set_option maxHeartbeats 0
/-! ### the head -/
def mkD (i : Nat) : He.DefD := ⟨(nm i, none), nm i, nm i, defArgs (tp i), defBody (tp i), defScope (tp i), [], []⟩
def hfn : List He.DefD := (List.range 44).map mkD
def hfa : List He.Fa := (List.range 44).map (fun i => .glo (nm i)) ++ bl.map .free
abbrev RO : PySem.W.OpenRow := PySem.W.OpenLaw.row PySem.Challenge.rw_whichpass_k01_lots_meetings
abbrev hk : PySem.W.Hook := He.hookD 5 hfa hfn
def ob (s : PySem.W.SharedT) : He.AlD := He.obsDG 5 hfa hfn (HandSHeadRun.getT s)
theorem ob_eq (s : PySem.W.SharedT) : ob s = hk.obs s.abs := He.obsDG_eq (HandSHeadRun.getT_eq s)
def loose : List PySem.Str := (["gcd_of", "inverse_of", "solved", "fraction_of", "is_integer", "is_tuple", "is_lot", "in_lot", "met", "is_within", "numbers_in", "PassError", "line_of", "turn_of"] : List PySem.Str) ++ (["image", "single_meeting", "crossing", "meeting", "fixed_number", "clash_of", "met_all", "_law_spring", "_law_flow", "_law_among", "_law_wide", "_law_same", "_law_factor", "_law_in"] : List PySem.Str) ++ (["_law_met", "_law_inside", "_law_led", "_law_meeting", "_law_fixed", "_law_ask", "_law_right", "_law_lot", "_law_pair", "_law_lots_ok", "_law_no_lots", "_law_first_clash", "_law_many_ok", "_law_form"] : List PySem.Str) ++ (["_law_forms_ok", "_law_fixed_ok"] : List PySem.Str)
theorem run (w : World) : HandSHeadRun.RunEq RO (PySem.W.view RO.prog [51]) hk ob 2000 loose w := by
  intro os
  kernel_rfl
theorem bn0 {K : PySem.W.Frag} {fd : FuncData} (F : FnP K 0 fd) : Binds K fd (ps 0) [] := F.bindsN fun _ _ _ _ _ _ us hl => match us, hl with | [_, _], _ => rfl
theorem bn1 {K : PySem.W.Frag} {fd : FuncData} (F : FnP K 1 fd) : Binds K fd (ps 1) [] := F.bindsN fun _ _ _ _ _ _ us hl => match us, hl with | [_, _], _ => rfl
theorem bn2 {K : PySem.W.Frag} {fd : FuncData} (F : FnP K 2 fd) : Binds K fd (ps 2) [] := F.bindsN fun _ _ _ _ _ _ us hl => match us, hl with | [_, _, _], _ => rfl
theorem bn3 {K : PySem.W.Frag} {fd : FuncData} (F : FnP K 3 fd) : Binds K fd (ps 3) [] := F.bindsN fun _ _ _ _ _ _ us hl => match us, hl with | [_, _], _ => rfl
theorem bn4 {K : PySem.W.Frag} {fd : FuncData} (F : FnP K 4 fd) : Binds K fd (ps 4) [] := F.bindsN fun _ _ _ _ _ _ us hl => match us, hl with | [_], _ => rfl
theorem bn5 {K : PySem.W.Frag} {fd : FuncData} (F : FnP K 5 fd) : Binds K fd (ps 5) [] := F.bindsN fun _ _ _ _ _ _ us hl => match us, hl with | [_, _], _ => rfl
theorem bn6 {K : PySem.W.Frag} {fd : FuncData} (F : FnP K 6 fd) : Binds K fd (ps 6) [] := F.bindsN fun _ _ _ _ _ _ us hl => match us, hl with | [_], _ => rfl
theorem bn7 {K : PySem.W.Frag} {fd : FuncData} (F : FnP K 7 fd) : Binds K fd (ps 7) [] := F.bindsN fun _ _ _ _ _ _ us hl => match us, hl with | [_, _], _ => rfl
theorem bn8 {K : PySem.W.Frag} {fd : FuncData} (F : FnP K 8 fd) : Binds K fd (ps 8) [] := F.bindsN fun _ _ _ _ _ _ us hl => match us, hl with | [_, _], _ => rfl
theorem bn9 {K : PySem.W.Frag} {fd : FuncData} (F : FnP K 9 fd) : Binds K fd (ps 9) [] := F.bindsN fun _ _ _ _ _ _ us hl => match us, hl with | [_, _], _ => rfl
theorem bn10 {K : PySem.W.Frag} {fd : FuncData} (F : FnP K 10 fd) : Binds K fd (ps 10) [] := F.bindsN fun _ _ _ _ _ _ us hl => match us, hl with | [_, _, _], _ => rfl
theorem bn11 {K : PySem.W.Frag} {fd : FuncData} (F : FnP K 11 fd) : Binds K fd (ps 11) [] := F.bindsN fun _ _ _ _ _ _ us hl => match us, hl with | [_], _ => rfl
theorem bn12 {K : PySem.W.Frag} {fd : FuncData} (F : FnP K 12 fd) : Binds K fd (ps 12) [] := F.bindsN fun _ _ _ _ _ _ us hl => match us, hl with | [_, _], _ => rfl
theorem bn13 {K : PySem.W.Frag} {fd : FuncData} (F : FnP K 13 fd) : Binds K fd (ps 13) [] := F.bindsN fun _ _ _ _ _ _ us hl => match us, hl with | [_, _], _ => rfl
theorem bn14 {K : PySem.W.Frag} {fd : FuncData} (F : FnP K 14 fd) : Binds K fd (ps 14) [] := F.bindsN fun _ _ _ _ _ _ us hl => match us, hl with | [_, _, _], _ => rfl
theorem bn15 {K : PySem.W.Frag} {fd : FuncData} (F : FnP K 15 fd) : Binds K fd (ps 15) [] := F.bindsN fun _ _ _ _ _ _ us hl => match us, hl with | [_, _], _ => rfl
theorem bn16 {K : PySem.W.Frag} {fd : FuncData} (F : FnP K 16 fd) : Binds K fd (ps 16) [] := F.bindsN fun _ _ _ _ _ _ us hl => match us, hl with | [_, _], _ => rfl
theorem bn17 {K : PySem.W.Frag} {fd : FuncData} (F : FnP K 17 fd) : Binds K fd (ps 17) [] := F.bindsN fun _ _ _ _ _ _ us hl => match us, hl with | [_], _ => rfl
theorem bn18 {K : PySem.W.Frag} {fd : FuncData} (F : FnP K 18 fd) : Binds K fd (ps 18) [] := F.bindsN fun _ _ _ _ _ _ us hl => match us, hl with | [_], _ => rfl
theorem bn19 {K : PySem.W.Frag} {fd : FuncData} (F : FnP K 19 fd) : Binds K fd (ps 19) [] := F.bindsN fun _ _ _ _ _ _ us hl => match us, hl with | [_], _ => rfl
theorem bn20 {K : PySem.W.Frag} {fd : FuncData} (F : FnP K 20 fd) : Binds K fd (ps 20) [] := F.bindsN fun _ _ _ _ _ _ us hl => match us, hl with | [_], _ => rfl
theorem bn21 {K : PySem.W.Frag} {fd : FuncData} (F : FnP K 21 fd) : Binds K fd (ps 21) [] := F.bindsN fun _ _ _ _ _ _ us hl => match us, hl with | [_, _], _ => rfl
theorem bn22 {K : PySem.W.Frag} {fd : FuncData} (F : FnP K 22 fd) : Binds K fd (ps 22) [] := F.bindsN fun _ _ _ _ _ _ us hl => match us, hl with | [_, _], _ => rfl
theorem bn23 {K : PySem.W.Frag} {fd : FuncData} (F : FnP K 23 fd) : Binds K fd (ps 23) [] := F.bindsN fun _ _ _ _ _ _ us hl => match us, hl with | [_, _], _ => rfl
theorem bn24 {K : PySem.W.Frag} {fd : FuncData} (F : FnP K 24 fd) : Binds K fd (ps 24) [] := F.bindsN fun _ _ _ _ _ _ us hl => match us, hl with | [_, _], _ => rfl
theorem bn25 {K : PySem.W.Frag} {fd : FuncData} (F : FnP K 25 fd) : Binds K fd (ps 25) [] := F.bindsN fun _ _ _ _ _ _ us hl => match us, hl with | [_, _], _ => rfl
theorem bn26 {K : PySem.W.Frag} {fd : FuncData} (F : FnP K 26 fd) : Binds K fd (ps 26) [] := F.bindsN fun _ _ _ _ _ _ us hl => match us, hl with | [_, _], _ => rfl
theorem bn27 {K : PySem.W.Frag} {fd : FuncData} (F : FnP K 27 fd) : Binds K fd (ps 27) [] := F.bindsN fun _ _ _ _ _ _ us hl => match us, hl with | [_, _], _ => rfl
theorem bn28 {K : PySem.W.Frag} {fd : FuncData} (F : FnP K 28 fd) : Binds K fd (ps 28) [] := F.bindsN fun _ _ _ _ _ _ us hl => match us, hl with | [_, _], _ => rfl
theorem bn29 {K : PySem.W.Frag} {fd : FuncData} (F : FnP K 29 fd) : Binds K fd (ps 29) [] := F.bindsN fun _ _ _ _ _ _ us hl => match us, hl with | [_, _], _ => rfl
theorem bn30 {K : PySem.W.Frag} {fd : FuncData} (F : FnP K 30 fd) : Binds K fd (ps 30) [] := F.bindsN fun _ _ _ _ _ _ us hl => match us, hl with | [_, _], _ => rfl
theorem bn31 {K : PySem.W.Frag} {fd : FuncData} (F : FnP K 31 fd) : Binds K fd (ps 31) [] := F.bindsN fun _ _ _ _ _ _ us hl => match us, hl with | [_], _ => rfl
theorem bn32 {K : PySem.W.Frag} {fd : FuncData} (F : FnP K 32 fd) : Binds K fd (ps 32) [] := F.bindsN fun _ _ _ _ _ _ us hl => match us, hl with | [_, _, _, _], _ => rfl
theorem bn33 {K : PySem.W.Frag} {fd : FuncData} (F : FnP K 33 fd) : Binds K fd (ps 33) [] := F.bindsN fun _ _ _ _ _ _ us hl => match us, hl with | [_, _, _, _, _], _ => rfl
theorem bn34 {K : PySem.W.Frag} {fd : FuncData} (F : FnP K 34 fd) : Binds K fd (ps 34) [] := F.bindsN fun _ _ _ _ _ _ us hl => match us, hl with | [_, _], _ => rfl
theorem bn35 {K : PySem.W.Frag} {fd : FuncData} (F : FnP K 35 fd) : Binds K fd (ps 35) [] := F.bindsN fun _ _ _ _ _ _ us hl => match us, hl with | [_], _ => rfl
theorem bn36 {K : PySem.W.Frag} {fd : FuncData} (F : FnP K 36 fd) : Binds K fd (ps 36) [] := F.bindsN fun _ _ _ _ _ _ us hl => match us, hl with | [_], _ => rfl
theorem bn37 {K : PySem.W.Frag} {fd : FuncData} (F : FnP K 37 fd) : Binds K fd (ps 37) [] := F.bindsN fun _ _ _ _ _ _ us hl => match us, hl with | [_], _ => rfl
theorem bn38 {K : PySem.W.Frag} {fd : FuncData} (F : FnP K 38 fd) : Binds K fd (ps 38) [] := F.bindsN fun _ _ _ _ _ _ us hl => match us, hl with | [_], _ => rfl
theorem bn39 {K : PySem.W.Frag} {fd : FuncData} (F : FnP K 39 fd) : Binds K fd (ps 39) [] := F.bindsN fun _ _ _ _ _ _ us hl => match us, hl with | [_], _ => rfl
theorem bn40 {K : PySem.W.Frag} {fd : FuncData} (F : FnP K 40 fd) : Binds K fd (ps 40) [] := F.bindsN fun _ _ _ _ _ _ us hl => match us, hl with | [_, _], _ => rfl
theorem bn41 {K : PySem.W.Frag} {fd : FuncData} (F : FnP K 41 fd) : Binds K fd (ps 41) [] := F.bindsN fun _ _ _ _ _ _ us hl => match us, hl with | [_], _ => rfl
theorem bn42 {K : PySem.W.Frag} {fd : FuncData} (F : FnP K 42 fd) : Binds K fd (ps 42) [] := F.bindsN fun _ _ _ _ _ _ us hl => match us, hl with | [_], _ => rfl
theorem bn43 {K : PySem.W.Frag} {fd : FuncData} (F : FnP K 43 fd) : Binds K fd (ps 43) [] := F.bindsN fun _ _ _ _ _ _ us hl => match us, hl with | [_], _ => rfl
theorem kbo0 {K : PySem.W.Frag} {fd : Nat → FuncData} (F : FnP K 10 (fd 10)) : KB0 fd := kb_of F fun _ _ _ _ _ _ us ws h1 h2 => match us, ws, h1, h2 with | [], [_, _, _], _, _ => rfl
theorem kbo1 {K : PySem.W.Frag} {fd : Nat → FuncData} (F : FnP K 18 (fd 18)) : KB1 fd := kb_of F fun _ _ _ _ _ _ us ws h1 h2 => match us, ws, h1, h2 with | [], [_], _, _ => rfl
theorem kbo2 {K : PySem.W.Frag} {fd : Nat → FuncData} (F : FnP K 19 (fd 19)) : KB2 fd := kb_of F fun _ _ _ _ _ _ us ws h1 h2 => match us, ws, h1, h2 with | [], [_], _, _ => rfl
theorem kbo3 {K : PySem.W.Frag} {fd : Nat → FuncData} (F : FnP K 17 (fd 17)) : KB3 fd := kb_of F fun _ _ _ _ _ _ us ws h1 h2 => match us, ws, h1, h2 with | [], [_], _, _ => rfl
theorem kbo4 {K : PySem.W.Frag} {fd : Nat → FuncData} (F : FnP K 16 (fd 16)) : KB4 fd := kb_of F fun _ _ _ _ _ _ us ws h1 h2 => match us, ws, h1, h2 with | [], [_, _], _, _ => rfl
theorem kbo5 {K : PySem.W.Frag} {fd : Nat → FuncData} (F : FnP K 9 (fd 9)) : KB5 fd := kb_of F fun _ _ _ _ _ _ us ws h1 h2 => match us, ws, h1, h2 with | [], [_, _], _, _ => rfl
theorem kbo6 {K : PySem.W.Frag} {fd : Nat → FuncData} (F : FnP K 8 (fd 8)) : KB6 fd := kb_of F fun _ _ _ _ _ _ us ws h1 h2 => match us, ws, h1, h2 with | [], [_, _], _, _ => rfl
theorem kbo7 {K : PySem.W.Frag} {fd : Nat → FuncData} (F : FnP K 7 (fd 7)) : KB7 fd := kb_of F fun _ _ _ _ _ _ us ws h1 h2 => match us, ws, h1, h2 with | [], [_, _], _, _ => rfl
theorem kbo8 {K : PySem.W.Frag} {fd : Nat → FuncData} (F : FnP K 6 (fd 6)) : KB8 fd := kb_of F fun _ _ _ _ _ _ us ws h1 h2 => match us, ws, h1, h2 with | [], [_], _, _ => rfl
theorem all {P : Program} {w : World} {K : PySem.W.Frag} {mg : PySem.Str → Option Value} {base : Heap} {fd : Nat → FuncData} {wl : Nat} (fx : Fx K mg (fa K) fd nm ps bl 44) (F : ∀ i, i < 44 → FnP K i (fd i)) : ∀ n, Lv P w K mg base (ev K) (Pr wl) (fa K) fd ps 44 n
  | 0 => lv_zero
  | k + 1 => fun i hi => match i, hi with
    | 0, _ => d0 fx (kbo0 (F 10 (by decide))) (kbo1 (F 18 (by decide))) (kbo2 (F 19 (by decide))) (kbo3 (F 17 (by decide))) (kbo4 (F 16 (by decide))) (kbo5 (F 9 (by decide))) (kbo6 (F 8 (by decide))) (kbo7 (F 7 (by decide))) (kbo8 (F 6 (by decide))) (all fx F k) (F 0 (by decide))
    | 1, _ => d1 fx (kbo0 (F 10 (by decide))) (kbo1 (F 18 (by decide))) (kbo2 (F 19 (by decide))) (kbo3 (F 17 (by decide))) (kbo4 (F 16 (by decide))) (kbo5 (F 9 (by decide))) (kbo6 (F 8 (by decide))) (kbo7 (F 7 (by decide))) (kbo8 (F 6 (by decide))) (all fx F k) (F 1 (by decide))
    | 2, _ => d2 fx (kbo0 (F 10 (by decide))) (kbo1 (F 18 (by decide))) (kbo2 (F 19 (by decide))) (kbo3 (F 17 (by decide))) (kbo4 (F 16 (by decide))) (kbo5 (F 9 (by decide))) (kbo6 (F 8 (by decide))) (kbo7 (F 7 (by decide))) (kbo8 (F 6 (by decide))) (all fx F k) (F 2 (by decide))
    | 3, _ => d3 fx (kbo0 (F 10 (by decide))) (kbo1 (F 18 (by decide))) (kbo2 (F 19 (by decide))) (kbo3 (F 17 (by decide))) (kbo4 (F 16 (by decide))) (kbo5 (F 9 (by decide))) (kbo6 (F 8 (by decide))) (kbo7 (F 7 (by decide))) (kbo8 (F 6 (by decide))) (all fx F k) (F 3 (by decide))
    | 4, _ => d4 fx (kbo0 (F 10 (by decide))) (kbo1 (F 18 (by decide))) (kbo2 (F 19 (by decide))) (kbo3 (F 17 (by decide))) (kbo4 (F 16 (by decide))) (kbo5 (F 9 (by decide))) (kbo6 (F 8 (by decide))) (kbo7 (F 7 (by decide))) (kbo8 (F 6 (by decide))) (all fx F k) (F 4 (by decide))
    | 5, _ => d5 fx (kbo0 (F 10 (by decide))) (kbo1 (F 18 (by decide))) (kbo2 (F 19 (by decide))) (kbo3 (F 17 (by decide))) (kbo4 (F 16 (by decide))) (kbo5 (F 9 (by decide))) (kbo6 (F 8 (by decide))) (kbo7 (F 7 (by decide))) (kbo8 (F 6 (by decide))) (all fx F k) (F 5 (by decide))
    | 6, _ => d6 fx (kbo0 (F 10 (by decide))) (kbo1 (F 18 (by decide))) (kbo2 (F 19 (by decide))) (kbo3 (F 17 (by decide))) (kbo4 (F 16 (by decide))) (kbo5 (F 9 (by decide))) (kbo6 (F 8 (by decide))) (kbo7 (F 7 (by decide))) (kbo8 (F 6 (by decide))) (all fx F k) (F 6 (by decide))
    | 7, _ => d7 fx (kbo0 (F 10 (by decide))) (kbo1 (F 18 (by decide))) (kbo2 (F 19 (by decide))) (kbo3 (F 17 (by decide))) (kbo4 (F 16 (by decide))) (kbo5 (F 9 (by decide))) (kbo6 (F 8 (by decide))) (kbo7 (F 7 (by decide))) (kbo8 (F 6 (by decide))) (all fx F k) (F 7 (by decide))
    | 8, _ => d8 fx (kbo0 (F 10 (by decide))) (kbo1 (F 18 (by decide))) (kbo2 (F 19 (by decide))) (kbo3 (F 17 (by decide))) (kbo4 (F 16 (by decide))) (kbo5 (F 9 (by decide))) (kbo6 (F 8 (by decide))) (kbo7 (F 7 (by decide))) (kbo8 (F 6 (by decide))) (all fx F k) (F 8 (by decide))
    | 9, _ => d9 fx (kbo0 (F 10 (by decide))) (kbo1 (F 18 (by decide))) (kbo2 (F 19 (by decide))) (kbo3 (F 17 (by decide))) (kbo4 (F 16 (by decide))) (kbo5 (F 9 (by decide))) (kbo6 (F 8 (by decide))) (kbo7 (F 7 (by decide))) (kbo8 (F 6 (by decide))) (all fx F k) (F 9 (by decide))
    | 10, _ => d10 fx (kbo0 (F 10 (by decide))) (kbo1 (F 18 (by decide))) (kbo2 (F 19 (by decide))) (kbo3 (F 17 (by decide))) (kbo4 (F 16 (by decide))) (kbo5 (F 9 (by decide))) (kbo6 (F 8 (by decide))) (kbo7 (F 7 (by decide))) (kbo8 (F 6 (by decide))) (all fx F k) (F 10 (by decide))
    | 11, _ => d11 fx (kbo0 (F 10 (by decide))) (kbo1 (F 18 (by decide))) (kbo2 (F 19 (by decide))) (kbo3 (F 17 (by decide))) (kbo4 (F 16 (by decide))) (kbo5 (F 9 (by decide))) (kbo6 (F 8 (by decide))) (kbo7 (F 7 (by decide))) (kbo8 (F 6 (by decide))) (all fx F k) (F 11 (by decide))
    | 12, _ => d12 fx (kbo0 (F 10 (by decide))) (kbo1 (F 18 (by decide))) (kbo2 (F 19 (by decide))) (kbo3 (F 17 (by decide))) (kbo4 (F 16 (by decide))) (kbo5 (F 9 (by decide))) (kbo6 (F 8 (by decide))) (kbo7 (F 7 (by decide))) (kbo8 (F 6 (by decide))) (all fx F k) (F 12 (by decide))
    | 13, _ => d13 fx (kbo0 (F 10 (by decide))) (kbo1 (F 18 (by decide))) (kbo2 (F 19 (by decide))) (kbo3 (F 17 (by decide))) (kbo4 (F 16 (by decide))) (kbo5 (F 9 (by decide))) (kbo6 (F 8 (by decide))) (kbo7 (F 7 (by decide))) (kbo8 (F 6 (by decide))) (all fx F k) (F 13 (by decide))
    | 14, _ => d14 fx (kbo0 (F 10 (by decide))) (kbo1 (F 18 (by decide))) (kbo2 (F 19 (by decide))) (kbo3 (F 17 (by decide))) (kbo4 (F 16 (by decide))) (kbo5 (F 9 (by decide))) (kbo6 (F 8 (by decide))) (kbo7 (F 7 (by decide))) (kbo8 (F 6 (by decide))) (all fx F k) (F 14 (by decide))
    | 15, _ => d15 fx (kbo0 (F 10 (by decide))) (kbo1 (F 18 (by decide))) (kbo2 (F 19 (by decide))) (kbo3 (F 17 (by decide))) (kbo4 (F 16 (by decide))) (kbo5 (F 9 (by decide))) (kbo6 (F 8 (by decide))) (kbo7 (F 7 (by decide))) (kbo8 (F 6 (by decide))) (all fx F k) (F 15 (by decide))
    | 16, _ => d16 fx (kbo0 (F 10 (by decide))) (kbo1 (F 18 (by decide))) (kbo2 (F 19 (by decide))) (kbo3 (F 17 (by decide))) (kbo4 (F 16 (by decide))) (kbo5 (F 9 (by decide))) (kbo6 (F 8 (by decide))) (kbo7 (F 7 (by decide))) (kbo8 (F 6 (by decide))) (all fx F k) (F 16 (by decide))
    | 17, _ => d17 fx (kbo0 (F 10 (by decide))) (kbo1 (F 18 (by decide))) (kbo2 (F 19 (by decide))) (kbo3 (F 17 (by decide))) (kbo4 (F 16 (by decide))) (kbo5 (F 9 (by decide))) (kbo6 (F 8 (by decide))) (kbo7 (F 7 (by decide))) (kbo8 (F 6 (by decide))) (all fx F k) (F 17 (by decide))
    | 18, _ => d18 fx (kbo0 (F 10 (by decide))) (kbo1 (F 18 (by decide))) (kbo2 (F 19 (by decide))) (kbo3 (F 17 (by decide))) (kbo4 (F 16 (by decide))) (kbo5 (F 9 (by decide))) (kbo6 (F 8 (by decide))) (kbo7 (F 7 (by decide))) (kbo8 (F 6 (by decide))) (all fx F k) (F 18 (by decide))
    | 19, _ => d19 fx (kbo0 (F 10 (by decide))) (kbo1 (F 18 (by decide))) (kbo2 (F 19 (by decide))) (kbo3 (F 17 (by decide))) (kbo4 (F 16 (by decide))) (kbo5 (F 9 (by decide))) (kbo6 (F 8 (by decide))) (kbo7 (F 7 (by decide))) (kbo8 (F 6 (by decide))) (all fx F k) (F 19 (by decide))
    | 20, _ => d20 fx (kbo0 (F 10 (by decide))) (kbo1 (F 18 (by decide))) (kbo2 (F 19 (by decide))) (kbo3 (F 17 (by decide))) (kbo4 (F 16 (by decide))) (kbo5 (F 9 (by decide))) (kbo6 (F 8 (by decide))) (kbo7 (F 7 (by decide))) (kbo8 (F 6 (by decide))) (all fx F k) (F 20 (by decide))
    | 21, _ => d21 fx (kbo0 (F 10 (by decide))) (kbo1 (F 18 (by decide))) (kbo2 (F 19 (by decide))) (kbo3 (F 17 (by decide))) (kbo4 (F 16 (by decide))) (kbo5 (F 9 (by decide))) (kbo6 (F 8 (by decide))) (kbo7 (F 7 (by decide))) (kbo8 (F 6 (by decide))) (all fx F k) (F 21 (by decide))
    | 22, _ => d22 fx (kbo0 (F 10 (by decide))) (kbo1 (F 18 (by decide))) (kbo2 (F 19 (by decide))) (kbo3 (F 17 (by decide))) (kbo4 (F 16 (by decide))) (kbo5 (F 9 (by decide))) (kbo6 (F 8 (by decide))) (kbo7 (F 7 (by decide))) (kbo8 (F 6 (by decide))) (all fx F k) (F 22 (by decide))
    | 23, _ => d23 fx (kbo0 (F 10 (by decide))) (kbo1 (F 18 (by decide))) (kbo2 (F 19 (by decide))) (kbo3 (F 17 (by decide))) (kbo4 (F 16 (by decide))) (kbo5 (F 9 (by decide))) (kbo6 (F 8 (by decide))) (kbo7 (F 7 (by decide))) (kbo8 (F 6 (by decide))) (all fx F k) (F 23 (by decide))
    | 24, _ => d24 fx (kbo0 (F 10 (by decide))) (kbo1 (F 18 (by decide))) (kbo2 (F 19 (by decide))) (kbo3 (F 17 (by decide))) (kbo4 (F 16 (by decide))) (kbo5 (F 9 (by decide))) (kbo6 (F 8 (by decide))) (kbo7 (F 7 (by decide))) (kbo8 (F 6 (by decide))) (all fx F k) (F 24 (by decide))
    | 25, _ => d25 fx (kbo0 (F 10 (by decide))) (kbo1 (F 18 (by decide))) (kbo2 (F 19 (by decide))) (kbo3 (F 17 (by decide))) (kbo4 (F 16 (by decide))) (kbo5 (F 9 (by decide))) (kbo6 (F 8 (by decide))) (kbo7 (F 7 (by decide))) (kbo8 (F 6 (by decide))) (all fx F k) (F 25 (by decide))
    | 26, _ => d26 fx (kbo0 (F 10 (by decide))) (kbo1 (F 18 (by decide))) (kbo2 (F 19 (by decide))) (kbo3 (F 17 (by decide))) (kbo4 (F 16 (by decide))) (kbo5 (F 9 (by decide))) (kbo6 (F 8 (by decide))) (kbo7 (F 7 (by decide))) (kbo8 (F 6 (by decide))) (all fx F k) (F 26 (by decide))
    | 27, _ => d27 fx (kbo0 (F 10 (by decide))) (kbo1 (F 18 (by decide))) (kbo2 (F 19 (by decide))) (kbo3 (F 17 (by decide))) (kbo4 (F 16 (by decide))) (kbo5 (F 9 (by decide))) (kbo6 (F 8 (by decide))) (kbo7 (F 7 (by decide))) (kbo8 (F 6 (by decide))) (all fx F k) (F 27 (by decide))
    | 28, _ => d28 fx (kbo0 (F 10 (by decide))) (kbo1 (F 18 (by decide))) (kbo2 (F 19 (by decide))) (kbo3 (F 17 (by decide))) (kbo4 (F 16 (by decide))) (kbo5 (F 9 (by decide))) (kbo6 (F 8 (by decide))) (kbo7 (F 7 (by decide))) (kbo8 (F 6 (by decide))) (all fx F k) (F 28 (by decide))
    | 29, _ => d29 fx (kbo0 (F 10 (by decide))) (kbo1 (F 18 (by decide))) (kbo2 (F 19 (by decide))) (kbo3 (F 17 (by decide))) (kbo4 (F 16 (by decide))) (kbo5 (F 9 (by decide))) (kbo6 (F 8 (by decide))) (kbo7 (F 7 (by decide))) (kbo8 (F 6 (by decide))) (all fx F k) (F 29 (by decide))
    | 30, _ => d30 fx (kbo0 (F 10 (by decide))) (kbo1 (F 18 (by decide))) (kbo2 (F 19 (by decide))) (kbo3 (F 17 (by decide))) (kbo4 (F 16 (by decide))) (kbo5 (F 9 (by decide))) (kbo6 (F 8 (by decide))) (kbo7 (F 7 (by decide))) (kbo8 (F 6 (by decide))) (all fx F k) (F 30 (by decide))
    | 31, _ => d31 fx (kbo0 (F 10 (by decide))) (kbo1 (F 18 (by decide))) (kbo2 (F 19 (by decide))) (kbo3 (F 17 (by decide))) (kbo4 (F 16 (by decide))) (kbo5 (F 9 (by decide))) (kbo6 (F 8 (by decide))) (kbo7 (F 7 (by decide))) (kbo8 (F 6 (by decide))) (all fx F k) (F 31 (by decide))
    | 32, _ => d32 fx (kbo0 (F 10 (by decide))) (kbo1 (F 18 (by decide))) (kbo2 (F 19 (by decide))) (kbo3 (F 17 (by decide))) (kbo4 (F 16 (by decide))) (kbo5 (F 9 (by decide))) (kbo6 (F 8 (by decide))) (kbo7 (F 7 (by decide))) (kbo8 (F 6 (by decide))) (all fx F k) (F 32 (by decide))
    | 33, _ => d33 fx (kbo0 (F 10 (by decide))) (kbo1 (F 18 (by decide))) (kbo2 (F 19 (by decide))) (kbo3 (F 17 (by decide))) (kbo4 (F 16 (by decide))) (kbo5 (F 9 (by decide))) (kbo6 (F 8 (by decide))) (kbo7 (F 7 (by decide))) (kbo8 (F 6 (by decide))) (all fx F k) (F 33 (by decide))
    | 34, _ => d34 fx (kbo0 (F 10 (by decide))) (kbo1 (F 18 (by decide))) (kbo2 (F 19 (by decide))) (kbo3 (F 17 (by decide))) (kbo4 (F 16 (by decide))) (kbo5 (F 9 (by decide))) (kbo6 (F 8 (by decide))) (kbo7 (F 7 (by decide))) (kbo8 (F 6 (by decide))) (all fx F k) (F 34 (by decide))
    | 35, _ => d35 fx (kbo0 (F 10 (by decide))) (kbo1 (F 18 (by decide))) (kbo2 (F 19 (by decide))) (kbo3 (F 17 (by decide))) (kbo4 (F 16 (by decide))) (kbo5 (F 9 (by decide))) (kbo6 (F 8 (by decide))) (kbo7 (F 7 (by decide))) (kbo8 (F 6 (by decide))) (all fx F k) (F 35 (by decide))
    | 36, _ => d36 fx (kbo0 (F 10 (by decide))) (kbo1 (F 18 (by decide))) (kbo2 (F 19 (by decide))) (kbo3 (F 17 (by decide))) (kbo4 (F 16 (by decide))) (kbo5 (F 9 (by decide))) (kbo6 (F 8 (by decide))) (kbo7 (F 7 (by decide))) (kbo8 (F 6 (by decide))) (all fx F k) (F 36 (by decide))
    | 37, _ => d37 fx (kbo0 (F 10 (by decide))) (kbo1 (F 18 (by decide))) (kbo2 (F 19 (by decide))) (kbo3 (F 17 (by decide))) (kbo4 (F 16 (by decide))) (kbo5 (F 9 (by decide))) (kbo6 (F 8 (by decide))) (kbo7 (F 7 (by decide))) (kbo8 (F 6 (by decide))) (all fx F k) (F 37 (by decide))
    | 38, _ => d38 fx (kbo0 (F 10 (by decide))) (kbo1 (F 18 (by decide))) (kbo2 (F 19 (by decide))) (kbo3 (F 17 (by decide))) (kbo4 (F 16 (by decide))) (kbo5 (F 9 (by decide))) (kbo6 (F 8 (by decide))) (kbo7 (F 7 (by decide))) (kbo8 (F 6 (by decide))) (all fx F k) (F 38 (by decide))
    | 39, _ => d39 fx (kbo0 (F 10 (by decide))) (kbo1 (F 18 (by decide))) (kbo2 (F 19 (by decide))) (kbo3 (F 17 (by decide))) (kbo4 (F 16 (by decide))) (kbo5 (F 9 (by decide))) (kbo6 (F 8 (by decide))) (kbo7 (F 7 (by decide))) (kbo8 (F 6 (by decide))) (all fx F k) (F 39 (by decide))
    | 40, _ => d40 fx (kbo0 (F 10 (by decide))) (kbo1 (F 18 (by decide))) (kbo2 (F 19 (by decide))) (kbo3 (F 17 (by decide))) (kbo4 (F 16 (by decide))) (kbo5 (F 9 (by decide))) (kbo6 (F 8 (by decide))) (kbo7 (F 7 (by decide))) (kbo8 (F 6 (by decide))) (all fx F k) (F 40 (by decide))
    | 41, _ => d41 fx (kbo0 (F 10 (by decide))) (kbo1 (F 18 (by decide))) (kbo2 (F 19 (by decide))) (kbo3 (F 17 (by decide))) (kbo4 (F 16 (by decide))) (kbo5 (F 9 (by decide))) (kbo6 (F 8 (by decide))) (kbo7 (F 7 (by decide))) (kbo8 (F 6 (by decide))) (all fx F k) (F 41 (by decide))
    | 42, _ => d42 fx (kbo0 (F 10 (by decide))) (kbo1 (F 18 (by decide))) (kbo2 (F 19 (by decide))) (kbo3 (F 17 (by decide))) (kbo4 (F 16 (by decide))) (kbo5 (F 9 (by decide))) (kbo6 (F 8 (by decide))) (kbo7 (F 7 (by decide))) (kbo8 (F 6 (by decide))) (all fx F k) (F 42 (by decide))
    | 43, _ => d43 fx (kbo0 (F 10 (by decide))) (kbo1 (F 18 (by decide))) (kbo2 (F 19 (by decide))) (kbo3 (F 17 (by decide))) (kbo4 (F 16 (by decide))) (kbo5 (F 9 (by decide))) (kbo6 (F 8 (by decide))) (kbo7 (F 7 (by decide))) (kbo8 (F 6 (by decide))) (all fx F k) (F 43 (by decide))
    | i + 44, h => absurd h (by omega)
theorem facts {K : PySem.W.Frag} {h : Heap} {mg : PySem.Str → Option Value} (X : K.In h) (G : h.Ns mainGlobals mg) (c : He.SaysD hfa hfn K) : ∃ fd : Nat → FuncData, Fx K mg (fa K) fd nm ps bl 44 ∧ ∀ i, i < 44 → FnP K i (fd i) := by
  have hd : ∀ i, ∃ f : FuncData, i < 44 → FnP K i f := fun i => by
    by_cases hi : i < 44
    · obtain ⟨f, F⟩ := c.def_ i (d := mkD i) (by simp [hfn, hi])
      exact ⟨f, fun _ => F⟩
    · obtain ⟨f, F⟩ := c.def_ 0 (d := mkD 0) rfl
      exact ⟨f, fun h => absurd h hi⟩
  obtain ⟨fd, F⟩ := Classical.axiomOfChoice hd
  refine ⟨fd, ⟨fun i hi => He.glo_ok X G (c.fact i (f := .glo (nm i)) ?_), fun i hi => (F i hi).kp, fun i hi => ?_, fun i x hx => He.free_ok X G (c.fact (44 + i) (f := .free x) ?_)⟩, F⟩
  · unfold hfa
    rw [List.getElem?_append_left (by simpa using hi)]
    simp [hi]
  · exact match i, hi with
    | 0, _ => bn0 (F 0 (by decide))
    | 1, _ => bn1 (F 1 (by decide))
    | 2, _ => bn2 (F 2 (by decide))
    | 3, _ => bn3 (F 3 (by decide))
    | 4, _ => bn4 (F 4 (by decide))
    | 5, _ => bn5 (F 5 (by decide))
    | 6, _ => bn6 (F 6 (by decide))
    | 7, _ => bn7 (F 7 (by decide))
    | 8, _ => bn8 (F 8 (by decide))
    | 9, _ => bn9 (F 9 (by decide))
    | 10, _ => bn10 (F 10 (by decide))
    | 11, _ => bn11 (F 11 (by decide))
    | 12, _ => bn12 (F 12 (by decide))
    | 13, _ => bn13 (F 13 (by decide))
    | 14, _ => bn14 (F 14 (by decide))
    | 15, _ => bn15 (F 15 (by decide))
    | 16, _ => bn16 (F 16 (by decide))
    | 17, _ => bn17 (F 17 (by decide))
    | 18, _ => bn18 (F 18 (by decide))
    | 19, _ => bn19 (F 19 (by decide))
    | 20, _ => bn20 (F 20 (by decide))
    | 21, _ => bn21 (F 21 (by decide))
    | 22, _ => bn22 (F 22 (by decide))
    | 23, _ => bn23 (F 23 (by decide))
    | 24, _ => bn24 (F 24 (by decide))
    | 25, _ => bn25 (F 25 (by decide))
    | 26, _ => bn26 (F 26 (by decide))
    | 27, _ => bn27 (F 27 (by decide))
    | 28, _ => bn28 (F 28 (by decide))
    | 29, _ => bn29 (F 29 (by decide))
    | 30, _ => bn30 (F 30 (by decide))
    | 31, _ => bn31 (F 31 (by decide))
    | 32, _ => bn32 (F 32 (by decide))
    | 33, _ => bn33 (F 33 (by decide))
    | 34, _ => bn34 (F 34 (by decide))
    | 35, _ => bn35 (F 35 (by decide))
    | 36, _ => bn36 (F 36 (by decide))
    | 37, _ => bn37 (F 37 (by decide))
    | 38, _ => bn38 (F 38 (by decide))
    | 39, _ => bn39 (F 39 (by decide))
    | 40, _ => bn40 (F 40 (by decide))
    | 41, _ => bn41 (F 41 (by decide))
    | 42, _ => bn42 (F 42 (by decide))
    | 43, _ => bn43 (F 43 (by decide))
    | i + 44, h => absurd h (by omega)
  · unfold hfa
    rw [List.getElem?_append_right (by simp)]
    simp [hx]
/-- what is left: the evaluator says True -/
def Goal : Prop := ∀ ns : List Int, ns.length ≤ 63 → ∃ h, callF (Pr wlF) 40 43 [.rol (ns.map .int)] [] = .ok (.bl true) h
theorem goal : Goal := fun ns hn => law_ok 31 ns hn (Nat.le_refl _)
end Lk01
open PySem PySem.W PySem.Calls PyProof.Rows
theorem PySem.Challenge.cw_whichpass_k01_lots_meetings_holds : PySem.Challenge.rw_whichpass_k01_lots_meetings.Holds := by
  w_on; o_law
  refine HandSHeadRun.head_any (r := OpenLaw.row PySem.Challenge.rw_whichpass_k01_lots_meetings) (q := view (OpenLaw.row PySem.Challenge.rw_whichpass_k01_lots_meetings).prog [51]) (H := Lk01.hk) (ob := Lk01.ob) (M := 2000) (loose := Lk01.loose) (d := HandSHeadRun.topDef (OpenLaw.row PySem.Challenge.rw_whichpass_k01_lots_meetings).prog 51) (kwd := []) Lk01.ob_eq
    (by kernel_rfl) (fun s => by kernel_rfl) Lk01.run (by kernel_rfl) (by kernel_rfl) (by kernel_rfl) (by rfl) (by first | assumption | decide +kernel) (by decide +kernel) ⟨rfl, rfl, rfl, rfl, rfl, by decide +kernel⟩ ?hw ?hc
  case hw => w_witness2
  case hc =>
    refine L2.walk_ofE (l := PySem.Challenge.rw_whichpass_k01_lots_meetings) (n := 63) (k := 41) (x := "script") (CX := L2.CX0) rfl (by decide) (by kernel_rfl) ⟨rfl, by decide, by decide⟩ ?F (fun _ _ _ _ z => z)
    intro w mg fb h Y G hmg0
    obtain ⟨K, KX, c⟩ := Y
    obtain ⟨fd, fx, F⟩ := Lk01.facts KX G c
    have hmg : mg ("law" : PySem.Str) = some (.ref fb) := by
      have e : (HandSHeadRun.topDef (OpenLaw.row PySem.Challenge.rw_whichpass_k01_lots_meetings).prog 51).name = ("law" : PySem.Str) := by kernel_rfl
      rw [← e]
      exact hmg0
    have ef := hmg.symm.trans (fx.g 43 (by decide))
    cases ef
    have b := L2.FunD.bindsA (ps := ["script"]) (F 43 (by decide)) fun _ _ _ _ _ _ us hl => match us, hl with | [_], _ => rfl
    exact ⟨K, fd 43, fun vs H Q _ => Ivy.spD (Lk01.ev K) (Ivy.callF (Lk01.Pr Lk01.wlF) 40 43) 1 vs H Q fun _ _ _ => False, KX, fun s v => b s [v] rfl, fun H A ns hl hO hS => Ivy.law_sp (v := Lk01.ev K) Lk01.goal hl hO hS, fun base _ _ => Ivy.fn_calm (Lk01.all fx F 40 43 (by decide))⟩

