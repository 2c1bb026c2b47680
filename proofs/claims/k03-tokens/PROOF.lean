import PyProof.Rows.All
import Wide.All
import OpenK.AllK
import Wide.FinOn
import PySem.Challenge.RW_whichpass_k03_tokens
import KE.KStateDown
import Lean
import HandS.ForMost
import HandS.Walk
import HandS.Wide
import HandS.WideBits
import HandS.TupAny
import HandS.TupMul
import HandS.IsInst
import HandS.Flow
import HandS.Style
import HandS.CallSlots
import HandS.ForExc
import PyProof.StrBlock2
import HandS.Conv
import HandS.Rev
import HandS.SortInts
import HandS.Deep
import HandS.RaiseMore
import HandS.StrMore
import HandS.Small
import PyProof.LongRange
import HandS.Defaults
import PyProof.Draws
import PyProof.EnumMake
import PyProof.ListRange
import HandS.Dict
import HandS.TryMany
import HandS.ExcInit
import HandS.ExcField
import HandS.ExcIs
import KE.KExcIs
import HandS.HeadHook1
import HandS.HeadHook2
import HandS.Text
import PyProof.StrLawsTight
import PyProof.StrLawsChain
import HandS.Ends
import HandS.Words
import HandS.WordsExc
import HandS.Head0
import HandS.Head1
import HandS.Head2
import HandS.HeadEnd
import HandS.Base
import HandS.Call
import HandS.More
set_option Elab.async false
set_option linter.all false
set_option maxRecDepth 100000
set_option maxHeartbeats 16000000
set_option exponentiation.threshold 256
/-! Ivy, part A: plain data, a small language over it, its evaluator. -/
namespace Ivy

abbrev Tx := List Nat
abbrev Ky := Sum Int Tx

/-- data: tuples are trees; rol: a list that nobody changes; lst, dct: fresh ones that nobody else holds; ref: a cell -/
inductive D where
  | non | bl (b : Bool) | int (i : Int) | str (x : Tx) | tup (xs : List D) | rol (xs : List D)
  | lst (xs : List D) | dct (kvs : List (Ky × D)) | ref (n : Nat) | exc (c : Nat) (fs : List (Tx × D))
instance : Inhabited D := ⟨.non⟩

inductive C where
  | lst (xs : List D) | dct (kvs : List (Ky × D)) | ins (c : Nat) (fs : List (Tx × D))

abbrev Hh := List C
abbrev Sl := List (Option D)

inductive R (α : Type) where
  | ok (a : α) (h : Hh) | err (c : Nat) (fs : List (Tx × D)) (h : Hh) | no

def R.bind {α β : Type} (r : R α) (k : α → Hh → R β) : R β := match r with
  | .ok a h => k a h
  | .err c fs h => .err c fs h
  | .no => .no

/-- nothing is raised -/
def R.calm {α : Type} (r : R α) : R α := match r with
  | .err _ _ _ => .no
  | r => r

def D.isNon : D → Bool
  | .non => true
  | _ => false
def D.pers : D → Bool
  | .lst _ => false
  | .dct _ => false
  | .exc _ _ => false
  | _ => true

mutual
def D.low (n : Nat) : D → Bool
  | .tup xs => D.lowL n xs
  | .rol xs => D.lowL n xs
  | .lst xs => D.lowL n xs
  | .dct kvs => D.lowK n kvs
  | .ref m => decide (m < n)
  | .exc _ fs => D.lowF n fs
  | _ => true
def D.lowL (n : Nat) : List D → Bool
  | [] => true
  | d :: ds => D.low n d && D.lowL n ds
def D.lowK (n : Nat) : List (Ky × D) → Bool
  | [] => true
  | (_, d) :: ds => D.low n d && D.lowK n ds
def D.lowF (n : Nat) : List (Tx × D) → Bool
  | [] => true
  | (_, d) :: ds => D.low n d && D.lowF n ds
end
def C.low (n : Nat) : C → Bool
  | .lst xs => D.lowL n xs
  | .dct kvs => D.lowK n kvs
  | .ins _ fs => D.lowF n fs

mutual
def D.beq : D → D → Bool
  | .non, .non => true
  | .bl a, .bl b => a == b
  | .int a, .int b => decide (a = b)
  | .str a, .str b => decide (a = b)
  | .tup a, .tup b => D.beqL a b
  | .rol a, .rol b => D.beqL a b
  | .lst a, .lst b => D.beqL a b
  | .dct a, .dct b => D.beqK a b
  | .ref a, .ref b => a == b
  | .exc c a, .exc d b => c == d && D.beqF a b
  | _, _ => false
def D.beqL : List D → List D → Bool
  | [], [] => true
  | a :: as, b :: bs => D.beq a b && D.beqL as bs
  | _, _ => false
def D.beqK : List (Ky × D) → List (Ky × D) → Bool
  | [], [] => true
  | (j, a) :: as, (k, b) :: bs => decide (j = k) && (D.beq a b && D.beqK as bs)
  | _, _ => false
def D.beqF : List (Tx × D) → List (Tx × D) → Bool
  | [], [] => true
  | (j, a) :: as, (k, b) :: bs => decide (j = k) && (D.beq a b && D.beqF as bs)
  | _, _ => false
end
def C.beq : C → C → Bool
  | .lst a, .lst b => D.beqL a b
  | .dct a, .dct b => D.beqK a b
  | .ins c a, .ins d b => c == d && D.beqF a b
  | _, _ => false

/-- the first cells of g are those of h, or name only old cells -/
def trimOk (n : Nat) : Hh → Hh → Bool
  | [], _ => true
  | c :: h, c' :: g => (C.beq c c' || C.low n c') && trimOk n h g
  | _ :: _, [] => false
/-- a fresh list or dict, if a new cell is handed back -/
def lift (n : Nat) (g : Hh) : D → D
  | .ref m => if n ≤ m then (match g[m]? with
    | some (.lst xs) => .lst xs
    | some (.dct kvs) => .dct kvs
    | _ => .ref m) else .ref m
  | d => d
/-- a call's end: cells that nobody names any more are dropped -/
def finish (h : Hh) (d : D) (g : Hh) : R D :=
  if g.length = h.length then .ok d g
  else if D.low h.length (lift h.length g d) && trimOk h.length h g then .ok (lift h.length g d) (g.take h.length)
  else .ok d g
def finishX (h : Hh) (c : Nat) (fs : List (Tx × D)) (g : Hh) : R D :=
  if g.length = h.length then .err c fs g
  else if D.lowF h.length fs && trimOk h.length h g then .err c fs (g.take h.length)
  else .err c fs g

/-! ### operations on values -/
def lsD (h : Hh) : D → Option (List D)
  | .lst xs => some xs
  | .rol xs => some xs
  | .ref n => (match h[n]? with
    | some (.lst xs) => some xs
    | _ => none)
  | _ => none
/-- a list that may be changed, or a fresh one -/
def lmD (h : Hh) : D → Option (List D)
  | .lst xs => some xs
  | .ref n => (match h[n]? with
    | some (.lst xs) => some xs
    | _ => none)
  | _ => none
def sqD (h : Hh) : D → Option (List D)
  | .tup xs => some xs
  | d => lsD h d
def dcD (h : Hh) : D → Option (List (Ky × D))
  | .dct kvs => some kvs
  | .ref n => (match h[n]? with
    | some (.dct kvs) => some kvs
    | _ => none)
  | _ => none
def kyD : D → Option Ky
  | .int i => some (.inl i)
  | .str x => some (.inr x)
  | _ => none
def kD : Ky → D
  | .inl i => .int i
  | .inr x => .str x
def kGet (kvs : List (Ky × D)) (k : Ky) : Option D := match kvs with
  | [] => none
  | (j, d) :: r => if j = k then some d else kGet r k
def kPut (kvs : List (Ky × D)) (k : Ky) (d : D) : List (Ky × D) := if (kvs.any fun p => decide (p.1 = k)) = true then kvs.map (fun p => if p.1 = k then (p.1, d) else p) else kvs ++ [(k, d)]
def kDrop (kvs : List (Ky × D)) (k : Ky) : List (Ky × D) := match kvs with
  | [] => []
  | (j, e) :: r => if j = k then kDrop r k else (j, e) :: kDrop r k
def fGet (fs : List (Tx × D)) (x : Tx) : Option D := match fs with
  | [] => none
  | (y, d) :: r => if y = x then some d else fGet r x
def fPut (fs : List (Tx × D)) (x : Tx) (d : D) : List (Tx × D) := match fs with
  | [] => [(x, d)]
  | (y, e) :: r => if y = x then (y, d) :: r else (y, e) :: fPut r x d

/-- Python's place of an index -/
def ixP (n : Nat) (i : Int) : Option Nat := if 0 ≤ i then (if i < n then some i.toNat else none) else if -(n : Int) ≤ i then some (i + n).toNat else none
def atP {α : Type} (xs : List α) (i : Int) : Option α := match ixP xs.length i with
  | some j => xs[j]?
  | none => none
/-- a slice's end, brought within -/
def clip (n d : Nat) : Option Int → Nat
  | none => d
  | some v => if v < 0 then (v + (n : Int)).toNat else min v.toNat n
def cut {α : Type} (xs : List α) (lo hi : Option Int) : List α := (xs.drop (clip xs.length 0 lo)).take (clip xs.length xs.length hi - clip xs.length 0 lo)

def big : Nat := 2 ^ 500000
def bigD : Nat := 2 ^ 9000
abbrev cells : Nat := 16777216

/-- lists told by their cells, three deep -/
def told : Nat → Hh → D → D
  | k + 1, h, .ref n => (match h[n]? with
    | some (.lst xs) => .lst (xs.map (told k h))
    | _ => .ref n)
  | k + 1, h, .lst xs => .lst (xs.map (told k h))
  | _, _, d => d
def okTx (x : Tx) : Bool := x.all fun c => decide (c < 1114112)
mutual
/-- data that == may look at, at most k deep -/
def D.dat : Nat → D → Bool
  | _, .non => true
  | _, .bl _ => true
  | _, .int _ => true
  | _, .str x => okTx x
  | k + 1, .tup xs => D.datL k xs
  | k + 1, .rol xs => D.datL k xs
  | k + 1, .lst xs => D.datL k xs
  | _, _ => false
def D.datL : Nat → List D → Bool
  | _, [] => true
  | k, d :: ds => D.dat k d && D.datL k ds
end
mutual
def D.eqv : D → D → Bool
  | .non, .non => true
  | .bl a, .bl b => a == b
  | .bl a, .int b => decide ((if a then 1 else 0) = b)
  | .int a, .bl b => decide (a = (if b then 1 else 0))
  | .int a, .int b => decide (a = b)
  | .str a, .str b => decide (a = b)
  | .tup a, .tup b => D.eqvL a b
  | .rol a, .rol b => D.eqvL a b
  | .rol a, .lst b => D.eqvL a b
  | .lst a, .rol b => D.eqvL a b
  | .lst a, .lst b => D.eqvL a b
  | _, _ => false
def D.eqvL : List D → List D → Bool
  | [], [] => true
  | a :: as, b :: bs => D.eqv a b && D.eqvL as bs
  | _, _ => false
end
/-- two flat data, none a bool beside an int -/
def scalD : D → D → Bool
  | .non, .non => true
  | .non, .int _ => true
  | .int _, .non => true
  | .non, .bl _ => true
  | .bl _, .non => true
  | .non, .str _ => true
  | .str _, .non => true
  | .int _, .int _ => true
  | .bl _, .bl _ => true
  | .str _, .str _ => true
  | .int _, .str _ => true
  | .str _, .int _ => true
  | .bl _, .str _ => true
  | .str _, .bl _ => true
  | _, _ => false
def eqD (h : Hh) (a b : D) : Option Bool := if scalD a b then some (D.eqv a b) else if D.dat 60 (told 3 h a) && D.dat 60 (told 3 h b) then some (D.eqv (told 3 h a) (told 3 h b)) else none

/-! ### texts -/
def ltL : List Nat → List Nat → Bool
  | [], [] => false
  | [], _ :: _ => true
  | _ :: _, [] => false
  | a :: as, b :: bs => if a = b then ltL as bs else decide (a < b)
def preL : List Nat → List Nat → Bool
  | [], _ => true
  | _ :: _, [] => false
  | a :: as, b :: bs => decide (a = b) && preL as bs
/-- y stands somewhere in x -/
def inL (y : List Nat) : List Nat → Bool
  | [] => preL y []
  | c :: x => preL y (c :: x) || inL y x
/-- x parted at each sign c -/
def splL (c : Nat) : List Nat → List (List Nat)
  | [] => [[]]
  | a :: x => if a = c then [] :: splL c x else match splL c x with
    | [] => [[a]]
    | w :: ws => (a :: w) :: ws
def joinT (sep : List Nat) : List (List Nat) → List Nat
  | [] => []
  | [w] => w
  | w :: ws => w ++ (sep ++ joinT sep ws)
def strI (i : Int) : Tx := if i < 0 then 45 :: (Nat.toDigits 10 i.natAbs).map Char.toNat else (Nat.toDigits 10 i.natAbs).map Char.toNat
/-- int(x) of a text -/
def intT (x : Tx) : Option Int := PySem.intText? ⟨x.toArray⟩

/-! ### operations -/
inductive Ty where
  | int | bool | str | tuple | list | dict | none | cls (c : Nat) | verr
inductive Op where
  | add | sub | mul | fdiv | mod | pow | shl | shr | band | neg | iadd | imul
  | lt | le | gt | ge | eq | ne | isNone | notNone | isB | notB | isIn | notIn
  | idx | slice (lo hi : Bool) | sliceRev | tup | lst | dict
  | len | abs | int | str | bool | tuple | list | all | any | sum | min2 | max2 | minL | maxL | sorted | bits | ord | chr
  | isi (ts : List Ty) | isX (t : Ty) | getX (f : Tx)
  | append | extend | pop | popAt | insert | index | count | reverse | setItem | getF (f : Tx) | setF (f : Tx)
  | tupRng | listRng | tupRev | listRev
  | get1 | get2 | join | split | words | strip | startswith | endswith | fstr (pieces : List (Option Tx))

def intsL : List D → Option (List Int)
  | [] => some []
  | .int i :: ds => (intsL ds).map (i :: ·)
  | _ => none
def boolsL : List D → Option (List Bool)
  | [] => some []
  | .bl b :: ds => (boolsL ds).map (b :: ·)
  | _ => none
def strsL : List D → Option (List Tx)
  | [] => some []
  | .str b :: ds => (strsL ds).map (b :: ·)
  | _ => none
def persL (ds : List D) : Bool := ds.all D.pers

def mulOk (i j : Int) : Bool := decide (i.natAbs < 18446744073709551616) || decide (j.natAbs < 18446744073709551616) || (decide (i.natAbs < big) && decide (j.natAbs < big))
def intR (i : Int) (h : Hh) : R D := .ok (.int i) h
def blR (b : Bool) (h : Hh) : R D := .ok (.bl b) h
def whenR {α : Type} (b : Bool) (r : R α) : R α := if b = true then r else .no

def opAdd (h : Hh) : D → D → R D
  | .int i, .int j => .ok (.int (i + j)) h
  | .str x, .str y => whenR (decide (x.length + y.length ≤ cells)) (.ok (.str (x ++ y)) h)
  | .tup x, .tup y => whenR (decide (x.length + y.length ≤ cells)) (.ok (.tup (x ++ y)) h)
  | a, b => match lmD h a, lmD h b with
    | some x, some y => whenR (decide (x.length + y.length ≤ cells)) (.ok (.lst (x ++ y)) h)
    | _, _ => .no
def opMul (h : Hh) : D → D → R D
  | .int i, .int j => whenR (mulOk i j) (.ok (.int (i * j)) h)
  | a, .int k => match lmD h a with
    | some x => whenR (decide (-9223372036854775808 ≤ k) && decide (k < 9223372036854775808) && decide (x.length * k.toNat ≤ cells)) (.ok (.lst (List.replicate k.toNat x).flatten) h)
    | none => match a with
      | .tup x => whenR (!x.isEmpty && decide (2 ≤ k) && decide (k ≤ 1000) && decide (x.length ≤ 1000)) (.ok (.tup (List.replicate k.toNat x).flatten) h)
      | .str x => whenR (decide (-9223372036854775808 ≤ k) && decide (k < 9223372036854775808) && decide (x.length * k.toNat ≤ cells)) (.ok (.str (List.replicate k.toNat x).flatten) h)
      | _ => .no
  | _, _ => .no
def opCmp (h : Hh) (f : Int → Int → Bool) (g : Tx → Tx → Bool) : D → D → R D
  | .int i, .int j => blR (f i j) h
  | .str x, .str y => blR (g x y) h
  | _, _ => .no
def flatD : D → Bool
  | .non => true
  | .bl _ => true
  | .int _ => true
  | .str _ => true
  | _ => false
def opIn (h : Hh) (neg : Bool) : D → D → R D
  | .str x, .str y => (match x with
    | [c] => blR (if neg then !decide (c ∈ y) else decide (c ∈ y)) h
    | _ => .no)
  | a, b => match dcD h b with
    | some kvs => (match kyD a with
      | some k => blR (if neg then !(kGet kvs k).isSome else (kGet kvs k).isSome) h
      | none => .no)
    | none => match sqD h b with
      | some ys => if flatD a && ys.all flatD then blR (if neg then !ys.any (fun y => D.eqv y a) else ys.any (fun y => D.eqv y a)) h
        else match lsD h b with
          | some ys => if D.pers a && (D.dat 60 a && D.datL 59 ys) then blR (if neg then !ys.any (fun y => D.eqv y a) else ys.any (fun y => D.eqv y a)) h else .no
          | none => .no
      | none => .no
def opIdx (h : Hh) : D → D → R D
  | .str x, .int i => whenR (decide (x.length ≤ cells)) (match atP x i with
    | some c => .ok (.str [c]) h
    | none => .no)
  | a, b => match dcD h a with
    | some kvs => (match kyD b with
      | some k => (match kGet kvs k with
        | some d => .ok d h
        | none => .no)
      | none => .no)
    | none => match sqD h a, b with
      | some xs, .int i => (match atP xs i with
        | some d => .ok d h
        | none => .no)
      | _, _ => .no
def opSlice (h : Hh) (a : D) (lo hi : Option Int) : R D := match a with
  | .str x => whenR (decide (x.length ≤ cells)) (.ok (.str (cut x lo hi)) h)
  | .tup x => .ok (.tup (cut x lo hi)) h
  | a => match lsD h a with
    | some x => .ok (.lst (cut x lo hi)) h
    | none => .no
/-- a datum's type: a built-in one, or a class -/
def tyD (h : Hh) : D → Option (Sum Ty Nat)
  | .non => some (.inl .none)
  | .bl _ => some (.inl .bool)
  | .int _ => some (.inl .int)
  | .str _ => some (.inl .str)
  | .tup _ => some (.inl .tuple)
  | .rol _ => some (.inl .list)
  | .lst _ => some (.inl .list)
  | .dct _ => some (.inl .dict)
  | .ref n => (match h[n]? with
    | some (.lst _) => some (.inl .list)
    | some (.dct _) => some (.inl .dict)
    | some (.ins c _) => some (.inr c)
    | none => none)
  | .exc _ _ => none
def isB (s t : Ty) : Bool := match s, t with
  | .none, .none => true
  | .bool, .bool => true
  | .bool, .int => true
  | .int, .int => true
  | .str, .str => true
  | .tuple, .tuple => true
  | .list, .list => true
  | .dict, .dict => true
  | _, _ => false
def tyIs (sub : Nat → Nat → Bool) (k : Sum Ty Nat) (t : Ty) : Bool := match k with
  | .inl s => isB s t
  | .inr c => match t with
    | .cls k => sub c k
    | .verr => sub c 1000
    | _ => false
/-- a cell's list changed -/
def chg (h : Hh) (n : Nat) (xs : List D) (d : D) : R D := .ok d (h.set n (.lst xs))
def insB (x : Int) : List Int → List Int
  | [] => [x]
  | y :: ys => if x ≤ y then x :: y :: ys else y :: insB x ys
def sortI : List Int → List Int
  | [] => []
  | x :: xs => insB x (sortI xs)
def insS (x : Tx) : List Tx → List Tx
  | [] => [x]
  | y :: ys => if ltL y x then y :: insS x ys else x :: y :: ys
def sortS : List Tx → List Tx
  | [] => []
  | x :: xs => insS x (sortS xs)
def firstAt (y : D) : Nat → List D → Option Nat
  | _, [] => none
  | k, z :: zs => if D.eqv z y then some k else firstAt y (k + 1) zs
def piecesT : List (Option Tx) → List D → Option Tx
  | [], [] => some []
  | some x :: ps, ds => (piecesT ps ds).map (x ++ ·)
  | none :: ps, .int i :: ds => (piecesT ps ds).map (strI i ++ ·)
  | none :: ps, .str y :: ds => (piecesT ps ds).map (y ++ ·)
  | _, _ => none
def pairsD : List D → Option (List (Ky × D))
  | [] => some []
  | k :: v :: r => (match kyD k, pairsD r with
    | some k, some kvs => if D.pers v then some ((k, v) :: kvs) else none
    | _, _ => none)
  | _ => none
def bitLen (i : Int) : Nat := if i = 0 then 0 else i.natAbs.log2 + 1

structure Src where
  ds : List D
  gd : List (Nat × C)
def rangeL (lo : Int) (n : Nat) (st : Int) : List D := (List.range n).map fun (k : Nat) => D.int (lo + (k : Int) * st)
def rangeN (lo hi st : Int) : Nat := if st > 0 then (if lo < hi then ((hi - lo - 1) / st + 1).toNat else 0) else (if lo > hi then ((lo - hi - 1) / (-st) + 1).toNat else 0)
def smallD : D → Bool
  | .int i => decide (i.natAbs < 4611686018427387904)
  | _ => false
def rngS : List D → Option Src
  | [.int j] => some ⟨rangeL 0 (rangeN 0 j 1) 1, []⟩
  | [.int i, .int j] => some ⟨rangeL i (rangeN i j 1) 1, []⟩
  | [.int i, .int j, .int c] => if c ≠ 0 ∧ c.natAbs < bigD then some ⟨rangeL i (rangeN i j c) c, []⟩ else none
  | _ => none
def opApp (sub : Nat → Nat → Bool) (o : Op) (ds : List D) (h : Hh) : R D := match o, ds with
  | .add, [a, b] => opAdd h a b
  | .sub, [.int i, .int j] => intR (i - j) h
  | .iadd, [.int i, .int j] => intR (i + j) h
  | .iadd, [.str x, .str y] => whenR (decide (x.length + y.length ≤ cells)) (.ok (.str (x ++ y)) h)
  | .imul, [.int i, .int j] => whenR (mulOk i j) (intR (i * j) h)
  | .mul, [a, b] => opMul h a b
  | .fdiv, [.int i, .int j] => whenR (decide (j ≠ 0) && decide (j.natAbs < bigD)) (intR (i.fdiv j) h)
  | .mod, [.int i, .int j] => whenR (decide (j ≠ 0)) (intR (i.fmod j) h)
  | .pow, [.int i, .int j] => whenR (decide (0 ≤ j) && decide (j ≤ 1000000) && decide (i.natAbs < 18446744073709551616)) (intR (i ^ j.toNat) h)
  | .shl, [.int i, .int j] => whenR (decide (0 ≤ j) && decide (j ≤ 1000000) && decide (i.natAbs < big)) (intR (i * 2 ^ j.toNat) h)
  | .shr, [.int i, .int j] => whenR (decide (0 ≤ j)) (intR (i / 2 ^ j.toNat) h)
  | .neg, [.int i] => intR (-i) h
  | .lt, [a, b] => opCmp h (fun i j => decide (i < j)) (fun x y => ltL x y) a b
  | .le, [a, b] => opCmp h (fun i j => decide (i ≤ j)) (fun x y => !ltL y x) a b
  | .gt, [a, b] => opCmp h (fun i j => decide (j < i)) (fun x y => ltL y x) a b
  | .ge, [a, b] => opCmp h (fun i j => decide (j ≤ i)) (fun x y => !ltL x y) a b
  | .eq, [a, b] => (match eqD h a b with
    | some k => blR k h
    | none => .no)
  | .ne, [a, b] => (match eqD h a b with
    | some k => blR (!k) h
    | none => .no)
  | .isNone, [a] => blR (D.isNon a) h
  | .notNone, [a] => blR (!D.isNon a) h
  | .isB, [.bl a, .bl b] => blR (a == b) h
  | .notB, [.bl a, .bl b] => blR (!(a == b)) h
  | .isIn, [a, b] => opIn h false a b
  | .notIn, [a, b] => opIn h true a b
  | .idx, [a, b] => opIdx h a b
  | .slice false false, [a] => opSlice h a none none
  | .slice true false, [a, .int i] => opSlice h a (some i) none
  | .slice false true, [a, .int j] => opSlice h a none (some j)
  | .slice true true, [a, .int i, .int j] => opSlice h a (some i) (some j)
  | .sliceRev, [a] => (match lsD h a with
    | some xs => .ok (.lst xs.reverse) h
    | none => .no)
  | .tup, ds => whenR (persL ds && decide (ds.length ≤ cells)) (.ok (.tup ds) h)
  | .lst, ds => whenR (persL ds && decide (ds.length ≤ cells)) (.ok (.lst ds) h)
  | .dict, ds => (match pairsD ds with
    | some kvs => .ok (.dct (kvs.foldl (fun acc kv => kPut acc kv.1 kv.2) [])) h
    | none => .no)
  | .len, [.str x] => whenR (decide (x.length ≤ cells)) (intR x.length h)
  | .len, [a] => (match sqD h a with
    | some xs => intR xs.length h
    | none => match dcD h a with
      | some kvs => intR kvs.length h
      | none => .no)
  | .abs, [.int i] => intR (if i < 0 then -i else i) h
  | .int, [.int i] => intR i h
  | .int, [.bl b] => intR (if b then 1 else 0) h
  | .int, [.str x] => whenR (decide (x.length ≤ 640)) (match intT x with
    | some i => intR i h
    | none => .no)
  | .str, [.int i] => whenR (decide (i.natAbs.log2 < 1920)) (.ok (.str (strI i)) h)
  | .str, [.str x] => .ok (.str x) h
  | .bool, [.int i] => blR (i != 0) h
  | .bool, [.bl b] => blR b h
  | .tuple, [.tup xs] => .ok (.tup xs) h
  | .tuple, [a] => (match lsD h a with
    | some xs => .ok (.tup xs) h
    | none => .no)
  | .list, [a] => (match sqD h a with
    | some xs => .ok (.lst xs) h
    | none => .no)
  | .all, [a] => (match (lsD h a).bind boolsL with
    | some bs => blR (bs.all id) h
    | none => .no)
  | .any, [a] => (match (lsD h a).bind boolsL with
    | some bs => blR (bs.any id) h
    | none => .no)
  | .sum, [a] => (match (lsD h a).bind intsL with
    | some ns => intR ns.sum h
    | none => .no)
  | .min2, [.int i, .int j] => intR (if j < i then j else i) h
  | .max2, [.int i, .int j] => intR (if j > i then j else i) h
  | .minL, [a] => (match (lsD h a).bind intsL with
    | some (n :: ns) => intR (ns.foldl min n) h
    | _ => .no)
  | .maxL, [a] => (match (lsD h a).bind intsL with
    | some (n :: ns) => intR (ns.foldl max n) h
    | _ => .no)
  | .sorted, [a] => (match lsD h a with
    | some xs => (match intsL xs with
      | some ns => whenR (decide (ns.length ≤ cells)) (.ok (.lst ((sortI ns).map .int)) h)
      | none => .no)
    | none => .no)
  | .bits, [.int i] => intR (bitLen i) h
  | .isi ts, [a] => (match tyD h a with
    | some k => blR (ts.any (tyIs sub k)) h
    | none => .no)
  | .append, [.ref n, d] => (match h[n]? with
    | some (.lst xs) => whenR (D.pers d && decide (xs.length < cells)) (chg h n (xs ++ [d]) .non)
    | _ => .no)
  | .extend, [.ref n, a] => (match h[n]?, lmD h a with
    | some (.lst xs), some ys => whenR (decide (xs.length + ys.length ≤ cells)) (chg h n (xs ++ ys) .non)
    | _, _ => .no)
  | .pop, [.ref n] => (match h[n]? with
    | some (.lst xs) => (match xs[xs.length - 1]? with
      | some d => chg h n xs.dropLast d
      | none => .no)
    | _ => .no)
  | .popAt, [.ref n, .int i] => (match h[n]? with
    | some (.lst xs) => (match ixP xs.length i with
      | some k => (match xs[k]? with
        | some d => chg h n (xs.eraseIdx k) d
        | none => .no)
      | none => .no)
    | _ => .no)
  | .insert, [.ref n, .int i, d] => (match h[n]? with
    | some (.lst xs) => whenR (D.pers d && decide (xs.length < cells)) (chg h n (xs.take (clip xs.length 0 (some i)) ++ d :: xs.drop (clip xs.length 0 (some i))) .non)
    | _ => .no)
  | .reverse, [.ref n] => (match h[n]? with
    | some (.lst xs) => chg h n xs.reverse .non
    | _ => .no)
  | .index, [.str x, .str [c]] => (match x.idxOf? c with
    | some k => intR k h
    | none => .no)
  | .index, [a, b] => (match sqD h a with
    | some ys => if (flatD b && ys.all flatD) || (D.dat 60 b && ys.all (D.dat 60)) then (match firstAt b 0 ys with
      | some k => intR k h
      | none => .no) else .no
    | none => .no)
  | .count, [.str x, .str [c]] => intR (x.count c) h
  | .setItem, [d, .ref n, b] => (match h[n]?, b with
    | some (.lst xs), .int i => (match ixP xs.length i with
      | some k => whenR (D.pers d) (chg h n (xs.set k d) .non)
      | none => .no)
    | some (.dct kvs), b => (match kyD b with
      | some k => whenR (D.pers d && decide (kvs.length < cells)) (.ok .non (h.set n (.dct (kPut kvs k d))))
      | none => .no)
    | _, _ => .no)
  | .getF f, [.ref n] => (match h[n]? with
    | some (.ins _ fs) => (match fGet fs f with
      | some d => .ok d h
      | none => .no)
    | _ => .no)
  | .getX f, [.exc _ fs] => (match fGet fs f with
    | some d => .ok d h
    | none => .no)
  | .isX t, [.exc c _] => blR (tyIs sub (.inr c) t) h
  | .setF f, [d, .ref n] => (match h[n]? with
    | some (.ins c fs) => whenR (D.pers d && decide (fs.length < 900)) (.ok .non (h.set n (.ins c (fPut fs f d))))
    | _ => .no)
  | .get1, [a, b] => (match dcD h a, kyD b with
    | some kvs, some k => .ok ((kGet kvs k).getD .non) h
    | _, _ => .no)
  | .get2, [a, b, d] => (match dcD h a, kyD b with
    | some kvs, some k => whenR (D.pers d) (.ok ((kGet kvs k).getD d) h)
    | _, _ => .no)
  | .join, [.str x, a] => (match (sqD h a).bind strsL with
    | some ys => whenR (decide ((ys.map (·.length)).sum + ys.length * x.length ≤ cells)) (.ok (.str (joinT x ys)) h)
    | none => .no)
  | .split, [.str x, .str [c]] => whenR (decide (x.length + 2 ≤ cells)) (.ok (.lst ((splL c x).map .str)) h)
  | .startswith, [.str x, .str y] => blR (preL y x) h
  | .tupRng, ds => (match rngS ds with
    | some s => whenR (decide (s.ds.length ≤ cells)) (.ok (.tup s.ds) h)
    | none => .no)
  | .listRng, ds => (match rngS ds with
    | some s => whenR (decide (s.ds.length ≤ cells) && ds.all smallD) (.ok (.lst s.ds) h)
    | none => .no)
  | .tupRev, [a] => (match lsD h a with
    | some xs => .ok (.tup xs.reverse) h
    | none => .no)
  | .listRev, [a] => (match lsD h a with
    | some xs => .ok (.lst xs.reverse) h
    | none => .no)
  | .fstr ps, ds => (match piecesT ps ds with
    | some x => whenR (decide (x.length ≤ 100000)) (.ok (.str x) h)
    | none => .no)
  | _, _ => .no

/-! ### the language -/
inductive Tg where
  | name (i : Nat) | tup (ts : List Tg)
mutual
inductive Ex where
  | var (i : Nat) | lit (d : D) | glob (k : Nat)
  | op (o : Op) (es : List Ex)
  | box (e : Ex) | ck (k : Nat) (e : Ex)
  | call (f : Nat) (es : List Ex) (perm : List Nat)
  | mk (c f : Nat) (es : List Ex)
  | meth (c f : Nat) (m : Tx) (o : Ex) (es : List Ex)
  | and (a b : Ex) | or (a b : Ex) | not (t : Te) | ifx (t : Te) (a b : Ex)
  | chain (o p : Op) (a b c : Ex)
  | comp (own : List Nat) (t : Tg) (it : It) (cs : List Te) (e : Ex)
  | comp2 (own : List Nat) (t : Tg) (it : It) (cs : List Te) (own2 : List Nat) (t2 : Tg) (it2 : It) (cs2 : List Te) (e : Ex)
/-- tests -/
inductive Te where
  | ex (e : Ex) | and (a b : Te) | or (a b : Te) | not (a : Te)
/-- what a loop walks -/
inductive It where
  | seq (e : Ex) | rng (es : List Ex) | enum (e : Ex) | zip (a b : Ex) | rev (e : Ex) | items (e : Ex)
end
mutual
inductive St where
  | asg (t : Tg) (e : Ex) | augI (o : Op) (a i e : Ex) | augF (o : Op) (f : Tx) (a e : Ex)
  | ex (e : Ex) | ret (e : Ex) | retN
  | ite (c : Te) (a b : List St) | whl (c : Te) (b : List St) (ks : List Nat) | for (t : Tg) (it : It) (b : List St) (ks : List Nat)
  | raise (c : Nat) (fs : List Tx) (es : List Ex) | try (b : List St) (hs : List Hd) | thru (b : List St)
  | pass | brk | cont
inductive Hd where
  | mk (c : Nat) (i : Option Nat) (b : List St)
end
structure G where
  fn : Nat → List D → Hh → R D
  cs : Nat → D
  sub : Nat → Nat → Bool
  w : Nat

mutual
def putT : Tg → D → Sl → Option Sl
  | .name i, d, δ => if D.pers d then some (δ.set i (some d)) else none
  | .tup ts, .tup ds, δ => putTs ts ds δ
  | _, _, _ => none
def putTs : List Tg → List D → Sl → Option Sl
  | [], [], δ => some δ
  | t :: ts, d :: ds, δ => (match putT t d δ with
    | some δ' => putTs ts ds δ'
    | none => none)
  | _, _, _ => none
end
def wipeS (δ : Sl) : List Nat → Sl
  | [] => δ
  | i :: is => (wipeS δ is).set i none
def boxR : D → Hh → R D
  | .lst xs, h => .ok (.ref h.length) (h ++ [.lst xs])
  | .dct kvs, h => .ok (.ref h.length) (h ++ [.dct kvs])
  | d, h => .ok d h
/-- a checked int (0), list's cell (1), dict's cell (2), text (3) -/
def ckR (k : Nat) (d : D) (h : Hh) : R D := match d with
  | .int i => whenR (k == 0) (.ok (.int i) h)
  | .str x => whenR (k == 3) (.ok (.str x) h)
  | .ref n => (match h[n]? with
    | some (.lst _) => whenR (k == 1) (.ok (.ref n) h)
    | some (.dct _) => whenR (k == 2) (.ok (.ref n) h)
    | _ => .no)
  | _ => .no
def truD (h : Hh) : D → R Bool
  | .non => .ok false h
  | .bl b => .ok b h
  | .int i => .ok (i != 0) h
  | .str x => whenR (decide (x.length ≤ cells)) (.ok (!x.isEmpty) h)
  | d => match sqD h d with
    | some xs => .ok (!xs.isEmpty) h
    | none => match dcD h d with
      | some kvs => .ok (!kvs.isEmpty) h
      | none => .no
def gdOk (h : Hh) : List (Nat × C) → Bool
  | [] => true
  | (n, c) :: r => (match h[n]? with
    | some c' => C.beq c c'
    | none => false) && gdOk h r
def srcL (h : Hh) : D → Option Src
  | .lst xs => some ⟨xs, []⟩
  | .rol xs => some ⟨xs, []⟩
  | .ref n => (match h[n]? with
    | some (.lst xs) => some ⟨xs, [(n, .lst xs)]⟩
    | _ => none)
  | _ => none
def srcD (h : Hh) : D → Option Src
  | .tup xs => some ⟨xs, []⟩
  | .str x => some ⟨x.map fun c => .str [c], []⟩
  | d => srcL h d
def srcT (h : Hh) : D → Option Src
  | .tup xs => some ⟨xs, []⟩
  | d => srcL h d
def enumL : Nat → List D → List D
  | _, [] => []
  | k, d :: ds => .tup [.int (k : Int), d] :: enumL (k + 1) ds
def zipL : List D → List D → List D
  | a :: as, b :: bs => .tup [a, b] :: zipL as bs
  | _, _ => []
def lpC (gd : List (Nat × C)) (step : D → Hh → R (Option D)) : List D → Hh → R (List D)
  | [], h => whenR (gdOk h gd) (.ok [] h)
  | x :: xs, h => whenR (gdOk h gd) (((step x h).calm).bind fun y h => (lpC gd step xs h).bind fun ys h => .ok (match y with
    | some y => y :: ys
    | none => ys) h)
def lpC2 (gd : List (Nat × C)) (step : D → Hh → R (List D)) : List D → Hh → R (List D)
  | [], h => whenR (gdOk h gd) (.ok [] h)
  | x :: xs, h => whenR (gdOk h gd) (((step x h).calm).bind fun y h => (lpC2 gd step xs h).bind fun ys h => .ok (y ++ ys) h)
def pick (ds : List D) (perm : List Nat) : List D := perm.filterMap fun i => ds[i]?

mutual
def evE (g : G) : Ex → Sl → Hh → R D
  | .var i, δ, h => (match δ[i]? with
    | some (some d) => .ok d h
    | _ => .no)
  | .lit d, _, h => .ok d h
  | .glob k, _, h => .ok (g.cs k) h
  | .op o es, δ, h => (evEs g es δ h).bind fun ds h => opApp g.sub o ds h
  | .box e, δ, h => (evE g e δ h).bind fun d h => boxR d h
  | .ck k e, δ, h => (evE g e δ h).bind fun d h => ckR k d h
  | .call f es perm, δ, h => (evEs g es δ h).bind fun ds h => whenR (persL ds) (g.fn f (match perm with
    | [] => ds
    | _ => pick ds perm) h)
  | .mk c f es, δ, h => (evEs g es δ h).bind fun ds h => whenR (persL ds) ((g.fn f (.ref h.length :: ds) (h ++ [.ins c []])).bind fun d h2 => match d with
    | .non => .ok (.ref h.length) h2
    | _ => .no)
  | .meth c f m o es, δ, h => (evE g o δ h).bind fun x h => match x with
    | .ref n => (match h[n]? with
      | some (.ins c' fs) => if c' = c ∧ (fGet fs m).isNone then (evEs g es δ h).bind fun ds h => whenR (persL ds) (g.fn f (.ref n :: ds) h) else .no
      | _ => .no)
    | _ => .no
  | .and a b, δ, h => (evE g a δ h).bind fun x h => match x with
    | .bl k => if k = true then evE g b δ h else .ok (.bl false) h
    | _ => .no
  | .or a b, δ, h => (evE g a δ h).bind fun x h => match x with
    | .bl k => if k = true then .ok (.bl true) h else evE g b δ h
    | _ => .no
  | .not t, δ, h => (evT g t δ h).bind fun k h => .ok (.bl (!k)) h
  | .ifx t a b, δ, h => (evT g t δ h).bind fun k h => if k = true then evE g a δ h else evE g b δ h
  | .chain o p a b c, δ, h => (evE g a δ h).bind fun x h => (evE g b δ h).bind fun y h => (opApp g.sub o [x, y] h).bind fun z h => match z with
    | .bl k => if k = true then (evE g c δ h).bind fun w h => opApp g.sub p [y, w] h else .ok (.bl false) h
    | _ => .no
  | .comp own t it cs e, δ, h => (evI g it δ h).bind fun src h => (lpC src.gd (fun x h => match putT t x (wipeS δ own) with
    | some δ' => (evTs g cs δ' h).bind fun k h => if k = true then (evE g e δ' h).bind fun y h => whenR (D.pers y) (.ok (some y) h) else .ok none h
    | none => .no) src.ds h).bind fun ys h => whenR (decide (ys.length ≤ cells)) (.ok (.lst ys) h)
  | .comp2 own t it cs own2 t2 it2 cs2 e, δ, h => (evI g it δ h).bind fun src h => (lpC2 src.gd (fun x h => match putT t x (wipeS δ own) with
    | some δ' => (evTs g cs δ' h).bind fun k h => if k = true then (evI g it2 δ' h).bind fun src2 h => lpC src2.gd (fun x h => match putT t2 x (wipeS δ' own2) with
      | some δ2 => (evTs g cs2 δ2 h).bind fun k h => if k = true then (evE g e δ2 h).bind fun y h => whenR (D.pers y) (.ok (some y) h) else .ok none h
      | none => .no) src2.ds h else .ok [] h
    | none => .no) src.ds h).bind fun ys h => whenR (decide (ys.length ≤ cells)) (.ok (.lst ys) h)
def evEs (g : G) : List Ex → Sl → Hh → R (List D)
  | [], _, h => .ok [] h
  | e :: es, δ, h => (evE g e δ h).bind fun x h => (evEs g es δ h).bind fun xs h => .ok (x :: xs) h
def evT (g : G) : Te → Sl → Hh → R Bool
  | .ex e, δ, h => (evE g e δ h).bind fun x h => truD h x
  | .and a b, δ, h => (evT g a δ h).bind fun k h => if k = true then evT g b δ h else .ok false h
  | .or a b, δ, h => (evT g a δ h).bind fun k h => if k = true then .ok true h else evT g b δ h
  | .not a, δ, h => (evT g a δ h).bind fun k h => .ok (!k) h
def evTs (g : G) : List Te → Sl → Hh → R Bool
  | [], _, h => .ok true h
  | t :: ts, δ, h => (evT g t δ h).bind fun k h => if k = true then evTs g ts δ h else .ok false h
def evI (g : G) : It → Sl → Hh → R Src
  | .seq e, δ, h => (evE g e δ h).bind fun x h => match srcD h x with
    | some s => .ok s h
    | none => .no
  | .rng es, δ, h => (evEs g es δ h).bind fun xs h => match rngS xs with
    | some s => .ok s h
    | none => .no
  | .enum e, δ, h => (evE g e δ h).bind fun x h => match srcT h x with
    | some s => .ok ⟨enumL 0 s.ds, s.gd⟩ h
    | none => .no
  | .zip a b, δ, h => (evE g a δ h).bind fun x h => (evE g b δ h).bind fun y h => match srcT h x, srcT h y with
    | some s, some s' => .ok ⟨zipL s.ds s'.ds, s.gd ++ s'.gd⟩ h
    | _, _ => .no
  | .rev e, δ, h => (evE g e δ h).bind fun x h => match srcT h x with
    | some s => .ok ⟨s.ds.reverse, s.gd⟩ h
    | none => .no
  | .items e, δ, h => .no
end

inductive Rs where
  | nx (δ : Sl) (h : Hh) | ret (d : D) (h : Hh) | brk (δ : Sl) (h : Hh) | cont (δ : Sl) (h : Hh)
  | err (c : Nat) (fs : List (Tx × D)) (δ : Sl) (h : Hh) | no
/-- an expression's answer, then more -/
def R.go {α : Type} (r : R α) (δ : Sl) (k : α → Hh → Rs) : Rs := match r with
  | .ok a h => k a h
  | .err c fs h => .err c fs δ h
  | .no => .no
def lpF (gd : List (Nat × C)) (t : Tg) (ks : List Nat) (body : Sl → Hh → Rs) : List D → Sl → Hh → Rs
  | [], δ, h => if gdOk h gd = true then .nx (wipeS δ ks) h else .no
  | x :: xs, δ, h => if gdOk h gd = true then (match putT t x δ with
    | some δ' => (match body δ' h with
      | .nx δ2 h2 => lpF gd t ks body xs (wipeS δ2 ks) h2
      | .cont δ2 h2 => lpF gd t ks body xs (wipeS δ2 ks) h2
      | .brk δ2 h2 => .nx (wipeS δ2 ks) h2
      | r => r)
    | none => .no) else .no
def lpW (test : Sl → Hh → R Bool) (ks : List Nat) (body : Sl → Hh → Rs) : Nat → Sl → Hh → Rs
  | 0, _, _ => .no
  | n + 1, δ, h => (test δ h).go δ fun k h => if k = true then (match body δ h with
    | .nx δ2 h2 => lpW test ks body n (wipeS δ2 ks) h2
    | .cont δ2 h2 => lpW test ks body n (wipeS δ2 ks) h2
    | .brk δ2 h2 => .nx (wipeS δ2 ks) h2
    | r => r) else .nx (wipeS δ ks) h
/-- a suite's end: the name of its exception goes -/
def noX (δ : Sl) : Bool := δ.all fun d => match d with
  | some (.exc _ _) => false
  | _ => true
def offI (i : Option Nat) (δ : Sl) : Sl := match i with
  | some i => δ.set i none
  | none => δ
def isX : D → Bool
  | .exc _ _ => true
  | _ => false
def offS (i : Option Nat) : Rs → Rs
  | .nx δ h => if noX (offI i δ) = true then .nx (offI i δ) h else .no
  | .brk δ h => if noX (offI i δ) = true then .brk (offI i δ) h else .no
  | .cont δ h => if noX (offI i δ) = true then .cont (offI i δ) h else .no
  | .ret d h => if isX d = true then .no else .ret d h
  | .err _ _ _ _ => .no
  | .no => .no
mutual
def evS (g : G) : St → Sl → Hh → Rs
  | .asg t e, δ, h => (evE g e δ h).go δ fun x h => match putT t x δ with
    | some δ' => .nx δ' h
    | none => .no
  | .augI o a i e, δ, h => (evE g a δ h).go δ fun x h => (evE g i δ h).go δ fun y h => (opApp g.sub .idx [x, y] h).go δ fun z h => (evE g e δ h).go δ fun v h =>
    (opApp g.sub o [z, v] h).go δ fun r h => (opApp g.sub .setItem [r, x, y] h).go δ fun _ h => .nx δ h
  | .augF o f a e, δ, h => (evE g a δ h).go δ fun x h => (opApp g.sub (.getF f) [x] h).go δ fun z h => (evE g e δ h).go δ fun v h =>
    (opApp g.sub o [z, v] h).go δ fun r h => (opApp g.sub (.setF f) [r, x] h).go δ fun _ h => .nx δ h
  | .ex e, δ, h => (evE g e δ h).go δ fun _ h => .nx δ h
  | .ret e, δ, h => (evE g e δ h).go δ fun x h => .ret x h
  | .retN, _, h => .ret .non h
  | .ite c a b, δ, h => (evT g c δ h).go δ fun k h => if k = true then evSs g a δ h else evSs g b δ h
  | .whl c b ks, δ, h => lpW (evT g c) ks (evSs g b) g.w (wipeS δ ks) h
  | .for t it b ks, δ, h => (evI g it δ h).go δ fun s h => lpF s.gd t ks (evSs g b) s.ds (wipeS δ ks) h
  | .raise c fs es, δ, h => (evEs g es δ h).go δ fun ds h => if persL ds = true then .err c (fs.zip ds) δ h else .no
  | .try b hs, δ, h => (match evSs g b δ h with
    | .err c fs δ2 h2 => evH g hs c fs δ2 h2
    | r => r)
  | .thru b, δ, h => (match evSs g b δ h with
    | .err _ _ _ _ => .no
    | r => r)
  | .pass, δ, h => .nx δ h
  | .brk, δ, h => .brk δ h
  | .cont, δ, h => .cont δ h
def evSs (g : G) : List St → Sl → Hh → Rs
  | [], δ, h => .nx δ h
  | s :: ss, δ, h => (match evS g s δ h with
    | .nx δ2 h2 => evSs g ss δ2 h2
    | r => r)
def evH (g : G) : List Hd → Nat → List (Tx × D) → Sl → Hh → Rs
  | [], c, fs, δ, h => .err c fs δ h
  | .mk c i b :: hs, k, fs, δ, h => if g.sub k c = true then (if noX δ = true then offS i (evSs g b (match i with
    | some i => δ.set i (some (.exc k fs))
    | none => δ) h) else .no) else evH g hs k fs δ h
end
structure Fn where
  np : Nat
  ns : Nat
  body : List St
/-- what a def's body leaves -/
def endF (h : Hh) : Rs → R D
  | .nx _ g => finish h .non g
  | .ret d g => finish h d g
  | .err c fs _ g => finishX h c fs g
  | _ => .no
def startS (fn : Fn) (ds : List D) : Sl := ds.map some ++ List.replicate (fn.ns - ds.length) none
def runF (g : G) (fn : Fn) (ds : List D) (h : Hh) : R D := if ds.length = fn.np then endF h (evSs g fn.body (startS fn ds) h) else .no
structure Pg where
  fns : List Fn
  cs : Nat → D
  sub : Nat → Nat → Bool
  w : Nat
def callF (P : Pg) : Nat → Nat → List D → Hh → R D
  | 0, _, _, _ => .no
  | n + 1, f, ds, h => match P.fns[f]? with
    | some fn => runF ⟨callF P n, P.cs, P.sub, P.w⟩ fn ds h
    | none => .no
def Pg.g (P : Pg) (n : Nat) : G := ⟨callF P n, P.cs, P.sub, P.w⟩
end Ivy

/-! Ivy, part B: how plain data lies in the layer's heap. -/
namespace Ivy
open PySem PySem.Spec PyProof.Rows L2

def tx (x : Tx) : Str := ⟨x.toArray⟩
theorem tx_inj {x y : Tx} (h : tx x = tx y) : x = y := by
  have h2 : x.toArray = y.toArray := congrArg Str.cps h
  simpa using congrArg Array.toList h2
def kyV : Ky → Key
  | .inl i => .inl i
  | .inr x => .inr (tx x)
theorem kyV_inj {j k : Ky} (h : kyV j = kyV k) : j = k := by
  cases j <;> cases k <;> simp only [kyV, Sum.inl.injEq, Sum.inr.injEq, reduceCtorEq] at h
  · rw [h]
  · rw [tx_inj h]

/-- what is fixed: the written part, the classes' addresses, which of them have instances, which are exceptions, the exception at hand (its object, its dict) -/
structure Ev where
  K : PySem.W.Frag
  ca : Nat → Addr
  ic : Nat → Bool
  xs : Nat → Bool
  xo : Option (Addr × Nat × Option Addr)

/-- a list that nobody changes -/
def RoL (K : PySem.W.Frag) (H : Hp) (a : Addr) (xs : List V) : Prop :=
  (∃ o, H a = some (.frz o (.lst xs))) ∨
    ∃ (o : Obj) (its : Array Value) (n : Nat), K.lookup a = some o ∧ o.cls = .type "list" ∧ o.dict = none ∧ o.data = .seq its n ∧ its.size ≤ sizeLine ∧ Vals xs its.toList
theorem RoL.sq {K : PySem.W.Frag} {H : Hp} {a : Addr} {xs : List V} (h : RoL K H a xs) : SqL K H a xs := by
  rcases h with ⟨o, h⟩ | h
  · exact .inl (.inr ⟨o, h⟩)
  · exact .inr h

mutual
/-- a lasting datum and its value -/
inductive RP (v : Ev) (ι : List Addr) (H : Hp) : D → V → Prop
  | non : RP v ι H .non .non
  | bl (b : Bool) : RP v ι H (.bl b) (.bl b)
  | int (i : Int) : RP v ι H (.int i) (.int i)
  | str (x : Tx) : RP v ι H (.str x) (.str (tx x))
  | tup {ds : List D} {a : Addr} {vs : List V} : SqT v.K H a vs → RPs v ι H ds vs → RP v ι H (.tup ds) (.ref a)
  | rol {ds : List D} {a : Addr} {vs : List V} : RoL v.K H a vs → RPs v ι H ds vs → RP v ι H (.rol ds) (.ref a)
  | ref {n : Nat} {a : Addr} : ι[n]? = some a → RP v ι H (.ref n) (.ref a)
inductive RPs (v : Ev) (ι : List Addr) (H : Hp) : List D → List V → Prop
  | nil : RPs v ι H [] []
  | cons {d : D} {ds : List D} {x : V} {xs : List V} : RP v ι H d x → RPs v ι H ds xs → RPs v ι H (d :: ds) (x :: xs)
end

/-- the kind of an object -/
def kd : HO → Nat
  | .lst _ => 0
  | .dK _ => 1
  | .ins _ _ _ => 2
  | .frz _ u => kd u
  | _ => 3
/-- what an expression may do: new cells behind the old ones; what is no changeable cell of ours stays -/
structure Ext (ι : List Addr) (H : Hp) (ι' : List Addr) (H' : Hp) : Prop where
  pre : ∃ more, ι' = ι ++ more ∧ ∀ b ∈ more, H b = none ∧ b ∉ ι
  fix : ∀ p o, H p = some o → (p ∈ ι → ¬ Mut (some o)) → H' p = some o
  kin : ∀ p o, p ∈ ι → H p = some o → ∃ o', H' p = some o' ∧ kd o' = kd o

section
variable {v : Ev} {ι ι' ι2 : List Addr} {H H' H2 : Hp}
theorem Ext.refl : Ext ι H ι H := ⟨⟨[], by simp, fun _ h => nomatch h⟩, fun _ _ h _ => h, fun _ o _ h => ⟨o, h, rfl⟩⟩
theorem Ext.trans (e : Ext ι H ι' H') (f : Ext ι' H' ι2 H2) : Ext ι H ι2 H2 := by
  obtain ⟨m1, rfl, h1⟩ := e.pre
  obtain ⟨m2, rfl, h2⟩ := f.pre
  refine ⟨⟨m1 ++ m2, by simp, fun b hb => ?_⟩, fun p o hp hm => ?_, fun p o hin hp => ?_⟩
  · rcases List.mem_append.mp hb with hb | hb
    · exact h1 b hb
    · have q := h2 b hb
      have nb : b ∉ ι := fun z => q.2 (List.mem_append_left _ z)
      refine ⟨?_, nb⟩
      cases r : H b with
      | none => rfl
      | some o =>
        have := e.fix b o r fun z => absurd z nb
        rw [q.1] at this; cases this
  · refine f.fix p o (e.fix p o hp hm) fun z => ?_
    rcases List.mem_append.mp z with z | z
    · exact hm z
    · rw [(h1 p z).1] at hp; cases hp
  · obtain ⟨o1, q1, k1⟩ := e.kin p o hin hp
    obtain ⟨o2, q2, k2⟩ := f.kin p o1 (List.mem_append_left _ hin) q1
    exact ⟨o2, q2, k2.trans k1⟩
theorem Ext.at {n : Nat} {a : Addr} (e : Ext ι H ι' H') (h : ι[n]? = some a) : ι'[n]? = some a := by
  obtain ⟨m, rfl, _⟩ := e.pre
  have hn : n < ι.length := (List.getElem?_eq_some_iff.mp h).1
  rw [List.getElem?_append_left hn]; exact h
theorem Ext.mem {a : Addr} (e : Ext ι H ι' H') (h : a ∈ ι) : a ∈ ι' := by
  obtain ⟨m, rfl, _⟩ := e.pre
  exact List.mem_append_left _ h
theorem Ext.sqT {K : PySem.W.Frag} {a : Addr} {xs : List V} (e : Ext ι H ι' H') (h : SqT K H a xs) : SqT K H' a xs := by
  rcases h with (h | ⟨o, h⟩) | h
  · exact .inl (.inl (e.fix a _ h fun _ z => z))
  · exact .inl (.inr ⟨o, e.fix a _ h fun _ z => z⟩)
  · exact .inr h
theorem Ext.roL {K : PySem.W.Frag} {a : Addr} {xs : List V} (e : Ext ι H ι' H') (h : RoL K H a xs) : RoL K H' a xs := by
  rcases h with ⟨o, h⟩ | h
  · exact .inl ⟨o, e.fix a _ h fun _ z => z⟩
  · exact .inr h
mutual
theorem RP.mono (e : Ext ι H ι' H') : ∀ {d : D} {x : V}, RP v ι H d x → RP v ι' H' d x
  | _, _, .non => .non
  | _, _, .bl b => .bl b
  | _, _, .int i => .int i
  | _, _, .str x => .str x
  | _, _, .tup h r => .tup (e.sqT h) (RPs.mono e r)
  | _, _, .rol h r => .rol (e.roL h) (RPs.mono e r)
  | _, _, .ref h => .ref (e.at h)
theorem RPs.mono (e : Ext ι H ι' H') : ∀ {ds : List D} {xs : List V}, RPs v ι H ds xs → RPs v ι' H' ds xs
  | _, _, .nil => .nil
  | _, _, .cons h r => .cons (RP.mono e h) (RPs.mono e r)
end
theorem RPs.length : ∀ {ds : List D} {xs : List V}, RPs v ι H ds xs → ds.length = xs.length
  | _, _, .nil => rfl
  | _, _, .cons _ r => congrArg (· + 1) r.length
theorem RPs.get : ∀ {ds : List D} {xs : List V} {i : Nat} {d : D}, RPs v ι H ds xs → ds[i]? = some d → ∃ x, xs[i]? = some x ∧ RP v ι H d x
  | _, _, _, _, .nil, e => by simp at e
  | _, _, 0, _, .cons r _, e => by simp at e; subst e; exact ⟨_, rfl, r⟩
  | _, _, i + 1, d, .cons _ t, e => by
    obtain ⟨x, h1, h2⟩ := RPs.get (i := i) (d := d) t (by simpa using e)
    exact ⟨x, by simpa using h1, h2⟩
theorem RPs.app : ∀ {ds es : List D} {xs ys : List V}, RPs v ι H ds xs → RPs v ι H es ys → RPs v ι H (ds ++ es) (xs ++ ys)
  | _, _, _, _, .nil, s => s
  | _, _, _, _, .cons r t, s => .cons r (RPs.app t s)
theorem RPs.set {d : D} {x : V} (r : RP v ι H d x) : ∀ {ds : List D} {xs : List V} (i : Nat), RPs v ι H ds xs → RPs v ι H (ds.set i d) (xs.set i x)
  | _, _, _, .nil => .nil
  | _, _, 0, .cons _ t => .cons r t
  | _, _, i + 1, .cons q t => .cons q (RPs.set r i t)
theorem RPs.take : ∀ {ds : List D} {xs : List V} (n : Nat), RPs v ι H ds xs → RPs v ι H (ds.take n) (xs.take n)
  | _, _, 0, _ => .nil
  | _, _, _ + 1, .nil => .nil
  | _, _, n + 1, .cons r t => .cons r (RPs.take n t)
theorem RPs.drop : ∀ {ds : List D} {xs : List V} (n : Nat), RPs v ι H ds xs → RPs v ι H (ds.drop n) (xs.drop n)
  | _, _, 0, r => r
  | _, _, _ + 1, .nil => .nil
  | _, _, n + 1, .cons _ t => RPs.drop n t
theorem RPs.rev {ds : List D} {xs : List V} (r : RPs v ι H ds xs) : RPs v ι H ds.reverse xs.reverse := by
  induction ds generalizing xs with
  | nil => cases r; exact .nil
  | cons d ds ih =>
    cases r with
    | cons h t => simp only [List.reverse_cons]; exact (ih t).app (.cons h .nil)
theorem RP.pers {d : D} {x : V} (r : RP v ι H d x) (h : D.pers d = true) : RP v ι H d x := r
end

/-- names and data of a dict, of an instance -/
def RK (v : Ev) (ι : List Addr) (H : Hp) (kvs : List (Ky × D)) (kvs' : List (Key × V)) : Prop := kvs'.map (·.1) = kvs.map (fun p => kyV p.1) ∧ RPs v ι H (kvs.map (·.2)) (kvs'.map (·.2))
def RF (v : Ev) (ι : List Addr) (H : Hp) (fs : List (Tx × D)) (fs' : List (Str × V)) : Prop := fs'.map (·.1) = fs.map (fun p => tx p.1) ∧ RPs v ι H (fs.map (·.2)) (fs'.map (·.2))
def CR (v : Ev) (ι : List Addr) (H : Hp) (a : Addr) : C → Prop
  | .lst ds => ∃ vs, H a = some (.lst vs) ∧ RPs v ι H ds vs
  | .dct kvs => ∃ kvs', H a = some (.dK kvs') ∧ RK v ι H kvs kvs'
  | .ins c fs => ∃ dx fs', v.ic c = true ∧ H a = some (.ins (v.ca c) dx fs') ∧ RF v ι H fs fs'
structure HR (v : Ev) (ι : List Addr) (H : Hp) (h : Hh) : Prop where
  len : ι.length = h.length
  nd : ι.Nodup
  cell : ∀ (n : Nat) (a : Addr) (c : C), ι[n]? = some a → h[n]? = some c → CR v ι H a c
/-- the exception at hand, as a name holds it -/
def XO (v : Ev) (ι : List Addr) (H : Hp) (c : Nat) (fs : List (Tx × D)) (x : V) : Prop := ∃ a, x = .ref a ∧ ((v.xo = some (a, c, none) ∧ fs = []) ∨
  ∃ d fvs vs, v.xo = some (a, c, some d) ∧ H d = some (.xd fvs) ∧ (∀ (k : Nat) (f : Tx) (y : D), fs[k]? = some (f, y) → fGet fs f = some y → ∃ z, vs[k]? = some z ∧ fvs.lookup (tx f) = some z) ∧ RPs v ι H (fs.map (·.2)) vs)
/-- what a name holds -/
def RX (v : Ev) (ι : List Addr) (H : Hp) (d : D) (x : V) : Prop := match d with
  | .exc c fs => XO v ι H c fs x
  | d => RP v ι H d x
/-- the names' values -/
def SR (v : Ev) (ι : List Addr) (H : Hp) (δ : Sl) (σ : L2.St) : Prop := δ.length = σ.length ∧ ∀ (i : Nat) (d : D), δ[i]? = some (some d) → ∃ x, σ[i]? = some (some x) ∧ RX v ι H d x
/-- an expression's answer -/
def RV (v : Ev) (ι : List Addr) (H : Hp) (d : D) (x : V) : Prop := match d with
  | .lst ds => ∃ a vs, x = .ref a ∧ a ∉ ι ∧ H a = some (.lst vs) ∧ RPs v ι H ds vs
  | .dct kvs => ∃ a kvs', x = .ref a ∧ a ∉ ι ∧ H a = some (.dK kvs') ∧ RK v ι H kvs kvs'
  | .exc c fs => XO v ι H c fs x
  | d => RP v ι H d x
/-- a fresh one is newer than H -/
def New (H : Hp) (d : D) (x : V) : Prop := match d with
  | .lst _ => ∀ a, x = .ref a → H a = none
  | .dct _ => ∀ a, x = .ref a → H a = none
  | _ => True

section
variable {v : Ev} {ι ι' ι2 : List Addr} {H H' H2 : Hp} {h : Hh}
theorem RK.mono (e : Ext ι H ι' H') {kvs : List (Ky × D)} {kvs' : List (Key × V)} (r : RK v ι H kvs kvs') : RK v ι' H' kvs kvs' := ⟨r.1, r.2.mono e⟩
theorem RF.mono (e : Ext ι H ι' H') {fs : List (Tx × D)} {fs' : List (Str × V)} (r : RF v ι H fs fs') : RF v ι' H' fs fs' := ⟨r.1, r.2.mono e⟩
theorem XO.mono (e : Ext ι H ι' H') {c : Nat} {fs : List (Tx × D)} {x : V} (r : XO v ι H c fs x) : XO v ι' H' c fs x := by
  obtain ⟨a, rfl, q | ⟨d, fvs, vs, q1, q2, q3, q4⟩⟩ := r
  · exact ⟨a, rfl, .inl q⟩
  · exact ⟨a, rfl, .inr ⟨d, fvs, vs, q1, e.fix _ _ q2 fun _ z => z, q3, q4.mono e⟩⟩
theorem RX.mono (e : Ext ι H ι' H') {d : D} {x : V} (r : RX v ι H d x) : RX v ι' H' d x := by
  cases d <;> first | exact XO.mono e r | exact RP.mono e r
theorem RX.of {d : D} {x : V} (r : RP v ι H d x) : RX v ι H d x := by
  cases d <;> first | exact r | cases r
theorem RX.rp {d : D} {x : V} (r : RX v ι H d x) (hp : D.pers d = true) : RP v ι H d x := by
  cases d <;> first | exact r | cases hp
theorem SR.mono (e : Ext ι H ι' H') {δ : Sl} {σ : L2.St} (r : SR v ι H δ σ) : SR v ι' H' δ σ := ⟨r.1, fun i d hd =>
  let ⟨x, h1, h2⟩ := r.2 i d hd
  ⟨x, h1, h2.mono e⟩⟩
theorem RV.of {d : D} {x : V} (r : RP v ι H d x) (hp : D.pers d = true ∨ D.pers d = false ∧ ∃ c fs, d = .exc c fs) : RV v ι H d x := by
  cases d <;> first | exact r | cases r
theorem RV.rp {d : D} {x : V} (r : RV v ι H d x) (hp : D.pers d = true) : RP v ι H d x := by
  cases d <;> first | exact r | cases hp
theorem New.pers {d : D} {x : V} (hp : D.pers d = true) : New H d x := by
  cases d <;> first | trivial | cases hp
theorem HR.tracked {a : Addr} (r : HR v ι H h) (ha : a ∈ ι) : ∃ o, H a = some o ∧ Mut (some o) := by
  obtain ⟨n, hn, e⟩ := List.getElem_of_mem ha
  have e1 : ι[n]? = some a := by rw [List.getElem?_eq_getElem hn, e]
  have hl : n < h.length := by rw [← r.len]; exact hn
  have c := r.cell n a h[n] e1 (List.getElem?_eq_getElem hl)
  cases q : h[n] with
  | lst ds => rw [q] at c; obtain ⟨vs, z, _⟩ := c; exact ⟨_, z, trivial⟩
  | dct kvs => rw [q] at c; obtain ⟨vs, z, _⟩ := c; exact ⟨_, z, trivial⟩
  | ins c' fs => rw [q] at c; obtain ⟨dx, vs, _, z, _⟩ := c; exact ⟨_, z, trivial⟩
theorem HR.notIn {a : Addr} (r : HR v ι H h) (ha : H a = none) : a ∉ ι := fun z => by
  obtain ⟨o, e, _⟩ := r.tracked z
  rw [ha] at e; cases e
theorem Ext.back {a : Addr} (e : Ext ι H ι' H') (r : HR v ι' H' h) (ha : H' a = none) : H a = none := by
  cases q : H a with
  | none => rfl
  | some o =>
    by_cases z : a ∈ ι
    · obtain ⟨o', e', _⟩ := r.tracked (e.mem z)
      rw [ha] at e'; cases e'
    · have := e.fix a o q fun y => absurd y z
      rw [ha] at this; cases this
theorem RV.mono (e : Ext ι H ι' H') {d : D} {x : V} (r : RV v ι H d x) : RV v ι' H' d x := by
  have out : ∀ (a : Addr) (o : HO), a ∉ ι → H a = some o → a ∉ ι' := fun a o ha ho => by
    obtain ⟨m, rfl, hm⟩ := e.pre
    intro z
    rcases List.mem_append.mp z with z | z
    · exact ha z
    · rw [(hm a z).1] at ho; cases ho
  cases d with
  | lst ds =>
    obtain ⟨a, vs, h1, h2, h3, h4⟩ := r
    exact ⟨a, vs, h1, out a _ h2 h3, e.fix a _ h3 fun z => absurd z h2, h4.mono e⟩
  | dct ds =>
    obtain ⟨a, vs, h1, h2, h3, h4⟩ := r
    exact ⟨a, vs, h1, out a _ h2 h3, e.fix a _ h3 fun z => absurd z h2, h4.mono e⟩
  | non => exact RP.mono e (show RP v ι H .non x from r)
  | bl b => exact RP.mono e (show RP v ι H (.bl b) x from r)
  | int b => exact RP.mono e (show RP v ι H (.int b) x from r)
  | str b => exact RP.mono e (show RP v ι H (.str b) x from r)
  | tup b => exact RP.mono e (show RP v ι H (.tup b) x from r)
  | rol b => exact RP.mono e (show RP v ι H (.rol b) x from r)
  | ref b => exact RP.mono e (show RP v ι H (.ref b) x from r)
  | exc c b => exact XO.mono e (show XO v ι H c b x from r)

/-! ### changes -/
theorem ext_new {p : Addr} {o : HO} (hp : H p = none) : Ext ι H ι (upd H p o) :=
  ⟨⟨[], by simp, fun _ z => nomatch z⟩, fun q o' hq _ => by rw [upd_ne (ne_of_none hq hp)]; exact hq, fun q o' _ hq => ⟨o', by rw [upd_ne (ne_of_none hq hp)]; exact hq, rfl⟩⟩
theorem ext_cell {n : Nat} {a : Addr} {o o0 : HO} (r : HR v ι H h) (ha : ι[n]? = some a) (h0 : H a = some o0) (hk : kd o = kd o0) : Ext ι H ι (upd H a o) :=
  ⟨⟨[], by simp, fun _ z => nomatch z⟩, fun q o' hq hm => by
    have hin : a ∈ ι := List.mem_of_getElem? ha
    have ne : q ≠ a := fun z => by
      subst z
      obtain ⟨o2, e2, m2⟩ := r.tracked hin
      rw [hq] at e2; cases e2
      exact hm hin m2
    rw [upd_ne ne]; exact hq, fun q o' _ hq => by
    by_cases z : q = a
    · subst z
      rw [h0] at hq; cases hq
      exact ⟨o, upd_same, hk⟩
    · exact ⟨o', by rw [upd_ne z]; exact hq, rfl⟩⟩
theorem HR.other (r : HR v ι H h) (e : Ext ι H ι H') (k : ∀ (n : Nat) (a : Addr), ι[n]? = some a → H' a = H a) : HR v ι H' h := ⟨r.len, r.nd, fun n a c h1 h2 => by
  have q := r.cell n a c h1 h2
  have ka := k n a h1
  cases c with
  | lst ds => obtain ⟨vs, z1, z2⟩ := q; exact ⟨vs, by rw [ka]; exact z1, z2.mono e⟩
  | dct ds => obtain ⟨vs, z1, z2⟩ := q; exact ⟨vs, by rw [ka]; exact z1, z2.mono e⟩
  | ins c' ds => obtain ⟨dx, vs, z0, z1, z2⟩ := q; exact ⟨dx, vs, z0, by rw [ka]; exact z1, z2.mono e⟩⟩
/-- a new object that is no cell -/
theorem HR.new {p : Addr} {o : HO} (r : HR v ι H h) (hp : H p = none) : HR v ι (upd H p o) h :=
  r.other (ext_new hp) fun n a ha => by
    rw [upd_ne]
    intro z
    subst z
    exact r.notIn hp (List.mem_of_getElem? ha)
theorem nodup_ixA {α : Type} {l : List α} (hN : l.Nodup) {i j : Nat} {x : α} (a : l[i]? = some x) (b : l[j]? = some x) : i = j := by
  obtain ⟨h1, e1⟩ := List.getElem?_eq_some_iff.mp a
  obtain ⟨h2, e2⟩ := List.getElem?_eq_some_iff.mp b
  exact (List.getElem_inj hN).mp (e1.trans e2.symm)
/-- a cell changed -/
theorem HR.set {n : Nat} {a : Addr} {o : HO} {c : C} (r : HR v ι H h) (ha : ι[n]? = some a) (e : Ext ι H ι (upd H a o)) (hc : CR v ι (upd H a o) a c) : HR v ι (upd H a o) (h.set n c) := by
  refine ⟨by rw [List.length_set]; exact r.len, r.nd, fun m b c' h1 h2 => ?_⟩
  by_cases hm : m = n
  · subst hm
    rw [ha] at h1; cases h1
    have hl : m < h.length := by rw [← r.len]; exact (List.getElem?_eq_some_iff.mp ha).1
    rw [List.getElem?_set_self hl] at h2; cases h2
    exact hc
  · have hb : b ≠ a := fun z => hm (nodup_ixA r.nd h1 (z ▸ ha))
    rw [List.getElem?_set_ne (Ne.symm hm)] at h2
    have q := r.cell m b c' h1 h2
    cases c' with
    | lst ds => obtain ⟨vs, z1, z2⟩ := q; exact ⟨vs, by rw [upd_ne hb]; exact z1, z2.mono e⟩
    | dct ds => obtain ⟨vs, z1, z2⟩ := q; exact ⟨vs, by rw [upd_ne hb]; exact z1, z2.mono e⟩
    | ins c' ds => obtain ⟨dx, vs, z0, z1, z2⟩ := q; exact ⟨dx, vs, z0, by rw [upd_ne hb]; exact z1, z2.mono e⟩
/-- a fresh object becomes a cell -/
theorem ext_box {H0 : Hp} {p : Addr} (e : Ext ι H0 ι' H) (hp : p ∉ ι') (h0 : H0 p = none) : Ext ι H0 (ι' ++ [p]) H := by
  obtain ⟨m, rfl, hm⟩ := e.pre
  refine ⟨⟨m ++ [p], by simp, fun b hb => ?_⟩, e.fix, e.kin⟩
  rcases List.mem_append.mp hb with hb | hb
  · exact hm b hb
  · have : b = p := by simpa using hb
    subst this
    exact ⟨h0, fun z => hp (List.mem_append_left _ z)⟩
mutual
theorem RP.more (key : ∀ (n : Nat) (a : Addr), ι[n]? = some a → ι'[n]? = some a) : ∀ {d : D} {x : V}, RP v ι H d x → RP v ι' H d x
  | _, _, .non => .non
  | _, _, .bl b => .bl b
  | _, _, .int i => .int i
  | _, _, .str x => .str x
  | _, _, .tup h r => .tup h (RPs.more key r)
  | _, _, .rol h r => .rol h (RPs.more key r)
  | _, _, .ref h => .ref (key _ _ h)
theorem RPs.more (key : ∀ (n : Nat) (a : Addr), ι[n]? = some a → ι'[n]? = some a) : ∀ {ds : List D} {xs : List V}, RPs v ι H ds xs → RPs v ι' H ds xs
  | _, _, .nil => .nil
  | _, _, .cons h r => .cons (RP.more key h) (RPs.more key r)
end
theorem key_app {p : Addr} : ∀ (n : Nat) (a : Addr), ι[n]? = some a → (ι ++ [p])[n]? = some a := fun n a ha => by
  rw [List.getElem?_append_left (List.getElem?_eq_some_iff.mp ha).1]; exact ha
theorem HR.box {p : Addr} {c : C} (r : HR v ι H h) (hp : p ∉ ι) (hc : CR v ι H p c) : HR v (ι ++ [p]) H (h ++ [c]) := by
  have wide : ∀ (a : Addr) (c : C), CR v ι H a c → CR v (ι ++ [p]) H a c := fun a c q => by
    cases c with
    | lst ds => obtain ⟨vs, z1, z2⟩ := q; exact ⟨vs, z1, z2.more key_app⟩
    | dct ds => obtain ⟨vs, z1, z2, z3⟩ := q; exact ⟨vs, z1, z2, z3.more key_app⟩
    | ins c' ds => obtain ⟨dx, vs, z0, z1, z2, z3⟩ := q; exact ⟨dx, vs, z0, z1, z2, z3.more key_app⟩
  refine ⟨by simp [r.len], ?_, fun n a c' h1 h2 => ?_⟩
  · rw [List.nodup_append]
    exact ⟨r.nd, by simp, fun a ha b hb => by simp at hb; subst hb; rintro rfl; exact hp ha⟩
  · by_cases hn : n < ι.length
    · rw [List.getElem?_append_left hn] at h1
      rw [List.getElem?_append_left (by rw [← r.len]; exact hn)] at h2
      exact wide a c' (r.cell n a c' h1 h2)
    · have hn2 : n = ι.length := by
        have := (List.getElem?_eq_some_iff.mp h1).1
        simp at this; omega
      subst hn2
      simp at h1
      rw [r.len] at h2
      simp at h2
      subst h1 h2
      exact wide _ _ hc
end
end Ivy

/-! Ivy, part C: readings by the evaluator; names, operators, tests. -/
namespace Ivy
open PySem PySem.Spec PyProof.Rows L2

/-! ### answers -/
theorem R.assoc {α β γ : Type} (r : R α) (k : α → Hh → R β) (l : β → Hh → R γ) : (r.bind k).bind l = r.bind fun a h => (k a h).bind l := by cases r <;> rfl
theorem R.okb {α β : Type} (a : α) (h : Hh) (k : α → Hh → R β) : (R.ok a h).bind k = k a h := rfl
/-- how an exception of ours lies -/
def XR (v : Ev) (ι : List Addr) (H : Hp) (c : Nat) (fs : List (Tx × D)) (cls : Value) (dd : Option Addr) : Prop :=
  (v.xs c = true ∧ cls = .ref (v.ca c)) ∧ match dd with
    | none => fs = []
    | some d => ∃ fvs vs, H d = some (.xd fvs) ∧ (∀ (k : Nat) (f : Tx) (x : D), fs[k]? = some (f, x) → fGet fs f = some x → ∃ y, vs[k]? = some y ∧ fvs.lookup (tx f) = some y) ∧ RPs v ι H (fs.map (·.2)) vs
abbrev RRel (α β : Type) := List Addr → Hp → Hp → α → β → Prop
def rrE (v : Ev) : RRel D V := fun ι H0 H d x => RV v ι H d x ∧ New H0 d x
inductive rrL (v : Ev) (ι : List Addr) (H0 H : Hp) : List D → List V → Prop
  | nil : rrL v ι H0 H [] []
  | cons {d : D} {ds : List D} {x : V} {xs : List V} : rrE v ι H0 H d x → rrL v ι H0 H ds xs → rrL v ι H0 H (d :: ds) (x :: xs)
def rrB : RRel Bool Bool := fun _ _ _ a b => b = a
class Back {α β : Type} (RR : RRel α β) : Prop where
  back : ∀ {ι : List Addr} {H0 H1 H : Hp} {a : α} {b : β}, (∀ p, H1 p = none → H0 p = none) → RR ι H1 H a b → RR ι H0 H a b
theorem New.back {H0 H1 : Hp} {d : D} {x : V} (k : ∀ p, H1 p = none → H0 p = none) (n : New H1 d x) : New H0 d x := by
  cases d <;> first | trivial | exact fun a e => k a (n a e)
instance {v : Ev} : Back (rrE v) := ⟨fun k r => ⟨r.1, r.2.back k⟩⟩
theorem rrL.back {v : Ev} {ι : List Addr} {H0 H1 H : Hp} (k : ∀ p, H1 p = none → H0 p = none) : ∀ {ds : List D} {xs : List V}, rrL v ι H1 H ds xs → rrL v ι H0 H ds xs
  | _, _, .nil => .nil
  | _, _, .cons a t => .cons ⟨a.1, a.2.back k⟩ (t.back k)
instance {v : Ev} : Back (rrL v) := ⟨fun k r => r.back k⟩
instance : Back rrB := ⟨fun _ r => r⟩

def Go {α β : Type} (RR : RRel α β) (v : Ev) (ι : List Addr) (H : Hp) (r : R α) (Q : β → Hp → Prop) (E : XK) : Prop := match r with
  | .ok d h' => ∀ ι' H' x, Ext ι H ι' H' → HR v ι' H' h' → RR ι' H H' d x → Q x H'
  | .err c fs h' => ∀ ι' H' cls dd, Ext ι H ι' H' → HR v ι' H' h' → XR v ι' H' c fs cls dd → E cls dd H'
  | .no => False

section
variable {v : Ev} {ι ι1 : List Addr} {H H1 : Hp} {h h1 : Hh} {α β γ ζ : Type} {RR : RRel α β} {SS : RRel γ ζ} {Q : β → Hp → Prop} {E : XK}
theorem Go.shift [Back RR] {r : R α} (e : Ext ι H ι1 H1) (hr : HR v ι1 H1 h1) (g : Go RR v ι H r Q E) : Go RR v ι1 H1 r Q E := by
  cases r with
  | ok d h' => exact fun ι' H' x e' r' q => g ι' H' x (e.trans e') r' (Back.back (fun p hp => e.back hr hp) q)
  | err c fs h' => exact fun ι' H' cls dd e' r' q => g ι' H' cls dd (e.trans e') r' q
  | no => exact g
/-- an answer, then more -/
theorem Go.bind [Back RR] {r : R γ} {k : γ → Hh → R α} {Q' : ζ → Hp → Prop} (g : Go RR v ι H (r.bind k) Q E)
    (step : ∀ d h1 ι1 H1 x, r = .ok d h1 → Ext ι H ι1 H1 → HR v ι1 H1 h1 → SS ι1 H H1 d x → Go RR v ι1 H1 (k d h1) Q E → Q' x H1) : Go SS v ι H r Q' E := by
  cases r with
  | ok d h1 => exact fun ι1 H1 x e r' q => step d h1 ι1 H1 x rfl e r' q (Go.shift e r' g)
  | err c fs h1 => exact g
  | no => exact g
theorem Go.imp {r : R α} {Q' : β → Hp → Prop} {E' : XK} (g : Go RR v ι H r Q E) (q : ∀ x H, Q x H → Q' x H) (e : ∀ c d H, E c d H → E' c d H) : Go RR v ι H r Q' E' := by
  cases r with
  | ok d h' => exact fun ι' H' x a b c => q _ _ (g ι' H' x a b c)
  | err c fs h' => exact fun ι' H' x y a b c => e _ _ _ (g ι' H' x y a b c)
  | no => exact g
/-- the answer at hand -/
theorem Go.here {d : α} {x : β} (g : Go RR v ι H (.ok d h) Q E) (hr : HR v ι H h) (q : RR ι H H d x) : Q x H := g ι H x .refl hr q
end

/-! ### the readings -/
section
variable (v : Ev) (g : G) (W : WX)
def tE (e : Ex) : TE := fun σ H Q => ∃ ι δ h, HR v ι H h ∧ SR v ι H δ σ ∧ Go (rrE v) v ι H (evE g e δ h) Q (fun c d H' => W c d σ H')
def tL (es : List Ex) : TA := fun σ H Q => ∃ ι δ h, HR v ι H h ∧ SR v ι H δ σ ∧ Go (rrL v) v ι H (evEs g es δ h) Q (fun c d H' => W c d σ H')
def tT (t : Te) : TT := fun σ H Q => ∃ ι δ h, HR v ι H h ∧ SR v ι H δ σ ∧ Go rrB v ι H (evT g t δ h) Q (fun c d H' => W c d σ H')
def tTs (t : List Te) : TT := fun σ H Q => ∃ ι δ h, HR v ι H h ∧ SR v ι H δ σ ∧ Go rrB v ι H (evTs g t δ h) Q (fun c d H' => W c d σ H')
end
/-- what every place has -/
structure Cb (X : Cx) (v : Ev) (W : WX) : Prop where
  hK : X.K = v.K
  tk : Takes X W
  nd : X.N.Nodup
  hu : X.A.units + 80 < cLine
theorem Cb.hu64 {X : Cx} {v : Ev} {W : WX} (h : Cb X v W) : X.A.units + 64 < cLine := by have := h.hu; omega
/-- outside an except suite -/
structure Cc (X : Cx) (v : Ev) (W : WX) : Prop extends Cb X v W where
  calm : X.calm = true
  po : PassesOwn (model X.prog X.w) X.A X.env X.xe

theorem PE.imp {X : Cx} {e : Expr} {t t' : TE} (h : PE X e t) (k : ∀ σ H Q, t' σ H Q → t σ H Q) : PE X e t' := ⟨fun pins s σ H Q I q => h.run pins s σ H Q I (k σ H Q q)⟩
theorem PT.imp {X : Cx} {e : Expr} {t t' : TT} (h : PT X e t) (k : ∀ σ H Q, t' σ H Q → t σ H Q) : PT X e t' := ⟨fun pins s σ H Q I q => h.run pins s σ H Q I (k σ H Q q)⟩
theorem PA.imp {X : Cx} {e : List Expr} {t t' : TA} (h : PA X e t) (k : ∀ σ H Q, t' σ H Q → t σ H Q) : PA X e t' := ⟨fun pos pins s σ H Q I q => h.run pos pins s σ H Q I (k σ H Q q)⟩
theorem PS.imp {X : Cx} {e : Stmt} {t t' : TS} (h : PS X e t) (k : ∀ D σ H, t' D σ H → t D σ H) : PS X e t' := ⟨fun pins s σ H D I q => h.run pins s σ H D I (k D σ H q)⟩
theorem PSs.imp {X : Cx} {e : List Stmt} {t t' : TS} (h : PSs X e t) (k : ∀ D σ H, t' D σ H → t D σ H) : PSs X e t' := ⟨fun pins s σ H D I q => h.run pins s σ H D I (k D σ H q)⟩
theorem PE.or {X : Cx} {e : Expr} {t t' : TE} (h : PE X e t) (h' : PE X e t') : PE X e (fun σ H Q => t σ H Q ∨ t' σ H Q) :=
  ⟨fun pins s σ H Q I q => q.elim (h.run pins s σ H Q I) (h'.run pins s σ H Q I)⟩
theorem opr_or {X : Cx} {f : Value → Value → Sem Value} {r r' : R2} (h : OpR X f r) (h' : OpR X f r') : OpR X f (fun x y H Q => r x y H Q ∨ r' x y H Q) :=
  fun pins s σ H x y v u Q I rx ry q => q.elim (h pins s σ H x y v u Q I rx ry) (h' pins s σ H x y v u Q I rx ry)

section
variable {X : Cx} {v : Ev} {g : G} {W : WX} {a b c : Expr} {e1 e2 e3 : Ex} {pos : Pos}

theorem evE_op1 {o : Op} {δ : Sl} {h : Hh} : evE g (.op o [e1]) δ h = (evE g e1 δ h).bind fun x h => opApp g.sub o [x] h := by
  simp only [evE, evEs, R.assoc, R.okb]
theorem evE_op2 {o : Op} {δ : Sl} {h : Hh} : evE g (.op o [e1, e2]) δ h = (evE g e1 δ h).bind fun x h => (evE g e2 δ h).bind fun y h => opApp g.sub o [x, y] h := by
  simp only [evE, evEs, R.assoc, R.okb]
theorem evE_op3 {o : Op} {δ : Sl} {h : Hh} : evE g (.op o [e1, e2, e3]) δ h = (evE g e1 δ h).bind fun x h => (evE g e2 δ h).bind fun y h => (evE g e3 δ h).bind fun z h => opApp g.sub o [x, y, z] h := by
  simp only [evE, evEs, R.assoc, R.okb]

/-! ### names, constants -/
theorem e_var {i : Nat} {x : Str} (hN : X.N[i]? = some x := by rfl) (hv : Vis X.env.scope x := by first | exact Or.inl rfl | exact Or.inr (Or.inl rfl) | exact Or.inr (Or.inr rfl))
    (hd : (x == ("__debug__" : Str)) = false := by decide) (hcd : (x == ("__classdict__" : Str)) = false := by decide) : PE X (.Name x pos) (tE v g W (.var i)) := by
  refine PE.imp (pe_var hN hv hd hcd) fun σ H Q ⟨ι, δ, h, hr, hs, go⟩ => ?_
  unfold evE at go
  cases q : δ[i]? with
  | none => rw [q] at go; exact go.elim
  | some o =>
    cases o with
    | none => rw [q] at go; exact go.elim
    | some d =>
      rw [q] at go
      obtain ⟨x, h1, h2⟩ := hs.2 i d q
      refine ⟨x, h1, go.here hr ?_⟩
      cases d with
      | lst ds => cases h2
      | dct ds => cases h2
      | _ => exact ⟨h2, trivial⟩
theorem e_int {i : Int} {j : Nat} : PE X (.Constant (.int i) j pos) (tE v g W (.lit (.int i))) := PE.imp pe_int fun σ H Q ⟨ι, δ, h, hr, hs, go⟩ => go.here hr ⟨.int i, trivial⟩
theorem e_bl {i : Bool} {j : Nat} : PE X (.Constant (.bool i) j pos) (tE v g W (.lit (.bl i))) := PE.imp pe_bl fun σ H Q ⟨ι, δ, h, hr, hs, go⟩ => go.here hr ⟨.bl i, trivial⟩
theorem e_non {j : Nat} : PE X (.Constant .none j pos) (tE v g W (.lit .non)) := PE.imp pe_non fun σ H Q ⟨ι, δ, h, hr, hs, go⟩ => go.here hr ⟨.non, trivial⟩
theorem e_str {x : Str} {i : Tx} {j : Nat} (hx : x = tx i := by rfl) : PE X (.Constant (.str x) j pos) (tE v g W (.lit (.str i))) := by
  subst hx
  exact PE.imp pe_str fun σ H Q ⟨ι, δ, h, hr, hs, go⟩ => go.here hr ⟨.str i, trivial⟩

/-! ### operators -/
/-- an operator's rule, and what it asks of our data -/
def Op2 (v : Ev) (g : G) (o : Op) (r : R2) : Prop := ∀ (ι : List Addr) (H H0 H1 : Hp) (h : Hh) (d e : D) (x y : V) (Q : VK) (E : XK), HR v ι H h → rrE v ι H0 H d x → rrE v ι H1 H e y → Go (rrE v) v ι H (opApp g.sub o [d, e] h) Q E → r x y H Q
def Op1 (v : Ev) (g : G) (o : Op) (r : V → Hp → VK → Prop) : Prop := ∀ (ι : List Addr) (H H0 : Hp) (h : Hh) (d : D) (x : V) (Q : VK) (E : XK), HR v ι H h → rrE v ι H0 H d x → Go (rrE v) v ι H (opApp g.sub o [d] h) Q E → r x H Q
theorem rrE.mono {ι ι' : List Addr} {H0 H H' : Hp} {d : D} {x : V} (e : Ext ι H ι' H') (r : rrE v ι H0 H d x) : rrE v ι' H0 H' d x := ⟨r.1.mono e, r.2⟩
theorem l_op2 {o : Op} {r : R2} (val : Op2 v g o r) {σ : L2.St} {H : Hp} {Q : VK} (t : tE v g W (.op o [e1, e2]) σ H Q) : tOp r (tE v g W e1) (tE v g W e2) σ H Q := by
  obtain ⟨ι, δ, h, hr, hs, go⟩ := t
  rw [evE_op2] at go
  refine ⟨ι, δ, h, hr, hs, Go.bind (SS := rrE v) go fun d h1 ι1 H1 x _ ex1 hr1 rx1 go1 => ?_⟩
  refine ⟨ι1, δ, h1, hr1, hs.mono ex1, Go.bind (SS := rrE v) go1 fun e h2 ι2 H2 y _ ex2 hr2 ry2 go2 => ?_⟩
  exact val ι2 H2 H H1 h2 d e x y Q _ hr2 (rx1.mono ex2) ry2 go2
theorem l_op1 {o : Op} {r : V → Hp → VK → Prop} (val : Op1 v g o r) {σ : L2.St} {H : Hp} {Q : VK} (t : tE v g W (.op o [e1]) σ H Q) : tUn r (tE v g W e1) σ H Q := by
  obtain ⟨ι, δ, h, hr, hs, go⟩ := t
  rw [evE_op1] at go
  refine ⟨ι, δ, h, hr, hs, Go.bind (SS := rrE v) go fun d h1 ι1 H1 x _ ex1 hr1 rx1 go1 => ?_⟩
  exact val ι1 H1 H h1 d x Q _ hr1 rx1 go1
theorem e_bin {op : Operator} {o : Op} {r : R2} (ho : OpR X (binaryOp op) r) (val : Op2 v g o r) (ha : PE X a (tE v g W e1)) (hb : PE X b (tE v g W e2)) : PE X (.BinOp a op b pos) (tE v g W (.op o [e1, e2])) :=
  PE.imp (pe_op ho ha hb) fun σ H Q t => l_op2 val t
theorem e_un {op : UnaryOp} {o : Op} {r : V → Hp → VK → Prop} (ho : UnR X (unaryOp op) r) (val : Op1 v g o r) (ha : PE X a (tE v g W e1)) : PE X (.UnaryOp op a pos) (tE v g W (.op o [e1])) :=
  PE.imp (pe_un ho ha) fun σ H Q t => l_op1 val t
theorem PC.imp {op : CmpOp} {t t' : TE} (h : PC X op a b t) (k : ∀ σ H Q, t' σ H Q → t σ H Q) : PC X op a b t' := ⟨fun pins s σ H Q I q => h.run pins s σ H Q I (k σ H Q q)⟩
theorem PC.or {op : CmpOp} {t t' : TE} (h : PC X op a b t) (h' : PC X op a b t') : PC X op a b (fun σ H Q => t σ H Q ∨ t' σ H Q) :=
  ⟨fun pins s σ H Q I q => q.elim (h.run pins s σ H Q I) (h'.run pins s σ H Q I)⟩
theorem pc_opr {op : CmpOp} {r : R2} {ta tb : TE} (ho : OpR X (compareOp op) r) (ha : PE X a ta) (hb : PE X b tb) : PC X op a b (tOp r ta tb) :=
  ⟨fun pins s σ H Q I q => L2.bin ha hb I q fun u1 u2 s2 x y H2 I2 r1 r2 z => ho pins s2 σ H2 x y u1 u2 Q I2 r1 r2 z⟩
theorem c_cmp {op : CmpOp} {o : Op} {r : R2} (ho : OpR X (compareOp op) r) (val : Op2 v g o r) (ha : PE X a (tE v g W e1)) (hb : PE X b (tE v g W e2)) : PC X op a b (tE v g W (.op o [e1, e2])) :=
  PC.imp (pc_opr ho ha hb) fun σ H Q t => l_op2 val t
theorem e_c {op : CmpOp} {e : Ex} (h : PC X op a b (tE v g W e)) (hm : behindInMarks op b = false := by first | exact nobehind _ (by decide) (by decide) | rfl) : PE X (.Compare a [op] [b] pos) (tE v g W e) := pe_cmp h hm
end
end Ivy

/-! Ivy, part D: the operations, by values. -/
namespace Ivy
open PySem PySem.Spec PyProof.Rows L2

section
variable {v : Ev} {g : G} {ι : List Addr} {H H0 : Hp} {h : Hh} {d : D} {ds : List D} {x : V} {vs : List V} {Q : VK} {E : XK}

theorem go_when {α β : Type} {RR : RRel α β} {b : Bool} {r : R α} {Q : β → Hp → Prop} (go : Go RR v ι H (whenR b r) Q E) : b = true ∧ Go RR v ι H r Q E := by
  cases b with
  | true => exact ⟨rfl, go⟩
  | false => exact go.elim
theorem go_fresh {p : Addr} (go : Go (rrE v) v ι H (.ok (.lst ds) h) Q E) (hr : HR v ι H h) (r : RPs v ι H ds vs) (hp : H p = none) : Q (.ref p) (upd H p (.lst vs)) :=
  go ι _ _ (ext_new hp) (hr.new hp) ⟨⟨p, vs, rfl, hr.notIn hp, upd_same, r.mono (ext_new hp)⟩, fun a e => by cases e; exact hp⟩
theorem go_tup {p : Addr} (go : Go (rrE v) v ι H (.ok (.tup ds) h) Q E) (hr : HR v ι H h) (r : RPs v ι H ds vs) (hp : H p = none) : Q (.ref p) (upd H p (.tup vs)) :=
  go ι _ _ (ext_new hp) (hr.new hp) ⟨.tup (SqT.of upd_same) (r.mono (ext_new hp)), trivial⟩
theorem go_tupS {a : Addr} (go : Go (rrE v) v ι H (.ok (.tup ds) h) Q E) (hr : HR v ι H h) (r : RPs v ι H ds vs) (ht : SqT v.K H a vs) : Q (.ref a) H := go.here hr ⟨.tup ht r, trivial⟩
theorem go_int {i : Int} (go : Go (rrE v) v ι H (intR i h) Q E) (hr : HR v ι H h) : Q (.int i) H := go.here hr ⟨.int i, trivial⟩
theorem go_bl {i : Bool} (go : Go (rrE v) v ι H (blR i h) Q E) (hr : HR v ι H h) : Q (.bl i) H := go.here hr ⟨.bl i, trivial⟩
theorem go_str {i : Tx} (go : Go (rrE v) v ι H (.ok (.str i) h) Q E) (hr : HR v ι H h) : Q (.str (tx i)) H := go.here hr ⟨.str i, trivial⟩
theorem go_rp (go : Go (rrE v) v ι H (.ok d h) Q E) (hr : HR v ι H h) (r : RP v ι H d x) (hp : D.pers d = true) : Q x H :=
  go.here hr ⟨RV.of r (.inl hp), New.pers hp⟩

theorem rv_int {i : Int} (r : rrE v ι H0 H (.int i) x) : x = .int i := by cases (show RP v ι H (.int i) x from r.1); rfl
theorem rv_bl {i : Bool} (r : rrE v ι H0 H (.bl i) x) : x = .bl i := by cases (show RP v ι H (.bl i) x from r.1); rfl
theorem rv_str {i : Tx} (r : rrE v ι H0 H (.str i) x) : x = .str (tx i) := by cases (show RP v ι H (.str i) x from r.1); rfl
theorem rv_non (r : rrE v ι H0 H .non x) : x = .non := by cases (show RP v ι H .non x from r.1); rfl
theorem rv_tup (r : rrE v ι H0 H (.tup ds) x) : ∃ a vs, x = .ref a ∧ SqT v.K H a vs ∧ RPs v ι H ds vs := by
  cases (show RP v ι H (.tup ds) x from r.1) with
  | tup h1 h2 => exact ⟨_, _, rfl, h1, h2⟩
theorem rv_ref {n : Nat} (r : rrE v ι H0 H (.ref n) x) : ∃ a, x = .ref a ∧ ι[n]? = some a := by
  cases (show RP v ι H (.ref n) x from r.1) with
  | ref h1 => exact ⟨_, rfl, h1⟩
theorem rp_pers {d : D} {x : V} (r : RP v ι H d x) : D.pers d = true ∨ ∃ c fs, d = .exc c fs := by
  cases r <;> exact .inl rfl
theorem lm_ok (hr : HR v ι H h) (r : rrE v ι H0 H d x) (e : lmD h d = some ds) : ∃ a vs, x = .ref a ∧ H a = some (.lst vs) ∧ RPs v ι H ds vs := by
  unfold lmD at e
  split at e
  · cases e
    obtain ⟨a, vs, h1, _, h3, h4⟩ := (show RV v ι H (.lst _) x from r.1)
    exact ⟨a, vs, h1, h3, h4⟩
  · rename_i n
    obtain ⟨a, rfl, ha⟩ := rv_ref r
    split at e
    · rename_i xs q
      cases e
      obtain ⟨vs, h1, h2⟩ := (show CR v ι H a (.lst _) from hr.cell n a _ ha q)
      exact ⟨a, vs, rfl, h1, h2⟩
    · cases e
  · cases e
theorem ls_ok (hr : HR v ι H h) (r : rrE v ι H0 H d x) (e : lsD h d = some ds) : ∃ a vs, x = .ref a ∧ SqL v.K H a vs ∧ RPs v ι H ds vs := by
  unfold lsD at e
  split at e
  · cases e
    obtain ⟨a, vs, h1, _, h3, h4⟩ := (show RV v ι H (.lst _) x from r.1)
    exact ⟨a, vs, h1, SqL.of h3, h4⟩
  · cases e
    cases (show RP v ι H (.rol _) x from r.1) with
    | rol h1 h2 => exact ⟨_, _, rfl, h1.sq, h2⟩
  · rename_i n
    obtain ⟨a, rfl, ha⟩ := rv_ref r
    split at e
    · rename_i xs q
      cases e
      obtain ⟨vs, h1, h2⟩ := (show CR v ι H a (.lst _) from hr.cell n a _ ha q)
      exact ⟨a, vs, rfl, SqL.of h1, h2⟩
    · cases e
  · cases e
theorem sq_ok (hr : HR v ι H h) (r : rrE v ι H0 H d x) (e : sqD h d = some ds) : ∃ a vs, x = .ref a ∧ (SqL v.K H a vs ∨ SqT v.K H a vs) ∧ RPs v ι H ds vs := by
  unfold sqD at e
  split at e
  · cases e
    obtain ⟨a, vs, h1, h2, h3⟩ := rv_tup r
    exact ⟨a, vs, h1, .inr h2, h3⟩
  · obtain ⟨a, vs, h1, h2, h3⟩ := ls_ok hr r e
    exact ⟨a, vs, h1, .inl h2, h3⟩
theorem dc_ok {kvs : List (Ky × D)} (hr : HR v ι H h) (r : rrE v ι H0 H d x) (e : dcD h d = some kvs) : ∃ a kvs', x = .ref a ∧ H a = some (.dK kvs') ∧ RK v ι H kvs kvs' := by
  unfold dcD at e
  split at e
  · cases e
    obtain ⟨a, vs, h1, _, h3, h4⟩ := (show RV v ι H (.dct _) x from r.1)
    exact ⟨a, vs, h1, h3, h4⟩
  · rename_i n
    obtain ⟨a, rfl, ha⟩ := rv_ref r
    split at e
    · rename_i xs q
      cases e
      obtain ⟨vs, h1, h2⟩ := (show CR v ι H a (.dct _) from hr.cell n a _ ha q)
      exact ⟨a, vs, rfl, h1, h2⟩
    · cases e
  · cases e
theorem cells_eq : cells = sizeLine := by rw [sizeLine_eq]
theorem tx_len (x : Tx) : (tx x).length = x.length := by show x.toArray.size = _; simp
theorem tx_app (x y : Tx) : tx x ++ tx y = tx (x ++ y) := by show Str.append _ _ = _; simp [Str.append, tx]

/-! ### arithmetic -/
def rAdd4 (K : PySem.W.Frag) : R2 := fun x y H Q => rI0 (fun i j => .int (i + j)) x y H Q ∨ ((∃ i j, x = .str i ∧ y = .str j ∧ i.length + j.length ≤ sizeLine ∧ Q (.str (i ++ j)) H) ∨ (rCatA K x y H Q ∨ rCat x y H Q))
theorem o_add {X : Cx} (hK : X.K = v.K) : OpR X (binaryOp .Add) (rAdd4 v.K) := by
  rw [← hK]
  exact opr_or op_add (opr_or op_add_str (opr_or op_catA op_cat))
theorem v_add : Op2 v g .add (rAdd4 v.K) := by
  intro ι H H0 H1 h d e x y Q E hr rx ry go
  have go : Go (rrE v) v ι H (opAdd h d e) Q E := go
  unfold opAdd at go
  split at go
  · rw [rv_int rx, rv_int ry]
    exact .inl ⟨_, _, rfl, rfl, go_int go hr⟩
  · obtain ⟨c, go⟩ := go_when go
    rw [rv_str rx, rv_str ry]
    refine .inr (.inl ⟨_, _, rfl, rfl, ?_, ?_⟩)
    · rw [tx_len, tx_len, ← cells_eq]; exact of_decide_eq_true c
    · rw [tx_app]; exact go_str go hr
  · obtain ⟨c, go⟩ := go_when go
    obtain ⟨a, xs, rfl, h1, h2⟩ := rv_tup rx
    obtain ⟨b, ys, rfl, h3, h4⟩ := rv_tup ry
    refine .inr (.inr (.inl ⟨a, b, xs, ys, rfl, rfl, h1, h3, ?_, fun e => ?_, fun _ e => ?_, fun _ _ p hp => go_tup go hr (h2.app h4) hp⟩))
    · rw [← h2.length, ← h4.length, ← cells_eq]; exact of_decide_eq_true c
    · subst e; cases h2; exact go_tupS go hr h4 h3
    · subst e; cases h4
      rw [List.append_nil] at go
      exact go_tupS go hr h2 h1
  · split at go
    · rename_i e1 e2
      obtain ⟨c, go⟩ := go_when go
      obtain ⟨a, xs, rfl, h1, h2⟩ := lm_ok hr rx e1
      obtain ⟨b, ys, rfl, h3, h4⟩ := lm_ok hr ry e2
      refine .inr (.inr (.inr ⟨a, b, xs, ys, rfl, rfl, h1, h3, ?_, fun p hp => go_fresh go hr (h2.app h4) hp⟩))
      rw [← h2.length, ← h4.length, ← cells_eq]; exact of_decide_eq_true c
    · exact go.elim
theorem v_sub : Op2 v g .sub (rI0 fun i j => .int (i - j)) := by
  intro ι H H0 H1 h d e x y Q E hr rx ry go
  cases d <;> cases e <;> first | exact go.elim | skip
  rw [rv_int rx, rv_int ry]
  exact ⟨_, _, rfl, rfl, go_int (show Go _ _ _ _ (intR _ _) _ _ from go) hr⟩
theorem big_log {i : Int} (h : i.natAbs < big) : i.natAbs.log2 < 500000 := by
  by_cases z : i.natAbs = 0
  · rw [z]; decide
  · exact (Nat.log2_lt z).mpr h
def CMul3 (i j : Int) : Prop := CMul i j ∨ CMulW i j
theorem o_mulI {X : Cx} : OpR X (binaryOp .Mult) (rI CMul3 fun i j => .int (i * j)) := fun pins s σ H x y v u Q I rx ry ⟨i, j, ex, ey, hc, q⟩ =>
  hc.elim (fun c => op_mul pins s σ H x y v u Q I rx ry ⟨i, j, ex, ey, c, q⟩) fun c => op_mulW pins s σ H x y v u Q I rx ry ⟨i, j, ex, ey, c, q⟩
theorem mul_ok {i j : Int} (h : mulOk i j = true) : CMul3 i j := by
  unfold mulOk at h
  rw [Bool.or_eq_true, Bool.or_eq_true, Bool.and_eq_true] at h
  rcases h with (h | h) | h
  · have := of_decide_eq_true h
    exact .inl (.inl ⟨by omega, by omega⟩)
  · have := of_decide_eq_true h
    exact .inl (.inr ⟨by omega, by omega⟩)
  · have h1 := big_log (of_decide_eq_true h.1)
    have h2 := big_log (of_decide_eq_true h.2)
    exact .inr (show _ + _ < 1000000 by omega)
theorem RPs.rep (r : RPs v ι H ds vs) : ∀ n : Nat, RPs v ι H (List.replicate n ds).flatten (List.replicate n vs).flatten
  | 0 => .nil
  | n + 1 => by
    rw [List.replicate_succ, List.replicate_succ, List.flatten_cons, List.flatten_cons]
    exact r.app (RPs.rep r n)
/-- a text, so often -/
def rMulS : R2 := fun x y H Q => ∃ a k, x = .str a ∧ y = .int k ∧ MulOk a k ∧ Q (.str (Txt.mul a k)) H
theorem o_mulS {X : Cx} : OpR X (binaryOp .Mult) rMulS := fun pins s σ H x y v u Q I rx ry ⟨a, k, ex, ey, hc, q⟩ => by
  subst ex ey
  obtain ⟨t, rfl⟩ := rx
  obtain ⟨t2, rfl⟩ := ry
  exact PySem.SB.mul hc fun t' k => ⟨.str _, H, I.tok k, ⟨t', rfl⟩, q⟩
theorem fold_app : ∀ (l : List (Array Nat)) (acc : Array Nat), (l.foldl (· ++ ·) acc).toList = acc.toList ++ (l.map Array.toList).flatten
  | [], acc => by simp
  | x :: l, acc => by
    rw [List.foldl_cons, fold_app l]
    simp
theorem tx_mul (x : Tx) (k : Int) : Txt.mul (tx x) k = tx (List.replicate k.toNat x).flatten := by
  unfold Txt.mul
  split
  · have : k.toNat = 0 := by omega
    rw [this]; rfl
  · split
    · rename_i h
      rw [Bool.or_eq_true] at h
      rcases h with h | h
      · have : k = 1 := by simpa using h
        subst this
        simp
      · have : x = [] := by
          have h2 : (tx x).length = 0 := by simpa using h
          have h3 : x.length = 0 := h2
          exact List.length_eq_zero_iff.mp h3
        subst this
        have : ∀ n : Nat, (List.replicate n ([] : Tx)).flatten = [] := fun n => by induction n <;> simp [List.replicate_succ, *]
        rw [this]
    · have h := fold_app (List.replicate k.toNat (tx x).cps) #[]
      have e : (List.replicate k.toNat (tx x).cps).map Array.toList = List.replicate k.toNat x := by
        rw [List.map_replicate]; rfl
      rw [e] at h
      have h2 : (List.replicate k.toNat (tx x).cps).foldl (· ++ ·) #[] = (List.replicate k.toNat x).flatten.toArray := by
        apply Array.toList_inj.mp
        rw [h]; rfl
      rw [h2]; rfl
theorem mulS_ok {x : Tx} {k : Int} (h1 : -9223372036854775808 ≤ k) (h2 : k < 9223372036854775808) (h3 : x.length * k.toNat ≤ cells) : MulOk (tx x) k := by
  have hl : (tx x).length = x.length := rfl
  refine ⟨by simp; omega, fun h4 _ => ?_, fun h4 _ => ?_⟩
  · rw [hl]
    intro z
    have kp : 0 < k := by omega
    have h5 : (x.length : Int) * k ≤ 16777216 := by
      have e : ((x.length * k.toNat : Nat) : Int) = (x.length : Int) * k := by rw [Int.natCast_mul]; congr 1; omega
      have : x.length * k.toNat ≤ 16777216 := h3
      omega
    have h6 := Int.lt_mul_of_ediv_lt kp z
    omega
  · rw [hl]
    unfold Builtin.Str.tooLong
    refine decide_eq_false ?_
    rw [← cells_eq]
    exact Nat.not_lt.mpr h3
def rMul3 (K : PySem.W.Frag) : R2 := fun x y H Q => rI CMul3 (fun i j => .int (i * j)) x y H Q ∨ (rRep x y H Q ∨ (rRepT K x y H Q ∨ rMulS x y H Q))
theorem o_mul {X : Cx} (hK : X.K = v.K) : OpR X (binaryOp .Mult) (rMul3 v.K) := by
  rw [← hK]
  exact opr_or o_mulI (opr_or op_rep (opr_or op_repT o_mulS))
theorem v_mul : Op2 v g .mul (rMul3 v.K) := by
  intro ι H H0 H1 h d e x y Q E hr rx ry go
  have go : Go (rrE v) v ι H (opMul h d e) Q E := go
  unfold opMul at go
  split at go
  · obtain ⟨c, go⟩ := go_when go
    rw [rv_int rx, rv_int ry]
    exact .inl ⟨_, _, rfl, rfl, mul_ok c, go_int go hr⟩
  · split at go
    · rename_i k _ xs e1
      obtain ⟨c, go⟩ := go_when go
      rw [Bool.and_eq_true, Bool.and_eq_true] at c
      obtain ⟨a, vs, rfl, h1, h2⟩ := lm_ok hr rx e1
      rw [rv_int ry]
      have c1 := of_decide_eq_true c.1.1
      have c2 := of_decide_eq_true c.1.2
      have c3 := of_decide_eq_true c.2
      refine .inr (.inl ⟨a, _, vs, rfl, rfl, h1, by omega, by omega, ?_, fun p hp => go_fresh go hr (h2.rep _) hp⟩)
      rw [← h2.length, ← cells_eq]; exact c3
    · split at go
      · rename_i k _ _ xs
        obtain ⟨c, go⟩ := go_when go
        rw [Bool.and_eq_true, Bool.and_eq_true, Bool.and_eq_true] at c
        obtain ⟨a, vs, rfl, h1, h2⟩ := rv_tup rx
        rw [rv_int ry]
        refine .inr (.inr (.inl ⟨a, _, vs, rfl, rfl, h1, ?_, of_decide_eq_true c.1.1.2, of_decide_eq_true c.1.2, ?_, fun p hp => go_tup go hr (h2.rep _) hp⟩))
        · intro z
          subst z
          cases h2
          cases c.1.1.1
        · rw [← h2.length]; exact of_decide_eq_true c.2
      · rename_i k _ _ x
        obtain ⟨c, go⟩ := go_when go
        rw [Bool.and_eq_true, Bool.and_eq_true] at c
        rw [rv_str rx, rv_int ry]
        refine .inr (.inr (.inr ⟨_, _, rfl, rfl, mulS_ok (of_decide_eq_true c.1.1) (of_decide_eq_true c.1.2) (of_decide_eq_true c.2), ?_⟩))
        rw [tx_mul]
        exact go_str go hr
      · exact go.elim
  · exact go.elim
def CDivB (i j : Int) : Prop := j ≠ 0 ∧ j.natAbs.log2 < 9000
theorem o_fdiv {X : Cx} : OpR X (binaryOp .FloorDiv) (rI CDivB fun i j => .int (i.fdiv j)) := opI fun i j _ _ _ _ _ hc q => floordiv_int hc.1 q (.inl (PyProof.noPylong_of_log2 hc.2))
theorem v_fdiv : Op2 v g .fdiv (rI CDivB fun i j => .int (i.fdiv j)) := by
  intro ι H H0 H1 h d e x y Q E hr rx ry go
  cases d <;> cases e <;> first | exact go.elim | skip
  rename_i i j
  obtain ⟨c, go⟩ := go_when (show Go _ _ _ _ (whenR _ (intR (i.fdiv j) h)) _ _ from go)
  rw [Bool.and_eq_true] at c
  rw [rv_int rx, rv_int ry]
  have c1 := of_decide_eq_true c.1
  refine ⟨_, _, rfl, rfl, ⟨c1, ?_⟩, go_int go hr⟩
  exact (Nat.log2_lt (by omega)).mpr (of_decide_eq_true c.2)
theorem v_mod : Op2 v g .mod (rI (fun _ j => j ≠ 0) fun i j => .int (i.fmod j)) := by
  intro ι H H0 H1 h d e x y Q E hr rx ry go
  cases d <;> cases e <;> first | exact go.elim | skip
  rename_i i j
  obtain ⟨c, go⟩ := go_when (show Go _ _ _ _ (whenR _ (intR (i.fmod j) h)) _ _ from go)
  rw [rv_int rx, rv_int ry]
  exact ⟨_, _, rfl, rfl, of_decide_eq_true c, go_int go hr⟩
theorem v_pow : Op2 v g .pow (rI CPow fun i j => .int (i ^ j.toNat)) := by
  intro ι H H0 H1 h d e x y Q E hr rx ry go
  cases d <;> cases e <;> first | exact go.elim | skip
  rename_i i j
  obtain ⟨c, go⟩ := go_when (show Go _ _ _ _ (whenR _ (intR (i ^ j.toNat) h)) _ _ from go)
  rw [Bool.and_eq_true, Bool.and_eq_true] at c
  rw [rv_int rx, rv_int ry]
  have c3 := of_decide_eq_true c.2
  exact ⟨_, _, rfl, rfl, ⟨of_decide_eq_true c.1.1, of_decide_eq_true c.1.2, by omega⟩, go_int go hr⟩
theorem v_shl : Op2 v g .shl (rI CShl fun i j => .int (i * 2 ^ j.toNat)) := by
  intro ι H H0 H1 h d e x y Q E hr rx ry go
  cases d <;> cases e <;> first | exact go.elim | skip
  rename_i i j
  obtain ⟨c, go⟩ := go_when (show Go _ _ _ _ (whenR _ (intR (i * 2 ^ j.toNat) h)) _ _ from go)
  rw [Bool.and_eq_true, Bool.and_eq_true] at c
  rw [rv_int rx, rv_int ry]
  have c1 := of_decide_eq_true c.1.1
  have c2 := of_decide_eq_true c.1.2
  have c3 := big_log (of_decide_eq_true c.2)
  refine ⟨_, _, rfl, rfl, ⟨c1, ?_⟩, go_int go hr⟩
  have b : Builtin.Int.intBits i ≤ i.natAbs.log2 + 1 := by
    unfold Builtin.Int.intBits
    split <;> omega
  omega
theorem v_shr : Op2 v g .shr (rI (fun _ j => 0 ≤ j) fun i j => .int (i / 2 ^ j.toNat)) := by
  intro ι H H0 H1 h d e x y Q E hr rx ry go
  cases d <;> cases e <;> first | exact go.elim | skip
  rename_i i j
  obtain ⟨c, go⟩ := go_when (show Go _ _ _ _ (whenR _ (intR (i / 2 ^ j.toNat) h)) _ _ from go)
  rw [rv_int rx, rv_int ry]
  exact ⟨_, _, rfl, rfl, of_decide_eq_true c, go_int go hr⟩
theorem v_neg : Op1 v g .neg (rU fun i => .int (-i)) := by
  intro ι H H0 h d x Q E hr rx go
  cases d <;> first | exact go.elim | skip
  rw [rv_int rx]
  exact ⟨_, rfl, go_int (show Go _ _ _ _ (intR _ _) _ _ from go) hr⟩

/-! ### order -/
theorem ltL_iff : ∀ x y : List Nat, ltL x y = decide (x < y)
  | [], [] => rfl
  | [], _ :: _ => by simp [ltL]
  | _ :: _, [] => by simp [ltL]
  | a :: as, b :: bs => by
    unfold ltL
    rw [ltL_iff as bs]
    by_cases e : a = b
    · rw [if_pos e]; subst e; simp [List.cons_lt_cons_iff]
    · rw [if_neg e]; simp [List.cons_lt_cons_iff, e]
theorem tx_list (x : Tx) : (tx x).cps.toList = x := by simp [tx]
def rCmp (f : Int → Int → Bool) (g : Tx → Tx → Bool) : R2 := fun x y H Q => rI0 (fun i j => .bl (f i j)) x y H Q ∨ ∃ i j, x = .str i ∧ y = .str j ∧ Q (.bl (g i.cps.toList j.cps.toList)) H
theorem o_lt {X : Cx} : OpR X (compareOp .Lt) (rCmp (fun i j => decide (i < j)) fun x y => ltL x y) := opr_or op_lt fun pins s σ H x y v u Q I rx ry ⟨i, j, ex, ey, q⟩ => op_lt_str pins s σ H x y v u Q I rx ry ⟨i, j, ex, ey, by simp only [ltL_iff] at q; exact q⟩
theorem o_le {X : Cx} : OpR X (compareOp .LtE) (rCmp (fun i j => decide (i ≤ j)) fun x y => !ltL y x) := opr_or op_le fun pins s σ H x y v u Q I rx ry ⟨i, j, ex, ey, q⟩ => op_le_str pins s σ H x y v u Q I rx ry ⟨i, j, ex, ey, by simp only [ltL_iff] at q; exact q⟩
theorem o_gt {X : Cx} : OpR X (compareOp .Gt) (rCmp (fun i j => decide (j < i)) fun x y => ltL y x) := opr_or op_gt fun pins s σ H x y v u Q I rx ry ⟨i, j, ex, ey, q⟩ => op_gt_str pins s σ H x y v u Q I rx ry ⟨i, j, ex, ey, by simp only [ltL_iff] at q; exact q⟩
theorem o_ge {X : Cx} : OpR X (compareOp .GtE) (rCmp (fun i j => decide (j ≤ i)) fun x y => !ltL x y) := opr_or op_ge fun pins s σ H x y v u Q I rx ry ⟨i, j, ex, ey, q⟩ => op_ge_str pins s σ H x y v u Q I rx ry ⟨i, j, ex, ey, by simp only [ltL_iff] at q; exact q⟩
theorem v_cmp {o : Op} {f : Int → Int → Bool} {k : Tx → Tx → Bool} (he : ∀ (d e : D) (h : Hh), opApp g.sub o [d, e] h = opCmp h f k d e) : Op2 v g o (rCmp f k) := by
  intro ι H H0 H1 h d e x y Q E hr rx ry go
  rw [he] at go
  cases d <;> cases e <;> first | exact go.elim | skip
  · rw [rv_int rx, rv_int ry]
    exact .inl ⟨_, _, rfl, rfl, go_bl (show Go _ _ _ _ (blR _ _) _ _ from go) hr⟩
  · rw [rv_str rx, rv_str ry]
    refine .inr ⟨_, _, rfl, rfl, ?_⟩
    rw [tx_list, tx_list]
    exact go_bl (show Go _ _ _ _ (blR _ _) _ _ from go) hr
theorem v_lt : Op2 v g .lt (rCmp (fun i j => decide (i < j)) fun x y => ltL x y) := v_cmp fun _ _ _ => rfl
theorem v_le : Op2 v g .le (rCmp (fun i j => decide (i ≤ j)) fun x y => !ltL y x) := v_cmp fun _ _ _ => rfl
theorem v_gt : Op2 v g .gt (rCmp (fun i j => decide (j < i)) fun x y => ltL y x) := v_cmp fun _ _ _ => rfl
theorem v_ge : Op2 v g .ge (rCmp (fun i j => decide (j ≤ i)) fun x y => !ltL x y) := v_cmp fun _ _ _ => rfl

/-! ### equality -/
mutual
def pyD : D → PyData
  | .bl b => .bool b
  | .int i => .int i
  | .str x => .str (tx x)
  | .tup xs => .tuple (pyL xs)
  | .rol xs => .list (pyL xs)
  | .lst xs => .list (pyL xs)
  | _ => .none
def pyL : List D → List PyData
  | [] => []
  | d :: ds => pyD d :: pyL ds
end
theorem beq_dec {α : Type} [BEq α] [LawfulBEq α] [DecidableEq α] (a b : α) : (a == b) = decide (a = b) := by
  by_cases e : a = b
  · subst e; simp
  · simp [e]
theorem tx_beq (x y : Tx) : (tx x == tx y) = decide (x = y) := by
  rw [beq_dec]
  by_cases e : x = y
  · subst e; simp
  · rw [decide_eq_false e, decide_eq_false fun z => e (tx_inj z)]
mutual
theorem eqv_py : ∀ {k j : Nat} (d e : D), D.dat k d = true → D.dat j e = true → D.eqv d e = PyData.eqv (pyD d) (pyD e)
  | k, j, d, e, hd, he => by
    cases d with
    | tup xs =>
      cases k with
      | zero => cases hd
      | succ k =>
        cases e with
        | tup ys =>
          cases j with
          | zero => cases he
          | succ j => exact eqvL_py xs ys hd he
        | _ => first | rfl | (cases j <;> cases he)
    | rol xs =>
      cases k with
      | zero => cases hd
      | succ k =>
        cases e with
        | rol ys =>
          cases j with
          | zero => cases he
          | succ j => exact eqvL_py xs ys hd he
        | lst ys =>
          cases j with
          | zero => cases he
          | succ j => exact eqvL_py xs ys hd he
        | _ => first | rfl | (cases j <;> cases he)
    | lst xs =>
      cases k with
      | zero => cases hd
      | succ k =>
        cases e with
        | rol ys =>
          cases j with
          | zero => cases he
          | succ j => exact eqvL_py xs ys hd he
        | lst ys =>
          cases j with
          | zero => cases he
          | succ j => exact eqvL_py xs ys hd he
        | _ => first | rfl | (cases j <;> cases he)
    | non => cases e <;> first | rfl | (cases j <;> cases he)
    | bl b => cases e <;> first | rfl | (cases j <;> cases he) | exact (beq_dec _ _).symm
    | int b => cases e <;> first | rfl | (cases j <;> cases he) | exact (beq_dec _ _).symm
    | str b => cases e <;> first | rfl | (cases j <;> cases he) | exact (tx_beq _ _).symm
    | dct b => cases k <;> cases hd
    | ref b => cases k <;> cases hd
    | exc a b => cases k <;> cases hd
theorem eqvL_py : ∀ {k j : Nat} (d e : List D), D.datL k d = true → D.datL j e = true → D.eqvL d e = PyData.eqvAll (pyL d) (pyL e)
  | k, j, [], [], hd, he => by rfl
  | k, j, [], y :: ys, hd, he => by rfl
  | k, j, x :: xs, [], hd, he => by rfl
  | k, j, x :: xs, y :: ys, hd, he => by
    have h1 := Bool.and_eq_true_iff.mp (show (D.dat k x && D.datL k xs) = true by rw [← hd]; cases k <;> rfl)
    have h2 := Bool.and_eq_true_iff.mp (show (D.dat j y && D.datL j ys) = true by rw [← he]; cases j <;> rfl)
    show (D.eqv x y && D.eqvL xs ys) = (PyData.eqv (pyD x) (pyD y) && PyData.eqvAll (pyL xs) (pyL ys))
    rw [eqv_py x y h1.1 h2.1, eqvL_py xs ys h1.2 h2.2]
end
mutual
theorem lay_ok : ∀ {k : Nat} (d : D), D.dat k d = true → PyData.canLay0 (pyD d) = true ∧ PyData.depth (pyD d) ≤ k
  | k, .non, _ => ⟨rfl, Nat.zero_le _⟩
  | k, .bl _, _ => ⟨rfl, Nat.zero_le _⟩
  | k, .int _, _ => ⟨rfl, Nat.zero_le _⟩
  | k, .str x, h => ⟨by
      have h2 : okTx x = true := by cases k <;> exact h
      show (tx x).cps.all (fun c => decide (c < 0x110000)) = true
      unfold tx
      unfold okTx at h2
      rw [← Array.all_toList]
      exact h2, Nat.zero_le _⟩
  | 0, .tup xs, h => by cases h
  | k + 1, .tup xs, h => let q := layL_ok (k := k) xs h; ⟨q.1, Nat.succ_le_succ q.2⟩
  | 0, .rol xs, h => by cases h
  | k + 1, .rol xs, h => let q := layL_ok (k := k) xs h; ⟨q.1, Nat.succ_le_succ q.2⟩
  | 0, .lst xs, h => by cases h
  | k + 1, .lst xs, h => let q := layL_ok (k := k) xs h; ⟨q.1, Nat.succ_le_succ q.2⟩
  | k, .dct _, h => by cases k <;> cases h
  | k, .ref _, h => by cases k <;> cases h
  | k, .exc _ _, h => by cases k <;> cases h
theorem layL_ok : ∀ {k : Nat} (ds : List D), D.datL k ds = true → PyData.canLayAll0 (pyL ds) = true ∧ PyData.depthAll (pyL ds) ≤ k
  | k, [], _ => ⟨rfl, Nat.zero_le _⟩
  | k, d :: ds, h => by
    have h1 := Bool.and_eq_true_iff.mp (show (D.dat k d && D.datL k ds) = true by rw [← h]; cases k <;> rfl)
    have q1 := lay_ok d h1.1
    have q2 := layL_ok ds h1.2
    refine ⟨?_, Nat.max_le.mpr ⟨q1.2, q2.2⟩⟩
    show (PyData.canLay0 (pyD d) && PyData.canLayAll0 (pyL ds)) = true
    rw [q1.1, q2.1]; rfl
end
theorem shaped_ok {d : D} (h : D.dat 60 d = true) : SeqAt.shaped (pyD d) = true := by
  have q := lay_ok d h
  unfold SeqAt.shaped
  rw [q.1, decide_eq_true (show PyData.depth (pyD d) ≤ 64 by omega)]; rfl
mutual
theorem dp_rp : ∀ {k : Nat} {d : D} {x : V}, RP v ι H d x → D.dat k d = true → Dp v.K H x (pyD d)
  | _, _, _, .non, _ => .non
  | _, _, _, .bl b, _ => .bl b
  | _, _, _, .int b, _ => .int b
  | _, _, _, .str b, _ => .str _
  | 0, _, _, .tup h r, q => by cases q
  | k + 1, _, _, .tup h r, q => .tup h (dp_rps (k := k) r q)
  | 0, _, _, .rol h r, q => by cases q
  | k + 1, _, _, .rol h r, q => .lst h.sq (dp_rps (k := k) r q)
  | k, _, _, .ref _, q => by cases k <;> cases q
theorem dp_rps : ∀ {k : Nat} {ds : List D} {xs : List V}, RPs v ι H ds xs → D.datL k ds = true → DpAll v.K H xs (pyL ds)
  | _, _, _, .nil, _ => .nil
  | k, d :: ds, _, .cons r t, q => by
    have h1 := Bool.and_eq_true_iff.mp (show (D.dat k d && D.datL k ds) = true by rw [← q]; cases k <;> rfl)
    exact .cons (dp_rp r h1.1) (dp_rps t h1.2)
end
theorem dp_told (hr : HR v ι H h) : ∀ (j : Nat) {k : Nat} {d : D} {x : V}, RP v ι H d x → D.dat k (told j h d) = true → Dp v.K H x (pyD (told j h d))
  | 0, k, d, x, r, q => by
    have e : told 0 h d = d := by unfold told; rfl
    rw [e] at q ⊢
    exact dp_rp r q
  | j + 1, k, d, x, r, q => by
    cases r with
    | @ref n a ha =>
      cases e : h[n]? with
      | none =>
        have e2 : told (j + 1) h (.ref n) = .ref n := by unfold told; rw [e]
        rw [e2] at q; cases k <;> cases q
      | some c =>
        cases c with
        | lst ds =>
          have e2 : told (j + 1) h (.ref n) = .lst (ds.map (told j h)) := by unfold told; rw [e]
          rw [e2] at q ⊢
          obtain ⟨vs, h1, h2⟩ := (show CR v ι H a (.lst ds) from hr.cell n a _ ha e)
          cases k with
          | zero => cases q
          | succ k =>
            refine .lst (SqL.of h1) ?_
            have q2 : D.datL k (ds.map (told j h)) = true := q
            clear e e2 q h1
            induction ds generalizing vs with
            | nil => cases h2; exact .nil
            | cons d ds ih =>
              cases h2 with
              | cons r t =>
                have h3 := Bool.and_eq_true_iff.mp (show (D.dat k (told j h d) && D.datL k (ds.map (told j h))) = true by rw [← q2]; cases k <;> rfl)
                exact .cons (dp_told hr j r h3.1) (ih _ t h3.2)
        | dct ds =>
          have e2 : told (j + 1) h (.ref n) = .ref n := by unfold told; rw [e]
          rw [e2] at q; cases k <;> cases q
        | ins c ds =>
          have e2 : told (j + 1) h (.ref n) = .ref n := by unfold told; rw [e]
          rw [e2] at q; cases k <;> cases q
    | non => exact dp_rp (k := k) (RP.non (ι := ι)) q
    | bl b => exact dp_rp (k := k) (RP.bl (ι := ι) b) q
    | int b => exact dp_rp (k := k) (RP.int (ι := ι) b) q
    | str b => exact dp_rp (k := k) (RP.str (ι := ι) b) q
    | tup h1 h2 => exact dp_rp (k := k) (.tup h1 h2) q
    | rol h1 h2 => exact dp_rp (k := k) (.rol h1 h2) q
theorem dp_any (hr : HR v ι H h) (r : rrE v ι H0 H d x) (q : D.dat 60 (told 3 h d) = true) : Dp v.K H x (pyD (told 3 h d)) := by
  by_cases hp : D.pers d = true
  · exact dp_told hr 3 (r.1.rp hp) q
  · cases d with
    | lst ds =>
      obtain ⟨a, vs, rfl, _, h1, h2⟩ := (show RV v ι H (.lst ds) x from r.1)
      refine .lst (SqL.of h1) ?_
      have q2 : D.datL 59 (ds.map (told 2 h)) = true := q
      clear q r hp h1
      induction ds generalizing vs with
      | nil => cases h2; exact .nil
      | cons d ds ih =>
        cases h2 with
        | cons r t =>
          have h3 := Bool.and_eq_true_iff.mp (show (D.dat 59 (told 2 h d) && D.datL 59 (ds.map (told 2 h))) = true from q2)
          exact .cons (dp_told hr 2 r h3.1) (ih _ t h3.2)
    | dct ds => cases q
    | exc c fs => cases q
    | _ => exact absurd rfl hp
def rEq2 (K : PySem.W.Frag) : R2 := fun x y H Q => rEq x y H Q ∨ rEqD K x y H Q
def rNe2 (K : PySem.W.Frag) : R2 := fun x y H Q => rNe x y H Q ∨ rNeD K x y H Q
theorem o_eq {X : Cx} (hK : X.K = v.K) (hu : X.A.units + 64 < cLine) : OpR X (compareOp .Eq) (rEq2 v.K) := by
  rw [← hK]
  exact opr_or op_eq (op_eqD hu)
theorem o_ne {X : Cx} (hK : X.K = v.K) (hu : X.A.units + 64 < cLine) : OpR X (compareOp .NotEq) (rNe2 v.K) := by
  rw [← hK]
  exact opr_or op_ne (op_neD hu)
theorem scal_ok {ι1 : List Addr} {H1 : Hp} {e : D} {y : V} (rx : rrE v ι H0 H d x) (ry : rrE v ι H1 H e y) (c : scalD d e = true) : scal x y = true ∧ decide (x = y) = D.eqv d e := by
  cases d <;> cases e <;> first | cases c | skip
  all_goals first
    | (rw [rv_non rx, rv_non ry]; exact ⟨rfl, rfl⟩)
    | (rw [rv_non rx, rv_bl ry]; exact ⟨rfl, rfl⟩)
    | (rw [rv_non rx, rv_int ry]; exact ⟨rfl, rfl⟩)
    | (rw [rv_non rx, rv_str ry]; exact ⟨rfl, rfl⟩)
    | (rw [rv_bl rx, rv_non ry]; exact ⟨rfl, rfl⟩)
    | (rw [rv_int rx, rv_non ry]; exact ⟨rfl, rfl⟩)
    | (rw [rv_str rx, rv_non ry]; exact ⟨rfl, rfl⟩)
    | (rw [rv_int rx, rv_int ry]; exact ⟨rfl, by simp [D.eqv]⟩)
    | (rw [rv_bl rx, rv_bl ry]; exact ⟨rfl, by simp [D.eqv, beq_dec]⟩)
    | (rw [rv_int rx, rv_str ry]; exact ⟨rfl, rfl⟩)
    | (rw [rv_str rx, rv_int ry]; exact ⟨rfl, rfl⟩)
    | (rw [rv_bl rx, rv_str ry]; exact ⟨rfl, rfl⟩)
    | (rw [rv_str rx, rv_bl ry]; exact ⟨rfl, rfl⟩)
    | (rw [rv_str rx, rv_str ry]
       refine ⟨rfl, ?_⟩
       show decide (V.str (tx _) = V.str (tx _)) = decide _
       apply decide_eq_decide.mpr
       exact ⟨fun z => tx_inj (V.str.inj z), fun z => by rw [z]⟩)
theorem eqD_ok {ι1 : List Addr} {H1 : Hp} {e : D} {y : V} {k : Bool} (hr : HR v ι H h) (rx : rrE v ι H0 H d x) (ry : rrE v ι H1 H e y) (c : eqD h d e = some k) :
    (scal x y = true ∧ decide (x = y) = k) ∨ ∃ p q, Dp v.K H x p ∧ Dp v.K H y q ∧ SeqAt.shaped p = true ∧ SeqAt.shaped q = true ∧ PyData.eqv p q = k := by
  unfold eqD at c
  split at c
  · rename_i z
    cases c
    exact .inl (scal_ok (ι1 := ι1) rx ry z)
  · split at c
    · rename_i z
      cases c
      obtain ⟨z1, z2⟩ := Bool.and_eq_true_iff.mp z
      exact .inr ⟨_, _, dp_any hr rx z1, dp_any hr ry z2, shaped_ok z1, shaped_ok z2, (eqv_py _ _ z1 z2).symm⟩
    · cases c
theorem v_eq : Op2 v g .eq (rEq2 v.K) := by
  intro ι H H0 H1 h d e x y Q E hr rx ry go
  have go : Go (rrE v) v ι H (match eqD h d e with | some k => blR k h | none => .no) Q E := go
  cases c : eqD h d e with
  | none => rw [c] at go; exact go.elim
  | some k =>
    rw [c] at go
    have q := go_bl go hr
    rcases eqD_ok (ι1 := ι) hr rx ry c with ⟨h1, h2⟩ | ⟨p, r, h1, h2, h3, h4, h5⟩
    · exact .inl ⟨h1, by rw [h2]; exact q⟩
    · exact .inr ⟨p, r, h1, h2, h3, h4, by rw [h5]; exact q⟩
theorem v_ne : Op2 v g .ne (rNe2 v.K) := by
  intro ι H H0 H1 h d e x y Q E hr rx ry go
  have go : Go (rrE v) v ι H (match eqD h d e with | some k => blR (!k) h | none => .no) Q E := go
  cases c : eqD h d e with
  | none => rw [c] at go; exact go.elim
  | some k =>
    rw [c] at go
    have q := go_bl go hr
    rcases eqD_ok (ι1 := ι) hr rx ry c with ⟨h1, h2⟩ | ⟨p, r, h1, h2, h3, h4, h5⟩
    · exact .inl ⟨h1, by rw [h2]; exact q⟩
    · exact .inr ⟨p, r, h1, h2, h3, h4, by rw [h5]; exact q⟩
end
end Ivy

/-! Ivy, part E: expressions of each form. -/
namespace Ivy
open PySem PySem.Spec PyProof.Rows L2

section
variable {X : Cx} {v : Ev} {g : G} {W : WX} {a b c : Expr} {e1 e2 e3 : Ex} {pos : Pos}

/-! ### is -/
theorem rr_isnon {ι : List Addr} {H0 H : Hp} {d : D} {x : V} (r : rrE v ι H0 H d x) : decide (x = .non) = D.isNon d := by
  cases d with
  | non => cases rv_non r; rfl
  | bl b => cases rv_bl r; rfl
  | int b => cases rv_int r; rfl
  | str b => cases rv_str r; rfl
  | tup b => obtain ⟨a, vs, rfl, _⟩ := rv_tup r; rfl
  | rol b => cases (show RP v ι H (.rol b) x from r.1); rfl
  | lst b => obtain ⟨a, vs, rfl, _⟩ := (show RV v ι H (.lst b) x from r.1); rfl
  | dct b => obtain ⟨a, vs, rfl, _⟩ := (show RV v ι H (.dct b) x from r.1); rfl
  | ref b => obtain ⟨a, rfl, _⟩ := rv_ref r; rfl
  | exc c b => obtain ⟨a, e, _⟩ := (show XO v ι H c b x from r.1); cases e; rfl
theorem c_isN {j : Nat} {pos' : Pos} (ha : PE X a (tE v g W e1)) : PC X .Is a (.Constant .none j pos') (tE v g W (.op .isNone [e1])) :=
  PC.imp (pc_isN ha) fun σ H Q t => l_op1 (r := fun x H Q => Q (.bl (decide (x = .non))) H) (fun ι H H0 h d x Q E hr rx go => by
    show Q (.bl (decide (x = .non))) H
    rw [rr_isnon rx]; exact go_bl (show Go _ _ _ _ (blR _ _) _ _ from go) hr) t
theorem c_notN {j : Nat} {pos' : Pos} (ha : PE X a (tE v g W e1)) : PC X .IsNot a (.Constant .none j pos') (tE v g W (.op .notNone [e1])) :=
  PC.imp (pc_notN ha) fun σ H Q t => l_op1 (r := fun x H Q => Q (.bl (!decide (x = .non))) H) (fun ι H H0 h d x Q E hr rx go => by
    show Q (.bl (!decide (x = .non))) H
    rw [rr_isnon rx]; exact go_bl (show Go _ _ _ _ (blR _ _) _ _ from go) hr) t
theorem v_isB : Op2 v g .isB rIsB := by
  intro ι H H0 H1 h d e x y Q E hr rx ry go
  cases d <;> cases e <;> first | exact go.elim | skip
  rw [rv_bl rx, rv_bl ry]
  have q := go_bl (show Go _ _ _ _ (blR _ _) _ _ from go) hr
  rw [beq_dec] at q
  exact ⟨_, _, rfl, rfl, q⟩
theorem v_notB : Op2 v g .notB rNotB := by
  intro ι H H0 H1 h d e x y Q E hr rx ry go
  cases d <;> cases e <;> first | exact go.elim | skip
  rw [rv_bl rx, rv_bl ry]
  have q := go_bl (show Go _ _ _ _ (blR _ _) _ _ from go) hr
  rw [beq_dec] at q
  exact ⟨_, _, rfl, rfl, q⟩

/-! ### items -/
theorem ixP_eq (n : Nat) (i : Int) : ixP n i = ixN n i := rfl
theorem atP_get {α : Type} {xs : List α} {i : Int} {x : α} (h : atP xs i = some x) : ∃ j, ixN xs.length i = some j ∧ xs[j]? = some x := by
  unfold atP at h
  rw [ixP_eq] at h
  cases e : ixN xs.length i with
  | none => rw [e] at h; cases h
  | some j => rw [e] at h; exact ⟨j, rfl, h⟩
theorem at_rps {ι : List Addr} {H : Hp} {ds : List D} {vs : List V} {i : Int} {d : D} (r : RPs v ι H ds vs) (h : atP ds i = some d) : ∃ x, atI vs i = some x ∧ RP v ι H d x := by
  obtain ⟨j, h1, h2⟩ := atP_get h
  obtain ⟨x, h3, h4⟩ := r.get h2
  refine ⟨x, ?_, h4⟩
  unfold atI
  rw [← r.length, h1]
  exact h3
theorem rp_flat {ι : List Addr} {H : Hp} {d : D} {x : V} (r : RP v ι H d x) : D.pers d = true ∨ D.pers d = false := by cases D.pers d <;> simp
theorem go_item {ι : List Addr} {H : Hp} {h : Hh} {d : D} {x : V} {Q : VK} {E : XK} (go : Go (rrE v) v ι H (.ok d h) Q E) (hr : HR v ι H h) (r : RP v ι H d x) : Q x H := by
  refine go.here hr ?_
  cases d with
  | lst ds => cases r
  | dct ds => cases r
  | exc c fs => cases r
  | _ => exact ⟨r, trivial⟩
theorem val_k {ι : List Addr} {H : Hp} {kvs : List (Ky × D)} {kvs' : List (Key × V)} {k : Ky} (r : RK v ι H kvs kvs') :
    match kGet kvs k with
    | some d => ∃ x, valV kvs' (kyV k) = some x ∧ RP v ι H d x
    | none => valV kvs' (kyV k) = none := by
  obtain ⟨r1, r2⟩ := r
  induction kvs generalizing kvs' with
  | nil =>
    cases kvs' with
    | nil => rfl
    | cons p q => simp at r1
  | cons p kvs ih =>
    cases kvs' with
    | nil => simp at r1
    | cons p' kvs' =>
      obtain ⟨j, d⟩ := p
      obtain ⟨j', x⟩ := p'
      simp only [List.map_cons, List.cons.injEq] at r1
      obtain ⟨e, r1⟩ := r1
      subst e
      cases r2 with
      | cons ra rb =>
        unfold kGet
        by_cases z : j = k
        · rw [if_pos z]; subst z
          exact ⟨x, by simp [valV], ra⟩
        · rw [if_neg z]
          have z2 : ¬ kyV j = kyV k := fun q => z (kyV_inj q)
          have key : valV ((kyV j, x) :: kvs') (kyV k) = valV kvs' (kyV k) := by simp [valV, List.find?_cons, z2]
          rw [key]
          exact ih r1 rb
theorem ky_rr {ι : List Addr} {H0 H : Hp} {d : D} {k : Ky} {x : V} (e : kyD d = some k) (r : rrE v ι H0 H d x) : x = kV (kyV k) := by
  cases d <;> first | cases e | skip
  · exact rv_int r
  · exact rv_str r
def rIxD : R2 := fun x y H Q => ∃ a z, x = .ref a ∧ DGet H a y (some z) ∧ Q z H
theorem e_idx (hb : Cb X v W) (ha : PE X a (tE v g W e1)) (hi : PE X b (tE v g W e2)) (hs : PlainIx b := by exact fun _ _ => rfl) : PE X (.Subscript a b pos) (tE v g W (.op .idx [e1, e2])) := by
  refine PE.imp (PE.or (pe_ix (ix_seq) ha hi hs) (pe_dget (by have := hb.hu; omega) ha hi hs)) fun σ H Q ⟨ι, δ, h, hr, hs, go⟩ => ?_
  rw [evE_op2] at go
  by_cases isd : ∃ d1 h1 d2 h2 kvs, evE g e1 δ h = .ok d1 h1 ∧ evE g e2 δ h1 = .ok d2 h2 ∧ dcD h2 d1 = some kvs
  · obtain ⟨d1, h1, d2, h2, kvs, q1, q2, q3⟩ := isd
    refine .inr ⟨ι, δ, h, hr, hs, Go.bind (SS := rrE v) go fun d h1' ι1 H1 x r1 ex1 hr1 rx1 go1 => ?_⟩
    rw [q1] at r1; cases r1
    refine ⟨ι1, δ, _, hr1, hs.mono ex1, Go.bind (SS := rrE v) go1 fun e h2' ι2 H2 y r2 ex2 hr2 ry2 go2 => ?_⟩
    rw [q2] at r2; cases r2
    obtain ⟨p, kvs', rfl, h3, h4⟩ := dc_ok hr2 (rx1.mono ex2) q3
    have go2 : Go (rrE v) v ι2 H2 (opIdx _ d1 d2) Q _ := go2
    unfold opIdx at go2
    split at go2
    · cases q3
    · rw [q3] at go2
      simp only at go2
      split at go2
      · rename_i k ek
        have kk := val_k (k := k) h4
        split at go2
        · rename_i d ed
          rw [ed] at kk
          obtain ⟨x, h5, h6⟩ := kk
          rw [ky_rr ek ry2]
          exact ⟨p, x, rfl, .inl ⟨kvs', kyV k, .inl h3, rfl, h5.symm⟩, go_item go2 hr2 h6⟩
        · exact go2.elim
      · exact go2.elim
  · refine .inl ⟨ι, δ, h, hr, hs, Go.bind (SS := rrE v) go fun d h1 ι1 H1 x r1 ex1 hr1 rx1 go1 => ?_⟩
    refine ⟨ι1, δ, h1, hr1, hs.mono ex1, Go.bind (SS := rrE v) go1 fun e h2 ι2 H2 y r2 ex2 hr2 ry2 go2 => ?_⟩
    have rx2 := rx1.mono ex2
    have go2 : Go (rrE v) v ι2 H2 (opIdx h2 d e) Q _ := go2
    unfold opIdx at go2
    rw [hb.hK]
    split at go2
    · obtain ⟨cz, go2⟩ := go_when go2
      split at go2
      · rename_i c ec
        rw [rv_str rx2, rv_int ry2]
        obtain ⟨j, z1, z2⟩ := atP_get ec
        refine .inr (.inr ⟨_, _, c, rfl, rfl, ?_, ?_, go_str (i := [c]) go2 hr2⟩)
        · rw [tx_len, ← cells_eq]; exact of_decide_eq_true cz
        · rw [tx_list]
          unfold atI
          rw [z1]; exact z2
      · exact go2.elim
    · split at go2
      · rename_i kvs q
        exact absurd ⟨d, h1, e, h2, kvs, r1, r2, q⟩ isd
      · split at go2
        · split at go2
          · rename_i z ez
            obtain ⟨p, vs, rfl, h3, h4⟩ := sq_ok hr2 rx2 ‹sqD h2 d = some _›
            obtain ⟨x, h5, h6⟩ := at_rps h4 ez
            rw [rv_int ry2]
            rcases h3 with h3 | h3
            · exact .inl ⟨p, vs, _, x, rfl, rfl, h3, h5, go_item go2 hr2 h6⟩
            · exact .inr (.inl ⟨p, vs, _, x, rfl, rfl, h3, h5, go_item go2 hr2 h6⟩)
          · exact go2.elim
        · exact go2.elim

/-! ### in -/
theorem flat_rp {ι : List Addr} {H : Hp} {d : D} {x : V} (r : RP v ι H d x) (hf : flatD d = true) : flatV x = true := by
  cases r <;> first | rfl | cases hf
theorem eqv_flat {ι : List Addr} {H : Hp} {d e : D} {x y : V} (r : RP v ι H d x) (q : RP v ι H e y) (hd : flatD d = true) (he : flatD e = true) : eqV x y = D.eqv d e := by
  cases r <;> cases q <;> first | rfl | exact (beq_dec _ _) | exact tx_beq _ _ | cases hd | cases he
theorem any_flat {ι : List Addr} {H : Hp} {d : D} {x : V} (r : RP v ι H d x) (hd : flatD d = true) : ∀ {ds : List D} {xs : List V}, RPs v ι H ds xs → ds.all flatD = true →
    xs.all flatV = true ∧ inV x xs = ds.any fun y => D.eqv y d
  | _, _, .nil, _ => ⟨rfl, rfl⟩
  | _, _, .cons q t, h => by
    rw [List.all_cons, Bool.and_eq_true] at h
    obtain ⟨h1, h2⟩ := any_flat r hd t h.2
    refine ⟨by rw [List.all_cons, flat_rp q h.1, h1]; rfl, ?_⟩
    unfold inV at h2 ⊢
    rw [List.any_cons, List.any_cons, h2, eqv_flat q r h.1 hd]
theorem any_dat {d : D} {k : Nat} (hd : D.dat k d = true) : ∀ {j : Nat} {ds : List D}, D.datL j ds = true → ((pyL ds).any fun z => PyData.eqv z (pyD d)) = ds.any fun y => D.eqv y d
  | _, [], _ => rfl
  | j, e :: ds, h => by
    have h1 := Bool.and_eq_true_iff.mp (show (D.dat j e && D.datL j ds) = true by rw [← h]; cases j <;> rfl)
    show (PyData.eqv (pyD e) (pyD d) || (pyL ds).any _) = _
    rw [List.any_cons, any_dat hd h1.2, eqv_py e d h1.1 hd]
def rIn4 (K : PySem.W.Frag) (n : Bool) : R2 := fun x y H Q => (∃ (c : Nat) (z : Str), x = .str ⟨#[c]⟩ ∧ y = .str z ∧ Q (.bl (if n then !decide (c ∈ z.cps.toList) else decide (c ∈ z.cps.toList))) H) ∨ (rIn K n x y H Q ∨
  ∃ d ds, Dp K H x d ∧ Dp K H y (.list ds) ∧ SeqAt.shaped d = true ∧ SeqAt.shaped (.list ds) = true ∧ Q (.bl (if n then !(ds.any fun z => PyData.eqv z d) else ds.any fun z => PyData.eqv z d)) H)
theorem o_in (hb : Cb X v W) : OpR X (compareOp .In) (rIn4 v.K false) := by
  rw [← hb.hK]
  exact opr_or op_in_sign (opr_or op_in_seq (op_inD (by have := hb.hu; omega)))
theorem o_notIn (hb : Cb X v W) : OpR X (compareOp .NotIn) (rIn4 v.K true) := by
  rw [← hb.hK]
  exact opr_or op_notIn_sign (opr_or op_notIn_seq (op_notInD (by have := hb.hu; omega)))
theorem in_val {o : Op} {n : Bool} (he : ∀ (d e : D) (h : Hh), opApp g.sub o [d, e] h = opIn h n d e) {ι : List Addr} {H H0 H1 : Hp} {h : Hh} {d e : D} {x y : V} {Q : VK} {E : XK} (hr : HR v ι H h) (rx : rrE v ι H0 H d x) (ry : rrE v ι H1 H e y)
    (go : Go (rrE v) v ι H (opApp g.sub o [d, e] h) Q E) (nd : dcD h e = none) : rIn4 v.K n x y H Q := by
  rw [he] at go
  unfold opIn at go
  split at go
  · split at go
    · rename_i c
      rw [rv_str rx, rv_str ry]
      refine .inl ⟨c, _, rfl, rfl, ?_⟩
      rw [tx_list]
      exact go_bl go hr
    · exact go.elim
  · rw [nd] at go
    simp only at go
    split at go
    · rename_i ys q
      split at go
      · rename_i c
        rw [Bool.and_eq_true] at c
        obtain ⟨p, vs, rfl, h3, h4⟩ := sq_ok hr ry q
        have rx2 : RP v ι H d x := rx.1.rp (by cases d <;> first | rfl | cases c.1)
        obtain ⟨h5, h6⟩ := any_flat rx2 c.1 h4 c.2
        refine .inr (.inl ⟨p, vs, rfl, h3, flat_rp rx2 c.1, h5, ?_⟩)
        rw [h6]
        exact go_bl go hr
      · split at go
        · rename_i ys2 q2
          split at go
          · rename_i c
            rw [Bool.and_eq_true, Bool.and_eq_true] at c
            obtain ⟨cp, c⟩ := c
            obtain ⟨p, vs, rfl, h3, h4⟩ := ls_ok hr ry q2
            have rx2 : RP v ι H d x := rx.1.rp cp
            refine .inr (.inr ⟨pyD d, pyL ys2, dp_rp rx2 c.1, .lst h3 (dp_rps h4 c.2), shaped_ok c.1, ?_, ?_⟩)
            · have := shaped_ok (d := .lst ys2) (show D.dat 60 (.lst ys2) = true from c.2)
              exact this
            · rw [any_dat c.1 c.2]
              exact go_bl go hr
          · exact go.elim
        · exact go.elim
    · exact go.elim
theorem c_inG {op : CmpOp} {o : Op} {n : Bool} (hb : Cb X v W) (he : ∀ (d e : D) (h : Hh), opApp g.sub o [d, e] h = opIn h n d e) (h1 : PC X op a b (tOp (rIn4 v.K n) (tE v g W e1) (tE v g W e2)))
    (h2 : PC X op a b (fun σ H Q => tE v g W e1 σ H fun y H1 => tE v g W e2 σ H1 fun x H2 => ∃ a o, x = .ref a ∧ DGet H2 a y o ∧ Q (.bl (if n then !o.isSome else o.isSome)) H2)) :
    PC X op a b (tE v g W (.op o [e1, e2])) := by
  refine PC.imp (PC.or h1 h2) fun σ H Q ⟨ι, δ, h, hr, hs, go⟩ => ?_
  rw [evE_op2] at go
  by_cases isd : ∃ d1 h1 d2 h2 kvs, evE g e1 δ h = .ok d1 h1 ∧ evE g e2 δ h1 = .ok d2 h2 ∧ dcD h2 d2 = some kvs
  · obtain ⟨d1, h1, d2, h2, kvs, q1, q2, q3⟩ := isd
    refine .inr ⟨ι, δ, h, hr, hs, Go.bind (SS := rrE v) go fun d h1' ι1 H1 x r1 ex1 hr1 rx1 go1 => ?_⟩
    rw [q1] at r1; cases r1
    refine ⟨ι1, δ, _, hr1, hs.mono ex1, Go.bind (SS := rrE v) go1 fun e h2' ι2 H2 y r2 ex2 hr2 ry2 go2 => ?_⟩
    rw [q2] at r2; cases r2
    obtain ⟨p, kvs', rfl, h3, h4⟩ := dc_ok hr2 ry2 q3
    rw [he] at go2
    unfold opIn at go2
    split at go2
    · cases q3
    · rw [q3] at go2
      simp only at go2
      split at go2
      · rename_i k ek
        have kk := val_k (k := k) h4
        have rx2 := rx1.mono ex2
        rw [ky_rr ek rx2]
        refine ⟨p, (valV kvs' (kyV k)), rfl, .inl ⟨kvs', kyV k, .inl h3, rfl, rfl⟩, ?_⟩
        have e : (valV kvs' (kyV k)).isSome = (kGet kvs k).isSome := by
          cases z : kGet kvs k with
          | none => rw [z] at kk; rw [kk]; rfl
          | some d => rw [z] at kk; obtain ⟨x, h5, _⟩ := kk; rw [h5]; rfl
        rw [e]
        exact go_bl go2 hr2
      · exact go2.elim
  · refine .inl ⟨ι, δ, h, hr, hs, Go.bind (SS := rrE v) go fun d h1 ι1 H1 x r1 ex1 hr1 rx1 go1 => ?_⟩
    refine ⟨ι1, δ, h1, hr1, hs.mono ex1, Go.bind (SS := rrE v) go1 fun e h2 ι2 H2 y r2 ex2 hr2 ry2 go2 => ?_⟩
    refine in_val he hr2 (rx1.mono ex2) ry2 go2 ?_
    cases q : dcD h2 e with
    | none => rfl
    | some kvs => exact absurd ⟨d, h1, e, h2, kvs, r1, r2, q⟩ isd
theorem c_in (hb : Cb X v W) (ha : PE X a (tE v g W e1)) (hi : PE X b (tE v g W e2)) : PC X .In a b (tE v g W (.op .isIn [e1, e2])) :=
  c_inG hb (fun _ _ _ => rfl) (pc_opr (o_in hb) ha hi) (PC.imp (pc_din (by have := hb.hu; omega) ha hi) fun σ H Q t => t)
theorem c_notIn (hb : Cb X v W) (ha : PE X a (tE v g W e1)) (hi : PE X b (tE v g W e2)) : PC X .NotIn a b (tE v g W (.op .notIn [e1, e2])) :=
  c_inG hb (fun _ _ _ => rfl) (pc_opr (o_notIn hb) ha hi) (PC.imp (pc_dnotin (by have := hb.hu; omega) ha hi) fun σ H Q t => t)

/-! ### slices -/
theorem clip_eq (n d : Nat) (o : Option Int) : clip n d o = HT.sIx n d o := by cases o <;> rfl
theorem RPs.cut {ι : List Addr} {H : Hp} {ds : List D} {vs : List V} (r : RPs v ι H ds vs) (lo hi : Option Int) : RPs v ι H (cut ds lo hi) (cutV vs lo hi) := by
  unfold Ivy.cut cutV
  rw [clip_eq, clip_eq, r.length]
  exact (r.drop _).take _
def rSl3 (K : PySem.W.Frag) : V → Option Int → Option Int → Hp → VK → Prop := fun x lo hi H Q => rSlS x lo hi H Q ∨ (rSlA K x lo hi H Q ∨ rSlL K x lo hi H Q)
theorem slr_or {r r' : V → Option Int → Option Int → Hp → VK → Prop} (h : SlR X r) (h' : SlR X r') : SlR X (fun x l u H Q => r x l u H Q ∨ r' x l u H Q) :=
  fun pins s σ H x v vl vu lo hi sl Q I rx is pl pu q => q.elim (h pins s σ H x v vl vu lo hi sl Q I rx is pl pu) (h' pins s σ H x v vl vu lo hi sl Q I rx is pl pu)
theorem o_sl (hb : Cb X v W) : SlR X (rSl3 v.K) := by
  rw [← hb.hK]
  exact slr_or sl_str (slr_or sl_tupA sl_list)
theorem v_sl {ι : List Addr} {H H0 : Hp} {h : Hh} {d : D} {x : V} {lo hi : Option Int} {Q : VK} {E : XK} (hr : HR v ι H h) (rx : rrE v ι H0 H d x) (go : Go (rrE v) v ι H (opSlice h d lo hi) Q E) : rSl3 v.K x lo hi H Q := by
  unfold opSlice at go
  split at go
  · obtain ⟨c, go⟩ := go_when go
    rw [rv_str rx]
    refine .inl ⟨_, rfl, ?_, ?_⟩
    · rw [tx_len, ← cells_eq]; exact of_decide_eq_true c
    · have e : ∀ z : Tx, cutS (tx z) lo hi = tx (Ivy.cut z lo hi) := fun z => by
        unfold cutS Ivy.cut
        rw [tx_list, tx_len, clip_eq, clip_eq]; rfl
      rw [e]
      exact go_str go hr
  · obtain ⟨a, vs, rfl, h1, h2⟩ := rv_tup rx
    refine .inr (.inl ⟨a, vs, rfl, h1, fun z => ?_, fun _ p hp => go_tup go hr (h2.cut lo hi) hp⟩)
    rename_i ds
    have e : Ivy.cut ds lo hi = ds := by
      unfold Ivy.cut
      rw [clip_eq, clip_eq, h2.length, z.1, z.2, List.drop_zero, Nat.sub_zero, ← h2.length, List.take_length]
    rw [e] at go
    exact go_tupS go hr h2 h1
  · split at go
    · obtain ⟨a, vs, rfl, h1, h2⟩ := ls_ok hr rx ‹lsD h d = some _›
      exact .inr (.inr ⟨a, vs, rfl, h1, fun p hp => go_fresh go hr (h2.cut lo hi) hp⟩)
    · exact go.elim
theorem e_sl00 {p2 : Pos} (hb : Cb X v W) (ha : PE X a (tE v g W e1)) : PE X (.Subscript a (.Slice none none none p2) pos) (tE v g W (.op (.slice false false) [e1])) :=
  PE.imp (pe_slice (o_sl hb) ha po_none po_none) fun σ H Q ⟨ι, δ, h, hr, hs, go⟩ => by
    rw [evE_op1] at go
    exact ⟨ι, δ, h, hr, hs, Go.bind (SS := rrE v) go fun d h1 ι1 H1 x r1 ex1 hr1 rx1 go1 => v_sl hr1 rx1 go1⟩
theorem e_sl10 {p2 : Pos} (hb : Cb X v W) (ha : PE X a (tE v g W e1)) (hi : PE X b (tE v g W e2)) : PE X (.Subscript a (.Slice (some b) none none p2) pos) (tE v g W (.op (.slice true false) [e1, e2])) :=
  PE.imp (pe_slice (o_sl hb) ha (po_some hi) po_none) fun σ H Q ⟨ι, δ, h, hr, hs, go⟩ => by
    rw [evE_op2] at go
    refine ⟨ι, δ, h, hr, hs, Go.bind (SS := rrE v) go fun d h1 ι1 H1 x r1 ex1 hr1 rx1 go1 => ?_⟩
    refine ⟨ι1, δ, h1, hr1, hs.mono ex1, Go.bind (SS := rrE v) go1 fun e h2 ι2 H2 y r2 ex2 hr2 ry2 go2 => ?_⟩
    cases e <;> first | exact go2.elim | skip
    exact ⟨_, rv_int ry2, v_sl hr2 (rx1.mono ex2) (show Go _ _ _ _ (opSlice h2 d (some _) none) _ _ from go2)⟩
theorem e_sl01 {p2 : Pos} (hb : Cb X v W) (ha : PE X a (tE v g W e1)) (hi : PE X b (tE v g W e2)) : PE X (.Subscript a (.Slice none (some b) none p2) pos) (tE v g W (.op (.slice false true) [e1, e2])) :=
  PE.imp (pe_slice (o_sl hb) ha po_none (po_some hi)) fun σ H Q ⟨ι, δ, h, hr, hs, go⟩ => by
    rw [evE_op2] at go
    refine ⟨ι, δ, h, hr, hs, Go.bind (SS := rrE v) go fun d h1 ι1 H1 x r1 ex1 hr1 rx1 go1 => ?_⟩
    refine ⟨ι1, δ, h1, hr1, hs.mono ex1, Go.bind (SS := rrE v) go1 fun e h2 ι2 H2 y r2 ex2 hr2 ry2 go2 => ?_⟩
    cases e <;> first | exact go2.elim | skip
    exact ⟨_, rv_int ry2, v_sl hr2 (rx1.mono ex2) (show Go _ _ _ _ (opSlice h2 d none (some _)) _ _ from go2)⟩
theorem ck_int (d : D) (h : Hh) : ckR 0 d h = (match d with
    | .int i => .ok (.int i) h
    | _ => .no) := by
  cases d <;> first | rfl | skip
  rename_i n
  show (match h[n]? with
    | some (.lst _) => whenR (0 == 1) (.ok (D.ref n) h)
    | some (.dct _) => whenR (0 == 2) (.ok (D.ref n) h)
    | _ => .no : R D) = _
  cases q : h[n]? with
  | none => rfl
  | some c => cases c <;> rfl
theorem e_sl11 {p2 : Pos} (hb : Cb X v W) (ha : PE X a (tE v g W e1)) (hi : PE X b (tE v g W e2)) (hj : PE X c (tE v g W e3)) : PE X (.Subscript a (.Slice (some b) (some c) none p2) pos) (tE v g W (.op (.slice true true) [e1, .ck 0 e2, e3])) :=
  PE.imp (pe_slice (o_sl hb) ha (po_some hi) (po_some hj)) fun σ H Q ⟨ι, δ, h, hr, hs, go⟩ => by
    rw [evE_op3] at go
    refine ⟨ι, δ, h, hr, hs, Go.bind (SS := rrE v) go fun d h1 ι1 H1 x r1 ex1 hr1 rx1 go1 => ?_⟩
    have e : evE g (.ck 0 e2) δ h1 = (evE g e2 δ h1).bind fun d h => ckR 0 d h := by simp only [evE]
    rw [e, R.assoc] at go1
    refine ⟨ι1, δ, h1, hr1, hs.mono ex1, Go.bind (SS := rrE v) go1 fun e h2 ι2 H2 y r2 ex2 hr2 ry2 go2 => ?_⟩
    rw [ck_int] at go2
    cases e <;> first | exact go2.elim | skip
    refine ⟨_, rv_int ry2, ι2, δ, h2, hr2, (hs.mono ex1).mono ex2, Go.bind (SS := rrE v) go2 fun w h3 ι3 H3 z r3 ex3 hr3 rz3 go3 => ?_⟩
    cases w <;> first | exact go3.elim | skip
    exact ⟨_, rv_int rz3, v_sl hr3 ((rx1.mono ex2).mono ex3) (show Go _ _ _ _ (opSlice h3 d (some _) (some _)) _ _ from go3)⟩
end
end Ivy

/-! Ivy, part F: displays, tests, calls of built-ins. -/
namespace Ivy
open PySem PySem.Spec PyProof.Rows L2

section
variable {X : Cx} {v : Ev} {g : G} {W : WX} {a b c : Expr} {e1 e2 e3 : Ex} {es rest : List Expr} {fs : List Ex} {pos : Pos} {t1 t2 : Te}

/-! ### lists of expressions -/
theorem rrL.mono {ι ι' : List Addr} {H0 H H' : Hp} (e : Ext ι H ι' H') : ∀ {ds : List D} {xs : List V}, rrL v ι H0 H ds xs → rrL v ι' H0 H' ds xs
  | _, _, .nil => .nil
  | _, _, .cons a t => .cons (a.mono e) (t.mono e)
theorem rrL.rps {ι : List Addr} {H0 H : Hp} : ∀ {ds : List D} {xs : List V}, rrL v ι H0 H ds xs → persL ds = true → RPs v ι H ds xs
  | _, _, .nil, _ => .nil
  | _, _, .cons a t, h => by
    unfold persL at h
    rw [List.all_cons, Bool.and_eq_true] at h
    exact .cons (a.1.rp h.1) (t.rps h.2)
theorem a_nil : PA X [] (tL v g W []) := PA.imp pa_nil fun σ H Q ⟨ι, δ, h, hr, hs, go⟩ => go.here hr .nil
theorem l_cons {σ : L2.St} {H : Hp} {Q : List V → Hp → Prop} (t : tL v g W (e1 :: fs) σ H Q) : tCons (tE v g W e1) (tL v g W fs) σ H Q := by
  obtain ⟨ι, δ, h, hr, hs, go⟩ := t
  have e : evEs g (e1 :: fs) δ h = (evE g e1 δ h).bind fun x h => (evEs g fs δ h).bind fun xs h => .ok (x :: xs) h := by simp only [evEs]
  rw [e] at go
  refine ⟨ι, δ, h, hr, hs, Go.bind (SS := rrE v) go fun d h1 ι1 H1 x r1 ex1 hr1 rx1 go1 => ?_⟩
  refine ⟨ι1, δ, h1, hr1, hs.mono ex1, Go.bind (SS := rrL v) go1 fun ds h2 ι2 H2 xs r2 ex2 hr2 rx2 _ => ?_⟩
  rw [r1, R.okb, r2, R.okb] at go
  exact go ι2 H2 _ (ex1.trans ex2) hr2 (.cons ⟨rx1.1.mono ex2, rx1.2⟩ (rx2.back fun p hp => ex1.back hr1 hp))
theorem a_cons (ha : PE X a (tE v g W e1)) (hr : PA X es (tL v g W fs)) (hs : starEach (a :: es) X.env = (false, eval a X.env) :: starEach es X.env := by rfl) : PA X (a :: es) (tL v g W (e1 :: fs)) :=
  PA.imp (pa_cons ha hr hs) fun σ H Q t => l_cons t

/-! ### displays -/
theorem evE_op {o : Op} {δ : Sl} {h : Hh} : evE g (.op o fs) δ h = (evEs g fs δ h).bind fun ds h => opApp g.sub o ds h := by simp only [evE]
/-- an operation over arguments: what a rule for it asks -/
def OpN (v : Ev) (g : G) (o : Op) (r : List V → Hp → VK → Prop) : Prop := ∀ (ι : List Addr) (H H0 : Hp) (h : Hh) (ds : List D) (xs : List V) (Q : VK) (E : XK), HR v ι H h → rrL v ι H0 H ds xs → Go (rrE v) v ι H (opApp g.sub o ds h) Q E → r xs H Q
theorem l_opN {o : Op} {r : List V → Hp → VK → Prop} (val : OpN v g o r) {σ : L2.St} {H : Hp} {Q : VK} (t : tE v g W (.op o fs) σ H Q) : tL v g W fs σ H fun xs H1 => r xs H1 Q := by
  obtain ⟨ι, δ, h, hr, hs, go⟩ := t
  rw [evE_op] at go
  exact ⟨ι, δ, h, hr, hs, Go.bind (SS := rrL v) go fun ds h1 ι1 H1 xs r1 ex1 hr1 rx1 go1 => val ι1 H1 H h1 ds xs Q _ hr1 rx1 go1⟩
theorem v_tup : OpN v g .tup (fun xs H Q => xs.length ≤ sizeLine ∧ ∀ p, H p = none → Q (.ref p) (upd H p (.tup xs))) := by
  intro ι H H0 h ds xs Q E hr rx go
  have go : Go (rrE v) v ι H (whenR (persL ds && decide (ds.length ≤ cells)) (.ok (.tup ds) h)) Q E := go
  obtain ⟨c, go⟩ := go_when go
  rw [Bool.and_eq_true] at c
  have r := rx.rps c.1
  refine ⟨?_, fun p hp => go_tup go hr r hp⟩
  rw [← r.length, ← cells_eq]; exact of_decide_eq_true c.2
theorem v_lst : OpN v g .lst (fun xs H Q => xs.length ≤ sizeLine ∧ ∀ p, H p = none → Q (.ref p) (upd H p (.lst xs))) := by
  intro ι H H0 h ds xs Q E hr rx go
  have go : Go (rrE v) v ι H (whenR (persL ds && decide (ds.length ≤ cells)) (.ok (.lst ds) h)) Q E := go
  obtain ⟨c, go⟩ := go_when go
  rw [Bool.and_eq_true] at c
  have r := rx.rps c.1
  refine ⟨?_, fun p hp => go_fresh go hr r hp⟩
  rw [← r.length, ← cells_eq]; exact of_decide_eq_true c.2
theorem e_tup {j : Nat} (h : PA X es (tL v g W fs)) : PE X (.Tuple es j pos) (tE v g W (.op .tup fs)) := PE.imp (pe_tup h) fun σ H Q t => l_opN v_tup t
theorem e_lst (h : PA X es (tL v g W fs)) : PE X (.List es pos) (tE v g W (.op .lst fs)) := PE.imp (pe_lst h) fun σ H Q t => l_opN v_lst t

/-! ### a fresh list or dict gets its cell; a checked int -/
theorem l_box {σ : L2.St} {H : Hp} {Q : VK} (t : tE v g W (.box e1) σ H Q) : tE v g W e1 σ H Q := by
  obtain ⟨ι, δ, h, hr, hs, go⟩ := t
  have e : evE g (.box e1) δ h = (evE g e1 δ h).bind fun d h => boxR d h := by simp only [evE]
  rw [e] at go
  refine ⟨ι, δ, h, hr, hs, ?_⟩
  cases q : evE g e1 δ h with
  | no => rw [q] at go; exact go
  | err c fs h' => rw [q] at go; exact go
  | ok d h' =>
    rw [q] at go
    intro ι' H' x ex hr' rx
    have go : Go (rrE v) v ι H (boxR d h') Q _ := go
    cases d with
    | lst xs =>
      obtain ⟨p, vs, rfl, h2, h3, h4⟩ := (show RV v ι' H' (.lst xs) x from rx.1)
      refine go (ι' ++ [p]) H' _ (ext_box ex h2 (rx.2 p rfl)) (hr'.box h2 ⟨vs, h3, h4⟩) ⟨.ref ?_, trivial⟩
      rw [← hr'.len]; simp
    | dct xs =>
      obtain ⟨p, vs, rfl, h2, h3, h4⟩ := (show RV v ι' H' (.dct xs) x from rx.1)
      refine go (ι' ++ [p]) H' _ (ext_box ex h2 (rx.2 p rfl)) (hr'.box h2 ⟨vs, h3, h4⟩) ⟨.ref ?_, trivial⟩
      rw [← hr'.len]; simp
    | _ => exact go ι' H' x ex hr' rx
theorem e_box (h : PE X a (tE v g W e1)) : PE X a (tE v g W (.box e1)) := PE.imp h fun σ H Q t => l_box t

/-! ### and, or, not, if, chains: as values -/
theorem evE_and {δ : Sl} {h : Hh} : evE g (.and e1 e2) δ h = (evE g e1 δ h).bind fun x h => match x with
    | .bl k => if k = true then evE g e2 δ h else .ok (.bl false) h
    | _ => .no := by simp only [evE] <;> rfl
theorem evE_or {δ : Sl} {h : Hh} : evE g (.or e1 e2) δ h = (evE g e1 δ h).bind fun x h => match x with
    | .bl k => if k = true then .ok (.bl true) h else evE g e2 δ h
    | _ => .no := by simp only [evE] <;> rfl
theorem e_and (ha : PE X a (tE v g W e1)) (hb : PE X (.BoolOp .And (b :: rest) pos) (tE v g W e2)) : PE X (.BoolOp .And (a :: b :: rest) pos) (tE v g W (.and e1 e2)) :=
  PE.imp (pe_and ha hb) fun σ H Q ⟨ι, δ, h, hr, hs, go⟩ => by
    rw [evE_and] at go
    refine ⟨ι, δ, h, hr, hs, Go.bind (SS := rrE v) go fun d h1 ι1 H1 x r1 ex1 hr1 rx1 go1 => ?_⟩
    cases d <;> first | exact go1.elim | skip
    rename_i k
    refine ⟨k, rv_bl rx1, ?_⟩
    cases k with
    | true => exact ⟨ι1, δ, h1, hr1, hs.mono ex1, go1⟩
    | false => exact go_bl (show Go _ _ _ _ (blR false h1) _ _ from go1) hr1
theorem e_or (ha : PE X a (tE v g W e1)) (hb : PE X (.BoolOp .Or (b :: rest) pos) (tE v g W e2)) : PE X (.BoolOp .Or (a :: b :: rest) pos) (tE v g W (.or e1 e2)) :=
  PE.imp (pe_or ha hb) fun σ H Q ⟨ι, δ, h, hr, hs, go⟩ => by
    rw [evE_or] at go
    refine ⟨ι, δ, h, hr, hs, Go.bind (SS := rrE v) go fun d h1 ι1 H1 x r1 ex1 hr1 rx1 go1 => ?_⟩
    cases d <;> first | exact go1.elim | skip
    rename_i k
    refine ⟨k, rv_bl rx1, ?_⟩
    cases k with
    | true => exact go_bl (show Go _ _ _ _ (blR true h1) _ _ from go1) hr1
    | false => exact ⟨ι1, δ, h1, hr1, hs.mono ex1, go1⟩
theorem e_one {op : PySem.BoolOp} (h : PE X a (tE v g W e1)) : PE X (.BoolOp op [a] pos) (tE v g W e1) := pe_one h
theorem tru_ok2 {ι : List Addr} {H H0 : Hp} {h : Hh} {d : D} {x : V} {Q : Bool → Hp → Prop} {E : XK} (hb : Cb X v W) (hr : HR v ι H h) (rx : rrE v ι H0 H d x) (go : Go rrB v ι H (truD h d) Q E) : ∃ k, TruV X.K x H k ∧ Q k H := by
  rw [hb.hK]
  have seq : ∀ {d : D}, rrE v ι H0 H d x → (∀ ds, sqD h d = some ds → Go rrB v ι H (.ok (!ds.isEmpty) h) Q E) → (sqD h d = none → ∀ ds, dcD h d = some ds → Go rrB v ι H (.ok (!ds.isEmpty) h) Q E) → (sqD h d = none → dcD h d = none → False) → ∃ k, TruV v.K x H k ∧ Q k H := by
    intro d rx h1 h2 h3
    cases q : sqD h d with
    | some ds =>
      obtain ⟨p, vs, rfl, s, r⟩ := sq_ok hr rx q
      have e : (!ds.isEmpty) = !vs.isEmpty := by cases r <;> rfl
      refine ⟨!vs.isEmpty, ?_, (by rw [← e]; exact (h1 ds q).here hr rfl)⟩
      rcases s with s | s
      · exact .inl ⟨vs, s, rfl⟩
      · exact .inr (.inl ⟨vs, s, rfl⟩)
    | none =>
      cases q2 : dcD h d with
      | some ds =>
        obtain ⟨p, vs, rfl, s, r⟩ := dc_ok hr rx q2
        have e : (!ds.isEmpty) = !vs.isEmpty := by
          have := r.1
          cases ds <;> cases vs <;> first | rfl | simp at this
        exact ⟨!vs.isEmpty, .inr (.inr ⟨vs, s, rfl⟩), (by rw [← e]; exact (h2 q ds q2).here hr rfl)⟩
      | none => exact (h3 q q2).elim
  cases d with
  | non => rw [rv_non rx]; exact ⟨false, rfl, go.here hr rfl⟩
  | bl k => rw [rv_bl rx]; exact ⟨k, rfl, go.here hr rfl⟩
  | int i => rw [rv_int rx]; exact ⟨_, rfl, go.here hr rfl⟩
  | str x =>
    obtain ⟨c, go⟩ := go_when (show Go rrB v ι H (whenR _ (.ok (!x.isEmpty) h)) Q E from go)
    rw [rv_str rx]
    refine ⟨!x.isEmpty, ⟨?_, ?_⟩, go.here hr rfl⟩
    · rw [tx_len, ← cells_eq]; exact of_decide_eq_true c
    · rw [tx_len]; cases x <;> simp <;> omega
  | exc c fs => exact go.elim
  | _ =>
    refine seq rx (fun ds q => ?_) (fun q1 ds q => ?_) fun q1 q2 => ?_
    · unfold truD at go; simp only [q] at go; exact go
    · unfold truD at go; simp only [q1, q] at go; exact go
    · unfold truD at go; simp only [q1, q2] at go; exact go
theorem e_notE (hb : Cb X v W) (h : PE X a (tE v g W e1)) : PE X (.UnaryOp .Not a pos) (tE v g W (.not (.ex e1))) :=
  PE.imp (pe_notT h) fun σ H Q ⟨ι, δ, h, hr, hs, go⟩ => by
    have e : evE g (.not (.ex e1)) δ h = (evE g e1 δ h).bind fun x h => (truD h x).bind fun k h => .ok (.bl (!k)) h := by simp only [evE, evT, R.assoc]
    rw [e] at go
    refine ⟨ι, δ, h, hr, hs, Go.bind (SS := rrE v) go fun d h1 ι1 H1 x r1 ex1 hr1 rx1 go1 => ?_⟩
    exact tru_ok2 (E := fun c d H' => W c d σ H') hb hr1 rx1 (Go.bind (SS := rrB) go1 fun k h2 ι2 H2 z r2 ex2 hr2 rz go2 => by
      cases (show z = k from rz)
      exact go_bl (show Go _ _ _ _ (blR (!k) h2) _ _ from go2) hr2)
theorem e_ifx {c : Expr} (hc : PT X c (tT v g W t1)) (ha : PE X a (tE v g W e1)) (hb : PE X b (tE v g W e2)) : PE X (.IfExp c a b pos) (tE v g W (.ifx t1 e1 e2)) :=
  PE.imp (pe_ifExp hc ha hb) fun σ H Q ⟨ι, δ, h, hr, hs, go⟩ => by
    have e : evE g (.ifx t1 e1 e2) δ h = (evT g t1 δ h).bind fun k h => if k = true then evE g e1 δ h else evE g e2 δ h := by simp only [evE]
    rw [e] at go
    refine ⟨ι, δ, h, hr, hs, Go.bind (SS := rrB) go fun d h1 ι1 H1 x r1 ex1 hr1 rx1 go1 => ?_⟩
    cases (show x = d from rx1)
    cases d with
    | true => exact ⟨ι1, δ, h1, hr1, hs.mono ex1, go1⟩
    | false => exact ⟨ι1, δ, h1, hr1, hs.mono ex1, go1⟩
theorem l_chain {o o' : Op} {r r' : R2} (val : Op2 v g o r) (val' : Op2 v g o' r') {σ : L2.St} {H : Hp} {Q : VK} (t : tE v g W (.chain o o' e1 e2 e3) σ H Q) : tChain r r' (tE v g W e1) (tE v g W e2) (tE v g W e3) σ H Q := by
  obtain ⟨ι, δ, h, hr, hs, go⟩ := t
  have e : evE g (.chain o o' e1 e2 e3) δ h = (evE g e1 δ h).bind fun x h => (evE g e2 δ h).bind fun y h => (opApp g.sub o [x, y] h).bind fun z h => match z with
    | .bl k => if k = true then (evE g e3 δ h).bind fun w h => opApp g.sub o' [y, w] h else .ok (.bl false) h
    | _ => .no := by simp only [evE] <;> rfl
  rw [e] at go
  refine ⟨ι, δ, h, hr, hs, Go.bind (SS := rrE v) go fun d h1 ι1 H1 x r1 ex1 hr1 rx1 go1 => ?_⟩
  refine ⟨ι1, δ, h1, hr1, hs.mono ex1, Go.bind (SS := rrE v) go1 fun e h2 ι2 H2 y r2 ex2 hr2 ry2 go2 => ?_⟩
  refine val ι2 H2 H H1 h2 d e x y _ _ hr2 (rx1.mono ex2) ry2 (Go.bind (SS := rrE v) go2 fun z h3 ι3 H3 u r3 ex3 hr3 rz3 go3 => ?_)
  cases z <;> first | exact go3.elim | skip
  rename_i k
  refine ⟨k, rv_bl rz3, ?_⟩
  cases k with
  | true =>
    simp only [↓reduceIte] at go3 ⊢
    refine ⟨ι3, δ, h3, hr3, ((hs.mono ex1).mono ex2).mono ex3, Go.bind (SS := rrE v) go3 fun w h4 ι4 H4 q r4 ex4 hr4 rw4 go4 => ?_⟩
    exact val' ι4 H4 H1 H3 h4 e w y q Q _ hr4 ((ry2.mono ex3).mono ex4) rw4 go4
  | false => exact go_bl (show Go _ _ _ _ (blR false h3) _ _ from go3) hr3
theorem e_chain {op op' : CmpOp} {o o' : Op} {r r' : R2} (ho : OpR X (compareOp op) r) (ho' : OpR X (compareOp op') r') (val : Op2 v g o r) (val' : Op2 v g o' r') (ha : PE X a (tE v g W e1)) (hb : PE X b (tE v g W e2)) (hc : PE X c (tE v g W e3))
    (hm : lastMarks [op, op'] [b, c] = false := by with_unfolding_all rfl) : PE X (.Compare a [op, op'] [b, c] pos) (tE v g W (.chain o o' e1 e2 e3)) := PE.imp (pe_chain ho ho' ha hb hc hm) fun σ H Q t => l_chain val val' t

/-! ### tests -/
theorem t_ex (hb : Cb X v W) (ha : PE X a (tE v g W e1)) (he : ∀ whole, isTrue a X.env whole = (do let v ← whole; standAt a.pos; holding [v] (truthy v)) := by intro _; rfl) : PT X a (tT v g W (.ex e1)) :=
  PT.imp (pt_truth ha he) fun σ H Q ⟨ι, δ, h, hr, hs, go⟩ => by
    have e : evT g (.ex e1) δ h = (evE g e1 δ h).bind fun x h => truD h x := by simp only [evT]
    rw [e] at go
    exact ⟨ι, δ, h, hr, hs, Go.bind (SS := rrE v) go fun d h1 ι1 H1 x r1 ex1 hr1 rx1 go1 => tru_ok2 hb hr1 rx1 go1⟩
/-- an operation that answers with a bool -/
def OpB (g : G) (o : Op) : Prop := ∀ ds h d h', opApp g.sub o ds h = .ok d h' → ∃ k, d = .bl k
theorem t_c {op : CmpOp} {o : Op} (ob : OpB g o) (h : PC X op a b (tE v g W (.op o fs))) (h1 : behindInMarks op b = false := by first | exact nobehind _ (by decide) (by decide) | rfl) : PT X (.Compare a [op] [b] pos) (tT v g W (.ex (.op o fs))) :=
  PT.imp (pt_cmp h h1) fun σ H Q ⟨ι, δ, h, hr, hs, go⟩ => by
    have e : evT g (.ex (.op o fs)) δ h = (evE g (.op o fs) δ h).bind fun x h => truD h x := by simp only [evT]
    rw [e] at go
    refine ⟨ι, δ, h, hr, hs, Go.bind (SS := rrE v) go fun d h1 ι1 H1 x r1 ex1 hr1 rx1 go1 => ?_⟩
    have ek : ∃ k, d = .bl k := by
      rw [evE_op] at r1
      cases q : evEs g fs δ h with
      | ok ds h2 => rw [q] at r1; exact ob ds h2 d h1 r1
      | err _ _ _ => rw [q] at r1; cases r1
      | no => rw [q] at r1; cases r1
    obtain ⟨k, rfl⟩ := ek
    exact ⟨k, rv_bl rx1, Go.here (RR := rrB) (show Go rrB v ι1 H1 (.ok k h1) Q _ from go1) hr1 rfl⟩
theorem t_chain {op op' : CmpOp} {o o' : Op} {r r' : R2} (ob : OpB g o') (ho : OpR X (compareOp op) r) (ho' : OpR X (compareOp op') r') (val : Op2 v g o r) (val' : Op2 v g o' r') (ha : PE X a (tE v g W e1)) (hb : PE X b (tE v g W e2)) (hc : PE X c (tE v g W e3))
    (hm : lastMarks [op, op'] [b, c] = false := by with_unfolding_all rfl) : PT X (.Compare a [op, op'] [b, c] pos) (tT v g W (.ex (.chain o o' e1 e2 e3))) :=
  PT.imp (pt_chain ho ho' ha hb hc hm) fun σ H Q ⟨ι, δ, h, hr, hs, go⟩ => by
    have e : evT g (.ex (.chain o o' e1 e2 e3)) δ h = (evE g (.chain o o' e1 e2 e3) δ h).bind fun x h => truD h x := by simp only [evT]
    rw [e] at go
    refine l_chain val val' ⟨ι, δ, h, hr, hs, Go.bind (SS := rrE v) go fun d h1 ι1 H1 x r1 ex1 hr1 rx1 go1 => ?_⟩
    have ek : ∃ k, d = .bl k := by
      have e : evE g (.chain o o' e1 e2 e3) δ h = (evE g e1 δ h).bind fun x h => (evE g e2 δ h).bind fun y h => (opApp g.sub o [x, y] h).bind fun z h => match z with
        | .bl k => if k = true then (evE g e3 δ h).bind fun w h => opApp g.sub o' [y, w] h else .ok (.bl false) h
        | _ => .no := by simp only [evE] <;> rfl
      rw [e] at r1
      cases q : evE g e1 δ h with
      | err _ _ _ => rw [q] at r1; cases r1
      | no => rw [q] at r1; cases r1
      | ok y1 g1 =>
      rw [q, R.okb] at r1
      cases q : evE g e2 δ g1 with
      | err _ _ _ => rw [q] at r1; cases r1
      | no => rw [q] at r1; cases r1
      | ok y2 g2 =>
      rw [q, R.okb] at r1
      cases q : opApp g.sub o [y1, y2] g2 with
      | err _ _ _ => rw [q] at r1; cases r1
      | no => rw [q] at r1; cases r1
      | ok y3 g3 =>
      rw [q, R.okb] at r1
      cases y3 <;> first | cases r1 | skip
      rename_i k
      cases k with
      | false => cases r1; exact ⟨_, rfl⟩
      | true =>
        cases q : evE g e3 δ g3 with
        | err _ _ _ => simp only [q, if_true] at r1; cases r1
        | no => simp only [q, if_true] at r1; cases r1
        | ok y4 g4 => simp only [q, if_true] at r1; exact ob _ _ _ _ r1
    obtain ⟨k, rfl⟩ := ek
    exact ⟨k, rv_bl rx1, Go.here (RR := rrB) (show Go rrB v ι1 H1 (.ok k h1) Q _ from go1) hr1 rfl⟩
theorem w_one {op : PySem.BoolOp} (h : PT X a (tT v g W t1)) : PW X (.BoolOp op [a] pos) (tT v g W t1) := by
  cases op with
  | And => exact pw_and1 h
  | Or => exact pw_or1 h
theorem PW.imp {X : Cx} {e : Expr} {t t' : TT} (h : PW X e t) (k : ∀ σ H Q, t' σ H Q → t σ H Q) : PW X e t' := ⟨fun w pins s σ H Q I q => h.run w pins s σ H Q I (k σ H Q q)⟩
theorem w_and (ha : PT X a (tT v g W t1)) (hb : PW X (.BoolOp .And (b :: rest) pos) (tT v g W t2)) : PW X (.BoolOp .And (a :: b :: rest) pos) (tT v g W (.and t1 t2)) :=
  PW.imp (pw_and ha hb) fun σ H Q ⟨ι, δ, h, hr, hs, go⟩ => by
    have e : evT g (.and t1 t2) δ h = (evT g t1 δ h).bind fun k h => if k = true then evT g t2 δ h else .ok false h := by simp only [evT]
    rw [e] at go
    refine ⟨ι, δ, h, hr, hs, Go.bind (SS := rrB) go fun d h1 ι1 H1 x r1 ex1 hr1 rx1 go1 => ?_⟩
    cases (show x = d from rx1)
    cases d with
    | true => exact ⟨ι1, δ, h1, hr1, hs.mono ex1, go1⟩
    | false => exact Go.here (RR := rrB) (show Go rrB v ι1 H1 (.ok false h1) Q _ from go1) hr1 rfl
theorem w_or (ha : PT X a (tT v g W t1)) (hb : PW X (.BoolOp .Or (b :: rest) pos) (tT v g W t2)) : PW X (.BoolOp .Or (a :: b :: rest) pos) (tT v g W (.or t1 t2)) :=
  PW.imp (pw_or ha hb) fun σ H Q ⟨ι, δ, h, hr, hs, go⟩ => by
    have e : evT g (.or t1 t2) δ h = (evT g t1 δ h).bind fun k h => if k = true then .ok true h else evT g t2 δ h := by simp only [evT]
    rw [e] at go
    refine ⟨ι, δ, h, hr, hs, Go.bind (SS := rrB) go fun d h1 ι1 H1 x r1 ex1 hr1 rx1 go1 => ?_⟩
    cases (show x = d from rx1)
    cases d with
    | true => exact Go.here (RR := rrB) (show Go rrB v ι1 H1 (.ok true h1) Q _ from go1) hr1 rfl
    | false => exact ⟨ι1, δ, h1, hr1, hs.mono ex1, go1⟩
theorem t_w (h : PW X a (tT v g W t1)) : PT X a (tT v g W t1) := h.pt
theorem t_not (ha : PT X a (tT v g W t1)) : PT X (.UnaryOp .Not a pos) (tT v g W (.not t1)) :=
  PT.imp (pt_not ha) fun σ H Q ⟨ι, δ, h, hr, hs, go⟩ => by
    have e : evT g (.not t1) δ h = (evT g t1 δ h).bind fun k h => .ok (!k) h := by simp only [evT]
    rw [e] at go
    refine ⟨ι, δ, h, hr, hs, Go.bind (SS := rrB) go fun d h1 ι1 H1 x r1 ex1 hr1 rx1 go1 => ?_⟩
    cases (show x = d from rx1)
    exact Go.here (RR := rrB) go1 hr1 rfl
end
end Ivy

/-! Ivy, part G: calls of built-ins. -/
namespace Ivy
open PySem PySem.Spec PyProof.Rows L2

section
variable {X : Cx} {v : Ev} {g : G} {W : WX} {a b c : Expr} {e1 e2 e3 : Ex} {es rest : List Expr} {fs : List Ex} {pos p : Pos} {t1 t2 : Te} {o : Op} {x : Str} {id : String}

theorem e_callB {r : List V → Hp → VK → Prop} (hc : CallR X (.builtin id) r) (val : OpN v g o r) (hg : Gl X x) (hm : X.mg x = none) (hv : bootBuiltins x = some (.builtin id)) (ha : PA X (a :: es) (tL v g W fs))
    (hn : x ≠ "__name__" := by decide) (hdb : (x == ("__debug__" : Str)) = false := by decide) (he : starEach (a :: es) X.env = (false, eval a X.env) :: starEach es X.env := by rfl) (hpl : (backTo pos (starEach es X.env)).any (·.1) = false := by rfl) :
    PE X (.Call (.Name x p) (a :: es) [] pos) (tE v g W (.op o fs)) := PE.imp (pe_callB hc hg hm hv ha hn hdb he hpl) fun σ H Q t => l_opN val t
theorem e_callT {r : List V → Hp → VK → Prop} (hc : CallR X (.type id) r) (val : OpN v g o r) (hg : Gl X x) (hm : X.mg x = none) (hv : bootBuiltins x = some (.type id)) (ha : PA X (a :: es) (tL v g W fs))
    (hn : x ≠ "__name__" := by decide) (hdb : (x == ("__debug__" : Str)) = false := by decide) (he : starEach (a :: es) X.env = (false, eval a X.env) :: starEach es X.env := by rfl) (hpl : (backTo pos (starEach es X.env)).any (·.1) = false := by rfl) :
    PE X (.Call (.Name x p) (a :: es) [] pos) (tE v g W (.op o fs)) := PE.imp (pe_callTy hc hg hm hv ha hn hdb he hpl) fun σ H Q t => l_opN val t

/-- one argument -/
theorem one_arg' {r : List V → Hp → VK → Prop} (h0 : ∀ h, opApp g.sub o [] h = .no) (h2 : ∀ d e ds h, opApp g.sub o (d :: e :: ds) h = .no)
    (h1 : ∀ (ι : List Addr) (H H0 : Hp) (h : Hh) (d : D) (x : V) (Q : VK) (E : XK), HR v ι H h → rrE v ι H0 H d x → Go (rrE v) v ι H (opApp g.sub o [d] h) Q E → r [x] H Q) : OpN v g o r := by
  intro ι H H0 h ds xs Q E hr rx go
  cases rx with
  | nil => rw [h0] at go; exact go.elim
  | cons r1 t =>
    cases t with
    | nil => exact h1 ι H H0 h _ _ Q E hr r1 go
    | cons _ _ => rw [h2] at go; exact go.elim
theorem n_len (hK : X.K = v.K) : OpN v g .len (fun xs H Q => (∃ x n, xs = [x] ∧ LenV X.K x H n ∧ Q (.int n) H) ∨ ∃ a kvs, xs = [V.ref a] ∧ H a = some (.dK kvs) ∧ Q (.int kvs.length) H) := by
  refine one_arg' (fun _ => rfl) (fun d _ _ _ => by cases d <;> rfl) fun ι H H0 h d x Q E hr rx go => ?_
  rw [hK]
  have seq : (opApp g.sub .len [d] h = match sqD h d with
    | some xs => intR xs.length h
    | none => match dcD h d with
      | some kvs => intR kvs.length h
      | none => .no) → (∃ z n, [x] = [z] ∧ LenV v.K z H n ∧ Q (.int n) H) ∨ ∃ a kvs, [x] = [V.ref a] ∧ H a = some (.dK kvs) ∧ Q (.int kvs.length) H := fun e => by
    rw [e] at go
    split at go
    · rename_i ds q
      obtain ⟨p, vs, rfl, s, r⟩ := sq_ok hr rx q
      refine .inl ⟨_, vs.length, rfl, ?_, by rw [← r.length]; exact go_int go hr⟩
      rcases s with s | s
      · exact .inl ⟨vs, s, rfl⟩
      · exact .inr ⟨vs, s, rfl⟩
    · split at go
      · rename_i ds q
        obtain ⟨p, vs, rfl, s, r⟩ := dc_ok hr rx q
        have e : ds.length = vs.length := by
          have := congrArg List.length r.1
          simpa using this.symm
        exact .inr ⟨p, vs, rfl, s, by rw [← e]; exact go_int go hr⟩
      · exact go.elim
  cases d with
  | str y =>
    obtain ⟨c, go⟩ := go_when (show Go (rrE v) v ι H (whenR _ (intR y.length h)) Q E from go)
    rw [rv_str rx]
    refine .inl ⟨_, y.length, rfl, ⟨?_, (tx_len y).symm⟩, go_int go hr⟩
    rw [tx_len, ← cells_eq]; exact of_decide_eq_true c
  | _ => exact seq rfl
theorem n_abs : OpN v g .abs (fun xs H Q => ∃ i, xs = [.int i] ∧ Q (.int (if i < 0 then -i else i)) H) := by
  refine one_arg' (fun _ => rfl) (fun d _ _ _ => by cases d <;> rfl) fun ι H H0 h d x Q E hr rx go => ?_
  cases d <;> first | exact go.elim | skip
  rw [rv_int rx]
  exact ⟨_, rfl, go_int (show Go _ _ _ _ (intR _ _) _ _ from go) hr⟩
theorem n_bool : OpN v g .bool (fun xs H Q => (∃ i, xs = [.int i] ∧ Q (.bl (i != 0)) H) ∨ ∃ k, xs = [.bl k] ∧ Q (.bl k) H) := by
  refine one_arg' (fun _ => rfl) (fun d _ _ _ => by cases d <;> rfl) fun ι H H0 h d x Q E hr rx go => ?_
  cases d <;> first | exact go.elim | skip
  · rw [rv_bl rx]
    exact .inr ⟨_, rfl, go_bl (show Go _ _ _ _ (blR _ _) _ _ from go) hr⟩
  · rw [rv_int rx]
    exact .inl ⟨_, rfl, go_bl (show Go _ _ _ _ (blR _ _) _ _ from go) hr⟩
theorem n_int1 : OpN v g .int (fun xs H Q => ((∃ i, xs = [.int i] ∧ Q (.int i) H) ∨ ∃ k, xs = [.bl k] ∧ Q (.int (if k then 1 else 0)) H) ∨ ∃ (y : Tx) (i : Int), xs = [.str (tx y)] ∧ y.length ≤ 640 ∧ intT y = some i ∧ Q (.int i) H) := by
  refine one_arg' (fun _ => rfl) (fun d _ _ _ => by cases d <;> rfl) fun ι H H0 h d x Q E hr rx go => ?_
  cases d <;> first | exact go.elim | skip
  · rw [rv_bl rx]
    exact .inl (.inr ⟨_, rfl, go_int (show Go _ _ _ _ (intR _ _) _ _ from go) hr⟩)
  · rw [rv_int rx]
    exact .inl (.inl ⟨_, rfl, go_int (show Go _ _ _ _ (intR _ _) _ _ from go) hr⟩)
  · rename_i y
    rw [rv_str rx]
    obtain ⟨c, go⟩ := go_when (show Go (rrE v) v ι H (whenR _ (match intT y with
      | some i => intR i h
      | none => .no)) Q E from go)
    split at go
    · rename_i i q
      exact .inr ⟨y, i, rfl, of_decide_eq_true c, q, go_int go hr⟩
    · exact go.elim
/-! ### str of an int -/
theorem str_ext {a b : Str} (h : a.cps.toList = b.cps.toList) : a = b := by
  cases a; cases b
  simp only [Str.mk.injEq]
  exact Array.toList_inj.mp h
theorem str_of_string (s : String) : (Str.ofString s).cps.toList = s.toList.map Char.toNat := by
  rw [Str.ofString_eq_toList]
theorem strI_eq (i : Int) : Str.ofString (toString i) = tx (strI i) := by
  apply str_ext
  rw [str_of_string, tx_list, Int.toString_eq_repr, Int.repr_eq_if]
  unfold strI
  by_cases h : 0 ≤ i
  · have e : i.toNat = i.natAbs := by omega
    rw [if_pos h, if_neg (by omega), e, Nat.toList_repr]
  · have e : (-i).toNat = i.natAbs := by omega
    rw [if_neg h, if_pos (by omega), e, String.toList_append, List.map_append, Nat.toList_repr]
    rfl
theorem n_str : OpN v g .str (fun xs H Q => (∃ i : Int, xs = [.int i] ∧ i.natAbs.log2 < 1920 ∧ Q (.str (Str.ofString (toString i))) H) ∨ ∃ a, xs = [.str a] ∧ Q (.str a) H) := by
  refine one_arg' (fun _ => rfl) (fun d _ _ _ => by cases d <;> rfl) fun ι H H0 h d x Q E hr rx go => ?_
  cases d <;> first | exact go.elim | skip
  · rename_i i
    rw [rv_int rx]
    obtain ⟨c, go⟩ := go_when (show Go (rrE v) v ι H (whenR _ (.ok (.str (strI i)) h)) Q E from go)
    refine .inl ⟨i, rfl, of_decide_eq_true c, ?_⟩
    rw [strI_eq]
    exact go_str go hr
  · rw [rv_str rx]
    exact .inr ⟨_, rfl, go_str go hr⟩
theorem c_str : CallR X (.type "str") (fun xs H Q => (∃ i : Int, xs = [.int i] ∧ i.natAbs.log2 < 1920 ∧ Q (.str (Str.ofString (toString i))) H) ∨ ∃ a, xs = [.str a] ∧ Q (.str a) H) := CallR.or call_str_int SkE.call_str_str
theorem c_int : CallR X (.type "int") (fun xs H Q => ((∃ i, xs = [.int i] ∧ Q (.int i) H) ∨ ∃ k, xs = [.bl k] ∧ Q (.int (if k then 1 else 0)) H) ∨ ∃ (y : Tx) (i : Int), xs = [.str (tx y)] ∧ y.length ≤ 640 ∧ intT y = some i ∧ Q (.int i) H) :=
  CallR.or call_int1 fun pins s σ H xs us Q I rs ⟨y, i, e, h1, h2, q⟩ => call_int_str pins s σ H xs us Q I rs ⟨tx y, i, e, h2, by rw [tx_len]; exact h1, q⟩
theorem c_len : CallR X (.builtin "len") (fun xs H Q => (∃ x n, xs = [x] ∧ LenV X.K x H n ∧ Q (.int n) H) ∨ ∃ a kvs, xs = [V.ref a] ∧ H a = some (.dK kvs) ∧ Q (.int kvs.length) H) := CallR.or call_len call_lenD

/-! ### lists out of lists -/
theorem n_list (hK : X.K = v.K) : OpN v g .list (fun xs H Q => ∃ p ys, xs = [.ref p] ∧ (SqL X.K H p ys ∨ SqT X.K H p ys) ∧ ∀ l, H l = none → Q (.ref l) (upd H l (.lst ys))) := by
  rw [hK]
  refine one_arg' (fun _ => rfl) (fun d _ _ _ => by cases d <;> rfl) fun ι H H0 h d x Q E hr rx go => ?_
  have go : Go (rrE v) v ι H (match sqD h d with
    | some xs => .ok (.lst xs) h
    | none => .no) Q E := go
  split at go
  · rename_i ds q
    obtain ⟨p, vs, rfl, s, r⟩ := sq_ok hr rx q
    exact ⟨p, vs, rfl, s, fun l hl => go_fresh go hr r hl⟩
  · exact go.elim
theorem n_tuple (hK : X.K = v.K) : OpN v g .tuple (fun xs H Q => ∃ p ys, xs = [.ref p] ∧ ((SqL X.K H p ys ∧ ∀ l, H l = none → Q (.ref l) (upd H l (.tup ys))) ∨ (SqT X.K H p ys ∧ Q (.ref p) H))) := by
  rw [hK]
  refine one_arg' (fun _ => rfl) (fun d _ _ _ => by cases d <;> rfl) fun ι H H0 h d x Q E hr rx go => ?_
  have seq : Go (rrE v) v ι H (match lsD h d with
    | some xs => .ok (.tup xs) h
    | none => .no) Q E → ∃ p ys, [x] = [V.ref p] ∧ ((SqL v.K H p ys ∧ ∀ l, H l = none → Q (.ref l) (upd H l (.tup ys))) ∨ (SqT v.K H p ys ∧ Q (.ref p) H)) := fun go => by
    split at go
    · rename_i ds q
      obtain ⟨p, vs, rfl, s, r⟩ := ls_ok hr rx q
      exact ⟨p, vs, rfl, .inl ⟨s, fun l hl => go_tup go hr r hl⟩⟩
    · exact go.elim
  cases d with
  | tup ds =>
    obtain ⟨p, vs, rfl, s, r⟩ := rv_tup rx
    exact ⟨p, vs, rfl, .inr ⟨s, go_tupS (show Go (rrE v) v ι H (.ok (.tup ds) h) Q E from go) hr r s⟩⟩
  | rol ds => exact seq go
  | lst ds => exact seq go
  | ref n =>
    refine seq ?_
    have go : Go (rrE v) v ι H (match lsD h (.ref n) with
    | some xs => .ok (.tup xs) h
    | none => .no) Q E := go
    exact go
  | _ => exact go.elim

/-! ### all, any, sum, min, max -/
theorem bools_v {ι : List Addr} {H : Hp} : ∀ {ds : List D} {vs : List V} {bs : List Bool}, RPs v ι H ds vs → boolsL ds = some bs → vs = bs.map V.bl
  | _, _, bs, .nil, e => by cases e; rfl
  | _, _, bs, .cons (d := d) (ds := ds) r t, e => by
    cases d <;> first | cases e | skip
    rename_i k
    have e : (boolsL ds).map (k :: ·) = some bs := e
    cases q : boolsL ds with
    | none => rw [q] at e; cases e
    | some cs =>
      rw [q] at e
      cases e
      cases r
      rw [bools_v t q]; rfl
theorem ints_v {ι : List Addr} {H : Hp} : ∀ {ds : List D} {vs : List V} {bs : List Int}, RPs v ι H ds vs → intsL ds = some bs → vs = bs.map V.int
  | _, _, bs, .nil, e => by cases e; rfl
  | _, _, bs, .cons (d := d) (ds := ds) r t, e => by
    cases d <;> first | cases e | skip
    rename_i k
    have e : (intsL ds).map (k :: ·) = some bs := e
    cases q : intsL ds with
    | none => rw [q] at e; cases e
    | some cs =>
      rw [q] at e
      cases e
      cases r
      rw [ints_v t q]; rfl
theorem strs_v {ι : List Addr} {H : Hp} : ∀ {ds : List D} {vs : List V} {bs : List Tx}, RPs v ι H ds vs → strsL ds = some bs → vs = bs.map fun x => V.str (tx x)
  | _, _, bs, .nil, e => by cases e; rfl
  | _, _, bs, .cons (d := d) (ds := ds) r t, e => by
    cases d <;> first | cases e | skip
    rename_i k
    have e : (strsL ds).map (k :: ·) = some bs := e
    cases q : strsL ds with
    | none => rw [q] at e; cases e
    | some cs =>
      rw [q] at e
      cases e
      cases r
      rw [strs_v t q]; rfl
theorem bind_some {α β : Type} {a : Option α} {f : α → Option β} {b : β} (h : a.bind f = some b) : ∃ x, a = some x ∧ f x = some b := by
  cases a with
  | none => cases h
  | some x => exact ⟨x, rfl, h⟩
theorem n_bools (f : List Bool → Bool) (hK : X.K = v.K) (h0 : ∀ h, opApp g.sub o [] h = .no) (h2 : ∀ d e ds h, opApp g.sub o (d :: e :: ds) h = .no)
    (h1 : ∀ d h, opApp g.sub o [d] h = match (lsD h d).bind boolsL with
      | some bs => blR (f bs) h
      | none => .no) : OpN v g o (fun vs H Q => ∃ (a : Addr) (bs : List Bool), vs = [V.ref a] ∧ SqL X.K H a (bs.map V.bl) ∧ Q (.bl (f bs)) H) := by
  rw [hK]
  refine one_arg' h0 h2 fun ι H H0 h d x Q E hr rx go => ?_
  rw [h1] at go
  split at go
  · rename_i bs q
    obtain ⟨ds, q1, q2⟩ := bind_some q
    obtain ⟨p, vs, rfl, s, r⟩ := ls_ok hr rx q1
    rw [bools_v r q2] at s
    exact ⟨p, bs, rfl, s, go_bl go hr⟩
  · exact go.elim
theorem n_all (hK : X.K = v.K) : OpN v g .all (rAll X.K) := n_bools _ hK (fun _ => rfl) (fun d _ _ _ => by cases d <;> rfl) fun d h => by cases d <;> rfl
theorem n_any (hK : X.K = v.K) : OpN v g .any (rAny X.K) := n_bools _ hK (fun _ => rfl) (fun d _ _ _ => by cases d <;> rfl) fun d h => by cases d <;> rfl
theorem n_sum (hK : X.K = v.K) : OpN v g .sum (rSum X.K) := by
  rw [hK]
  refine one_arg' (fun _ => rfl) (fun d _ _ _ => by cases d <;> rfl) fun ι H H0 h d x Q E hr rx go => ?_
  have go : Go (rrE v) v ι H (match (lsD h d).bind intsL with
    | some ns => intR ns.sum h
    | none => .no) Q E := by cases d <;> exact go
  split at go
  · rename_i bs q
    obtain ⟨ds, q1, q2⟩ := bind_some q
    obtain ⟨p, vs, rfl, s, r⟩ := ls_ok hr rx q1
    rw [ints_v r q2] at s
    exact ⟨p, bs, rfl, s, go_int go hr⟩
  · exact go.elim
theorem fold_max : ∀ (l : List Int) (n m : Int), (m = n ∨ m ∈ l) → (n ≤ m ∧ ∀ y ∈ l, y ≤ m) → l.foldl max n = m
  | [], n, m, h, _ => by
    rcases h with h | h
    · exact h.symm
    · cases h
  | y :: l, n, m, h, k => by
    rw [List.foldl_cons]
    refine fold_max l (max n y) m ?_ ⟨?_, fun z hz => k.2 z (List.mem_cons_of_mem _ hz)⟩
    · rcases h with h | h
      · have := k.2 y (List.mem_cons_self ..)
        exact .inl (by omega)
      · rcases List.mem_cons.mp h with h | h
        · have := k.1
          exact .inl (by omega)
        · exact .inr h
    · have := k.2 y (List.mem_cons_self ..)
      have := k.1
      omega
theorem fold_min : ∀ (l : List Int) (n m : Int), (m = n ∨ m ∈ l) → (m ≤ n ∧ ∀ y ∈ l, m ≤ y) → l.foldl min n = m
  | [], n, m, h, _ => by
    rcases h with h | h
    · exact h.symm
    · cases h
  | y :: l, n, m, h, k => by
    rw [List.foldl_cons]
    refine fold_min l (min n y) m ?_ ⟨?_, fun z hz => k.2 z (List.mem_cons_of_mem _ hz)⟩
    · rcases h with h | h
      · have := k.2 y (List.mem_cons_self ..)
        exact .inl (by omega)
      · rcases List.mem_cons.mp h with h | h
        · have := k.1
          exact .inl (by omega)
        · exact .inr h
    · have := k.2 y (List.mem_cons_self ..)
      have := k.1
      omega
theorem n_maxL (hK : X.K = v.K) : OpN v g .maxL (rMax X.K) := by
  rw [hK]
  refine one_arg' (fun _ => rfl) (fun d _ _ _ => by cases d <;> rfl) fun ι H H0 h d x Q E hr rx go => ?_
  have go : Go (rrE v) v ι H (match (lsD h d).bind intsL with
    | some (n :: ns) => intR (ns.foldl max n) h
    | _ => .no) Q E := by cases d <;> exact go
  split at go
  · rename_i n ns q
    obtain ⟨ds, q1, q2⟩ := bind_some q
    obtain ⟨p, vs, rfl, s, r⟩ := ls_ok hr rx q1
    rw [ints_v r q2] at s
    refine ⟨p, _, rfl, s, Nat.succ_pos _, fun m hm hy => ?_⟩
    have e := fold_max ns n m (List.mem_cons.mp hm) ⟨hy n (List.mem_cons_self ..), fun y h => hy y (List.mem_cons_of_mem _ h)⟩
    rw [e] at go
    exact go_int go hr
  · exact go.elim
theorem n_minL (hK : X.K = v.K) : OpN v g .minL (rMin X.K) := by
  rw [hK]
  refine one_arg' (fun _ => rfl) (fun d _ _ _ => by cases d <;> rfl) fun ι H H0 h d x Q E hr rx go => ?_
  have go : Go (rrE v) v ι H (match (lsD h d).bind intsL with
    | some (n :: ns) => intR (ns.foldl min n) h
    | _ => .no) Q E := by cases d <;> exact go
  split at go
  · rename_i n ns q
    obtain ⟨ds, q1, q2⟩ := bind_some q
    obtain ⟨p, vs, rfl, s, r⟩ := ls_ok hr rx q1
    rw [ints_v r q2] at s
    refine ⟨p, _, rfl, s, Nat.succ_pos _, fun m hm hy => ?_⟩
    have e := fold_min ns n m (List.mem_cons.mp hm) ⟨hy n (List.mem_cons_self ..), fun y h => hy y (List.mem_cons_of_mem _ h)⟩
    rw [e] at go
    exact go_int go hr
  · exact go.elim
theorem two_arg' {r : List V → Hp → VK → Prop} (h0 : ∀ h, opApp g.sub o [] h = .no) (h1 : ∀ d h, opApp g.sub o [d] h = .no) (h3 : ∀ d e f ds h, opApp g.sub o (d :: e :: f :: ds) h = .no)
    (h2 : ∀ (ι : List Addr) (H H0 : Hp) (h : Hh) (d e : D) (x y : V) (Q : VK) (E : XK), HR v ι H h → rrE v ι H0 H d x → rrE v ι H0 H e y → Go (rrE v) v ι H (opApp g.sub o [d, e] h) Q E → r [x, y] H Q) : OpN v g o r := by
  intro ι H H0 h ds xs Q E hr rx go
  cases rx with
  | nil => rw [h0] at go; exact go.elim
  | cons r1 t =>
    cases t with
    | nil => rw [h1] at go; exact go.elim
    | cons r2 t =>
      cases t with
      | nil => exact h2 ι H H0 h _ _ _ _ Q E hr r1 r2 go
      | cons _ _ => rw [h3] at go; exact go.elim
theorem n_min2 : OpN v g .min2 (fun xs H Q => ∃ i j, xs = [.int i, .int j] ∧ Q (.int (if j < i then j else i)) H) := by
  refine two_arg' (fun _ => rfl) (fun d _ => by cases d <;> rfl) (fun d e _ _ _ => by cases d <;> cases e <;> rfl) fun ι H H0 h d e x y Q E hr rx ry go => ?_
  cases d <;> cases e <;> first | exact go.elim | skip
  rw [rv_int rx, rv_int ry]
  exact ⟨_, _, rfl, go_int (show Go _ _ _ _ (intR _ _) _ _ from go) hr⟩
theorem n_max2 : OpN v g .max2 (fun xs H Q => ∃ i j, xs = [.int i, .int j] ∧ Q (.int (if j > i then j else i)) H) := by
  refine two_arg' (fun _ => rfl) (fun d _ => by cases d <;> rfl) (fun d e _ _ _ => by cases d <;> cases e <;> rfl) fun ι H H0 h d e x y Q E hr rx ry go => ?_
  cases d <;> cases e <;> first | exact go.elim | skip
  rw [rv_int rx, rv_int ry]
  exact ⟨_, _, rfl, go_int (show Go _ _ _ _ (intR _ _) _ _ from go) hr⟩

/-! ### bit_length -/
theorem e_bits {apos : Pos} (ho : PE X a (tE v g W e1)) (hbase : attributeBase a "bit_length" X.env (eval a X.env) = eval a X.env := by rfl) (hline : (apos.endLine == pos.line) = true := by rfl) :
    PE X (.Call (.Attribute a "bit_length" apos) [] [] pos) (tE v g W (.op .bits [e1])) := PE.imp (pe_bits ho hbase hline) fun σ H Q ⟨ι, δ, h, hr, hs, go⟩ => by
  rw [evE_op1] at go
  refine ⟨ι, δ, h, hr, hs, Go.bind (SS := rrE v) go fun d h1 ι1 H1 x r1 ex1 hr1 rx1 go1 => ?_⟩
  cases d <;> first | exact go1.elim | skip
  rename_i i
  refine ⟨i, rv_int rx1, ?_⟩
  have e : Builtin.Int.intBits i = bitLen i := by
    unfold Builtin.Int.intBits bitLen
    by_cases z : i = 0
    · subst z; rfl
    · rw [if_neg z, if_neg (by simpa using z)]
  rw [e]
  exact go_int (show Go _ _ _ _ (intR _ _) _ _ from go1) hr1
end
end Ivy

/-! Ivy, part H: isinstance. -/
namespace Ivy
open PySem PySem.Spec PyProof.Rows L2

def tyN : Ty → String
  | .int => "int"
  | .bool => "bool"
  | .str => "str"
  | .tuple => "tuple"
  | .list => "list"
  | .dict => "dict"
  | .none => "NoneType"
  | .cls _ => "object"
  | .verr => "ValueError"
def tyB : List Ty := [.int, .bool, .str, .tuple, .list, .dict, .none]
def tyT : List Ty := [.int, .bool, .str, .tuple, .list, .dict, .none, .verr]
def tyU (v : Ev) : Ty → Value
  | .cls k => .ref (v.ca k)
  | t => .type (tyN t)
def tyV' (v : Ev) : Ty → V
  | .cls k => .ref (v.ca k)
  | t => .ty (tyN t)
theorem ty_cls {v : Ev} : ∀ t, ClsV (tyV' v t) (tyU v t)
  | .int => .ty _
  | .bool => .ty _
  | .str => .ty _
  | .tuple => .ty _
  | .list => .ty _
  | .dict => .ty _
  | .none => .ty _
  | .cls k => .own _
  | .verr => .ty _
/-- the classes that have instances -/
structure InsB (K : PySem.W.Frag) (v : Ev) : Prop where
  cl : ∀ c, v.ic c = true → Cls K (v.ca c) ∧ PySem.W.findIn K (.ref (v.ca c)) "__class__" = some (some (.builtin "object.__class__")) ∧
    PySem.W.specialIn K (.builtin "object.__class__") "__get__" = some (some (.builtin "getset_descriptor.__get__")) ∧ PySem.W.takesIn K (.builtin "object.__class__") = some true ∧
    PySem.W.mroIn K (v.ca c) (.type "object") = some true
/-- what isinstance is told about a type -/
def TyF (K : PySem.W.Frag) (v : Ev) (sub : Nat → Nat → Bool) : Ty → Prop
  | .cls k => (∀ t ∈ tyB, PySem.W.kitOne K (.type (tyN t)) (.ref (v.ca k)) = some false) ∧ ∀ c, v.ic c = true → PySem.W.kitOne K (.ref (v.ca c)) (.ref (v.ca k)) = some (sub c k)
  | .verr => ∀ c, v.ic c = true → PySem.W.kitOne K (.ref (v.ca c)) (.type (tyN .verr)) = some (sub c 1000)
  | t => ∀ c, v.ic c = true → PySem.W.kitOne K (.ref (v.ca c)) (.type (tyN t)) = some false
theorem kit_bb {K : PySem.W.Frag} : ∀ s ∈ tyB, ∀ t ∈ tyT, PySem.W.kitOne K (.type (tyN s)) (.type (tyN t)) = some (isB s t) := by
  intro s hs t ht
  refine kit_ty ?_
  revert s t
  decide +kernel
theorem ty_mem : ∀ t : Ty, t ∈ tyT ∨ ∃ k, t = .cls k
  | .int => .inl (by simp [tyT])
  | .bool => .inl (by simp [tyT])
  | .str => .inl (by simp [tyT])
  | .tuple => .inl (by simp [tyT])
  | .list => .inl (by simp [tyT])
  | .dict => .inl (by simp [tyT])
  | .none => .inl (by simp [tyT])
  | .verr => .inl (by simp [tyT])
  | .cls k => .inr ⟨k, rfl⟩
theorem not_ins {K : PySem.W.Frag} {v : Ev} {sub : Nat → Nat → Bool} {t : Ty} (ht : TyF K v sub t) {c : Nat} (hc : v.ic c = true) : PySem.W.kitOne K (.ref (v.ca c)) (tyU v t) = some (match t with
    | .cls k => sub c k
    | .verr => sub c 1000
    | _ => false) := by
  cases t <;> first | exact ht c hc | exact ht.2 c hc
section
variable {X : Cx} {v : Ev} {g : G} {W : WX} {a b : Expr} {e1 : Ex} {pos p p2 : Pos} {x : Str}
/-- the types that are met: their values, what isinstance tells -/
theorem ty_is {K : PySem.W.Frag} {ι : List Addr} {H H0 : Hp} {h : Hh} {d : D} {x : V} {k : Sum Ty Nat} (hK : K = v.K) (hI : InsB K v) (hr : HR v ι H h) (rx : rrE v ι H0 H d x) (e : tyD h d = some k) :
    ∃ tv, TyX K H x tv ∧ ∀ t, TyF K v g.sub t → PySem.W.kitOne K tv (tyU v t) = some (tyIs g.sub k t) := by
  subst hK
  have fin : ∀ s ∈ tyB, TyX v.K H x (.type (tyN s)) → k = .inl s → ∃ tv, TyX v.K H x tv ∧ ∀ t, TyF v.K v g.sub t → PySem.W.kitOne v.K tv (tyU v t) = some (tyIs g.sub k t) := fun s hs tx hk => by
    refine ⟨_, tx, fun t ht => ?_⟩
    subst hk
    rcases ty_mem t with m | ⟨c, rfl⟩
    · have e2 : tyU v t = .type (tyN t) := by
        cases t <;> first | rfl | simp [tyT] at m
      rw [e2]
      exact kit_bb s hs t m
    · have e3 : tyIs g.sub (.inl s) (.cls c) = false := by cases s <;> rfl
      rw [e3]
      exact ht.1 s hs
  have sq : ∀ (a : Addr) (vs : List V), SqT v.K H a vs → TyX v.K H (.ref a) (.type "tuple") := fun a vs q => by
    rcases q with (q | ⟨o, q⟩) | ⟨o, its, n, q1, q2, _⟩
    · exact .base (.tup q)
    · exact .fTuple q
    · exact .kTuple q1 q2
  have rol : ∀ (a : Addr) (vs : List V), RoL v.K H a vs → TyX v.K H (.ref a) (.type "list") := fun a vs q => by
    rcases q with ⟨o, q⟩ | ⟨o, its, n, q1, q2, _⟩
    · exact .base (.frz q)
    · exact .kList q1 q2
  cases d with
  | non => rw [rv_non rx] at fin ⊢; cases e; exact fin .none (by simp [tyB]) (.base .non) rfl
  | bl y => rw [rv_bl rx] at fin ⊢; cases e; exact fin .bool (by simp [tyB]) (.base (.bl y)) rfl
  | int y => rw [rv_int rx] at fin ⊢; cases e; exact fin .int (by simp [tyB]) (.base (.int y)) rfl
  | str y => rw [rv_str rx] at fin ⊢; cases e; exact fin .str (by simp [tyB]) (.base (.str _)) rfl
  | tup ds =>
    obtain ⟨a, vs, rfl, h1, h2⟩ := rv_tup rx
    cases e
    exact fin .tuple (by simp [tyB]) (sq a vs h1) rfl
  | rol ds =>
    cases (show RP v ι H (.rol ds) x from rx.1) with
    | rol h1 h2 =>
      cases e
      exact fin .list (by simp [tyB]) (rol _ _ h1) rfl
  | lst ds =>
    obtain ⟨a, vs, rfl, _, h3, _⟩ := (show RV v ι H (.lst ds) x from rx.1)
    cases e
    exact fin .list (by simp [tyB]) (.base (.lst h3)) rfl
  | dct ds =>
    obtain ⟨a, vs, rfl, _, h3, _⟩ := (show RV v ι H (.dct ds) x from rx.1)
    cases e
    exact fin .dict (by simp [tyB]) (.base (.dK h3)) rfl
  | exc c fs => cases e
  | ref n =>
    obtain ⟨a, rfl, ha⟩ := rv_ref rx
    cases q : h[n]? with
    | none =>
      have e : (match h[n]? with
        | some (.lst _) => some (.inl .list)
        | some (.dct _) => some (.inl .dict)
        | some (.ins c _) => some (.inr c)
        | none => none) = some k := e
      rw [q] at e; cases e
    | some c =>
      have e : (match h[n]? with
        | some (.lst _) => some (.inl .list)
        | some (.dct _) => some (.inl .dict)
        | some (.ins c _) => some (.inr c)
        | none => none) = some k := e
      rw [q] at e
      cases c with
      | lst xs =>
        obtain ⟨vs, h1, h2⟩ := (show CR v ι H a (.lst _) from hr.cell n a _ ha q)
        cases e
        exact fin .list (by simp [tyB]) (.base (.lst h1)) rfl
      | dct xs =>
        obtain ⟨vs, h1, h2⟩ := (show CR v ι H a (.dct _) from hr.cell n a _ ha q)
        cases e
        exact fin .dict (by simp [tyB]) (.base (.dK h1)) rfl
      | ins c fs =>
        obtain ⟨dx, vs, h0, h1, h2⟩ := (show CR v ι H a (.ins c fs) from hr.cell n a _ ha q)
        obtain ⟨i1, i2, i3, i4, i5⟩ := hI.cl c h0
        cases e
        refine ⟨_, .base (.ins h1 i1 i2 i3 i4 i5), fun t ht => ?_⟩
        rw [not_ins ht h0]
        cases t <;> rfl
theorem kit_anys {K : PySem.W.Frag} {v : Ev} {tv : Value} {f : Ty → Bool} : ∀ (ts : List Ty), (∀ t ∈ ts, PySem.W.kitOne K tv (tyU v t) = some (f t)) → PySem.W.kitAny K tv (ts.map (tyU v)) = some (ts.any f)
  | [], _ => rfl
  | t :: ts, h => by
    rw [List.map_cons, List.any_cons]
    refine kitAny_cons (h t (List.mem_cons_self ..)) (fun e => ?_) fun e => by rw [e]; rfl
    rw [e, Bool.false_or]
    exact kit_anys ts fun t ht => h t (List.mem_cons_of_mem _ ht)
theorem cls_map {v : Ev} : ∀ ts : List Ty, Paired ClsV (ts.map (tyV' v)) (ts.map (tyU v))
  | [] => .nil
  | t :: ts => .cons (ty_cls t) (cls_map ts)
/-- a type's name -/
def tTy (x : V) : TE := fun _ H Q => Q x H
theorem e_isi {t : Ty} (hb : Cb X v W) (hI : InsB X.K v) (hg : Gl X x) (hm : X.mg x = none) (hv : bootBuiltins x = some (.builtin "isinstance")) (ha : PE X a (tE v g W e1)) (hT : PE X b (tC (tyV' v t))) (ht : TyF X.K v g.sub t)
    (hs : starEach [a, b] X.env = (false, eval a X.env) :: starEach [b] X.env := by rfl) (hs2 : starEach [b] X.env = (false, eval b X.env) :: starEach [] X.env := by rfl) (hpl : (backTo pos (starEach [b] X.env)).any (·.1) = false := by rfl)
    (hn : x ≠ "__name__" := by decide) (hdb : (x == ("__debug__" : Str)) = false := by decide) : PE X (.Call (.Name x p) [a, b] [] pos) (tE v g W (.op (.isi [t]) [e1])) :=
  PE.imp (pe_callB call_isi hg hm hv (pa_cons ha (pa_cons hT pa_nil hs2) hs) hn hdb hs hpl) fun σ H Q ⟨ι, δ, h, hr, hs, go⟩ => by
    rw [evE_op1] at go
    refine ⟨ι, δ, h, hr, hs, Go.bind (SS := rrE v) go fun d h1 ι1 H1 x r1 ex1 hr1 rx1 go1 => ?_⟩
    have go1 : Go (rrE v) v ι1 H1 (match tyD h1 d with
      | some k => blR ([t].any (tyIs g.sub k)) h1
      | none => .no) Q _ := go1
    split at go1
    · rename_i k q
      obtain ⟨tv, h2, h3⟩ := ty_is (g := g) hb.hK hI hr1 rx1 q
      refine ⟨x, _, tv, _, _, rfl, ty_cls t, h2, h3 t ht, ?_⟩
      have e : [t].any (tyIs g.sub k) = tyIs g.sub k t := by simp
      rw [e] at go1
      exact go_bl go1 hr1
    · exact go1.elim
theorem e_isiN {ts : List Ty} {es : List Expr} {tb : TA} {j : Nat} (hb : Cb X v W) (hI : InsB X.K v) (hg : Gl X x) (hm : X.mg x = none) (hv : bootBuiltins x = some (.builtin "isinstance")) (ha : PE X a (tE v g W e1))
    (hT : PA X es (fun _ H Q => Q (ts.map (tyV' v)) H)) (ht : ∀ t ∈ ts, TyF X.K v g.sub t) (hl : ts.length ≤ sizeLine)
    (hs : starEach [a, .Tuple es j p2] X.env = (false, eval a X.env) :: starEach [.Tuple es j p2] X.env := by rfl) (hs2 : starEach [.Tuple es j p2] X.env = (false, eval (.Tuple es j p2) X.env) :: starEach [] X.env := by rfl) (hpl : (backTo pos (starEach [.Tuple es j p2] X.env)).any (·.1) = false := by rfl)
    (hn : x ≠ "__name__" := by decide) (hdb : (x == ("__debug__" : Str)) = false := by decide) : PE X (.Call (.Name x p) [a, .Tuple es j p2] [] pos) (tE v g W (.op (.isi ts) [e1])) :=
  PE.imp (pe_callB call_isiT hg hm hv (pa_cons ha (pa_cons (pe_tup hT) pa_nil hs2) hs) hn hdb hs hpl) fun σ H Q ⟨ι, δ, h, hr, hs, go⟩ => by
    rw [evE_op1] at go
    refine ⟨ι, δ, h, hr, hs, Go.bind (SS := rrE v) go fun d h1 ι1 H1 x r1 ex1 hr1 rx1 go1 => ?_⟩
    have go1 : Go (rrE v) v ι1 H1 (match tyD h1 d with
      | some k => blR (ts.any (tyIs g.sub k)) h1
      | none => .no) Q _ := go1
    split at go1
    · rename_i k q
      refine ⟨by rw [List.length_map]; exact hl, fun tp hp => ?_⟩
      have hr2 := hr1.new (o := .tup (ts.map (tyV' v))) hp
      obtain ⟨tv, h2, h3⟩ := ty_is (g := g) hb.hK hI hr2 (rx1.mono (ext_new hp)) q
      refine ⟨x, tp, ts.map (tyV' v), tv, ts.map (tyU v), _, rfl, upd_same, cls_map ts, h2, kit_anys ts fun t hts => h3 t (ht t hts), ?_⟩
      exact Go.here (Go.shift (ext_new hp) hr2 go1) hr2 ⟨.bl _, trivial⟩
    · exact go1.elim
end
end Ivy

/-! Ivy, part I: targets, statements without loops. -/
namespace Ivy
open PySem PySem.Spec PyProof.Rows L2

/-- what a statement leaves -/
def GoS (v : Ev) (W : WX) (ι : List Addr) (H : Hp) (r : Rs) (D : Ends) : Prop := match r with
  | .nx δ h => ∀ ι' H' σ', Ext ι H ι' H' → HR v ι' H' h → SR v ι' H' δ σ' → D.nx σ' H'
  | .brk δ h => ∀ ι' H' σ', Ext ι H ι' H' → HR v ι' H' h → SR v ι' H' δ σ' → D.bk σ' H'
  | .cont δ h => ∀ ι' H' σ', Ext ι H ι' H' → HR v ι' H' h → SR v ι' H' δ σ' → D.ct σ' H'
  | .ret d h => ∀ ι' H' x, Ext ι H ι' H' → HR v ι' H' h → rrE v ι' H H' d x → D.rt x H'
  | .err c fs δ h => ∀ ι' H' σ' cls dd, Ext ι H ι' H' → HR v ι' H' h → SR v ι' H' δ σ' → XR v ι' H' c fs cls dd → W cls dd σ' H'
  | .no => False
section
variable {v : Ev} {W : WX} {ι ι1 : List Addr} {H H1 : Hp} {h h1 : Hh} {r : Rs} {E : Ends} {δ : Sl} {σ : L2.St}
theorem GoS.shift (e : Ext ι H ι1 H1) (hr : HR v ι1 H1 h1) (g : GoS v W ι H r E) : GoS v W ι1 H1 r E := by
  cases r with
  | nx δ h => exact fun ι' H' σ' e' a b => g ι' H' σ' (e.trans e') a b
  | brk δ h => exact fun ι' H' σ' e' a b => g ι' H' σ' (e.trans e') a b
  | cont δ h => exact fun ι' H' σ' e' a b => g ι' H' σ' (e.trans e') a b
  | ret d h => exact fun ι' H' x e' a b => g ι' H' x (e.trans e') a ⟨b.1, b.2.back fun p hp => e.back hr hp⟩
  | err c fs δ h => exact fun ι' H' σ' cls dd e' a b c => g ι' H' σ' cls dd (e.trans e') a b c
  | no => exact g
/-- an expression, then more -/
theorem GoS.bind {α β : Type} {SS : RRel α β} {r : R α} {k : α → Hh → Rs} {Q' : β → Hp → Prop} (hs : SR v ι H δ σ) (g : GoS v W ι H (r.go δ k) E)
    (step : ∀ d h1 ι1 H1 x, r = .ok d h1 → Ext ι H ι1 H1 → HR v ι1 H1 h1 → SS ι1 H H1 d x → GoS v W ι1 H1 (k d h1) E → Q' x H1) : Go SS v ι H r Q' (fun c d H' => W c d σ H') := by
  cases r with
  | ok d h1 => exact fun ι1 H1 x e r' q => step d h1 ι1 H1 x rfl e r' q (GoS.shift e r' g)
  | err c fs h1 => exact fun ι' H' cls dd e r' q => g ι' H' σ cls dd e r' (hs.mono e) q
  | no => exact g
theorem GoS.mono {r : Rs} {E' : Ends} (g : GoS v W ι H r E) (h1 : ∀ σ H, E.nx σ H → E'.nx σ H) (h2 : ∀ x H, E.rt x H → E'.rt x H) (h3 : ∀ σ H, E.bk σ H → E'.bk σ H) (h4 : ∀ σ H, E.ct σ H → E'.ct σ H) : GoS v W ι H r E' := by
  cases r with
  | nx δ h => exact fun ι' H' σ' e' a b => h1 _ _ (g ι' H' σ' e' a b)
  | brk δ h => exact fun ι' H' σ' e' a b => h3 _ _ (g ι' H' σ' e' a b)
  | cont δ h => exact fun ι' H' σ' e' a b => h4 _ _ (g ι' H' σ' e' a b)
  | ret d h => exact fun ι' H' x e' a b => h2 _ _ (g ι' H' x e' a b)
  | err c fs δ h => exact g
  | no => exact g
end
theorem R.go_bind {α β : Type} (r : R α) (k : α → Hh → R β) (δ : Sl) (l : β → Hh → Rs) : (r.bind k).go δ l = r.go δ fun a h => (k a h).go δ l := by cases r <;> rfl
mutual
/-- the slots that a target stores -/
def Tg.ns : Tg → List Nat
  | .name i => [i]
  | .tup ts => Tg.nss ts
def Tg.nss : List Tg → List Nat
  | [] => []
  | t :: ts => Tg.ns t ++ Tg.nss ts
end
/-- alike off some slots -/
def Off (is : List Nat) (σ σ' : L2.St) : Prop := σ'.length = σ.length ∧ ∀ j, j ∉ is → σ'[j]? = σ[j]?
theorem Off.set {i : Nat} {σ : L2.St} {x : Option V} : Off [i] σ (σ.set i x) := ⟨List.length_set, fun j hj => List.getElem?_set_ne fun z => hj (by simp [z])⟩
theorem Off.trans {a b : List Nat} {σ σ' σ2 : L2.St} (h : Off a σ σ') (k : Off b σ' σ2) : Off (a ++ b) σ σ2 :=
  ⟨k.1.trans h.1, fun j hj => (k.2 j fun z => hj (List.mem_append_right _ z)).trans (h.2 j fun z => hj (List.mem_append_left _ z))⟩
section
variable (v : Ev) (g : G) (W : WX)
def tS (st : St) : TS := fun D σ H => ∃ ι δ h, HR v ι H h ∧ SR v ι H δ σ ∧ GoS v W ι H (evS g st δ h) D
def tSs (sts : List St) : TS := fun D σ H => ∃ ι δ h, HR v ι H h ∧ SR v ι H δ σ ∧ GoS v W ι H (evSs g sts δ h) D
/-- a store: what the slots are then -/
def gT (t : Tg) : TG := fun x σ H Q => ∃ ι δ h d δ', HR v ι H h ∧ SR v ι H δ σ ∧ RP v ι H d x ∧ putT t d δ = some δ' ∧ ∀ σ', SR v ι H δ' σ' → Off (Tg.ns t) σ σ' → Q σ' H
def gTs (ts : List Tg) : TGs := fun xs σ H Q => ∃ ι δ h ds δ', HR v ι H h ∧ SR v ι H δ σ ∧ RPs v ι H ds xs ∧ putTs ts ds δ = some δ' ∧ ∀ σ', SR v ι H δ' σ' → Off (Tg.nss ts) σ σ' → Q σ' H
end
theorem PG.imp {X : Cx} {e : Expr} {t t' : TG} (h : PG X e t) (k : ∀ x σ H Q, t' x σ H Q → t x σ H Q) : PG X e t' := ⟨fun pins s σ H v u Q I r q => h.run pins s σ H v u Q I r (k v σ H Q q)⟩
theorem PGs.imp {X : Cx} {e : List Expr} {t t' : TGs} (h : PGs X e t) (k : ∀ x σ H Q, t' x σ H Q → t x σ H Q) : PGs X e t' := ⟨fun pins s σ H v u Q I r q => h.run pins s σ H v u Q I r (k v σ H Q q)⟩
section
variable {X : Cx} {v : Ev} {g : G} {W : WX} {a b c : Expr} {e1 e2 e3 : Ex} {es rest : List Expr} {fs : List Ex} {pos p p2 : Pos} {t1 : Te} {tg : Tg} {tgs : List Tg} {x y : Str} {st : Stmt} {sts sts2 : List Stmt} {s1 : St} {ss ss2 : List St}

/-! ### stores -/
theorem SR.set {ι : List Addr} {H : Hp} {δ : Sl} {σ : L2.St} {i : Nat} {d : D} {x : V} (r : SR v ι H δ σ) (q : RP v ι H d x) : SR v ι H (δ.set i (some d)) (σ.set i (some x)) := by
  refine ⟨by rw [List.length_set, List.length_set]; exact r.1, fun j e he => ?_⟩
  by_cases hj : i = j
  · subst hj
    by_cases hi : i < δ.length
    · rw [List.getElem?_set_self hi] at he
      cases he
      exact ⟨x, List.getElem?_set_self (by rw [← r.1]; exact hi), RX.of q⟩
    · rw [List.getElem?_eq_none (by rw [List.length_set]; omega)] at he; cases he
  · rw [List.getElem?_set_ne hj] at he ⊢
    exact r.2 j e he
theorem SR.wipe {ι : List Addr} {H : Hp} {δ : Sl} {σ : L2.St} (r : SR v ι H δ σ) : ∀ ks : List Nat, SR v ι H (wipeS δ ks) σ
  | [] => r
  | k :: ks => by
    have q := SR.wipe r ks
    refine ⟨by rw [wipeS, List.length_set]; exact q.1, fun j e he => ?_⟩
    rw [wipeS] at he
    by_cases hj : k = j
    · subst hj
      by_cases hi : k < (wipeS δ ks).length
      · rw [List.getElem?_set_self hi] at he; cases he
      · rw [List.getElem?_eq_none (by rw [List.length_set]; omega)] at he; cases he
    · rw [List.getElem?_set_ne hj] at he
      exact q.2 j e he
theorem g_name {i : Nat} (hN : X.N.Nodup) (hi : X.N[i]? = some x) (hx : Loc X.env.scope x) (hf : X.fn x = true ∨ X.env.scope.names.lookup x = some .local := by first | exact .inl rfl | exact .inr rfl | assumption) : PG X (.Name x pos) (gT v (.name i)) :=
  PG.imp (pg_name hN hi hx hf) fun z σ H Q ⟨ι, δ, h, d, δ', hr, hs, rz, e, q⟩ => by
    unfold putT at e
    split at e
    · cases e; exact q _ (hs.set rz) .set
    · cases e
theorem gs_nil : PGs X [] (gTs v []) := PGs.imp pgs_nil fun xs σ H Q ⟨ι, δ, h, ds, δ', hr, hs, rz, e, q⟩ => by
  cases rz with
  | nil => cases e; exact ⟨rfl, q _ hs ⟨rfl, fun _ _ => rfl⟩⟩
  | cons _ _ => cases e
theorem gs_cons (h1 : PG X a (gT v tg)) (h2 : PGs X es (gTs v tgs)) (hs : (assignEach (a :: es) X.env).map (·.2) = assign a X.env :: (assignEach es X.env).map (·.2) := by rfl) : PGs X (a :: es) (gTs v (tg :: tgs)) :=
  PGs.imp (pgs_cons h1 h2 hs) fun xs σ H Q ⟨ι, δ, h, ds, δ', hr, hs, rz, e, q⟩ => by
    cases rz with
    | nil => cases e
    | cons r1 r2 =>
      unfold putTs at e
      split at e
      · rename_i δ1 e1
        exact ⟨_, _, rfl, ι, δ, h, _, δ1, hr, hs, r1, e1, fun σ1 hs1 o1 => ⟨ι, δ1, h, _, δ', hr, hs1, r2, e, fun σ2 hs2 o2 => q σ2 hs2 (by unfold Tg.nss; exact o1.trans o2)⟩⟩
      · cases e
theorem putTs_len : ∀ {ts : List Tg} {ds : List D} {δ δ' : Sl}, putTs ts ds δ = some δ' → ts.length = ds.length
  | [], [], _, _, _ => rfl
  | [], _ :: _, _, _, e => by cases e
  | _ :: _, [], _, _, e => by cases e
  | t :: ts, d :: ds, δ, δ', e => by
    unfold putTs at e
    split at e
    · rw [List.length_cons, List.length_cons, putTs_len e]
    · cases e
theorem g_tup {k : Nat} {n : Nat} (hb : Cb X v W) (hc : X.calm = true) (h : PGs X es (gTs v tgs)) (hl : tgs.length = n := by rfl) (hn : (assignEach es X.env).length = n := by rfl) (hst : (assignEach es X.env).findIdx? (·.1) = none := by rfl) : PG X (.Tuple es k pos) (gT v (.tup tgs)) :=
  PG.imp (pg_tup hc h hn hst) fun z σ H Q ⟨ι, δ, h, d, δ', hr, hs, rz, e, q⟩ => by
    cases d <;> first | cases e | skip
    rename_i ds
    have e : putTs tgs ds δ = some δ' := e
    cases rz with
    | tup h1 h2 =>
      refine ⟨_, _, rfl, by rw [hb.hK]; exact h1, ?_, ι, δ, h, ds, δ', hr, hs, h2, e, fun σ2 hs2 o2 => q σ2 hs2 (by unfold Tg.ns; exact o2)⟩
      rw [← h2.length, ← putTs_len e, hl]

/-! ### statements -/
theorem putT_pers : ∀ {t : Tg} {d : D} {δ δ' : Sl}, putT t d δ = some δ' → D.pers d = true
  | .name i, d, δ, δ', e => by
    unfold putT at e
    split at e
    · assumption
    · cases e
  | .tup ts, d, δ, δ', e => by
    cases d <;> first | rfl | cases e
theorem l_asg {E : Ends} {σ : L2.St} {H : Hp} (t : tS v g W (.asg tg e1) E σ H) : tAsg (tE v g W e1) (gT v tg) E σ H := by
  obtain ⟨ι, δ, h, hr, hs, go⟩ := t
  have e : evS g (.asg tg e1) δ h = (evE g e1 δ h).go δ fun x h => match putT tg x δ with
    | some δ' => .nx δ' h
    | none => .no := by simp only [evS] <;> rfl
  rw [e] at go
  refine ⟨ι, δ, h, hr, hs, GoS.bind (SS := rrE v) hs go fun d h1 ι1 H1 x r1 ex1 hr1 rx1 go1 => ?_⟩
  split at go1
  · rename_i δ' q
    exact ⟨ι1, δ, h1, d, δ', hr1, hs.mono ex1, rx1.1.rp (putT_pers q), q, fun σ' hs' _ => go1 ι1 H1 σ' .refl hr1 hs'⟩
  · exact go1.elim
theorem s_asg (he : PE X b (tE v g W e1)) (hg : PG X a (gT v tg)) (hs : swapsWithSole [a] b pos.line X.env = pure false := by rfl) (hw : swappedStores [a] b X.env = pure none := by rfl)
    (h1 : (assignEach [a] X.env).map (·.2) = [assign a X.env] := by rfl) : PS X (.Assign [a] b pos) (tS v g W (.asg tg e1)) := PS.imp (ps_asg he hg hs hw h1) fun D σ H t => l_asg t
theorem l_set {i : Nat} {E : Ends} {σ : L2.St} {H : Hp} (t : tS v g W (.asg (.name i) e1) E σ H) : tE v g W e1 σ H (fun x H1 => gName i x σ H1 E.nx) := by
  obtain ⟨ι, δ, h, hr, hs, go⟩ := l_asg t
  exact ⟨ι, δ, h, hr, hs, go.imp (fun x H ⟨ι, δ, h, d, δ', hr, hs, rz, e, q⟩ => by
    unfold putT at e
    split at e
    · cases e; exact q _ (hs.set rz) .set
    · cases e) fun _ _ _ w => w⟩
theorem s_set {i : Nat} (hN : X.N.Nodup) (hi : X.N[i]? = some x) (hx : Loc X.env.scope x) (he : PE X b (tE v g W e1)) (hs : swapsWith b (some (.Name x p)) pos.line X.env = pure false := by rfl) (hf : X.fn x = true ∨ X.env.scope.names.lookup x = some .local := by first | exact .inl rfl | exact .inr rfl | assumption) :
    PS X (.Assign [.Name x p] b pos) (tS v g W (.asg (.name i) e1)) := PS.imp (ps_set hN hi hx he hs hf) fun E σ H t => l_set t
/-- a, b = x, y of plain names -/
theorem s_par {i j k2 kt : Nat} {px py pt pt2 : Pos} (hc : X.calm = true) (hN : X.N.Nodup) (hi : X.N[i]? = some x) (hj : X.N[j]? = some y) (hij : i ≠ j)
    (hx : X.env.scope.names.lookup x = some .local) (hy : X.env.scope.names.lookup y = some .local) (ha : PA X [a, b] (tL v g W [e1, e2]))
    (hw : swappedStores [.Tuple [.Name x px, .Name y py] kt pt] (.Tuple [a, b] k2 pt2) X.env = pure (some [x, y]))
    (hs : swapsWithSole [.Tuple [.Name x px, .Name y py] kt pt] (.Tuple [a, b] k2 pt2) pos.line X.env = pure false := by rfl) :
    PS X (.Assign [.Tuple [.Name x px, .Name y py] kt pt] (.Tuple [a, b] k2 pt2) pos) (tS v g W (.asg (.tup [.name i, .name j]) (.op .tup [e1, e2]))) :=
  PS.imp (ps_par hc hN hi hj hij hx hy ha hw hs) fun E σ H ⟨ι, δ, h, hr, hs, go⟩ => by
    have e : evS g (.asg (.tup [.name i, .name j]) (.op .tup [e1, e2])) δ h = (evEs g [e1, e2] δ h).go δ fun ds h => (opApp g.sub .tup ds h).go δ fun x h => match putT (.tup [.name i, .name j]) x δ with
      | some δ' => .nx δ' h
      | none => .no := by
      simp only [evS, evE]
      cases evEs g [e1, e2] δ h <;> rfl
    rw [e] at go
    refine ⟨ι, δ, h, hr, hs, GoS.bind (SS := rrL v) hs go fun ds h1 ι1 H1 xs r1 ex1 hr1 rx1 go1 => ?_⟩
    have e2 : opApp g.sub .tup ds h1 = whenR (persL ds && decide (ds.length ≤ cells)) (.ok (.tup ds) h1) := rfl
    rw [e2] at go1
    cases c : (persL ds && decide (ds.length ≤ cells)) with
    | false => rw [c] at go1; exact go1.elim
    | true =>
      rw [c] at go1
      rw [Bool.and_eq_true] at c
      have rs := rx1.rps c.1
      cases rs with
      | nil => exact go1.elim
      | cons q1 rs =>
      cases rs with
      | nil =>
        have go1 : GoS v W ι1 H1 (match putT (.tup [.name i, .name j]) (.tup [_]) δ with
          | some δ' => .nx δ' h1
          | none => .no) E := go1
        split at go1
        · rename_i q
          have := putTs_len (show putTs [.name i, .name j] [_] δ = some _ from q)
          cases this
        · exact go1.elim
      | cons q2 rs =>
      cases rs with
      | cons _ _ =>
        have go1 : GoS v W ι1 H1 (match putT (.tup [.name i, .name j]) (.tup (_ :: _ :: _ :: _)) δ with
          | some δ' => .nx δ' h1
          | none => .no) E := go1
        split at go1
        · rename_i q
          have := putTs_len (show putTs [.name i, .name j] (_ :: _ :: _ :: _) δ = some _ from q)
          simp at this
        · exact go1.elim
      | nil =>
        rename_i d x d' x'
        refine ⟨x, x', rfl, ?_⟩
        have go1 : GoS v W ι1 H1 (match putTs [.name i, .name j] [d, d'] δ with
          | some δ' => .nx δ' h1
          | none => .no) E := go1
        have e3 : putTs [.name i, .name j] [d, d'] δ = some ((δ.set i (some d)).set j (some d')) := by
          have p1 : D.pers d = true := by
            have := c.1
            simp [persL] at this
            exact this.1
          have p2 : D.pers d' = true := by
            have := c.1
            simp [persL] at this
            exact this.2
          unfold putTs putT putTs putT putTs
          simp only [p1, p2, if_true]
        rw [e3] at go1
        exact go1 ι1 H1 _ .refl hr1 (((hs.mono ex1).set q1).set q2)
theorem s_ex (he : PE X a (tE v g W e1)) (hs : swapsWith a none pos.line X.env = pure false := by rfl) : PS X (.Expr a pos) (tS v g W (.ex e1)) :=
  PS.imp (ps_expr he hs) fun E σ H ⟨ι, δ, h, hr, hs, go⟩ => by
    have e : evS g (.ex e1) δ h = (evE g e1 δ h).go δ fun _ h => .nx δ h := by simp only [evS]
    rw [e] at go
    exact ⟨ι, δ, h, hr, hs, GoS.bind (SS := rrE v) hs go fun d h1 ι1 H1 x r1 ex1 hr1 rx1 go1 => go1 ι1 H1 σ .refl hr1 (hs.mono ex1)⟩
theorem s_ret (he : PE X a (tE v g W e1)) : PS X (.Return (some a) pos) (tS v g W (.ret e1)) :=
  PS.imp (ps_ret he) fun E σ H ⟨ι, δ, h, hr, hs, go⟩ => by
    have e : evS g (.ret e1) δ h = (evE g e1 δ h).go δ fun x h => .ret x h := by simp only [evS]
    rw [e] at go
    refine ⟨ι, δ, h, hr, hs, GoS.bind (SS := rrE v) hs go fun d h1 ι1 H1 x r1 ex1 hr1 rx1 _ => ?_⟩
    rw [r1] at go
    exact go ι1 H1 x ex1 hr1 rx1
theorem s_retN : PS X (.Return none pos) (tS v g W .retN) :=
  PS.imp ps_retN fun E σ H ⟨ι, δ, h, hr, hs, go⟩ => by
    have e : evS g .retN δ h = .ret .non h := by simp only [evS]
    rw [e] at go
    exact go ι H _ .refl hr ⟨.non, trivial⟩
theorem s_pass : PS X (.Pass pos) (tS v g W .pass) :=
  PS.imp ps_pass fun E σ H ⟨ι, δ, h, hr, hs, go⟩ => by
    have e : evS g .pass δ h = .nx δ h := by simp only [evS]
    rw [e] at go
    exact go ι H _ .refl hr hs
theorem s_brk : PS X (.Break pos) (tS v g W .brk) :=
  PS.imp ps_break fun E σ H ⟨ι, δ, h, hr, hs, go⟩ => by
    have e : evS g .brk δ h = .brk δ h := by simp only [evS]
    rw [e] at go
    exact go ι H _ .refl hr hs
theorem s_cont : PS X (.Continue pos) (tS v g W .cont) :=
  PS.imp ps_continue fun E σ H ⟨ι, δ, h, hr, hs, go⟩ => by
    have e : evS g .cont δ h = .cont δ h := by simp only [evS]
    rw [e] at go
    exact go ι H _ .refl hr hs
theorem s_ite (hc : PT X c (tT v g W t1)) (ha : PSs X sts (tSs v g W ss)) (hb : PSs X sts2 (tSs v g W ss2)) : PS X (.If c sts sts2 pos) (tS v g W (.ite t1 ss ss2)) :=
  PS.imp (ps_if hc ha hb) fun E σ H ⟨ι, δ, h, hr, hs, go⟩ => by
    have e : evS g (.ite t1 ss ss2) δ h = (evT g t1 δ h).go δ fun k h => if k = true then evSs g ss δ h else evSs g ss2 δ h := by simp only [evS]
    rw [e] at go
    refine ⟨ι, δ, h, hr, hs, GoS.bind (SS := rrB) hs go fun d h1 ι1 H1 x r1 ex1 hr1 rx1 go1 => ?_⟩
    cases (show x = d from rx1)
    cases d with
    | true => exact ⟨ι1, δ, h1, hr1, hs.mono ex1, go1⟩
    | false => exact ⟨ι1, δ, h1, hr1, hs.mono ex1, go1⟩
theorem ss_nil : PSs X [] (tSs v g W []) :=
  PSs.imp pss_nil fun E σ H ⟨ι, δ, h, hr, hs, go⟩ => by
    have e : evSs g [] δ h = .nx δ h := by simp only [evSs]
    rw [e] at go
    exact go ι H _ .refl hr hs
/-- a statement, then the rest -/
theorem GoS.seq {ι : List Addr} {H : Hp} {r : Rs} {k : Sl → Hh → Rs} {E E' : Ends} (go : GoS v W ι H (match r with
      | .nx δ h => k δ h
      | r => r) E) (h1 : E'.rt = E.rt) (h2 : E'.bk = E.bk) (h3 : E'.ct = E.ct)
    (hn : ∀ δ h ι1 H1 σ1, r = .nx δ h → Ext ι H ι1 H1 → HR v ι1 H1 h → SR v ι1 H1 δ σ1 → GoS v W ι1 H1 (k δ h) E → E'.nx σ1 H1) : GoS v W ι H r E' := by
  cases r with
  | nx δ h => exact fun ι1 H1 σ1 ex hr hs => hn δ h ι1 H1 σ1 rfl ex hr hs (GoS.shift ex hr go)
  | brk δ h => exact fun ι1 H1 σ1 ex hr hs => by rw [h2]; exact go ι1 H1 σ1 ex hr hs
  | cont δ h => exact fun ι1 H1 σ1 ex hr hs => by rw [h3]; exact go ι1 H1 σ1 ex hr hs
  | ret d h => exact fun ι1 H1 σ1 ex hr hs => by rw [h1]; exact go ι1 H1 σ1 ex hr hs
  | err c fs δ h => exact go
  | no => exact go
theorem ss_cons (h1 : PS X st (tS v g W s1)) (h2 : PSs X sts (tSs v g W ss)) : PSs X (st :: sts) (tSs v g W (s1 :: ss)) :=
  PSs.imp (pss_cons h1 h2) fun E σ H ⟨ι, δ, h, hr, hs, go⟩ => by
    have e : evSs g (s1 :: ss) δ h = (match evS g s1 δ h with
      | .nx δ2 h2 => evSs g ss δ2 h2
      | r => r) := by simp only [evSs] <;> rfl
    rw [e] at go
    exact ⟨ι, δ, h, hr, hs, GoS.seq go rfl rfl rfl fun δ1 h1 ι1 H1 σ1 r1 ex1 hr1 hs1 go1 => ⟨ι1, δ1, h1, hr1, hs1, go1⟩⟩
/-- a docstring -/
theorem ss_doc {z : Str} {j : Nat} (h2 : PSs X sts (tSs v g W ss)) : PSs X (.Expr (.Constant (.str z) j pos) p :: sts) (tSs v g W ss) := PSs.imp (pss_cons ps_doc h2) fun E σ H t => t
end
end Ivy

/-! Ivy, part J: stores into lists and dicts, methods of lists. -/
namespace Ivy
open PySem PySem.Spec PyProof.Rows L2
section
variable {X : Cx} {v : Ev} {g : G} {W : WX} {a b c : Expr} {e1 e2 e3 : Ex} {es rest : List Expr} {fs : List Ex} {pos p p2 apos cpos : Pos}

theorem go_set {ι : List Addr} {H : Hp} {h : Hh} {n : Nat} {a : Addr} {d : D} {x : V} {o o0 : HO} {cc : C} {Q : VK} {E : XK} (go : Go (rrE v) v ι H (.ok d (h.set n cc)) Q E) (hr : HR v ι H h) (ha : ι[n]? = some a) (h0 : H a = some o0) (hk : kd o = kd o0)
    (hc : Ext ι H ι (upd H a o) → CR v ι (upd H a o) a cc) (rx : RP v ι H d x) (hp : D.pers d = true) : Q x (upd H a o) := by
  have ex : Ext ι H ι (upd H a o) := ext_cell hr ha h0 hk
  exact go ι _ x ex (hr.set ha ex (hc ex)) ⟨RV.of (rx.mono ex) (.inl hp), New.pers hp⟩
theorem put_keys {kvs : List (Ky × D)} {kvs' : List (Key × V)} (k : Ky) (e : kvs'.map (·.1) = kvs.map (fun p => kyV p.1)) : (kvs'.any fun kv => decide (kv.1 = kyV k)) = kvs.any fun p => decide (p.1 = k) := by
  induction kvs generalizing kvs' with
  | nil => cases kvs' <;> first | rfl | cases e
  | cons p r ih =>
    cases kvs' with
    | nil => cases e
    | cons q s =>
      rw [List.map_cons, List.map_cons] at e
      obtain ⟨e1, e2⟩ := List.cons.inj e
      rw [List.any_cons, List.any_cons, ih e2, e1]
      congr 1
      by_cases z : p.1 = k
      · rw [z]; simp
      · rw [decide_eq_false z, decide_eq_false fun y => z (kyV_inj y)]
theorem put_map {ι : List Addr} {H : Hp} {d : D} {x : V} (k : Ky) (q : RP v ι H d x) : ∀ {kvs : List (Ky × D)} {kvs' : List (Key × V)}, RK v ι H kvs kvs' → RK v ι H (kvs.map fun p => if p.1 = k then (p.1, d) else p) (kvs'.map fun kv => if kv.1 = kyV k then (kv.1, x) else kv)
  | [], [], _ => ⟨rfl, .nil⟩
  | [], _ :: _, r => by cases r.1
  | _ :: _, [], r => by cases r.1
  | p :: r, p' :: s, ⟨r1, r2⟩ => by
    rw [List.map_cons, List.map_cons] at r1 r2
    obtain ⟨e1, e2⟩ := List.cons.inj r1
    cases r2 with
    | cons q1 q2 =>
      obtain ⟨i1, i2⟩ := put_map k q (kvs := r) (kvs' := s) ⟨e2, q2⟩
      rw [List.map_cons, List.map_cons]
      by_cases z : p.1 = k
      · have z' : p'.1 = kyV k := by rw [e1, z]
        rw [if_pos z, if_pos z']
        exact ⟨by rw [List.map_cons, List.map_cons, i1]; simp only [e1], .cons q i2⟩
      · have z' : p'.1 ≠ kyV k := by rw [e1]; exact fun y => z (kyV_inj y)
        rw [if_neg z, if_neg z']
        exact ⟨by rw [List.map_cons, List.map_cons, i1, e1], .cons q1 i2⟩
theorem RK.put {ι : List Addr} {H : Hp} {kvs : List (Ky × D)} {kvs' : List (Key × V)} {d : D} {x : V} (k : Ky) (r : RK v ι H kvs kvs') (q : RP v ι H d x) : RK v ι H (kPut kvs k d) (putK kvs' (kyV k) x) := by
  unfold kPut putK
  rw [put_keys k r.1]
  split
  · exact put_map k q r
  · refine ⟨by rw [List.map_append, List.map_append, r.1]; rfl, ?_⟩
    rw [List.map_append, List.map_append]
    exact r.2.app (.cons q .nil)
def rSet2 : TSet := fun o i v H Q => rSetL o i v H Q ∨ rSetD o i v H Q
theorem set_both (hb : Cb X v W) : PSet X rSet2 := fun pins s σ H o i v ov iv u Q I r1 r2 r3 q => q.elim (set_list pins s σ H o i v ov iv u Q I r1 r2 r3) (set_dict (by have := hb.hu; omega) pins s σ H o i v ov iv u Q I r1 r2 r3)
theorem ky_val {ι : List Addr} {H H0 : Hp} {d : D} {k : Ky} {x : V} (e : kyD d = some k) (r : rrE v ι H0 H d x) : x = kV (kyV k) := by
  unfold kyD at e
  split at e
  · cases e; rw [rv_int r]; rfl
  · cases e; rw [rv_str r]; rfl
  · cases e
theorem v_setItem {ι : List Addr} {H H0 H1 H2 : Hp} {h : Hh} {d e f : D} {x y z : V} {Q : VK} {E : XK} (hr : HR v ι H h) (rx : rrE v ι H0 H d x) (ry : rrE v ι H1 H e y) (rz : rrE v ι H2 H f z)
    (go : Go (rrE v) v ι H (opApp g.sub .setItem [d, e, f] h) Q E) : rSet2 y z x H (fun H' => Q .non H') := by
  cases e <;> first | exact go.elim | skip
  rename_i n
  obtain ⟨a, rfl, ha⟩ := rv_ref ry
  have go : Go (rrE v) v ι H (match (generalizing := false) h[n]?, f with
    | some (.lst xs), .int i => (match ixP xs.length i with
      | some k => whenR (D.pers d) (chg h n (xs.set k d) .non)
      | none => .no)
    | some (.dct kvs), b => (match kyD b with
      | some k => whenR (D.pers d && decide (kvs.length < cells)) (.ok .non (h.set n (.dct (kPut kvs k d))))
      | none => .no)
    | _, _ => .no) Q E := go
  cases q : h[n]? with
  | none => rw [q] at go; exact go.elim
  | some cc =>
    rw [q] at go
    cases cc with
    | ins _ _ => exact go.elim
    | lst xs =>
      cases f <;> first | exact go.elim | skip
      rename_i i _
      have go : Go (rrE v) v ι H (match ixP xs.length i with
        | some k => whenR (D.pers d) (chg h n (xs.set k d) .non)
        | none => .no) Q E := go
      cases ek : ixP xs.length i with
      | none => rw [ek] at go; exact go.elim
      | some k =>
        rw [ek] at go
        obtain ⟨c, go⟩ := go_when go
        obtain ⟨vs, h1, h2⟩ := (show CR v ι H a (.lst _) from hr.cell n a _ ha q)
        rw [rv_int rz]
        refine .inl ⟨a, vs, i, k, rfl, rfl, h1, by rw [← ixP_eq, ← h2.length]; exact ek, ?_⟩
        exact go_set (show Go (rrE v) v ι H (.ok .non (h.set n (.lst (xs.set k d)))) Q E from go) hr ha h1 rfl (fun ex => ⟨_, upd_same, ((h2.set (rx.1.rp c) k)).mono ex⟩) .non rfl
    | dct kvs =>
      have go : Go (rrE v) v ι H (match kyD f with
        | some k => whenR (D.pers d && decide (kvs.length < cells)) (.ok .non (h.set n (.dct (kPut kvs k d))))
        | none => .no) Q E := go
      cases ek : kyD f with
      | none => rw [ek] at go; exact go.elim
      | some k =>
        rw [ek] at go
        obtain ⟨c, go⟩ := go_when go
        rw [Bool.and_eq_true] at c
        obtain ⟨kvs', h1, h2⟩ := (show CR v ι H a (.dct _) from hr.cell n a _ ha q)
        have e := ky_val ek rz
        subst e
        have hl : kvs'.length < sizeLine := by
          have := congrArg List.length h2.1
          simp at this
          rw [this, ← cells_eq]; exact of_decide_eq_true c.2
        refine .inr ⟨a, _, rfl, DPut.k h1 hl, ?_⟩
        exact go_set go hr ha h1 rfl (fun ex => ⟨_, upd_same, (h2.put k (rx.1.rp c.1)).mono ex⟩) .non rfl
/-- o[i] = e -/
theorem s_setItem (hb : Cb X v W) (he : PE X c (tE v g W e1)) (ho : PE X a (tE v g W e2)) (hi : PE X b (tE v g W e3)) (hs : swapsWithSole [.Subscript a b p] c pos.line X.env = pure false := by rfl) (hw : swappedStores [.Subscript a b p] c X.env = pure none := by rfl)
    (h1 : (assignEach [.Subscript a b p] X.env).map (·.2) = [assign (.Subscript a b p) X.env] := by rfl)
    (ha : ∀ v, assign (.Subscript a b p) X.env v = (do
      let ov ← holding [v] (eval a X.env)
      let iv ← holding [v, ov] (eval b X.env)
      standAt p
      holding [v, ov, iv] (setItem ov iv v)
      release [v, ov, iv] []) := by intro _; rfl) : PS X (.Assign [.Subscript a b p] c pos) (tS v g W (.ex (.op .setItem [e1, e2, e3]))) :=
  PS.imp (ps_asg he (pg_sub ho hi (set_both hb) ha) hs hw h1) fun E σ H ⟨ι, δ, h, hr, hs, go⟩ => by
    have e : evS g (.ex (.op .setItem [e1, e2, e3])) δ h = (evE g e1 δ h).go δ fun x h => (evE g e2 δ h).go δ fun y h => (evE g e3 δ h).go δ fun z h => (opApp g.sub .setItem [x, y, z] h).go δ fun _ h => .nx δ h := by
      simp only [evS]
      rw [evE_op3]
      simp only [R.go_bind]
    rw [e] at go
    refine ⟨ι, δ, h, hr, hs, GoS.bind (SS := rrE v) hs go fun d h1 ι1 H1 x r1 ex1 hr1 rx1 go1 => ?_⟩
    refine ⟨ι1, δ, h1, hr1, hs.mono ex1, GoS.bind (SS := rrE v) (hs.mono ex1) go1 fun e h2 ι2 H2 y r2 ex2 hr2 ry2 go2 => ?_⟩
    have hs2 := (hs.mono ex1).mono ex2
    refine ⟨ι2, δ, h2, hr2, hs2, GoS.bind (SS := rrE v) hs2 go2 fun f h3 ι3 H3 z r3 ex3 hr3 rz3 go3 => ?_⟩
    have hs3 := hs2.mono ex3
    refine v_setItem (g := g) (Q := fun _ H' => E.nx σ H') (E := fun c d H' => W c d σ H') hr3 ((rx1.mono ex2).mono ex3) (ry2.mono ex3) rz3 (GoS.bind (SS := rrE v) hs3 go3 fun w h4 ι4 H4 u r4 ex4 hr4 ru4 go4 => ?_)
    exact go4 ι4 H4 σ .refl hr4 (hs3.mono ex4)

/-! ### methods of lists -/
theorem ck_lst {d : D} {h : Hh} : ckR 1 d h = (match d with
    | .ref n => (match h[n]? with
      | some (.lst _) => .ok (.ref n) h
      | _ => .no)
    | _ => .no) := by
  cases d <;> first | rfl | skip
  rename_i n
  show (match h[n]? with
    | some (.lst _) => whenR (1 == 1) (.ok (D.ref n) h)
    | some (.dct _) => whenR (1 == 2) (.ok (D.ref n) h)
    | _ => .no : R D) = (match h[n]? with
      | some (.lst _) => .ok (.ref n) h
      | _ => .no)
  cases q : h[n]? with
  | none => rfl
  | some c => cases c <;> rfl
theorem evE_ck {k : Nat} {δ : Sl} {h : Hh} : evE g (.ck k e1) δ h = (evE g e1 δ h).bind fun d h => ckR k d h := by simp only [evE]
/-- a method of a list's cell, one argument -/
theorem e_lm1 {o : Op} {name : Str} {id : String} {r : V → List V → Hp → VK → Prop} (hb : Cb X v W) (slot : Slot "list" name id) (hty : typeOf (.builtin id) = pure (.type "method_descriptor")) (hm : MtR X id r)
    (val : ∀ (ι : List Addr) (H H0 H1 : Hp) (h : Hh) (n : Nat) (e : D) (x y : V) (Q : VK) (E : XK), HR v ι H h → rrE v ι H0 H (.ref n) x → rrE v ι H1 H e y → Go (rrE v) v ι H (opApp g.sub o [.ref n, e] h) Q E → r x [y] H Q)
    (ha : PE X a (tE v g W e1)) (hi : PE X b (tE v g W e2)) (hbase : attributeBase a name X.env (eval a X.env) = eval a X.env := by rfl)
    (hfew : ((backTo cpos (starEach [b] X.env)).all (fun x => !x.1) && (backToKw cpos (keywordEach [] X.env)).all (fun x => x.1.isSome)
      && decide ([b].length + ([] : List Keyword).length + (if ([] : List Keyword).isEmpty then 0 else 1) < 30)) = true := by rfl)
    (hline : (apos.endLine == cpos.line) = true := by rfl) (hs : starEach [b] X.env = (false, eval b X.env) :: starEach [] X.env := by rfl) (hplain : (backTo cpos (starEach [] X.env)).any (·.1) = false := by rfl) :
    PE X (.Call (.Attribute a name apos) [b] [] cpos) (tE v g W (.op o [.ck 1 e1, e2])) :=
  PE.imp (pe_bm PySem.F.plainAttrs_list slot hty hm ha (pa_cons hi pa_nil hs) hbase hfew hline hs hplain) fun σ H Q ⟨ι, δ, h, hr, hs, go⟩ => by
    rw [evE_op2, evE_ck, R.assoc] at go
    refine ⟨ι, δ, h, hr, hs, Go.bind (SS := rrE v) go fun d h1 ι1 H1 x r1 ex1 hr1 rx1 go1 => ?_⟩
    rw [ck_lst] at go1
    cases d <;> first | exact go1.elim | skip
    rename_i n
    obtain ⟨p, rfl, hp⟩ := rv_ref rx1
    have go1 : Go (rrE v) v ι1 H1 ((match h1[n]? with
      | some (.lst _) => .ok (.ref n) h1
      | _ => .no : R D).bind fun x h => (evE g e2 δ h).bind fun y h => opApp g.sub o [x, y] h) Q _ := go1
    cases q : h1[n]? with
    | none => rw [q] at go1; exact go1.elim
    | some cc =>
      rw [q] at go1
      cases cc with
      | dct _ => exact go1.elim
      | ins _ _ => exact go1.elim
      | lst xs =>
        obtain ⟨vs, hv, _⟩ := (show CR v ι1 H1 p (.lst _) from hr1.cell n p _ hp q)
        have go1 : Go (rrE v) v ι1 H1 ((evE g e2 δ h1).bind fun y h => opApp g.sub o [.ref n, y] h) Q _ := go1
        refine ⟨.inl ⟨rfl, vs, SqL.of hv⟩, ι1, δ, h1, hr1, hs.mono ex1, Go.bind (SS := rrE v) go1 fun e h2 ι2 H2 y r2 ex2 hr2 ry2 go2 => ?_⟩
        exact val ι2 H2 H H1 h2 n e _ y Q _ hr2 (rx1.mono ex2) ry2 go2
theorem e_lm0 {o : Op} {name : Str} {id : String} {r : V → List V → Hp → VK → Prop} (hb : Cb X v W) (slot : Slot "list" name id) (hty : typeOf (.builtin id) = pure (.type "method_descriptor")) (hm : MtR X id r)
    (val : ∀ (ι : List Addr) (H H0 : Hp) (h : Hh) (n : Nat) (x : V) (Q : VK) (E : XK), HR v ι H h → rrE v ι H0 H (.ref n) x → Go (rrE v) v ι H (opApp g.sub o [.ref n] h) Q E → r x [] H Q)
    (ha : PE X a (tE v g W e1)) (hbase : attributeBase a name X.env (eval a X.env) = eval a X.env := by rfl) (hline : (apos.endLine == cpos.line) = true := by rfl) :
    PE X (.Call (.Attribute a name apos) [] [] cpos) (tE v g W (.op o [.ck 1 e1])) :=
  PE.imp (pe_bm0 PySem.F.plainAttrs_list slot hty hm ha hbase hline) fun σ H Q ⟨ι, δ, h, hr, hs, go⟩ => by
    rw [evE_op1, evE_ck, R.assoc] at go
    refine ⟨ι, δ, h, hr, hs, Go.bind (SS := rrE v) go fun d h1 ι1 H1 x r1 ex1 hr1 rx1 go1 => ?_⟩
    rw [ck_lst] at go1
    cases d <;> first | exact go1.elim | skip
    rename_i n
    obtain ⟨p, rfl, hp⟩ := rv_ref rx1
    have go1 : Go (rrE v) v ι1 H1 ((match h1[n]? with
      | some (.lst _) => .ok (.ref n) h1
      | _ => .no : R D).bind fun x h => opApp g.sub o [x] h) Q _ := go1
    cases q : h1[n]? with
    | none => rw [q] at go1; exact go1.elim
    | some cc =>
      rw [q] at go1
      cases cc with
      | dct _ => exact go1.elim
      | ins _ _ => exact go1.elim
      | lst xs =>
        obtain ⟨vs, hv, _⟩ := (show CR v ι1 H1 p (.lst _) from hr1.cell n p _ hp q)
        have go1 : Go (rrE v) v ι1 H1 (opApp g.sub o [.ref n] h1) Q _ := go1
        exact ⟨.inl ⟨rfl, vs, SqL.of hv⟩, val ι1 H1 H h1 n _ Q _ hr1 rx1 go1⟩
theorem v_append (ι : List Addr) (H H0 H1 : Hp) (h : Hh) (n : Nat) (e : D) (x y : V) (Q : VK) (E : XK) (hr : HR v ι H h) (rx : rrE v ι H0 H (.ref n) x) (ry : rrE v ι H1 H e y) (go : Go (rrE v) v ι H (opApp g.sub .append [.ref n, e] h) Q E) : rAppend x [y] H Q := by
  obtain ⟨p, rfl, hp⟩ := rv_ref rx
  have go : Go (rrE v) v ι H (match h[n]? with
    | some (.lst xs) => whenR (D.pers e && decide (xs.length < cells)) (chg h n (xs ++ [e]) .non)
    | _ => .no) Q E := go
  split at go
  · rename_i xs q
    obtain ⟨c, go⟩ := go_when go
    rw [Bool.and_eq_true] at c
    obtain ⟨vs, hv, hd⟩ := (show CR v ι H p (.lst _) from hr.cell n p _ hp q)
    refine ⟨p, vs, y, rfl, rfl, hv, by rw [← hd.length, ← cells_eq]; exact of_decide_eq_true c.2, ?_⟩
    exact go_set (show Go (rrE v) v ι H (.ok .non (h.set n (.lst (xs ++ [e])))) Q E from go) hr hp hv rfl (fun ex => ⟨_, upd_same, (hd.app (.cons (ry.1.rp c.1) .nil)).mono ex⟩) .non rfl
  · exact go.elim
theorem e_append (hb : Cb X v W) (ha : PE X a (tE v g W e1)) (hi : PE X b (tE v g W e2)) (hbase : attributeBase a "append" X.env (eval a X.env) = eval a X.env := by rfl)
    (hfew : ((backTo cpos (starEach [b] X.env)).all (fun x => !x.1) && (backToKw cpos (keywordEach [] X.env)).all (fun x => x.1.isSome)
      && decide ([b].length + ([] : List Keyword).length + (if ([] : List Keyword).isEmpty then 0 else 1) < 30)) = true := by rfl)
    (hline : (apos.endLine == cpos.line) = true := by rfl) (hs : starEach [b] X.env = (false, eval b X.env) :: starEach [] X.env := by rfl) (hplain : (backTo cpos (starEach [] X.env)).any (·.1) = false := by rfl) :
    PE X (.Call (.Attribute a "append" apos) [b] [] cpos) (tE v g W (.op .append [.ck 1 e1, e2])) :=
  e_lm1 hb PySem.F.slot_list_append PySem.F.type_list_append mt_append v_append ha hi hbase hfew hline hs hplain
end
end Ivy

/-! Ivy, part K: what loops walk; while, for, comprehensions. -/
namespace Ivy
open PySem PySem.Spec PyProof.Rows L2

/-! ### guards -/
mutual
theorem D.beq_eq : ∀ (a b : D), D.beq a b = true → a = b
  | .non, b, h => by cases b <;> simp_all [D.beq]
  | .bl x, b, h => by cases b <;> simp_all [D.beq]
  | .int x, b, h => by cases b <;> simp_all [D.beq]
  | .str x, b, h => by cases b <;> simp_all [D.beq]
  | .tup x, b, h => by
    cases b <;> simp [D.beq] at h
    rw [D.beqL_eq x _ h]
  | .rol x, b, h => by
    cases b <;> simp [D.beq] at h
    rw [D.beqL_eq x _ h]
  | .lst x, b, h => by
    cases b <;> simp [D.beq] at h
    rw [D.beqL_eq x _ h]
  | .dct x, b, h => by
    cases b <;> simp [D.beq] at h
    rw [D.beqK_eq x _ h]
  | .ref x, b, h => by cases b <;> simp_all [D.beq]
  | .exc c x, b, h => by
    cases b <;> simp [D.beq] at h
    rw [h.1, D.beqF_eq x _ h.2]
theorem D.beqL_eq : ∀ (a b : List D), D.beqL a b = true → a = b
  | [], b, h => by cases b <;> simp_all [D.beqL]
  | x :: xs, b, h => by
    cases b <;> simp [D.beqL] at h
    rw [D.beq_eq x _ h.1, D.beqL_eq xs _ h.2]
theorem D.beqK_eq : ∀ (a b : List (Ky × D)), D.beqK a b = true → a = b
  | [], b, h => by cases b <;> simp_all [D.beqK]
  | (k, x) :: xs, b, h => by
    cases b with
    | nil => simp [D.beqK] at h
    | cons p ys =>
      obtain ⟨j, y⟩ := p
      simp [D.beqK] at h
      rw [h.1, D.beq_eq x y h.2.1, D.beqK_eq xs ys h.2.2]
theorem D.beqF_eq : ∀ (a b : List (Tx × D)), D.beqF a b = true → a = b
  | [], b, h => by cases b <;> simp_all [D.beqF]
  | (k, x) :: xs, b, h => by
    cases b with
    | nil => simp [D.beqF] at h
    | cons p ys =>
      obtain ⟨j, y⟩ := p
      simp [D.beqF] at h
      rw [h.1, D.beq_eq x y h.2.1, D.beqF_eq xs ys h.2.2]
end
theorem C.beq_eq : ∀ (a b : C), C.beq a b = true → a = b
  | .lst x, b, h => by
    cases b <;> simp [C.beq] at h
    rw [D.beqL_eq x _ h]
  | .dct x, b, h => by
    cases b <;> simp [C.beq] at h
    rw [D.beqK_eq x _ h]
  | .ins c x, b, h => by
    cases b <;> simp [C.beq] at h
    rw [h.1, D.beqF_eq x _ h.2]
theorem gd_at {h : Hh} : ∀ {gd : List (Nat × C)} {n : Nat} {c : C}, gdOk h gd = true → (n, c) ∈ gd → h[n]? = some c
  | (m, d) :: r, n, c, e, z => by
    have e := Bool.and_eq_true_iff.mp (show ((match h[m]? with
      | some c' => C.beq d c'
      | none => false) && gdOk h r) = true from e)
    rcases List.mem_cons.mp z with z | z
    · obtain ⟨z1, z2⟩ := Prod.mk.inj z
      rw [z1, z2]
      have e1 := e.1
      cases q : h[m]? with
      | none => rw [q] at e1; cases e1
      | some c' => rw [q] at e1; rw [C.beq_eq d c' e1]
    · exact gd_at e.2 z
theorem gd_app {h : Hh} : ∀ {a b : List (Nat × C)}, gdOk h (a ++ b) = true → gdOk h a = true ∧ gdOk h b = true
  | [], b, e => ⟨rfl, e⟩
  | x :: a, b, e => by
    obtain ⟨n, c⟩ := x
    have e := Bool.and_eq_true_iff.mp (show ((match h[n]? with
      | some c' => C.beq c c'
      | none => false) && gdOk h (a ++ b)) = true from e)
    have r := gd_app e.2
    exact ⟨Bool.and_eq_true_iff.mpr ⟨e.1, r.1⟩, r.2⟩

/-! ### what is walked -/
structure Src1 (v : Ev) (s : Src) (J : L2.It) (ι0 : List Addr) (H0 : Hp) : Prop where
  go : ∀ ι H h i, Ext ι0 H0 ι H → HR v ι H h → gdOk h s.gd = true → i < s.ds.length → J.go i H
  stop : ∀ ι H h, Ext ι0 H0 ι H → HR v ι H h → gdOk h s.gd = true → J.stop s.ds.length H
  yld : ∀ ι H h i x H', Ext ι0 H0 ι H → HR v ι H h → gdOk h s.gd = true → i < s.ds.length → J.yld i H x H' → Ext ι H ι H' ∧ HR v ι H' h ∧ ∃ d, s.ds[i]? = some d ∧ RP v ι H' d x
def rrI (v : Ev) : RRel Src L2.It := fun ι _ H s J => Src1 v s J ι H
instance {v : Ev} : Back (rrI v) := ⟨fun _ r => r⟩
def tI (v : Ev) (g : G) (W : WX) (it : It) : TI := fun σ H R => ∃ ι δ h, HR v ι H h ∧ SR v ι H δ σ ∧ Go (rrI v) v ι H (evI g it δ h) R (fun c d H' => W c d σ H')
theorem PI.imp {X : Cx} {tg e : Expr} {t t' : TI} (h : PI X tg e t) (k : ∀ σ H R, t' σ H R → t σ H R) : PI X tg e t' := ⟨fun pins s σ H R I q => h.run pins s σ H R I (k σ H R q)⟩
theorem PI.or {X : Cx} {tg e : Expr} {t t' : TI} (h : PI X tg e t) (h' : PI X tg e t') : PI X tg e (fun σ H R => t σ H R ∨ t' σ H R) :=
  ⟨fun pins s σ H R I q => q.elim (h.run pins s σ H R I) (h'.run pins s σ H R I)⟩
section
variable {X : Cx} {v : Ev} {g : G} {W : WX} {a b c tg : Expr} {e1 e2 e3 : Ex} {es : List Expr} {pos p : Pos} {t1 : Te}
theorem src_tup {ι : List Addr} {H : Hp} {q : Addr} {ds : List D} {vs : List V} {K : PySem.W.Frag} (hK : K = v.K) (h1 : SqT v.K H q vs) (h2 : RPs v ι H ds vs) : Src1 v ⟨ds, []⟩ (Itt K q) ι H := by
  subst hK
  refine ⟨fun ι' H' h' i e _ _ hi => ?_, fun ι' H' h' e _ _ => ⟨vs, e.sqT h1, Nat.le_of_eq h2.length.symm⟩, fun ι' H' h' i x H'' e hr _ hi y => ?_⟩
  · have hi : i < vs.length := by rw [← h2.length]; exact hi
    exact ⟨vs, vs[i], e.sqT h1, List.getElem?_eq_getElem hi⟩
  · obtain ⟨rfl, y⟩ := y
    have hx := y vs (e.sqT h1)
    have hi : i < ds.length := hi
    obtain ⟨x', hx', r⟩ := h2.get (List.getElem?_eq_getElem hi)
    rw [hx] at hx'; cases hx'
    exact ⟨.refl, hr, ds[i], List.getElem?_eq_getElem hi, r.mono e⟩
/-- a list as it stands at each turn -/
theorem src_lst {ι : List Addr} {H : Hp} {q : Addr} {ds : List D} {gd : List (Nat × C)} {K : PySem.W.Frag} (hK : K = v.K) (k : ∀ ι' H' h', Ext ι H ι' H' → HR v ι' H' h' → gdOk h' gd = true → ∃ vs, SqL v.K H' q vs ∧ RPs v ι' H' ds vs) : Src1 v ⟨ds, gd⟩ (Itl K q) ι H := by
  subst hK
  refine ⟨fun ι' H' h' i e hr hg hi => ?_, fun ι' H' h' e hr hg => ?_, fun ι' H' h' i x H'' e hr hg hi y => ?_⟩
  · obtain ⟨vs, h1, h2⟩ := k ι' H' h' e hr hg
    have hi : i < vs.length := by rw [← h2.length]; exact hi
    exact ⟨vs, vs[i], h1, List.getElem?_eq_getElem hi⟩
  · obtain ⟨vs, h1, h2⟩ := k ι' H' h' e hr hg
    exact ⟨vs, h1, Nat.le_of_eq h2.length.symm⟩
  · obtain ⟨rfl, y⟩ := y
    obtain ⟨vs, h1, h2⟩ := k ι' _ h' e hr hg
    have hx := y vs h1
    have hi : i < ds.length := hi
    obtain ⟨x', hx', r⟩ := h2.get (List.getElem?_eq_getElem hi)
    rw [hx] at hx'; cases hx'
    exact ⟨.refl, hr, ds[i], List.getElem?_eq_getElem hi, r⟩
theorem src_str {ι : List Addr} {H : Hp} (z : Tx) : Src1 v ⟨z.map fun c => .str [c], []⟩ (Its (tx z)) ι H := by
  refine ⟨fun ι' H' h' i e _ _ hi => ?_, fun ι' H' h' e _ _ => ?_, fun ι' H' h' i x H'' e hr _ hi y => ?_⟩
  · have hi : i < (z.map fun c => D.str [c]).length := hi
    show i < z.toArray.size
    simpa using hi
  · show z.toArray.size ≤ (z.map fun c => D.str [c]).length
    simp
  · obtain ⟨rfl, c, hc, rfl⟩ := y
    have hc : z.toArray[i]? = some c := hc
    refine ⟨.refl, hr, .str [c], ?_, .str [c]⟩
    show (z.map fun c => D.str [c])[i]? = _
    simp at hc
    simp [hc]
theorem src_rng {ι : List Addr} {H : Hp} (lo c : Int) (n : Nat) : Src1 v ⟨rangeL lo n c, []⟩ (Itc lo c n) ι H := by
  have len : (rangeL lo n c).length = n := by simp [rangeL]
  refine ⟨fun ι' H' h' i e _ _ hi => ?_, fun ι' H' h' e _ _ => ?_, fun ι' H' h' i x H'' e hr _ hi y => ?_⟩
  · have hi : i < (rangeL lo n c).length := hi
    rw [len] at hi; exact hi
  · show n ≤ (rangeL lo n c).length
    rw [len]; exact Nat.le_refl _
  · obtain ⟨rfl, rfl⟩ := y
    have hi : i < (rangeL lo n c).length := hi
    rw [len] at hi
    refine ⟨.refl, hr, .int (lo + (i : Int) * c), ?_, .int _⟩
    show (rangeL lo n c)[i]? = _
    simp [rangeL, hi]
/-- a list's source, by its datum -/
theorem src_ls {ι : List Addr} {H H0 : Hp} {h : Hh} {d : D} {x : V} {s : Src} {K : PySem.W.Frag} (hK : K = v.K) (hr : HR v ι H h) (rx : rrE v ι H0 H d x) (e : srcL h d = some s) : ∃ q, x = .ref q ∧ (∃ xs, SqL K H q xs) ∧ Src1 v s (Itl K q) ι H := by
  subst hK
  unfold srcL at e
  split at e
  · cases e
    obtain ⟨q, vs, rfl, h2, h3, h4⟩ := (show RV v ι H (.lst _) x from rx.1)
    exact ⟨q, rfl, ⟨vs, SqL.of h3⟩, src_lst rfl fun ι' H' h' ex _ _ => ⟨vs, SqL.of (ex.fix q _ h3 fun z => absurd z h2), h4.mono ex⟩⟩
  · cases e
    cases (show RP v ι H (.rol _) x from rx.1) with
    | rol h1 h2 => exact ⟨_, rfl, ⟨_, h1.sq⟩, src_lst rfl fun ι' H' h' ex _ _ => ⟨_, (ex.roL h1).sq, h2.mono ex⟩⟩
  · rename_i n
    obtain ⟨q, rfl, hq⟩ := rv_ref rx
    split at e
    · rename_i xs eq
      cases e
      obtain ⟨vs, h1, h2⟩ := (show CR v ι H q (.lst _) from hr.cell n q _ hq eq)
      refine ⟨q, rfl, ⟨vs, SqL.of h1⟩, src_lst rfl fun ι' H' h' ex hr' hg => ?_⟩
      have z := gd_at hg (List.mem_cons_self ..)
      obtain ⟨vs', h3, h4⟩ := (show CR v ι' H' q (.lst _) from hr'.cell n q _ (ex.at hq) z)
      exact ⟨vs', SqL.of h3, h4⟩
    · cases e
  · cases e
theorem i_seq (hb : Cb X v W) (ha : PE X a (tE v g W e1)) : PI X tg a (tI v g W (.seq e1)) :=
  PI.imp (PI.or (pi_tup ha) (PI.or (pi_str ha) (pi_list ha))) fun σ H R ⟨ι, δ, h, hr, hs, go⟩ => by
    have e : evI g (.seq e1) δ h = (evE g e1 δ h).bind fun x h => match srcD h x with
      | some s => .ok s h
      | none => .no := by simp only [evI] <;> rfl
    rw [e] at go
    by_cases t1 : ∃ ds h', evE g e1 δ h = .ok (.tup ds) h'
    · obtain ⟨ds, h', q⟩ := t1
      refine .inl ⟨ι, δ, h, hr, hs, Go.bind (SS := rrE v) go fun d h1 ι1 H1 x r1 ex1 hr1 rx1 go1 => ?_⟩
      rw [q] at r1; cases r1
      obtain ⟨p, vs, rfl, s1, s2⟩ := rv_tup rx1
      exact ⟨p, rfl, ⟨vs, by rw [hb.hK]; exact s1⟩, Go.here (RR := rrI v) (show Go (rrI v) v ι1 H1 (.ok ⟨ds, []⟩ _) R _ from go1) hr1 (src_tup hb.hK s1 s2)⟩
    · by_cases t2 : ∃ z h', evE g e1 δ h = .ok (.str z) h'
      · obtain ⟨z, h', q⟩ := t2
        refine .inr (.inl ⟨ι, δ, h, hr, hs, Go.bind (SS := rrE v) go fun d h1 ι1 H1 x r1 ex1 hr1 rx1 go1 => ?_⟩)
        rw [q] at r1; cases r1
        exact ⟨_, rv_str rx1, Go.here (RR := rrI v) (show Go (rrI v) v ι1 H1 (.ok ⟨z.map fun c => .str [c], []⟩ _) R _ from go1) hr1 (src_str z)⟩
      · refine .inr (.inr ⟨ι, δ, h, hr, hs, Go.bind (SS := rrE v) go fun d h1 ι1 H1 x r1 ex1 hr1 rx1 go1 => ?_⟩)
        have e2 : srcD h1 d = srcL h1 d := by
          cases d with
          | tup ds => exact absurd ⟨_, _, r1⟩ t1
          | str z => exact absurd ⟨_, _, r1⟩ t2
          | _ => rfl
        rw [e2] at go1
        split at go1
        · rename_i s q
          obtain ⟨p, rfl, h1, h2⟩ := src_ls hb.hK hr1 rx1 q
          exact ⟨p, rfl, h1, Go.here (RR := rrI v) go1 hr1 h2⟩
        · exact go1.elim

/-! ### range: of any size -/
theorem turn_long {P : Program} {w : World} {K : PySem.W.Frag} {tg : Expr} (it : Addr) (lo c : Int) (n : Nat) : Turn P w K tg (Itc lo c n) [it] it (fun i h => IsLongIter h it (lo + (i : Nat) * c) ((n : Int) - (i : Nat)) c) where
  mem := List.mem_singleton.mpr rfl
  obj := fun i h st b hb => by
    rw [List.mem_singleton.mp hb]
    exact ⟨_, st, fun u z => nomatch z⟩
  keep := fun i h h' st k => k it (List.mem_singleton.mpr rfl) _ st
  item := by
    intro X e1 e2 e3 hc i pins s σ H E I hf st hg
    subst e1 e2 e3
    obtain ⟨f0, f1, f2, f3, f4, f5⟩ := hf it (List.mem_singleton.mpr rfl)
    refine (Walks.longrange (prog := X.prog) (w := X.w) (I.ok.hd hc) it lo c n).item i s _ _ hg st fun u h' tk hu st' kk => ?_
    obtain ⟨t, rfl⟩ := hu
    have I1 : Inv X pins σ H { s with heap := h', toks := tk } := I.turned (fun b o hb e => kk b o (fun z => hb (List.mem_singleton.mp z)) e) f0 f1 f3 f4 f5
    exact ⟨_, rfl, go_of (s := { s with heap := h', toks := tk }) (n := "longrange_iterator") st' rfl rfl (by decide) ⟨.int (lo + (i : Nat) * c), H, I1, ⟨t, rfl⟩, ⟨rfl, rfl⟩, st', fun b hb => (hf b hb).1⟩⟩
  done := by
    intro X e1 e2 e3 hc i pins s σ H E I hf st hg
    subst e1 e2 e3
    obtain ⟨f0, f1, f2, f3, f4, f5⟩ := hf it (List.mem_singleton.mpr rfl)
    exact wpAny_pyNext_long_end (I.ok.hd hc) st (by have : n ≤ i := hg; omega) fun h' eb => ⟨rfl, I.turned (t' := s.toks) (fun b o hb e => eb b o hb e) f0 f1 f3 f4 f5⟩
  self := fun _ _ _ _ _ st h => wpAny_pyIter_longiter st h
theorem rangeN_eq (a b c : Int) : Builtin.Range.rangeSize a b c = (rangeN a b c : Int) := by
  unfold Builtin.Range.rangeSize rangeN
  split
  · split
    · have : 0 ≤ (b - a - 1) / c := Int.ediv_nonneg (by omega) (by omega)
      omega
    · rfl
  · split
    · have : 0 ≤ (a - b - 1) / (-c) := Int.ediv_nonneg (by omega) (by omega)
      omega
    · rfl
theorem range_itA {pins : List (Addr × Obj)} {σ : L2.St} {H : Hp} {s : Shared} {R : L2.It → Hp → Prop} {E : Value → Shared → Prop} {lo hi c : Int} {t u w : Tok} {tk : Nat} (I : Inv X pins σ H s) (q : R (Itc lo c (rangeN lo hi c)) H) :
    wpAny (model X.prog X.w) X.A (pyIter (.ref s.heap.objs.size)) (PIE X pins σ tg R) E { s with heap := s.heap.push { cls := .type "range", data := .fields #[.int lo t, .int hi u, .int c w] }, toks := tk } := by
  have I2 : Inv X pins σ H { s with heap := s.heap.push { cls := .type "range", data := .fields #[.int lo t, .int hi u, .int c w] }, toks := tk } := I.kept fun b o e => Heap.get?_push_of_some _ e
  have z1 : lo + ((0 : Nat) : Int) * c = lo := by simp
  have z2 : ((rangeN lo hi c : Nat) : Int) - ((0 : Nat) : Int) = Builtin.Range.rangeSize lo hi c := by rw [rangeN_eq]; simp
  cases sm : Builtin.Range.small lo hi c with
  | true =>
    refine wpAny_pyIter_range (IsRange.new ..) sm ?_
    refine pi_one (tk := tk) I2 _ (turn_rangeC _ lo c (rangeN lo hi c)) ?_ q
    show IsRangeIter _ _ (lo + ((0 : Nat) : Int) * c) (((rangeN lo hi c : Nat) : Int) - ((0 : Nat) : Int)) c
    rw [z1, z2]
    exact Heap.get?_push_size _ rfl
  | false =>
    refine wpAny_pyIter_longrange (IsRange.new ..) sm ?_
    refine pi_one (tk := tk) I2 _ (turn_long _ lo c (rangeN lo hi c)) ?_ q
    show IsLongIter _ _ (lo + ((0 : Nat) : Int) * c) (((rangeN lo hi c : Nat) : Int) - ((0 : Nat) : Int)) c
    rw [z1, z2]
    exact Heap.get?_push_size _ rfl
/-- the reading of a range's arguments -/
def iRngA (ta : TA) : TI := fun σ H R => ta σ H fun vs H1 => (∃ j, vs = [.int j] ∧ R (Itc 0 1 (rangeN 0 j 1)) H1) ∨ ((∃ i j, vs = [.int i, .int j] ∧ R (Itc i 1 (rangeN i j 1)) H1) ∨ ∃ i j c, vs = [.int i, .int j, .int c] ∧ c ≠ 0 ∧ c.natAbs.log2 < 9000 ∧ R (Itc i c (rangeN i j c)) H1)
theorem pi_rngA {ta : TA} {x : Str} (hx : x = "range") (hg : Gl X x) (hm : X.mg x = none) (ha : PA X (a :: es) ta) (hs : starEach (a :: es) X.env = (false, eval a X.env) :: starEach es X.env := by rfl) (hpl : (backTo pos (starEach es X.env)).any (·.1) = false := by rfl) : PI X tg (.Call (.Name x p) (a :: es) [] pos) (iRngA ta) := by
  subst hx
  refine ⟨fun pins s σ H R I h => ?_⟩
  refine Call_ (ld_blt I hg hm boot_range (PyProof.Rows.callWith_type1 (thn (ha.run pos pins s σ H _ I h) fun us s1 ⟨vs, H1, I1, r1, q1⟩ => ?_) hs hpl))
  rcases q1 with ⟨j, rfl, q⟩ | ⟨i, j, rfl, q⟩ | ⟨i, j, c, rfl, c0, c1, q⟩
  · cases r1 with
    | cons r rr =>
      cases rr
      obtain ⟨t, rfl⟩ := r
      exact call_range_1 (range_itA I1 q)
  · cases r1 with
    | cons r rr =>
    cases rr with
    | cons r' rr =>
      cases rr
      obtain ⟨t, rfl⟩ := r
      obtain ⟨t', rfl⟩ := r'
      exact call_range_2 (range_itA I1 q)
  · cases r1 with
    | cons r rr =>
    cases rr with
    | cons r' rr =>
    cases rr with
    | cons r'' rr =>
      cases rr
      obtain ⟨t, rfl⟩ := r
      obtain ⟨t', rfl⟩ := r'
      obtain ⟨t'', rfl⟩ := r''
      exact call_range_3 c0 (range_itA I1 q) (.inl (PyProof.noPylong_of_log2 c1))
theorem rngS_ok {ι : List Addr} {H H0 : Hp} {h : Hh} {ds : List D} {xs : List V} {s : Src} {R : L2.It → Hp → Prop} {E : XK} (hr : HR v ι H h) (rx : rrL v ι H0 H ds xs) (e : rngS ds = some s) (go : Go (rrI v) v ι H (.ok s h) R E) :
    (∃ j, xs = [.int j] ∧ R (Itc 0 1 (rangeN 0 j 1)) H) ∨ ((∃ i j, xs = [.int i, .int j] ∧ R (Itc i 1 (rangeN i j 1)) H) ∨ ∃ i j c, xs = [.int i, .int j, .int c] ∧ c ≠ 0 ∧ c.natAbs.log2 < 9000 ∧ R (Itc i c (rangeN i j c)) H) := by
  unfold rngS at e
  split at e
  · cases e
    cases rx with
    | cons r1 t =>
      cases t
      rw [rv_int r1]
      exact .inl ⟨_, rfl, Go.here (RR := rrI v) go hr (src_rng _ _ _)⟩
  · cases e
    cases rx with
    | cons r1 t =>
    cases t with
    | cons r2 t =>
      cases t
      rw [rv_int r1, rv_int r2]
      exact .inr (.inl ⟨_, _, rfl, Go.here (RR := rrI v) go hr (src_rng _ _ _)⟩)
  · split at e
    · rename_i c
      cases e
      cases rx with
      | cons r1 t =>
      cases t with
      | cons r2 t =>
      cases t with
      | cons r3 t =>
        cases t
        rw [rv_int r1, rv_int r2, rv_int r3]
        have c0 := c.1
        exact .inr (.inr ⟨_, _, _, rfl, c0, (Nat.log2_lt (by omega)).mpr c.2, Go.here (RR := rrI v) go hr (src_rng _ _ _)⟩)
    · cases e
  · cases e
theorem i_rng {fs : List Ex} {x : Str} (hx : x = "range") (hg : Gl X x) (hm : X.mg x = none) (ha : PA X (a :: es) (tL v g W fs)) (hs : starEach (a :: es) X.env = (false, eval a X.env) :: starEach es X.env := by rfl) (hpl : (backTo pos (starEach es X.env)).any (·.1) = false := by rfl) :
    PI X tg (.Call (.Name x p) (a :: es) [] pos) (tI v g W (.rng fs)) := PI.imp (pi_rngA hx hg hm ha hs hpl) fun σ H R ⟨ι, δ, h, hr, hs, go⟩ => by
  have e : evI g (.rng fs) δ h = (evEs g fs δ h).bind fun xs h => match rngS xs with
    | some s => .ok s h
    | none => .no := by simp only [evI] <;> rfl
  rw [e] at go
  refine ⟨ι, δ, h, hr, hs, Go.bind (SS := rrL v) go fun ds h1 ι1 H1 xs r1 ex1 hr1 rx1 go1 => ?_⟩
  split at go1
  · rename_i s q
    exact rngS_ok hr1 rx1 q go1
  · exact go1.elim
end
end Ivy

/-! Ivy, part L: while, for, comprehensions. -/
namespace Ivy
open PySem PySem.Spec PyProof.Rows L2
section
variable {X : Cx} {v : Ev} {g : G} {W : WX} {a b c tg : Expr} {e1 e2 e3 : Ex} {es : List Expr} {pos p : Pos} {t1 : Te} {sts : List Stmt} {ss : List St} {t : Tg} {it : It}

theorem s_whl {ks : List Nat} (hp : PassesOwn (model X.prog X.w) X.A X.env X.xe) (hc : PT X c (tT v g W t1)) (hb : PSs X sts (tSs v g W ss)) : PS X (.While c sts [] pos) (tS v g W (.whl t1 ss ks)) :=
  PS.imp (ps_while hp hc hb) fun E σ H ⟨ι, δ, h, hr, hs, go⟩ => by
    have e : evS g (.whl t1 ss ks) δ h = lpW (evT g t1) ks (evSs g ss) g.w (wipeS δ ks) h := by simp only [evS]
    rw [e] at go
    refine ⟨fun n σ H => ∃ ι δ h, HR v ι H h ∧ SR v ι H δ σ ∧ GoS v W ι H (lpW (evT g t1) ks (evSs g ss) n δ h) E, ⟨g.w, ι, wipeS δ ks, h, hr, hs.wipe ks, go⟩, fun n σ1 H1 ⟨ι1, δ1, h1, hr1, hs1, go1⟩ => ?_⟩
    cases n with
    | zero => exact go1.elim
    | succ n =>
      refine ⟨ι1, δ1, h1, hr1, hs1, GoS.bind (SS := rrB) hs1 (show GoS v W ι1 H1 ((evT g t1 δ1 h1).go δ1 fun k h => if k = true then (match evSs g ss δ1 h with
        | .nx δ2 h2 => lpW (evT g t1) ks (evSs g ss) n (wipeS δ2 ks) h2
        | .cont δ2 h2 => lpW (evT g t1) ks (evSs g ss) n (wipeS δ2 ks) h2
        | .brk δ2 h2 => .nx (wipeS δ2 ks) h2
        | r => r) else .nx (wipeS δ1 ks) h) E from go1) fun k h2 ι2 H2 x r2 ex2 hr2 rx2 go2 => ?_⟩
      cases (show x = k from rx2)
      cases k with
      | false => exact go2 ι2 H2 σ1 .refl hr2 ((hs1.mono ex2).wipe ks)
      | true =>
        simp only [↓reduceIte] at go2 ⊢
        refine ⟨_, fun σ' H' w => ⟨n, Nat.lt_succ_self n, w⟩, ι2, δ1, h2, hr2, hs1.mono ex2, ?_⟩
        cases q : evSs g ss δ1 h2 with
        | nx δ2 h3 => rw [q] at go2; exact fun ι' H' σ' ex hr hs => ⟨ι', wipeS δ2 ks, h3, hr, hs.wipe ks, GoS.shift ex hr go2⟩
        | cont δ2 h3 => rw [q] at go2; exact fun ι' H' σ' ex hr hs => ⟨ι', wipeS δ2 ks, h3, hr, hs.wipe ks, GoS.shift ex hr go2⟩
        | brk δ2 h3 => rw [q] at go2; exact fun ι' H' σ' ex hr hs => go2 ι' H' σ' ex hr (hs.wipe ks)
        | ret d h3 => rw [q] at go2; exact go2
        | err c fs δ2 h3 => rw [q] at go2; exact go2
        | no => rw [q] at go2; exact go2
theorem s_for {ks : List Nat} (hp : PassesOwn (model X.prog X.w) X.A X.env X.xe) (hc : X.calm = true) (hi : PI X tg a (tI v g W it)) (hg : PG X tg (gT v t)) (hb : PSs X sts (tSs v g W ss))
    (hs : ∀ x, foldedSetIterable a X.env x = pure x := by intro _; rfl) : PS X (.For tg a sts [] pos) (tS v g W (.for t it ss ks)) :=
  PS.imp (ps_for hp hc hi hg hb hs) fun E σ H ⟨ι, δ, h, hr, hs, go⟩ => by
    have e : evS g (.for t it ss ks) δ h = (evI g it δ h).go δ fun s h => lpF s.gd t ks (evSs g ss) s.ds (wipeS δ ks) h := by simp only [evS]
    rw [e] at go
    refine ⟨ι, δ, h, hr, hs, GoS.bind (SS := rrI v) hs go fun s h1 ι1 H1 J r1 ex1 hr1 rj go1 => ?_⟩
    refine ⟨fun i m σ H => m = s.ds.length - i ∧ i ≤ s.ds.length ∧ ∃ ι δ h, Ext ι1 H1 ι H ∧ HR v ι H h ∧ SR v ι H δ σ ∧ GoS v W ι H (lpF s.gd t ks (evSs g ss) (s.ds.drop i) δ h) E,
      ⟨s.ds.length, rfl, Nat.zero_le _, ι1, wipeS δ ks, h1, .refl, hr1, (hs.mono ex1).wipe ks, go1⟩, ?_⟩
    rintro i m σ2 H2 ⟨rfl, hi, ι2, δ2, h2, ex2, hr2, hs2, go2⟩
    by_cases hlt : i < s.ds.length
    · rw [List.drop_eq_getElem_cons hlt] at go2
      have go2 : GoS v W ι2 H2 (if gdOk h2 s.gd = true then (match putT t s.ds[i] δ2 with
        | some δ' => (match evSs g ss δ' h2 with
          | .nx δ2 h2 => lpF s.gd t ks (evSs g ss) (s.ds.drop (i + 1)) (wipeS δ2 ks) h2
          | .cont δ2 h2 => lpF s.gd t ks (evSs g ss) (s.ds.drop (i + 1)) (wipeS δ2 ks) h2
          | .brk δ2 h2 => .nx (wipeS δ2 ks) h2
          | r => r)
        | none => .no) else .no) E := go2
      split at go2
      · rename_i gk
        refine .inr ⟨rj.go ι2 H2 h2 i ex2 hr2 gk hlt, _, fun σ' H' w => ⟨s.ds.length - (i + 1), by omega, w⟩, fun x H3 y => ?_⟩
        obtain ⟨ex3, hr3, d, hd, rd⟩ := rj.yld ι2 H2 h2 i x H3 ex2 hr2 gk hlt y
        rw [List.getElem?_eq_getElem hlt] at hd
        cases hd
        split at go2
        · rename_i δ' q
          refine ⟨ι2, δ2, h2, s.ds[i], δ', hr3, hs2.mono ex3, rd, q, fun σ4 hs4 _ => ⟨ι2, δ', h2, hr3, hs4, ?_⟩⟩
          have go3 := GoS.shift ex3 hr3 go2
          cases q : evSs g ss δ' h2 with
          | nx δ5 h5 => rw [q] at go3; exact fun ι' H' σ' ex hr hs => ⟨rfl, hlt, ι', wipeS δ5 ks, h5, (ex2.trans ex3).trans ex, hr, hs.wipe ks, GoS.shift ex hr go3⟩
          | cont δ5 h5 => rw [q] at go3; exact fun ι' H' σ' ex hr hs => ⟨rfl, hlt, ι', wipeS δ5 ks, h5, (ex2.trans ex3).trans ex, hr, hs.wipe ks, GoS.shift ex hr go3⟩
          | brk δ5 h5 => rw [q] at go3; exact fun ι' H' σ' ex hr hs => go3 ι' H' σ' ex hr (hs.wipe ks)
          | ret d h3 => rw [q] at go3; exact go3
          | err c fs δ2 h3 => rw [q] at go3; exact go3
          | no => rw [q] at go3; exact go3
        · exact go2.elim
      · exact go2.elim
    · have e : i = s.ds.length := by omega
      subst e
      rw [List.drop_length] at go2
      have go2 : GoS v W ι2 H2 (if gdOk h2 s.gd = true then .nx (wipeS δ2 ks) h2 else .no) E := go2
      split at go2
      · rename_i gk
        exact .inl ⟨rj.stop ι2 H2 h2 ex2 hr2 gk, go2 ι2 H2 σ2 .refl hr2 (hs2.wipe ks)⟩
      · exact go2.elim

/-! ### comprehensions -/
/-! the new list, ahead of the tracked cells, grows -/
mutual
theorem RP.swap {ι : List Addr} {H : Hp} {A : Addr} {o : HO} {acc : List V} (hA : H A = some (.lst acc)) : ∀ {d : D} {x : V}, RP v ι H d x → RP v ι (upd H A o) d x
  | _, _, .non => .non
  | _, _, .bl b => .bl b
  | _, _, .int i => .int i
  | _, _, .str x => .str x
  | _, _, .tup h r => .tup (by
    rcases h with (h | ⟨o, h⟩) | h
    · exact .inl (.inl (by rw [upd_ne fun z => by subst z; rw [hA] at h; cases h]; exact h))
    · exact .inl (.inr ⟨o, by rw [upd_ne fun z => by subst z; rw [hA] at h; cases h]; exact h⟩)
    · exact .inr h) (RPs.swap hA r)
  | _, _, .rol h r => .rol (by
    rcases h with ⟨o, h⟩ | h
    · exact .inl ⟨o, by rw [upd_ne fun z => by subst z; rw [hA] at h; cases h]; exact h⟩
    · exact .inr h) (RPs.swap hA r)
  | _, _, .ref h => .ref h
theorem RPs.swap {ι : List Addr} {H : Hp} {A : Addr} {o : HO} {acc : List V} (hA : H A = some (.lst acc)) : ∀ {ds : List D} {xs : List V}, RPs v ι H ds xs → RPs v ι (upd H A o) ds xs
  | _, _, .nil => .nil
  | _, _, .cons h r => .cons (RP.swap hA h) (RPs.swap hA r)
end
theorem RX.swap {ι : List Addr} {H : Hp} {A : Addr} {o : HO} {acc : List V} (hA : H A = some (.lst acc)) {d : D} {x : V} (r : RX v ι H d x) : RX v ι (upd H A o) d x := by
  cases d with
  | exc c fs =>
    obtain ⟨a, rfl, q | ⟨d, fvs, vs, q1, q2, q3, q4⟩⟩ := (show XO v ι H c fs x from r)
    · exact ⟨a, rfl, .inl q⟩
    · exact ⟨a, rfl, .inr ⟨d, fvs, vs, q1, by rw [upd_ne fun z => by subst z; rw [hA] at q2; cases q2]; exact q2, q3, q4.swap hA⟩⟩
  | _ => exact RP.swap hA r
theorem HR.swap {ι : List Addr} {H : Hp} {h : Hh} {A : Addr} {o : HO} {acc : List V} (r : HR v ι H h) (hA : H A = some (.lst acc)) (nA : A ∉ ι) : HR v ι (upd H A o) h := ⟨r.len, r.nd, fun n p cc h1 h2 => by
  have q := r.cell n p cc h1 h2
  have ne : p ≠ A := fun z => nA (z ▸ List.mem_of_getElem? h1)
  cases cc with
  | lst ds => obtain ⟨vs, z1, z2⟩ := q; exact ⟨vs, by rw [upd_ne ne]; exact z1, z2.swap hA⟩
  | dct ds => obtain ⟨vs, z1, z2⟩ := q; exact ⟨vs, by rw [upd_ne ne]; exact z1, z2.1, z2.2.swap hA⟩
  | ins c' ds => obtain ⟨dx, vs, z0, z1, z2⟩ := q; exact ⟨dx, vs, z0, by rw [upd_ne ne]; exact z1, z2.1, z2.2.swap hA⟩⟩
theorem SR.swap {ι : List Addr} {H : Hp} {δ : Sl} {σ : L2.St} {A : Addr} {o : HO} {acc : List V} (r : SR v ι H δ σ) (hA : H A = some (.lst acc)) : SR v ι (upd H A o) δ σ := ⟨r.1, fun i d hd =>
  let ⟨x, h1, h2⟩ := r.2 i d hd
  ⟨x, h1, RX.swap hA h2⟩⟩
theorem Ext.put {ι ι' : List Addr} {H H' : Hp} {A : Addr} {o : HO} (e : Ext ι H ι' H') (hA : H A = none) : Ext ι H ι' (upd H' A o) :=
  ⟨e.pre, fun q o' hq hm => by rw [upd_ne fun z => by subst z; rw [hA] at hq; cases hq]; exact e.fix q o' hq hm, fun q o' hq hp => by
    obtain ⟨o2, h1, h2⟩ := e.kin q o' hq hp
    exact ⟨o2, by rw [upd_ne fun z => by subst z; rw [hA] at hp; cases hp]; exact h1, h2⟩⟩
theorem Ext.out {ι ι' : List Addr} {H H' : Hp} {A : Addr} {o : HO} (e : Ext ι H ι' H') (hA : H A = some o) (nA : A ∉ ι) : A ∉ ι' ∧ H' A = some o := by
  refine ⟨?_, e.fix A o hA fun z => absurd z nA⟩
  obtain ⟨m, rfl, hm⟩ := e.pre
  intro z
  rcases List.mem_append.mp z with z | z
  · exact nA z
  · rw [(hm A z).1] at hA; cases hA
theorem wipe_len2 {σ : L2.St} : ∀ {vs : List Nat}, (L2.wipe σ vs).length = σ.length
  | [] => rfl
  | k :: vs => by unfold L2.wipe; rw [List.length_set, wipe_len2]
theorem SR.wipe2 {ι : List Addr} {H : Hp} {δ : Sl} {σ : L2.St} (r : SR v ι H δ σ) : ∀ vs : List Nat, SR v ι H (wipeS δ vs) (L2.wipe σ vs)
  | [] => r
  | k :: vs => by
    have q := SR.wipe2 r vs
    refine ⟨by rw [wipeS, L2.wipe, List.length_set, List.length_set]; exact q.1, fun j d hd => ?_⟩
    rw [wipeS] at hd
    rw [L2.wipe]
    by_cases hj : k = j
    · subst hj
      by_cases hi : k < (wipeS δ vs).length
      · rw [List.getElem?_set_self hi] at hd; cases hd
      · rw [List.getElem?_eq_none (by rw [List.length_set]; omega)] at hd; cases hd
    · rw [List.getElem?_set_ne hj] at hd ⊢
      exact q.2 j d hd
theorem wipe_get {σ : L2.St} {j : Nat} : ∀ {vs : List Nat}, j ∉ vs → (L2.wipe σ vs)[j]? = σ[j]?
  | [], _ => rfl
  | k :: vs, h => by
    rw [L2.wipe, List.getElem?_set_ne fun z => h (by simp [z])]
    exact wipe_get fun z => h (List.mem_cons_of_mem _ z)
theorem wipe_in {σ : L2.St} {j : Nat} : ∀ {vs : List Nat}, j ∈ vs → j < σ.length → (L2.wipe σ vs)[j]? = some none
  | k :: vs, h, hl => by
    rw [L2.wipe]
    by_cases z : k = j
    · subst z
      rw [List.getElem?_set_self (by rw [wipe_len2]; exact hl)]
    · rw [List.getElem?_set_ne z]
      exact wipe_in ((List.mem_cons.mp h).resolve_left fun y => z y.symm) hl
/-- the slots that a target stored are forgotten alike -/
theorem wipe_off {σ σ2 : L2.St} {is vs : List Nat} (o : Off is (L2.wipe σ vs) σ2) (hs : ∀ i ∈ is, i ∈ vs) : L2.wipe σ2 vs = L2.wipe σ vs := by
  refine List.ext_getElem? fun j => ?_
  have l2 : σ2.length = σ.length := by rw [o.1, wipe_len2]
  by_cases hj : j ∈ vs
  · by_cases hl : j < σ.length
    · rw [wipe_in hj hl, wipe_in hj (by rw [l2]; exact hl)]
    · rw [List.getElem?_eq_none (by rw [wipe_len2, l2]; omega), List.getElem?_eq_none (by rw [wipe_len2]; omega)]
  · rw [wipe_get hj, o.2 j fun z => hj (hs j z)]
/-- no exception leaves it -/
def Wn : WX := fun _ _ _ _ => False
theorem go_calm {α β : Type} {RR : RRel α β} {ι : List Addr} {H : Hp} {r : R α} {Q : β → Hp → Prop} {E E' : XK} (go : Go RR v ι H r.calm Q E) : Go RR v ι H r Q E' := by
  cases r with
  | ok d h => exact go
  | err c fs h => exact go.elim
  | no => exact go
theorem calm_bind {α β : Type} (r : R α) (k : α → Hh → R β) : (r.bind k).calm = r.calm.bind fun a h => (k a h).calm := by cases r <;> rfl
theorem ts_nil : PTs X [] (tTs v g W []) := ⟨fun pins s σ H Q I ⟨ι, δ, h, hr, hs, go⟩ => pts_nil.run pins s σ H Q I (by
  have e : evTs g [] δ h = .ok true h := by simp only [evTs]
  rw [e] at go
  exact Go.here (RR := rrB) go hr rfl)⟩
theorem ts_one (hc : PT X c (tT v g W t1)) : PTs X [c] (tTs v g W [t1]) := ⟨fun pins s σ H Q I ⟨ι, δ, h, hr, hs, go⟩ => (pts_one hc).run pins s σ H Q I (by
  have e : evTs g [t1] δ h = (evT g t1 δ h).bind fun k h => if k = true then .ok true h else .ok false h := by simp only [evTs]
  rw [e] at go
  refine ⟨ι, δ, h, hr, hs, Go.bind (SS := rrB) go fun k h1 ι1 H1 x r1 ex1 hr1 rx1 go1 => ?_⟩
  cases (show x = k from rx1)
  cases k with
  | true => exact Go.here (RR := rrB) (show Go rrB v ι1 H1 (.ok true h1) Q _ from go1) hr1 rfl
  | false => exact Go.here (RR := rrB) (show Go rrB v ι1 H1 (.ok false h1) Q _ from go1) hr1 rfl)⟩
theorem lpC_calm {gd : List (Nat × C)} {step : D → Hh → R (Option D)} : ∀ {xs : List D} {h : Hh} {c : Nat} {fs : List (Tx × D)} {h' : Hh}, lpC gd step xs h ≠ .err c fs h'
  | [], h, c, fs, h', e => by
    unfold lpC whenR at e
    split at e <;> cases e
  | x :: xs, h, c, fs, h', e => by
    unfold lpC whenR at e
    split at e
    · cases q : step x h with
      | ok y h1 =>
        rw [q] at e
        have e : ((lpC gd step xs h1).bind fun ys h => .ok (match y with
          | some y => y :: ys
          | none => ys) h) = .err c fs h' := e
        cases q2 : lpC gd step xs h1 with
        | ok ys h2 => rw [q2] at e; cases e
        | err c fs h' => exact lpC_calm q2
        | no => rw [q2] at e; cases e
      | err _ _ _ => rw [q] at e; cases e
      | no => rw [q] at e; cases e
    · cases e
/-- one turn -/
def cpS (g : G) (t : Tg) (cs : List Te) (e : Ex) (δ : Sl) (x : D) (h : Hh) : R (Option D) := match putT t x δ with
    | some δ' => (evTs g cs δ' h).bind fun k h => if k = true then (evE g e δ' h).bind fun y h => whenR (D.pers y) (.ok (some y) h) else .ok none h
    | none => .no
def cpF (acc ys : List D) (h : Hh) : R D := whenR (decide ((acc ++ ys).length ≤ cells)) (.ok (.lst (acc ++ ys)) h)
theorem evE_comp {own : List Nat} {cs : List Te} {δ : Sl} {h : Hh} : evE g (.comp own t it cs e1) δ h = (evI g it δ h).bind fun src h => (lpC src.gd (cpS g t cs e1 (wipeS δ own)) src.ds h).bind fun ys h => cpF [] ys h := by
  simp only [evE]
  rfl
theorem lpC_cons {gd : List (Nat × C)} {step : D → Hh → R (Option D)} {x : D} {xs acc : List D} {h : Hh} {ι : List Addr} {H : Hp} {Q : VK} {E : XK} (go : Go (rrE v) v ι H ((lpC gd step (x :: xs) h).bind fun ys h => cpF acc ys h) Q E) :
    gdOk h gd = true ∧ ((∃ y h1, step x h = .ok (some y) h1 ∧ acc.length < cells ∧ Go (rrE v) v ι H ((lpC gd step xs h1).bind fun ys h => cpF (acc ++ [y]) ys h) Q E) ∨ ∃ h1, step x h = .ok none h1 ∧ Go (rrE v) v ι H ((lpC gd step xs h1).bind fun ys h => cpF acc ys h) Q E) := by
  unfold lpC at go
  cases gk : gdOk h gd with
  | false => rw [gk] at go; exact go.elim
  | true =>
    rw [gk] at go
    refine ⟨rfl, ?_⟩
    cases q : step x h with
    | err _ _ _ => rw [q] at go; exact go.elim
    | no => rw [q] at go; exact go.elim
    | ok y h1 =>
      rw [q] at go
      have go : Go (rrE v) v ι H (((lpC gd step xs h1).bind fun ys h => .ok (match (generalizing := false) y with
          | some y => y :: ys
          | none => ys) h).bind fun ys h => cpF acc ys h) Q E := go
      rw [R.assoc] at go
      cases y with
      | none => exact .inr ⟨h1, rfl, go⟩
      | some y =>
        refine .inl ⟨y, h1, rfl, ?_⟩
        cases q2 : lpC gd step xs h1 with
        | err c fs h' => exact absurd q2 lpC_calm
        | no => rw [q2] at go; exact go.elim
        | ok ys h2 =>
          rw [q2] at go
          have go : Go (rrE v) v ι H (cpF acc (y :: ys) h2) Q E := go
          have go2 := go_when go
          have le := of_decide_eq_true go2.1
          refine ⟨?_, ?_⟩
          · rw [List.length_append, List.length_cons] at le; omega
          · show Go (rrE v) v ι H (cpF (acc ++ [y]) ys h2) Q E
            unfold cpF at go ⊢
            rw [List.append_assoc]
            exact go
theorem l_comp {vs : List Nat} {cs : List Te} {σ : L2.St} {H : Hp} {Q : VK} (hv : ∀ i ∈ Tg.ns t, i ∈ vs) (q : tE v g W (.comp vs t it cs e1) σ H Q) : tLc (tI v g W it) (gT v t) (tTs v g Wn cs) (tE v g Wn e1) vs σ H Q := by
  obtain ⟨ι, δ, h, hr, hs, go⟩ := q
  rw [evE_comp] at go
  refine ⟨ι, δ, h, hr, hs, Go.bind (SS := rrI v) go fun s h1 ι1 H1 J r1 ex1 hr1 rj go1 => ?_⟩
  intro A hA
  have hs1 := hs.mono ex1
  refine ⟨fun i m H => m = s.ds.length - i ∧ i ≤ s.ds.length ∧ ∃ ι h acc dacc, Ext ι1 H1 ι H ∧ HR v ι H h ∧ A ∉ ι ∧ H A = some (.lst acc) ∧ RPs v ι H dacc acc ∧
      Go (rrE v) v ι1 H1 ((lpC s.gd (cpS g t cs e1 (wipeS δ vs)) (s.ds.drop i) h).bind fun ys h => cpF dacc ys h) Q (fun c d H' => W c d σ H'),
    ⟨s.ds.length, rfl, Nat.zero_le _, ι1, h1, [], [], ext_new hA, hr1.new hA, hr1.notIn hA, upd_same, .nil, go1⟩, ?_⟩
  rintro i m H2 ⟨rfl, hi, ι2, h2, acc, dacc, ex2, hr2, nA, eA, ra, go2⟩
  by_cases hlt : i < s.ds.length
  · rw [List.drop_eq_getElem_cons hlt] at go2
    obtain ⟨gk, step⟩ := lpC_cons go2
    refine .inr ⟨rj.go ι2 H2 h2 i ex2 hr2 gk hlt, _, fun H' w => ⟨s.ds.length - (i + 1), by omega, w⟩, fun x H3 y => ?_⟩
    obtain ⟨ex3, hr3, d, hd, rd⟩ := rj.yld ι2 H2 h2 i x H3 ex2 hr2 gk hlt y
    rw [List.getElem?_eq_getElem hlt] at hd
    cases hd
    obtain ⟨nA3, eA3⟩ := ex3.out eA nA
    have ra3 := ra.mono ex3
    have ex13 := ex2.trans ex3
    have hsw : SR v ι2 H3 (wipeS δ vs) (L2.wipe σ vs) := (hs1.mono ex13).wipe2 vs
    cases q : putT t s.ds[i] (wipeS δ vs) with
    | none =>
      rcases step with ⟨y, h4, e, _⟩ | ⟨h4, e, _⟩
      · unfold cpS at e; rw [q] at e; cases e
      · unfold cpS at e; rw [q] at e; cases e
    | some δ' =>
      have es : cpS g t cs e1 (wipeS δ vs) s.ds[i] h2 = (evTs g cs δ' h2).bind fun k h => if k = true then (evE g e1 δ' h).bind fun y h => whenR (D.pers y) (.ok (some y) h) else .ok none h := by
        unfold cpS; rw [q]
      rw [es] at step
      refine ⟨ι2, wipeS δ vs, h2, s.ds[i], δ', hr3, hsw, rd, q, fun σ4 hs4 off => ⟨wipe_off off hv, ι2, δ', h2, hr3, hs4, ?_⟩⟩
      cases q1 : evTs g cs δ' h2 with
      | err _ _ _ => rw [q1] at step; rcases step with ⟨y, h4, e, _⟩ | ⟨h4, e, _⟩ <;> cases e
      | no => rw [q1] at step; rcases step with ⟨y, h4, e, _⟩ | ⟨h4, e, _⟩ <;> cases e
      | ok k h5 =>
        rw [q1] at step
        rw [R.okb] at step
        intro ι5 H5 x5 ex5 hr5 rx5
        cases (show x5 = k from rx5)
        obtain ⟨nA5, eA5⟩ := ex5.out eA3 nA3
        have ra5 := ra3.mono ex5
        have ex15 := ex13.trans ex5
        cases k with
        | false =>
          rcases step with ⟨y, h4, e, _⟩ | ⟨h4, e, go4⟩
          · cases e
          · cases e
            exact ⟨rfl, hlt, ι5, h5, acc, dacc, ex15, hr5, nA5, eA5, ra5, go4⟩
        | true =>
          rw [if_pos rfl] at step ⊢
          refine ⟨ι5, δ', h5, hr5, hs4.mono ex5, ?_⟩
          cases q2 : evE g e1 δ' h5 with
          | err _ _ _ => rw [q2] at step; rcases step with ⟨y, h4, e, _⟩ | ⟨h4, e, _⟩ <;> cases e
          | no => rw [q2] at step; rcases step with ⟨y, h4, e, _⟩ | ⟨h4, e, _⟩ <;> cases e
          | ok y h6 =>
            rw [q2] at step
            rw [R.okb] at step
            intro ι6 H6 x6 ex6 hr6 rx6
            obtain ⟨nA6, eA6⟩ := ex6.out eA5 nA5
            have ra6 := ra5.mono ex6
            have ex16 := ex15.trans ex6
            cases py : D.pers y with
            | false => rw [py] at step; rcases step with ⟨y, h4, e, _⟩ | ⟨h4, e, _⟩ <;> cases e
            | true =>
              rw [py] at step
              rcases step with ⟨y', h4, e, hl, go4⟩ | ⟨h4, e, _⟩
              · cases e
                refine ⟨acc, eA6, by rw [← ra6.length, ← cells_eq]; exact hl, rfl, hlt, ι6, h6, acc ++ [x6], dacc ++ [y], ex16.put hA, hr6.swap eA6 nA6, nA6, upd_same, ?_, go4⟩
                exact (ra6.swap eA6).app (.cons ((rx6.1.rp py).swap eA6) .nil)
              · cases e
  · have e : i = s.ds.length := by omega
    subst e
    rw [List.drop_length] at go2
    unfold lpC at go2
    cases gk : gdOk h2 s.gd with
    | false => rw [gk] at go2; exact go2.elim
    | true =>
      rw [gk] at go2
      refine .inl ⟨rj.stop ι2 H2 h2 ex2 hr2 gk, ?_⟩
      have go2 : Go (rrE v) v ι1 H1 (cpF dacc [] h2) Q _ := go2
      unfold cpF at go2
      obtain ⟨_, go2⟩ := go_when go2
      rw [List.append_nil] at go2
      exact go2 ι2 H2 _ ex2 hr2 ⟨⟨A, acc, rfl, nA, eA, ra⟩, fun a e => by cases e; exact hA⟩
theorem e_comp {elt : Expr} {ifs : List Expr} {scope : Scope} {own : List (Str × Nat)} {vs : List Nat} {cs : List Te} (hc : X.calm = true) (hN : X.N.Nodup) (hi : PI X tg a (tI v g W it)) (ok : BlkOk X.N X.env.scope scope own)
    (hg : ∀ (s : Shared) (H : Hp) (C : Addr) (cl : List (Str × Addr)) (fp : List Addr), PG (X.blk s H scope (compEnvC scope cl C X.env) fp) tg (gT v t)) (ht : ∀ (s : Shared) (H : Hp) (C : Addr) (cl : List (Str × Addr)) (fp : List Addr), PTs (X.blk s H scope (compEnvC scope cl C X.env) fp) ifs (tTs v g Wn cs))
    (he : ∀ (s : Shared) (H : Hp) (C : Addr) (cl : List (Str × Addr)) (fp : List Addr), PE (X.blk s H scope (compEnvC scope cl C X.env) fp) elt (tE v g Wn e1)) (hv : ∀ i ∈ Tg.ns t, i ∈ vs) (ho : own.map (·.2) = vs := by rfl) (hs : ∀ x, foldedSetIterable a X.env x = pure x := by intro _; rfl) :
    PE X (.ListComp elt [⟨tg, a, ifs, 0⟩] scope pos) (tE v g W (.comp vs t it cs e1)) := by
  subst ho
  exact PE.imp (pe_lc hc hN hi ok hg ht he hs) fun σ H Q q => l_comp hv q
/-- x = [..] where the old x may be used up -/
theorem s_setLc {i : Nat} {y : Str} {py spos : Pos} {elt : Expr} {ifs : List Expr} {scope : Scope} {own : List (Str × Nat)} {vs : List Nat} {cs : List Te} (hc : X.calm = true) (hN : X.N.Nodup) (hy : X.N[i]? = some y) (hyl : X.env.scope.names.lookup y = some .local)
    (hsw : swapsWith (.ListComp elt [⟨tg, a, ifs, 0⟩] scope pos) (some (.Name y py)) spos.line X.env = pure true) (hi : PI X tg a (tI v g W it)) (ok : BlkOk X.N X.env.scope scope own)
    (hg : ∀ (s : Shared) (H : Hp) (C : Addr) (cl : List (Str × Addr)) (fp : List Addr), PG (X.blk s H scope (compEnvC scope cl C X.env) fp) tg (gT v t)) (ht : ∀ (s : Shared) (H : Hp) (C : Addr) (cl : List (Str × Addr)) (fp : List Addr), PTs (X.blk s H scope (compEnvC scope cl C X.env) fp) ifs (tTs v g Wn cs))
    (he : ∀ (s : Shared) (H : Hp) (C : Addr) (cl : List (Str × Addr)) (fp : List Addr), PE (X.blk s H scope (compEnvC scope cl C X.env) fp) elt (tE v g Wn e1)) (hv : ∀ i ∈ Tg.ns t, i ∈ vs) (ho : own.map (·.2) = vs := by rfl) (hs : ∀ x, foldedSetIterable a X.env x = pure x := by intro _; rfl) :
    PS X (.Assign [.Name y py] (.ListComp elt [⟨tg, a, ifs, 0⟩] scope pos) spos) (tS v g W (.asg (.name i) (.box (.comp vs t it cs e1)))) := by
  subst ho
  exact PS.imp (ps_setLc hc hN hy hyl hsw hi ok hg ht he hs) fun E σ H q => l_comp hv (l_box (l_set q))
end
end Ivy

/-! Ivy, part M: calls of defs, what a def promises, a def's end. -/
namespace Ivy
open PySem PySem.Spec PyProof.Rows L2

/-! ### old cells -/
theorem lowF_map {n : Nat} : ∀ {fs : List (Tx × D)}, D.lowF n fs = D.lowL n (fs.map (·.2))
  | [] => by simp [D.lowF, D.lowL]
  | (_, d) :: fs => by simp only [D.lowF, D.lowL, List.map_cons]; rw [lowF_map]
theorem lowK_map {n : Nat} : ∀ {fs : List (Ky × D)}, D.lowK n fs = D.lowL n (fs.map (·.2))
  | [] => by simp [D.lowK, D.lowL]
  | (_, d) :: fs => by simp only [D.lowK, D.lowL, List.map_cons]; rw [lowK_map]
section
variable {v : Ev} {ι m : List Addr} {H H' : Hp} {h : Hh}
mutual
theorem RP.low : ∀ {d : D} {x : V}, RP v ι H d x → D.low ι.length d = true
  | _, _, .non => by simp [D.low]
  | _, _, .bl b => by simp [D.low]
  | _, _, .int i => by simp [D.low]
  | _, _, .str x => by simp [D.low]
  | _, _, .tup h r => by simp only [D.low]; exact RPs.low r
  | _, _, .rol h r => by simp only [D.low]; exact RPs.low r
  | _, _, .ref h => by simp only [D.low]; exact decide_eq_true (List.getElem?_eq_some_iff.mp h).1
theorem RPs.low : ∀ {ds : List D} {xs : List V}, RPs v ι H ds xs → D.lowL ι.length ds = true
  | _, _, .nil => by simp [D.lowL]
  | _, _, .cons h r => by simp only [D.lowL, Bool.and_eq_true]; exact ⟨RP.low h, RPs.low r⟩
end
mutual
theorem RP.old : ∀ {d : D} {x : V}, RP v (ι ++ m) H d x → D.low ι.length d = true → RP v ι H d x
  | _, _, .non, _ => .non
  | _, _, .bl b, _ => .bl b
  | _, _, .int i, _ => .int i
  | _, _, .str x, _ => .str x
  | _, _, .tup h r, l => .tup h (RPs.old r (by simpa only [D.low] using l))
  | _, _, .rol h r, l => .rol h (RPs.old r (by simpa only [D.low] using l))
  | _, _, .ref h, l => .ref (by
    have l := of_decide_eq_true (by simpa only [D.low] using l)
    rw [List.getElem?_append_left l] at h; exact h)
theorem RPs.old : ∀ {ds : List D} {xs : List V}, RPs v (ι ++ m) H ds xs → D.lowL ι.length ds = true → RPs v ι H ds xs
  | _, _, .nil, _ => .nil
  | _, _, .cons h r, l => by
    simp only [D.lowL, Bool.and_eq_true] at l
    exact .cons (RP.old h l.1) (RPs.old r l.2)
end
theorem CR.low {a : Addr} {c : C} (q : CR v ι H a c) : C.low ι.length c = true := by
  cases c with
  | lst ds => obtain ⟨vs, _, r⟩ := q; exact r.low
  | dct ds => obtain ⟨vs, _, r⟩ := q; simp only [C.low]; rw [lowK_map]; exact r.2.low
  | ins c ds => obtain ⟨dx, vs, _, _, r⟩ := q; simp only [C.low]; rw [lowF_map]; exact r.2.low
theorem CR.old {a : Addr} {c : C} (q : CR v (ι ++ m) H a c) (l : C.low ι.length c = true) : CR v ι H a c := by
  cases c with
  | lst ds => obtain ⟨vs, z, r⟩ := q; exact ⟨vs, z, r.old l⟩
  | dct ds => obtain ⟨vs, z, r⟩ := q; simp only [C.low] at l; rw [lowK_map] at l; exact ⟨vs, z, r.1, r.2.old l⟩
  | ins c ds => obtain ⟨dx, vs, z0, z, r⟩ := q; simp only [C.low] at l; rw [lowF_map] at l; exact ⟨dx, vs, z0, z, r.1, r.2.old l⟩
theorem trim_at {n : Nat} : ∀ {h g : Hh} {i : Nat} {c c' : C}, trimOk n h g = true → h[i]? = some c → g[i]? = some c' → c = c' ∨ C.low n c' = true
  | [], _, i, c, c', _, e, _ => by simp at e
  | _ :: _, [], i, c, c', _, _, e => by simp at e
  | a :: h, b :: g, 0, c, c', t, e, e' => by
    simp at e e'; subst e e'
    have t := (Bool.and_eq_true_iff.mp (show ((C.beq a b || C.low n b) && trimOk n h g) = true from t)).1
    rcases (Bool.or_eq_true _ _).mp t with t | t
    · exact .inl (C.beq_eq a b t)
    · exact .inr t
  | a :: h, b :: g, i + 1, c, c', t, e, e' => by
    have t := (Bool.and_eq_true_iff.mp (show ((C.beq a b || C.low n b) && trimOk n h g) = true from t)).2
    exact trim_at t (by simpa using e) (by simpa using e')
/-- the old cells alone -/
theorem HR.trim {g : Hh} (r0 : HR v ι H h) (r : HR v (ι ++ m) H' g) (t : trimOk h.length h g = true) : HR v ι H' (g.take h.length) := by
  have hl : ι.length = h.length := r0.len
  have hg : (ι ++ m).length = g.length := r.len
  refine ⟨by rw [List.length_take, ← hg, List.length_append]; omega, r0.nd, fun i a c h1 h2 => ?_⟩
  have hi : i < ι.length := (List.getElem?_eq_some_iff.mp h1).1
  rw [List.getElem?_take_of_lt (by omega)] at h2
  have q := r.cell i a c (by rw [List.getElem?_append_left hi]; exact h1) h2
  have hc : h[i]? = some h[i] := List.getElem?_eq_getElem (by omega)
  refine q.old ?_
  rcases trim_at t hc h2 with e | e
  · rw [← e]; exact (r0.cell i a _ h1 hc).low
  · rw [hl]; exact e
theorem Ext.cut {ι' : List Addr} (e : Ext ι H ι' H') : Ext ι H ι H' := ⟨⟨[], by simp, fun _ z => nomatch z⟩, e.fix, e.kin⟩
/-- a new cell handed back becomes a fresh one -/
theorem lift_ok {g : Hh} {d : D} {x : V} (hl : ι.length = h.length) (r : HR v (ι ++ m) H' g) (hm : ∀ b ∈ m, H b = none ∧ b ∉ ι) (rx : rrE v (ι ++ m) H H' d x) (l : D.low h.length (lift h.length g d) = true) : rrE v ι H H' (lift h.length g d) x := by
  have keep : ∀ {d : D}, rrE v (ι ++ m) H H' d x → D.low h.length d = true → rrE v ι H H' d x := fun {d} rx l => by
    rw [← hl] at l
    cases d with
    | lst ds =>
      obtain ⟨a, vs, e, h2, h3, h4⟩ := (show RV v (ι ++ m) H' (.lst ds) x from rx.1)
      exact ⟨⟨a, vs, e, fun z => h2 (List.mem_append_left _ z), h3, h4.old (by simpa only [D.low] using l)⟩, rx.2⟩
    | dct ds =>
      obtain ⟨a, vs, e, h2, h3, h4⟩ := (show RV v (ι ++ m) H' (.dct ds) x from rx.1)
      exact ⟨⟨a, vs, e, fun z => h2 (List.mem_append_left _ z), h3, h4.1, h4.2.old (by simp only [D.low] at l; rw [lowK_map] at l; exact l)⟩, rx.2⟩
    | non => exact ⟨RP.old (show RP v (ι ++ m) H' .non x from rx.1) l, trivial⟩
    | bl b => exact ⟨RP.old (show RP v (ι ++ m) H' (.bl b) x from rx.1) l, trivial⟩
    | int b => exact ⟨RP.old (show RP v (ι ++ m) H' (.int b) x from rx.1) l, trivial⟩
    | str b => exact ⟨RP.old (show RP v (ι ++ m) H' (.str b) x from rx.1) l, trivial⟩
    | tup b => exact ⟨RP.old (show RP v (ι ++ m) H' (.tup b) x from rx.1) l, trivial⟩
    | rol b => exact ⟨RP.old (show RP v (ι ++ m) H' (.rol b) x from rx.1) l, trivial⟩
    | ref b => exact ⟨RP.old (show RP v (ι ++ m) H' (.ref b) x from rx.1) l, trivial⟩
    | exc c b =>
      obtain ⟨a, rfl, q | ⟨d, fvs, vs, q1, q2, q3, q4⟩⟩ := (show XO v (ι ++ m) H' c b x from rx.1)
      · exact ⟨⟨a, rfl, .inl q⟩, trivial⟩
      · exact ⟨⟨a, rfl, .inr ⟨d, fvs, vs, q1, q2, q3, q4.old (by simp only [D.low] at l; rw [lowF_map] at l; exact l)⟩⟩, trivial⟩
  cases d with
  | ref n =>
    unfold lift at l ⊢
    simp only at l ⊢
    split at l
    · rename_i hn
      obtain ⟨a, rfl, ha⟩ := rv_ref rx
      have hin : a ∈ m := by
        rw [List.getElem?_append_right (by omega)] at ha
        exact List.mem_of_getElem? ha
      split at l
      · rename_i xs q
        obtain ⟨vs, h1, h2⟩ := (show CR v (ι ++ m) H' a (.lst xs) from r.cell n a _ ha q)
        rw [if_pos hn]
        rw [← hl] at l
        exact ⟨⟨a, vs, rfl, (hm a hin).2, h1, h2.old (by simpa only [D.low] using l)⟩, fun b e => by cases e; exact (hm a hin).1⟩
      · rename_i xs q
        obtain ⟨vs, h1, h2⟩ := (show CR v (ι ++ m) H' a (.dct xs) from r.cell n a _ ha q)
        rw [if_pos hn]
        rw [← hl] at l
        exact ⟨⟨a, vs, rfl, (hm a hin).2, h1, h2.1, h2.2.old (by simp only [D.low] at l; rw [lowK_map] at l; exact l)⟩, fun b e => by cases e; exact (hm a hin).1⟩
      · have := of_decide_eq_true (show decide (n < h.length) = true by simpa only [D.low] using l)
        omega
    · rename_i hn
      rw [if_neg hn]
      exact keep rx l
  | _ => exact keep rx l
end

/-! ### what a def promises -/
def spD (v : Ev) (F : List D → Hh → R D) (np : Nat) : Sp := fun vs H Q E => ∃ ι h ds, HR v ι H h ∧ RPs v ι H ds vs ∧ ds.length = np ∧ Go (rrE v) v ι H (F ds h) Q E
section
variable {v : Ev} {ι : List Addr} {H : Hp} {h : Hh} {Q : VK} {E : XK}
theorem endF_ok {r : Rs} (hr : HR v ι H h) (go : Go (rrE v) v ι H (endF h r) Q E) : GoS v (fun c d _ H => E c d H) ι H r { nx := fun _ H' => Q .non H', rt := Q } := by
  have hl := hr.len
  have fin : ∀ {d : D} {g : Hh} {ι' : List Addr} {H' : Hp} {x : V}, Go (rrE v) v ι H (finish h d g) Q E → Ext ι H ι' H' → HR v ι' H' g → rrE v ι' H H' d x → Q x H' := fun {d g ι' H' x} go ex hr' rx => by
    unfold finish at go
    split at go
    · exact go ι' H' x ex hr' rx
    · split at go
      · rename_i c
        rw [Bool.and_eq_true] at c
        obtain ⟨m, rfl, hm⟩ := ex.pre
        exact go ι H' x ex.cut (hr.trim hr' c.2) (lift_ok hl hr' hm rx c.1)
      · exact go ι' H' x ex hr' rx
  cases r with
  | nx δ g => exact fun ι' H' σ' ex hr' _ => fin go ex hr' ⟨.non, trivial⟩
  | ret d g => exact fun ι' H' x ex hr' rx => fin go ex hr' rx
  | brk δ g => exact go.elim
  | cont δ g => exact go.elim
  | no => exact go.elim
  | err c fs δ g =>
    intro ι' H' σ' cls dd ex hr' hs rx
    have go : Go (rrE v) v ι H (finishX h c fs g) Q E := go
    unfold finishX at go
    split at go
    · exact go ι' H' cls dd ex hr' rx
    · split at go
      · rename_i cc
        rw [Bool.and_eq_true] at cc
        obtain ⟨m, rfl, hm⟩ := ex.pre
        refine go ι H' cls dd ex.cut (hr.trim hr' cc.2) ⟨rx.1, ?_⟩
        have rx2 := rx.2
        cases dd with
        | none => exact rx2
        | some d =>
          obtain ⟨fvs, vs, z1, z2, z3⟩ := rx2
          refine ⟨fvs, vs, z1, z2, z3.old ?_⟩
          have := cc.1
          rw [lowF_map, ← hl] at this
          exact this
      · exact go ι' H' cls dd ex hr' rx
theorem start_ok {N : List Str} {ns : Nat} {ds : List D} {vs : List V} (hN : N.length = ns) (r : RPs v ι H ds vs) (hle : ds.length ≤ ns) : SR v ι H (ds.map some ++ List.replicate (ns - ds.length) none) (start N vs) := by
  unfold L2.start
  have hl := r.length
  refine ⟨by simp [hN, hl], fun i d hd => ?_⟩
  by_cases hi : i < ds.length
  · rw [List.getElem?_append_left (by simpa using hi), List.getElem?_map] at hd
    cases q : ds[i]? with
    | none => rw [q] at hd; cases hd
    | some d' =>
      rw [q] at hd
      cases hd
      obtain ⟨x, hx, rx⟩ := r.get q
      refine ⟨x, ?_, RX.of rx⟩
      rw [List.getElem?_append_left (by rw [List.length_map, ← hl]; exact hi), List.getElem?_map, hx]
      rfl
  · rw [List.getElem?_append_right (by simpa using hi)] at hd
    rw [List.getElem?_replicate] at hd
    split at hd <;> cases hd
/-- a body that reads so keeps the promise -/
theorem body_ok {g : G} {fn : Fn} {N : List Str} {vs : List V} {np : Nat} (hN : N.length = fn.ns) (hle : fn.np ≤ fn.ns) (hs : spD v (runF g fn) np vs H Q E) :
    tSs v g (fun c d _ H => E c d H) fn.body { nx := fun _ H' => Q .non H', rt := Q } (start N vs) H := by
  obtain ⟨ι, h, ds, hr, rs, hl, go⟩ := hs
  unfold runF at go
  split at go
  · rename_i e
    exact ⟨ι, startS fn ds, h, hr, start_ok hN rs (by omega), endF_ok hr go⟩
  · exact go.elim
end

/-! ### calls -/
def pickL {α : Type} (ds : List α) (perm : List Nat) : List α := perm.filterMap fun i => ds[i]?
theorem pick_rps {v : Ev} {ι : List Addr} {H : Hp} {ds : List D} {vs : List V} (r : RPs v ι H ds vs) : ∀ perm : List Nat, RPs v ι H (pick ds perm) (pickL vs perm)
  | [] => .nil
  | i :: perm => by
    unfold pick pickL
    rw [List.filterMap_cons, List.filterMap_cons]
    have ih := pick_rps r perm
    cases q : ds[i]? with
    | none =>
      have : vs[i]? = none := by
        rw [List.getElem?_eq_none_iff] at q ⊢
        rw [← r.length]; exact q
      rw [this]
      exact ih
    | some d =>
      obtain ⟨x, hx, rx⟩ := r.get q
      rw [hx]
      exact .cons rx ih
theorem pick_vals {vs : List V} {us : List Value} (r : Vals vs us) : ∀ perm : List Nat, Vals (pickL vs perm) (pickL us perm)
  | [] => .nil
  | i :: perm => by
    unfold pickL
    rw [List.filterMap_cons, List.filterMap_cons]
    have ih := pick_vals r perm
    cases q : vs[i]? with
    | none =>
      have : us[i]? = none := by
        rw [List.getElem?_eq_none_iff] at q ⊢
        rw [← r.length]; exact q
      rw [this]
      exact ih
    | some x =>
      obtain ⟨u, hu, ru⟩ := r.get q
      rw [hu]
      exact .cons ru ih
/-- how n values and keywords are bound -/
def KBp (fd : FuncData) (ps ks : List Str) (n : Nat) (perm : List Nat) : Prop := ∀ (s : Shared) (us ws : List Value), us.length = n → ws.length = ks.length → BindsTo s fd ⟨us, ks.zip ws⟩ (ps.zip (pickL (us ++ ws) perm))
section
variable {X : Cx} {v : Ev} {g : G} {W : WX} {a : Expr} {es : List Expr} {fs fs2 : List Ex} {pos p : Pos} {x : Str} {k f n : Nat} {fa : Addr} {fd : FuncData} {ps ks : List Str} {kws : List Keyword} {perm : List Nat}
theorem evEs_len : ∀ {fs : List Ex} {δ : Sl} {h h' : Hh} {ds : List D}, evEs g fs δ h = .ok ds h' → ds.length = fs.length
  | [], δ, h, h', ds, e => by simp only [evEs] at e; cases e; rfl
  | f :: fs, δ, h, h', ds, e => by
    simp only [evEs] at e
    cases q : evE g f δ h with
    | err _ _ _ => rw [q] at e; cases e
    | no => rw [q] at e; cases e
    | ok d h1 =>
      rw [q, R.okb] at e
      cases q2 : evEs g fs δ h1 with
      | err _ _ _ => rw [q2] at e; cases e
      | no => rw [q2] at e; cases e
      | ok es h2 =>
        rw [q2] at e
        cases e
        rw [List.length_cons, List.length_cons, evEs_len q2]
theorem evE_call {δ : Sl} {h : Hh} : evE g (.call f fs perm) δ h = (evEs g fs δ h).bind fun ds h => whenR (persL ds) (g.fn f (match perm with
    | [] => ds
    | _ => pick ds perm) h) := by simp only [evE] <;> rfl
theorem e_call (hb : Cb X v W) (F : FnOk X.prog X.w X.K X.mg X.base (L2.CX X.prog X.w) k fa fd ps (spD v (g.fn f) ps.length)) (hr : Room k X.A) (hg : Gl X x) (hm : X.mg x = some (.ref fa)) (hk : PySem.W.keepIn X.K (.ref fa) = true) (hbi : Binds X.K fd ps [])
    (ha : PA X (a :: es) (tL v g W fs)) (hdb : (x == ("__debug__" : Str)) = false := by decide) (hl : fs.length = ps.length := by rfl) (he : starEach (a :: es) X.env = (false, eval a X.env) :: starEach es X.env := by rfl) (hpl : (backTo pos (starEach es X.env)).any (·.1) = false := by rfl) :
    PE X (.Call (.Name x p) (a :: es) [] pos) (tE v g W (.call f fs [])) :=
  PE.imp (pe_callSD F hr hg hm hk hbi .nil (E := WE W) (fun σ => passAt hb.tk σ) ha hdb he hpl) fun σ H Q ⟨ι, δ, h, hr, hs, go⟩ => by
    rw [evE_call] at go
    refine ⟨ι, δ, h, hr, hs, Go.bind (SS := rrL v) go fun ds h1 ι1 H1 xs r1 ex1 hr1 rx1 go1 => ?_⟩
    obtain ⟨c, go1⟩ := go_when go1
    have rs := rx1.rps c
    rw [List.append_nil]
    refine ⟨ι1, h1, ds, hr1, rs, ?_, go1⟩
    rw [← hl]
    exact evEs_len r1
theorem run_kb {E : L2.St → XK} {pins : List (Addr × Obj)} {σ : L2.St} {H : Hp} {s : Shared} {Q : VK} {us ws : List Value} {vs zs : List V} {sp : Sp} (F : FnOk X.prog X.w X.K X.mg X.base (L2.CX X.prog X.w) k fa fd ps sp) (hr : Room k X.A) (hb : KBp fd ps ks n perm) (hx : ∀ σ, PassesAt (L2.CX X.prog X.w) X σ (E σ))
    (I : Inv X pins σ H s) (r : Vals vs us) (rz : Vals zs ws) (l1 : us.length = n) (l2 : ws.length = ks.length) (h : sp (pickL (vs ++ zs) perm) H Q (E σ)) : wpAny (model X.prog X.w) X.A (call (.ref fa) us (ks.zip ws)) (EP X pins σ Q) X.xe s := by
  refine wpAny_call (codeAny_mono (F.run X.A X.stack s H ⟨us, ks.zip ws⟩ _ _ Q (E σ) hr I.env0 (hb s us ws l1 l2) (pick_vals (r.append rz) perm) h) fun res s' hq => ?_)
  cases res with
  | error e => exact hx σ pins H s e s' I hq
  | ok fl =>
    cases fl with
    | ret u => exact I.after hq
    | next => exact hq.elim
    | brk => exact hq.elim
    | cont => exact hq.elim
/-- keywords' values -/
theorem k_nil : PK X [] (tL v g W []) := ⟨fun pos pins s σ H Q I ⟨ι, δ, h, hr, hs, go⟩ => pk_nil.run pos pins s σ H Q I (go.here hr .nil)⟩
theorem k_cons {nm : Option Str} {kp : Pos} {e1 : Ex} (ha : PE X a (tE v g W e1)) (hr : PK X kws (tL v g W fs)) : PK X (⟨nm, a, kp⟩ :: kws) (tL v g W (e1 :: fs)) :=
  ⟨fun pos pins s σ H Q I t => (pk_cons ha hr).run pos pins s σ H Q I (l_cons t)⟩
theorem evEs_app : ∀ {fs fs2 : List Ex} {δ : Sl} {h : Hh}, evEs g (fs ++ fs2) δ h = (evEs g fs δ h).bind fun xs h => (evEs g fs2 δ h).bind fun ys h => .ok (xs ++ ys) h
  | [], fs2, δ, h => by
    simp only [evEs, List.nil_append]
    rw [R.okb]
    cases evEs g fs2 δ h <;> rfl
  | f :: fs, fs2, δ, h => by
    simp only [List.cons_append, evEs]
    cases evE g f δ h with
    | err _ _ _ => rfl
    | no => rfl
    | ok d h1 =>
      rw [R.okb, R.okb, evEs_app]
      cases evEs g fs δ h1 with
      | err _ _ _ => rfl
      | no => rfl
      | ok es h2 =>
        show ((R.bind (evEs g fs2 δ h2) fun ys h => .ok (es ++ ys) h).bind fun xs h => .ok (d :: xs) h) = R.bind (evEs g fs2 δ h2) fun ys h => .ok (d :: es ++ ys) h
        cases evEs g fs2 δ h2 <;> rfl
theorem rrL.app {ι : List Addr} {H0 H : Hp} : ∀ {ds es : List D} {xs ys : List V}, rrL v ι H0 H ds xs → rrL v ι H0 H es ys → rrL v ι H0 H (ds ++ es) (xs ++ ys)
  | _, _, _, _, .nil, s => s
  | _, _, _, _, .cons r t, s => .cons r (rrL.app t s)
/-- f(a, .., k = b, ..) -/
theorem e_callK (hb : Cb X v W) (F : FnOk X.prog X.w X.K X.mg X.base (L2.CX X.prog X.w) k fa fd ps (spD v (g.fn f) ps.length)) (hr : Room k X.A) (hg : Gl X x) (hm : X.mg x = some (.ref fa)) (hk : PySem.W.keepIn X.K (.ref fa) = true) (hbi : KBp fd ps ks fs.length perm)
    (ha : PA X (a :: es) (tL v g W fs)) (hkw : PK X kws (tL v g W fs2)) (hn : perm ≠ []) (hlen : ∀ ds : List D, ds.length = fs.length + fs2.length → (pick ds perm).length = ps.length) (hl2 : fs2.length = ks.length := by rfl)
    (hall : (backToKw pos (keywordEach kws X.env)).all (·.1.isSome) = true := by rfl) (hks : (backToKw pos (keywordEach kws X.env)).filterMap (·.1) = ks := by rfl)
    (hdb : (x == ("__debug__" : Str)) = false := by decide) (he : starEach (a :: es) X.env = (false, eval a X.env) :: starEach es X.env := by rfl)
    (hpl : ((backTo pos (starEach (a :: es) X.env)).any (·.1) || (backToKw pos (keywordEach kws X.env)).any (·.1.isNone)) = false := by rfl) :
    PE X (.Call (.Name x p) (a :: es) kws pos) (tE v g W (.call f (fs ++ fs2) perm)) := by
  refine ⟨fun pins s σ H Q I ⟨ι, δ, h, hr', hs, go⟩ => ?_⟩
  rw [evE_call, evEs_app, R.assoc] at go
  have t1 : tL v g W fs σ H fun xs H1 => tL v g W fs2 σ H1 fun ys H2 => xs.length = fs.length ∧ ys.length = fs2.length ∧ spD v (g.fn f) ps.length (pickL (xs ++ ys) perm) H2 Q (WE W σ) := by
    refine ⟨ι, δ, h, hr', hs, Go.bind (SS := rrL v) go fun ds h1 ι1 H1 xs r1 ex1 hr1 rx1 go1 => ?_⟩
    rw [R.assoc] at go1
    refine ⟨ι1, δ, h1, hr1, hs.mono ex1, Go.bind (SS := rrL v) go1 fun es h2 ι2 H2 ys r2 ex2 hr2 ry2 go2 => ?_⟩
    rw [R.okb] at go2
    obtain ⟨c, go2⟩ := go_when go2
    have rs := ((rx1.mono ex2).app (ry2.back fun p hp => ex1.back hr1 hp)).rps c
    have l1 := evEs_len r1
    have l2 := evEs_len r2
    refine ⟨?_, ?_, ι2, h2, pick (ds ++ es) perm, hr2, pick_rps rs perm, hlen _ (by rw [List.length_append, l1, l2]), ?_⟩
    · have := rs.length
      have z := (rx1.rps (by unfold persL at c ⊢; rw [List.all_append, Bool.and_eq_true] at c; exact c.1)).length
      rw [← z, l1]
    · have z := (ry2.rps (by unfold persL at c ⊢; rw [List.all_append, Bool.and_eq_true] at c; exact c.2)).length
      rw [← z, l2]
    · cases perm with
      | nil => exact absurd rfl hn
      | cons i perm => exact go2
  refine wpAny_Call_Name_kw (ld_glob I hg hm ?_ hdb)
  refine PySem.W.callWith_KW (h₀ := X.base) I.ok.mod.kin hk hall (thn (ha.run pos pins s σ H _ I t1) fun us s1 ⟨vs, H1, I1, r, q⟩ => ?_) hpl he
  refine thn (hkw.run pos pins s1 σ H1 _ I1 q) fun ws s2 ⟨zs, H2, I2, rz, q1, q2, q3⟩ => ⟨I2.kIn, ?_⟩
  rw [hks]
  exact run_kb F hr hbi (fun σ => passAt hb.tk σ) I2 r rz (by rw [List.nil_append, ← r.length]; exact q1) (by rw [← rz.length, q2, hl2]) q3
theorem e_callKO (hb : Cb X v W) (F : FnOk X.prog X.w X.K X.mg X.base (L2.CX X.prog X.w) k fa fd ps (spD v (g.fn f) ps.length)) (hr : Room k X.A) (hg : Gl X x) (hm : X.mg x = some (.ref fa)) (hk : PySem.W.keepIn X.K (.ref fa) = true) (hbi : KBp fd ps ks 0 perm)
    (hkw : PK X kws (tL v g W fs2)) (hn : perm ≠ []) (hlen : ∀ ds : List D, ds.length = fs2.length → (pick ds perm).length = ps.length) (hl2 : fs2.length = ks.length := by rfl)
    (hall : (backToKw pos (keywordEach kws X.env)).all (·.1.isSome) = true := by rfl) (hks : (backToKw pos (keywordEach kws X.env)).filterMap (·.1) = ks := by rfl) (hdb : (x == ("__debug__" : Str)) = false := by decide)
    (hpl : ((backTo pos (starEach [] X.env)).any (·.1) || (backToKw pos (keywordEach kws X.env)).any (·.1.isNone)) = false := by rfl) :
    PE X (.Call (.Name x p) [] kws pos) (tE v g W (.call f fs2 perm)) := by
  refine ⟨fun pins s σ H Q I ⟨ι, δ, h, hr', hs, go⟩ => ?_⟩
  rw [evE_call] at go
  have t1 : tL v g W fs2 σ H fun ys H2 => ys.length = fs2.length ∧ spD v (g.fn f) ps.length (pickL ([] ++ ys) perm) H2 Q (WE W σ) := by
    refine ⟨ι, δ, h, hr', hs, Go.bind (SS := rrL v) go fun ds h1 ι1 H1 xs r1 ex1 hr1 rx1 go1 => ?_⟩
    obtain ⟨c, go1⟩ := go_when go1
    have rs := rx1.rps c
    have l1 := evEs_len r1
    refine ⟨by rw [← rs.length, l1], ι1, h1, pick ds perm, hr1, pick_rps rs perm, hlen _ l1, ?_⟩
    cases perm with
    | nil => exact absurd rfl hn
    | cons i perm => exact go1
  refine wpAny_Call_Name_kw (ld_glob I hg hm ?_ hdb)
  refine PySem.W.callWith_KW0 (h₀ := X.base) I.ok.mod.kin hk hall ?_ hpl
  refine thn (hkw.run pos pins s σ H _ I t1) fun ws s2 ⟨zs, H2, I2, rz, q2, q3⟩ => ⟨I2.kIn, ?_⟩
  rw [hks]
  exact run_kb (us := []) F hr hbi (fun σ => passAt hb.tk σ) I2 .nil rz rfl (by rw [← rz.length, q2, hl2]) q3
end
end Ivy

/-! Ivy, part N: contexts, a try whose body raises nothing, all defs at every level. -/
namespace Ivy
open PySem PySem.Spec PyProof.Rows L2
section
variable {X : Cx} {v : Ev} {g : G} {W : WX} {pos : Pos} {sts : List Stmt} {ss : List St}
theorem Cc.nox (h : Cc X v W) : Cc X.nox v Wn := ⟨⟨h.hK, fun u s' ⟨a, B, sI, pins, σ, H, cls, d, e, I, nb, up, sky, na, os, ag, w⟩ => w.elim, h.nd, h.hu⟩, h.calm, PassesOwn.never⟩
theorem Cc.blk (h : Cc X v W) {s : Shared} {H : Hp} {scope : Scope} {env : Env} {fp : List Addr} : Cc (X.blk s H scope env fp) v Wn := ⟨⟨h.hK, fun u s' ⟨a, B, sI, pins, σ, H, cls, d, e, I, nb, up, sky, na, os, ag, w⟩ => w.elim, h.nd, h.hu⟩, h.calm, PassesOwn.never⟩
/-- a try whose body raises nothing -/
theorem s_thru {h₀ : ExceptHandler} {hs : List ExceptHandler} (hb : PSs X.nox sts (tSs v g Wn ss)) : PS X (.Try sts (h₀ :: hs) [] [] pos) (tS v g W (.thru ss)) :=
  PS.imp (ps_try_thru0 hb) fun E σ H ⟨ι, δ, h, hr, hs, go⟩ => by
    have e : evS g (.thru ss) δ h = (match evSs g ss δ h with
      | .err _ _ _ _ => .no
      | r => r) := by simp only [evS] <;> rfl
    rw [e] at go
    refine ⟨ι, δ, h, hr, hs, ?_⟩
    cases q : evSs g ss δ h with
    | err _ _ _ _ => rw [q] at go; exact go.elim
    | nx δ h => rw [q] at go; exact go
    | brk δ h => rw [q] at go; exact go
    | cont δ h => rw [q] at go; exact go
    | ret d h => rw [q] at go; exact go
    | no => rw [q] at go; exact go
end
section
variable {P : Program} {w : World} {K : PySem.W.Frag} {mg : Str → Option Value} {base : Heap} {N : List Str} {qual : Str} {scope : Scope} {f : Addr} {cd : Value} {A : Around} {outer : List Env} {s : Shared} {H : Hp} {E : XK} {v : Ev} {k : Nat}
/-- a def's own context -/
theorem cc_def (hK : K = v.K) (hN : N.Nodup) (hr : Room k (A.deeper (envOfC qual scope s.heap.objs.size f cd))) : Cc (cxOf (L2.CX P w) P w K mg base N qual scope f cd A outer s H E) v (fun c d _ H => E c d H) :=
  ⟨⟨hK, takes_of rfl rfl rfl rfl, hN, by have := hr.un; show (A.deeper (envOfC qual scope s.heap.objs.size f cd)).units + 80 < cLine; omega⟩, rfl, passes_of rfl⟩
end
/-- all defs keep their promises at a level -/
def Lv (P : Program) (w : World) (K : PySem.W.Frag) (mg : Str → Option Value) (base : Heap) (v : Ev) (Pr : Pg) (fa : Nat → Addr) (fd : Nat → FuncData) (ps : Nat → List Str) (N n : Nat) : Prop :=
  ∀ i, i < N → FnOk P w K mg base (L2.CX P w) (n + 2) (fa i) (fd i) (ps i) (spD v (callF Pr n i) (ps i).length)
theorem spD_len {v : Ev} {F : List D → Hh → R D} {np : Nat} {vs : List V} {H : Hp} {Q : VK} {E : XK} (h : spD v F np vs H Q E) : vs.length = np := by
  obtain ⟨ι, h, ds, hr, rs, hl, go⟩ := h
  rw [← rs.length, hl]
theorem lv_zero {P : Program} {w : World} {K : PySem.W.Frag} {mg : Str → Option Value} {base : Heap} {v : Ev} {Pr : Pg} {fa : Nat → Addr} {fd : Nat → FuncData} {ps : Nat → List Str} {N : Nat} : Lv P w K mg base v Pr fa fd ps N 0 := fun i _ =>
  ⟨fun vs H Q E h => spD_len h, fun A outer s H args us vs Q E hr e0 hb r h => by
    obtain ⟨ι, h, ds, _, _, _, go⟩ := h
    exact go.elim⟩
theorem callF_succ {Pr : Pg} {n i : Nat} {fn : Fn} (h : Pr.fns[i]? = some fn) (ds : List D) (hh : Hh) : callF Pr (n + 1) i ds hh = runF (Pr.g n) fn ds hh := by
  show (match Pr.fns[i]? with
    | some fn => runF ⟨callF Pr n, Pr.cs, Pr.sub, Pr.w⟩ fn ds hh
    | none => .no) = _
  rw [h]
  rfl
/-- one def at the next level, from its body's reading -/
theorem lv_fn {P : Program} {w : World} {K : PySem.W.Frag} {mg : Str → Option Value} {base : Heap} {v : Ev} {Pr : Pg} {n i : Nat} {fn : Fn} {x qual : Str} {params : Arguments} {body : List Stmt} {scope : Scope} {f : Addr} {fd : FuncData} {N ps : List Str}
    (hv : K = v.K) (hp : Pr.fns[i]? = some fn) (F : FunD K x qual params body scope [] [] f fd) (S : FnScope N ps scope) (hN : N.length = fn.ns) (hle : fn.np ≤ fn.ns)
    (hbody : ∀ (cdv : Value) (A : Around) (outer : List Env) (s : Shared) (H : Hp) (E : XK), Room (n + 2) (cxOf (L2.CX P w) P w K mg base N qual scope f cdv A outer s H E).A → Cc (cxOf (L2.CX P w) P w K mg base N qual scope f cdv A outer s H E) v (fun c d _ H => E c d H) →
      PSs (cxOf (L2.CX P w) P w K mg base N qual scope f cdv A outer s H E) body (tSs v (Pr.g n) (fun c d _ H => E c d H) fn.body)) :
    FnOk P w K mg base (L2.CX P w) (n + 3) f fd ps (spD v (callF Pr (n + 1) i) ps.length) := by
  refine F.ok S (fun vs H Q E h => spD_len h) fun cdv A outer s H vs Q E hr hsp => ⟨_, hbody cdv A outer s H E hr (cc_def hv S.nd hr), ?_⟩
  have e : (fun ds hh => callF Pr (n + 1) i ds hh) = fun ds hh => runF (Pr.g n) fn ds hh := funext fun ds => funext fun hh => callF_succ hp ds hh
  have hsp : spD v (runF (Pr.g n) fn) ps.length vs H Q E := by
    have e2 : callF Pr (n + 1) i = runF (Pr.g n) fn := e
    rw [← e2]; exact hsp
  exact body_ok hN hle hsp
/-- keywords are bound so -/
theorem kb_of {K : PySem.W.Frag} {x qual : Str} {params : Arguments} {body : List Stmt} {scope : Scope} {f : Addr} {fd : FuncData} {ps ks : List Str} {n : Nat} {perm : List Nat} (F : FunD K x qual params body scope [] [] f fd)
    (h : ∀ (kV doc pm : Value) (an : Option Addr) (cdv ct : Value) (us ws : List Value), us.length = n → ws.length = ks.length → bindArgs (PySem.W.fnOf x qual params body scope .none kV doc pm an cdv ct) ⟨us, ks.zip ws⟩ = pure (ps.zip (pickL (us ++ ws) perm))) : KBp fd ps ks n perm := by
  obtain ⟨oc, od, dV, kV, doc, pm, an, cdv, ct, osl, rfl, lk, hcd, hD, hK⟩ := F.ex
  rcases hD with ⟨_, rfl⟩ | ⟨e, _⟩
  · exact fun s us ws h1 h2 => .of_eq (h kV doc pm an cdv ct us ws h1 h2)
  · exact absurd rfl e
/-- the law: from its answer to the head's wish -/
theorem law_sp {v : Ev} {F : List D → Hh → R D} (hF : ∀ ns : List Int, ns.length ≤ 63 → ∃ h', F [.rol (ns.map .int)] [] = .ok (.bl true) h') {H : Hp} {a : Addr} {ns : List Int} (hl : ns.length ≤ 63) (ho : Only H) (hs : SqL v.K H a (ns.map V.int)) :
    spD v F 1 [.ref a] H (fun x _ => x = .bl true) fun _ _ _ => False := by
  have ro : RoL v.K H a (ns.map V.int) := by
    rcases hs with (h | h) | h
    · rcases ho a with z | ⟨o, xs, z⟩
      · rw [z] at h; cases h
      · rw [z] at h; cases h
    · exact .inl h
    · exact .inr h
  have rp : ∀ ns : List Int, RPs v [] H (ns.map .int) (ns.map V.int) := fun ns => by
    induction ns with
    | nil => exact .nil
    | cons n ns ih => exact .cons (.int n) ih
  obtain ⟨h', e⟩ := hF ns hl
  refine ⟨[], [], [.rol (ns.map .int)], ⟨rfl, List.nodup_nil, fun n a c h _ => by simp at h⟩, .cons (.rol ro (rp ns)) .nil, rfl, ?_⟩
  rw [e]
  exact fun ι' H' x _ _ rx => rv_bl rx
/-- what lets nothing out may be asked so -/
theorem fn_calm {P : Program} {w : World} {K : PySem.W.Frag} {mg : Str → Option Value} {base : Heap} {k : Nat} {f : Addr} {fd : FuncData} {ps : List Str} {sp : Sp} (F : FnOk P w K mg base (L2.CX P w) k f fd ps sp) :
    FnOk P w K mg base CX0 k f fd ps (fun vs H Q _ => sp vs H Q fun _ _ _ => False) :=
  ⟨fun vs H Q E h => F.len _ _ _ _ h, fun A outer s H args us vs Q E hr e0 hb r h => codeAny_mono (F.run A outer s H args us vs Q _ hr e0 hb r h) fun res s' q => by
    cases res with
    | ok fl => cases fl <;> exact q
    | error e =>
      obtain ⟨a, B, H', cls, d, _, _, _, _, _, _, _, z⟩ := q
      exact z.elim⟩
end Ivy

/-! Ivy, part O: name op= e; tests by operators; names of built-ins; what a program's facts are. -/
namespace Ivy
open PySem PySem.Spec PyProof.Rows L2
section
variable {X : Cx} {v : Ev} {g : G} {W : WX} {pos p : Pos} {b : Expr} {e1 : Ex} {x : Str}
theorem s_aug {i : Nat} {op : Operator} {o : Op} {r : R2} (hN : X.N.Nodup) (hi : X.N[i]? = some x) (hx : Loc X.env.scope x) (ho : OpR X (inplaceOp op) r) (val : Op2 v g o r) (he : PE X b (tE v g W e1))
    (hf : X.fn x = true ∨ X.env.scope.names.lookup x = some .local := by first | exact .inl rfl | exact .inr rfl | assumption) : PS X (.AugAssign (.Name x p) op b pos) (tS v g W (.asg (.name i) (.op o [.var i, e1]))) :=
  PS.imp (ps_aug (ti := r) hN hi hx he ho hf) fun E σ H t => by
    obtain ⟨ι, δ, h, hr, hs, go⟩ := l_set t
    rw [evE_op2] at go
    have e : evE g (.var i) δ h = (match δ[i]? with
      | some (some d) => .ok d h
      | _ => .no) := by simp only [evE] <;> rfl
    rw [e] at go
    cases q : δ[i]? with
    | none => rw [q] at go; exact go.elim
    | some od =>
      rw [q] at go
      cases od with
      | none => exact go.elim
      | some d =>
        have go : Go (rrE v) v ι H ((evE g e1 δ h).bind fun y h => opApp g.sub o [d, y] h) _ _ := go
        obtain ⟨z, h1, h2⟩ := hs.2 i d q
        refine ⟨z, h1, ι, δ, h, hr, hs, Go.bind (SS := rrE v) go fun y h3 ι3 H3 u r3 ex3 hr3 ru3 go3 => ?_⟩
        have rz : rrE v ι H H d z := by
          cases d <;> first | exact ⟨h2, trivial⟩ | cases h2
        exact val ι3 H3 H H h3 d y z u _ _ hr3 (rz.mono ex3) ru3 go3
def rIAdd : R2 := fun x y H Q => rI0 (fun i j => .int (i + j)) x y H Q ∨ ∃ i j, x = .str i ∧ y = .str j ∧ i.length + j.length ≤ sizeLine ∧ Q (.str (i ++ j)) H
theorem o_iadd : OpR X (inplaceOp .Add) rIAdd := opr_or iop_add iop_add_str
theorem v_iadd : Op2 v g .iadd rIAdd := by
  intro ι H H0 H1 h d e x y Q E hr rx ry go
  cases d <;> cases e <;> first | exact go.elim | skip
  · rw [rv_int rx, rv_int ry]
    exact .inl ⟨_, _, rfl, rfl, go_int (show Go _ _ _ _ (intR _ _) _ _ from go) hr⟩
  · rename_i x y
    obtain ⟨c, go⟩ := go_when (show Go (rrE v) v ι H (whenR _ (.ok (.str (x ++ y)) h)) Q E from go)
    rw [rv_str rx, rv_str ry]
    refine .inr ⟨_, _, rfl, rfl, ?_, ?_⟩
    · rw [tx_len, tx_len, ← cells_eq]; exact of_decide_eq_true c
    · rw [tx_app]; exact go_str go hr
theorem o_imul : OpR X (inplaceOp .Mult) (rI CMul3 fun i j => .int (i * j)) := fun pins s σ H x y v u Q I rx ry ⟨i, j, ex, ey, hc, q⟩ =>
  hc.elim (fun c => iop_mul pins s σ H x y v u Q I rx ry ⟨i, j, ex, ey, c, q⟩) fun c => (opI fun _ _ _ _ _ _ _ hc q => imul_int q hc.ok : OpR X (inplaceOp .Mult) (rI CMulW fun i j => .int (i * j))) pins s σ H x y v u Q I rx ry ⟨i, j, ex, ey, c, q⟩
theorem v_imul : Op2 v g .imul (rI CMul3 fun i j => .int (i * j)) := by
  intro ι H H0 H1 h d e x y Q E hr rx ry go
  cases d <;> cases e <;> first | exact go.elim | skip
  rename_i i j
  obtain ⟨c, go⟩ := go_when (show Go (rrE v) v ι H (whenR _ (intR (i * j) h)) Q E from go)
  rw [rv_int rx, rv_int ry]
  exact ⟨_, _, rfl, rfl, mul_ok c, go_int go hr⟩
theorem o_ifdiv : OpR X (inplaceOp .FloorDiv) (rI CDivB fun i j => .int (i.fdiv j)) := opI fun i j _ _ _ _ _ hc q => ifloordiv_int hc.1 q (.inl (PyProof.noPylong_of_log2 hc.2))

/-! ### operators that answer with bools -/
theorem ob_cmp {o : Op} {f : Int → Int → Bool} {k : Tx → Tx → Bool} (he : ∀ (d e : D) (h : Hh), opApp g.sub o [d, e] h = opCmp h f k d e) (h0 : ∀ h, opApp g.sub o [] h = .no) (h1 : ∀ d h, opApp g.sub o [d] h = .no) (h3 : ∀ d e c ds h, opApp g.sub o (d :: e :: c :: ds) h = .no) : OpB g o := by
  intro ds h d h' e
  match ds with
  | [] => rw [h0] at e; cases e
  | [_] => rw [h1] at e; cases e
  | _ :: _ :: _ :: _ => rw [h3] at e; cases e
  | [x, y] =>
    rw [he] at e
    cases x <;> cases y <;> first | cases e | skip
    · exact ⟨_, rfl⟩
    · exact ⟨_, rfl⟩
theorem ob_lt : OpB g .lt := ob_cmp (fun _ _ _ => rfl) (fun _ => rfl) (fun d _ => by cases d <;> rfl) fun d e _ _ _ => by cases d <;> cases e <;> rfl
theorem ob_le : OpB g .le := ob_cmp (fun _ _ _ => rfl) (fun _ => rfl) (fun d _ => by cases d <;> rfl) fun d e _ _ _ => by cases d <;> cases e <;> rfl
theorem ob_gt : OpB g .gt := ob_cmp (fun _ _ _ => rfl) (fun _ => rfl) (fun d _ => by cases d <;> rfl) fun d e _ _ _ => by cases d <;> cases e <;> rfl
theorem ob_ge : OpB g .ge := ob_cmp (fun _ _ _ => rfl) (fun _ => rfl) (fun d _ => by cases d <;> rfl) fun d e _ _ _ => by cases d <;> cases e <;> rfl
theorem ob_two {o : Op} (h0 : ∀ h, opApp g.sub o [] h = .no) (h1 : ∀ d h, opApp g.sub o [d] h = .no) (h3 : ∀ d e c ds h, opApp g.sub o (d :: e :: c :: ds) h = .no) (h2 : ∀ x y h d h', opApp g.sub o [x, y] h = .ok d h' → ∃ k, d = .bl k) : OpB g o := by
  intro ds h d h' e
  match ds with
  | [] => rw [h0] at e; cases e
  | [_] => rw [h1] at e; cases e
  | _ :: _ :: _ :: _ => rw [h3] at e; cases e
  | [x, y] => exact h2 x y h d h' e
theorem ob_eq : OpB g .eq := ob_two (fun _ => rfl) (fun d _ => by cases d <;> rfl) (fun d e _ _ _ => by cases d <;> cases e <;> rfl) fun x y h d h' e => by
  have e : (match eqD h x y with
    | some k => blR k h
    | none => .no) = .ok d h' := e
  split at e
  · cases e; exact ⟨_, rfl⟩
  · cases e
theorem ob_ne : OpB g .ne := ob_two (fun _ => rfl) (fun d _ => by cases d <;> rfl) (fun d e _ _ _ => by cases d <;> cases e <;> rfl) fun x y h d h' e => by
  have e : (match eqD h x y with
    | some k => blR (!k) h
    | none => .no) = .ok d h' := e
  split at e
  · cases e; exact ⟨_, rfl⟩
  · cases e
theorem ob_one {o : Op} (h0 : ∀ h, opApp g.sub o [] h = .no) (h2 : ∀ d e ds h, opApp g.sub o (d :: e :: ds) h = .no) (h1 : ∀ x h, ∃ k, opApp g.sub o [x] h = blR k h) : OpB g o := by
  intro ds h d h' e
  match ds with
  | [] => rw [h0] at e; cases e
  | _ :: _ :: _ => rw [h2] at e; cases e
  | [x] =>
    obtain ⟨k, hk⟩ := h1 x h
    rw [hk] at e
    cases e
    exact ⟨k, rfl⟩
theorem ob_isN : OpB g .isNone := ob_one (fun _ => rfl) (fun d _ _ _ => by cases d <;> rfl) fun x h => ⟨_, rfl⟩
theorem ob_notN : OpB g .notNone := ob_one (fun _ => rfl) (fun d _ _ _ => by cases d <;> rfl) fun x h => ⟨_, rfl⟩
theorem opIn_bl {h : Hh} {n : Bool} {x y d : D} {h' : Hh} (e : opIn h n x y = .ok d h') : ∃ k, d = .bl k := by
  unfold opIn at e
  repeat' split at e
  all_goals first | (cases e; done) | (cases e; exact ⟨_, rfl⟩)
theorem ob_in : OpB g .isIn := ob_two (fun _ => rfl) (fun d _ => by cases d <;> rfl) (fun d e _ _ _ => by cases d <;> cases e <;> rfl) fun x y h d h' e => opIn_bl (show opIn h false x y = .ok d h' from e)
theorem ob_notIn : OpB g .notIn := ob_two (fun _ => rfl) (fun d _ => by cases d <;> rfl) (fun d e _ _ _ => by cases d <;> cases e <;> rfl) fun x y h d h' e => opIn_bl (show opIn h true x y = .ok d h' from e)
end

/-! ### names of built-ins -/
theorem bt_len : bootBuiltins "len" = some (.builtin "len") := by decide +kernel
theorem bt_abs : bootBuiltins "abs" = some (.builtin "abs") := by decide +kernel
theorem bt_int : bootBuiltins "int" = some (.type "int") := by decide +kernel
theorem bt_str : bootBuiltins "str" = some (.type "str") := by decide +kernel
theorem bt_bool : bootBuiltins "bool" = some (.type "bool") := by decide +kernel
theorem bt_tuple : bootBuiltins "tuple" = some (.type "tuple") := by decide +kernel
theorem bt_list : bootBuiltins "list" = some (.type "list") := by decide +kernel
theorem bt_dict : bootBuiltins "dict" = some (.type "dict") := by decide +kernel
theorem bt_all : bootBuiltins "all" = some (.builtin "all") := by decide +kernel
theorem bt_any : bootBuiltins "any" = some (.builtin "any") := by decide +kernel
theorem bt_sum : bootBuiltins "sum" = some (.builtin "sum") := by decide +kernel
theorem bt_min : bootBuiltins "min" = some (.builtin "min") := by decide +kernel
theorem bt_max : bootBuiltins "max" = some (.builtin "max") := by decide +kernel
theorem bt_isinstance : bootBuiltins "isinstance" = some (.builtin "isinstance") := by decide +kernel
theorem bt_sorted : bootBuiltins "sorted" = some (.builtin "sorted") := by decide +kernel
theorem bt_range : bootBuiltins "range" = some (.type "range") := by decide +kernel

/-- what the head tells of a program: its defs' objects, its free names -/
structure Fx (K : PySem.W.Frag) (mg : Str → Option Value) (fa : Nat → Addr) (fd : Nat → FuncData) (nm : Nat → Str) (ps : Nat → List Str) (bl : List Str) (N : Nat) : Prop where
  g : ∀ i, i < N → mg (nm i) = some (.ref (fa i))
  k : ∀ i, i < N → PySem.W.keepIn K (.ref (fa i)) = true
  b : ∀ i, i < N → Binds K (fd i) (ps i) []
  m : ∀ (i : Nat) (x : Str), bl[i]? = some x → mg x = none
end Ivy

/-! Ivy, part P: enumerate over lists and tuples, tuple(range(..)). -/
namespace Ivy
open PySem PySem.Spec PyProof.Rows L2

/-! ### a tuple's iterator, drawn by another one -/
section
variable {P : Program} {w : World} {A : Around} {E : Value → Shared → Prop} {s : Shared}
theorem tit_next {J T : Addr} {i : Nat} {xs : Array Value} {u : Value} {Q : Value → Shared → Prop} (hit : s.heap.IsTupleIter J T i) (ht : s.heap.IsTuple T xs) (hx : xs[i]? = some u)
    (hQ : ∀ g, g.IsTupleIter J T (i + 1) → Heap.SameBut J s.heap g → Q u { s with heap := g }) : wpAny (model P w) A (Builtin.SmallTypes.nextOf (.ref J)) Q E s := by
  obtain ⟨o, z1, z2, z3⟩ := id hit
  obtain ⟨oT, y1, _, nT, y2⟩ := ht
  unfold Builtin.SmallTypes.nextOf
  refine wpAny_bind (wpAny_callSpecial?_slot (name := Str.ofString "__next__") hit.typeIs F.slot_tuple_iterator_next (wpAny_call_entry F.slot_tuple_iterator_next hit.typeIs F.entry_tuple_iterator_next ?_ (F.args_tuple_iterator_next_1 _)))
  show wpAny _ _ (field (.ref J) 0 >>= _) _ _ s
  refine wpAny_bind (wpAny_field z1 z3 (x := .ref T) rfl ?_)
  show wpAny _ _ (if (Value.ref T == Value.none) = true then _ else _) _ _ s
  rw [if_neg (show ¬ ((Value.ref T == Value.none) = true) from Bool.false_ne_true)]
  show wpAny _ _ (field (.ref J) 1 >>= _) _ _ s
  refine wpAny_bind (wpAny_field z1 z3 (x := .int i 0) rfl ?_)
  show wpAny _ _ (seqItems? (.ref T) >>= _) _ _ s
  refine wpAny_bind (wpAny_seqItems y1 y2 ?_)
  simp only [hx, Int.toNat_natCast]
  refine wpAny_bind (wpAny_setField z1 z3 (by simp) (wpAny_pure ⟨u, rfl, wpAny_pure (hQ _ ?_ (Heap.SameBut.update ..))⟩))
  exact ⟨_, Heap.get?_update_self _ z1 (Obj.isFreed_of_fields (Obj.data_mapFields z3 _)), (Obj.cls_mapFields ..).trans z2, by rw [Obj.data_mapFields z3]; simp [rawInt]⟩
theorem tit_end {J T : Addr} {i : Nat} {xs : Array Value} {Q : Value → Shared → Prop} (hh : A.handled = none) (hit : s.heap.IsTupleIter J T i) (ht : s.heap.IsTuple T xs) (hx : xs[i]? = none)
    (hE : ∀ g e, Heap.ExtBut J s.heap g → (∃ o, g.get? e = some o ∧ o.cls = .type "StopIteration") → E (.ref e) { s with heap := g }) : wpAny (model P w) A (Builtin.SmallTypes.nextOf (.ref J)) Q E s := by
  obtain ⟨o, z1, z2, z3⟩ := id hit
  obtain ⟨oT, y1, _, nT, y2⟩ := ht
  unfold Builtin.SmallTypes.nextOf
  refine wpAny_bind (wpAny_callSpecial?_slot (name := Str.ofString "__next__") hit.typeIs F.slot_tuple_iterator_next (wpAny_call_entry F.slot_tuple_iterator_next hit.typeIs F.entry_tuple_iterator_next ?_ (F.args_tuple_iterator_next_1 _)))
  show wpAny _ _ (field (.ref J) 0 >>= _) _ _ s
  refine wpAny_bind (wpAny_field z1 z3 (x := .ref T) rfl ?_)
  show wpAny _ _ (if (Value.ref T == Value.none) = true then _ else _) _ _ s
  rw [if_neg (show ¬ ((Value.ref T == Value.none) = true) from Bool.false_ne_true)]
  show wpAny _ _ (field (.ref J) 1 >>= _) _ _ s
  refine wpAny_bind (wpAny_field z1 z3 (x := .int i 0) rfl ?_)
  show wpAny _ _ (seqItems? (.ref T) >>= _) _ _ s
  refine wpAny_bind (wpAny_seqItems y1 y2 ?_)
  simp only [hx, Int.toNat_natCast]
  refine wpAny_bind (wpAny_rule (wpAny_bind (wpAny_setField z1 z3 (by simp) ?_)))
  show wpAny _ _ (newExc (.type "StopIteration") [] >>= _) _ _ _
  refine wpAny_bind ?_; simp only [newTuple, newExc]
  refine wpAny_bind (wpAny_newObj_type ?_ (by size_fits)); refine wpAny_bind (m := firstArgMember _ _) (wpAny_of_eq (a := Value.none) (by first | rfl | (simp only [firstArgMember]; rfl)) ?_)
  refine wpAny_newObj_type ?_ (by size_fits); simp only [raiseNew]
  refine wpAny_bind (wpAny_handled ?_); first | rw [show A.in1.handled = none from hh] | rw [hh]
  refine wpAny_bind (wpAny_pure (wpAny_throw ?_)); exact hE _ _ (((Heap.SameBut.update ..).extBut.push _).push _) ⟨_, Heap.get?_push_size _ rfl, rfl⟩
end
theorem draws_tup {P : Program} {w : World} {A : Around} (hh : A.handled = none) (J T : Addr) (hne : T ≠ J) (xs : Array Value) : Draws P w A J [J, T] xs.size (fun i u => xs[i]? = some u) (fun i h => h.IsTupleIter J T i ∧ h.IsTuple T xs) where
  live := fun _ _ ⟨⟨o, z, _⟩, _⟩ => ⟨o, z⟩
  frame := fun i h h' ⟨⟨o, z1, z2⟩, ⟨o2, z3, z4⟩⟩ k => ⟨⟨o, k J (by simp) o z1, z2⟩, ⟨o2, k T (by simp) o2 z3, z4⟩⟩
  item := fun i s Q E hi st hQ => tit_next st.1 st.2 (u := xs[i]) (by simp [hi]) fun g hit hs => hQ _ g s.toks (by simp [hi]) ⟨hit, st.2.extBut hs.extBut hne⟩ hs
  done := fun s Q E st hE => tit_end hh st.1 st.2 (by simp) hE
theorem enum_newT (T : Addr) (xs : Array Value) (n : Nat) (dd : Option Addr) (sl : Array (Option Value)) :
    Meets (Builtin.«enumerate.__new__» ⟨[.type "enumerate", .ref T], []⟩) (fun _ R s => s.heap.get? T = some ⟨.type "tuple", dd, .seq xs n, sl⟩ ∧
      R (.ok (.ret (.ref (s.heap.push { cls := .type "tuple_iterator", data := .fields #[.ref T, .int 0 0] }).objs.size)))
        { s with heap := (s.heap.push { cls := .type "tuple_iterator", data := .fields #[.ref T, .int 0 0] }).push { cls := .type "enumerate", data := .fields #[.none, .bool false, .ref s.heap.objs.size, rawInt 0, .none, .none] } }) :=
  .of_wp fun P w A R s z => by
    obtain ⟨hp, gs, d, tk, os⟩ := s; obtain ⟨hT, z⟩ := z
    have sub := sub_enumerate
    have isT : Heap.IsTuple (Shared.heap ⟨hp, gs, d, tk, os⟩) T xs := ⟨_, hT, rfl, n, rfl⟩
    wp_walk using AutoSeq1.wpAny_loadPart' hT
    refine wpAny_stack_any fun st => wpAny_pure ?_
    split
    · rename_i c _ _ _ _ _
      cases (c == Value.type "enumerate")
      · wp_walk using AutoSeq1.wpAny_loadPart' hT, wpAny_pyIter_tuple isT
        exact ⟨_, rfl, z⟩
      · wp_walk using AutoSeq1.wpAny_loadPart' hT, wpAny_pyIter_tuple isT
        exact ⟨_, rfl, z⟩
    · wp_walk using AutoSeq1.wpAny_loadPart' hT, wpAny_pyIter_tuple isT
      exact ⟨_, rfl, z⟩
theorem call_enumT {P : Program} {w : World} {A : Around} {E : Value → Shared → Prop} {s : Shared} {T : Addr} {xs : Array Value} {Q : Value → Shared → Prop} (hT : s.heap.IsTuple T xs)
    (q : ∀ g, IsEnum g (s.heap.objs.size + 1) s.heap.objs.size 0 .none → g.IsTupleIter s.heap.objs.size T 0 → g.objs.size = s.heap.objs.size + 2 → (∀ b o, s.heap.get? b = some o → g.get? b = some o) → Q (.ref (s.heap.objs.size + 1)) { s with heap := g }) :
    wpAny (model P w) A (call (.type "enumerate") [.ref T]) Q E s := by
  obtain ⟨⟨cc, dd, dt, sl⟩, z1, z2, n, z3⟩ := hT
  have z2 : cc = .type "tuple" := z2
  have z3 : dt = .seq xs n := z3
  subst z2 z3
  refine callType_new F.called_enumerate (by decide) (F.typeCall_enumerate_1 _) (F.newCall_enumerate_1 _) (fun ob => F.args_object_init_2 ob _) F.entry_enumerate_new (enum_newT T xs n dd sl) ⟨z1, ?_⟩
  have sz : (s.heap.push { cls := .type "tuple_iterator", data := .fields #[.ref T, .int 0 0] }).objs.size = s.heap.objs.size + 1 := Heap.size_push ..
  show _ ∧ _
  rw [sz]
  have en : IsEnum ((s.heap.push { cls := .type "tuple_iterator", data := .fields #[.ref T, .int 0 0] }).push { cls := .type "enumerate", data := .fields #[.none, .bool false, .ref s.heap.objs.size, rawInt 0, .none, .none] }) (s.heap.objs.size + 1) s.heap.objs.size 0 .none := by
    have z := Heap.get?_push_size (s.heap.push { cls := .type "tuple_iterator", data := .fields #[.ref T, .int 0 0] }) (o := { cls := .type "enumerate", data := .fields #[.none, .bool false, .ref s.heap.objs.size, rawInt 0, .none, .none] }) rfl
    rw [sz] at z; exact z
  exact ⟨⟨_, en, rfl⟩, q _ en ⟨_, Heap.get?_push_of_some _ (Heap.get?_push_size _ rfl), rfl, rfl⟩ (by rw [Heap.size_push, sz]) fun b o z => Heap.get?_push_of_some _ (Heap.get?_push_of_some _ z)⟩
/-- pairs of places and a tuple's items -/
def IteT (K : PySem.W.Frag) (a : Addr) : L2.It :=
  ⟨fun i H => ∃ xs x, SqT K H a xs ∧ xs[i]? = some x, fun i H v H' => ∃ T x, v = .ref T ∧ H T = none ∧ H' = upd H T (.tup [.int (i : Nat), x]) ∧ ∀ xs, SqT K H a xs → xs[i]? = some x, fun i H => ∃ xs, SqT K H a xs ∧ xs.length = i⟩
theorem enum_ne {h : Heap} {e it T : Addr} {i : Int} {old : Value} {xs : Array Value} (he : IsEnum h e it i old) (hT : h.IsTuple T xs) : e ≠ T := fun z => by
  subst z
  obtain ⟨o, z1, _, n, z2⟩ := hT
  have he : h.get? e = _ := he
  rw [he] at z1
  cases z1
  cases z2
theorem tit_ne {h : Heap} {it T : Addr} {i : Nat} {xs : Array Value} (hi : h.IsTupleIter it T i) (hT : h.IsTuple T xs) : T ≠ it := fun z => by
  subst z
  obtain ⟨o, z1, _, n, z2⟩ := hT
  obtain ⟨o', z3, _, z4⟩ := hi
  rw [z1] at z3
  cases z3
  rw [z2] at z4
  cases z4
theorem turn_enumT {P : Program} {w : World} {K : PySem.W.Frag} {elts : List Expr} {kk : Nat} {tpos : Pos} (a e it : Addr) :
    Turn P w K (.Tuple elts kk tpos) (IteT K a) [e, it] e (fun i h => (∃ old, IsEnum h e it ((i : Nat) : Int) old) ∧ h.IsTupleIter it a i ∧ e ≠ it) where
  mem := List.mem_cons_self ..
  obj := fun i h st b hb => by
    obtain ⟨⟨old, he⟩, ⟨o, ho, _, hd⟩, _⟩ := st
    rcases List.mem_cons.mp hb with z | z
    · exact z ▸ ⟨_, he, fun v q => nomatch q⟩
    · rw [List.mem_singleton.mp z]; exact ⟨o, ho, fun v q => by rw [hd] at q; cases q⟩
  keep := fun i h h' ⟨⟨old, he⟩, ⟨o, ho, hi⟩, hne⟩ k => ⟨⟨old, k e (by simp) _ he⟩, ⟨o, k it (by simp) o ho, hi⟩, hne⟩
  item := by
    intro X h1 h2 h3 hc i pins s σ H E I hf st hg
    subst h1 h2 h3
    obtain ⟨⟨old, he⟩, hit, hne⟩ := st
    obtain ⟨xs, x, hq, hx⟩ := hg
    obtain ⟨its, rv, pt, hz⟩ := I.tuple hq
    have pt : s.heap.IsTuple a its.toArray := pt
    obtain ⟨u, hu, ru⟩ := rv.get hx
    have eL : e < s.heap.objs.size := Heap.lt_size he
    have iL : it < s.heap.objs.size := by obtain ⟨_, q, _⟩ := hit; exact Heap.lt_size q
    have lt : i < its.toArray.size := by
      have := (List.getElem?_eq_some_iff.mp hu).1
      simpa using this
    refine wpAny_pyNext_enum_itemD (draws_tup (A := X.A.in1) (I.ok.hd hc) it a (tit_ne hit pt) its.toArray) he ⟨hit, pt⟩ lt hne (fun z => by
      rcases List.mem_cons.mp z with z | z
      · exact hne z
      · exact enum_ne he pt (List.mem_singleton.mp z)) fun y g tk hy ho st' hT hsz hk => ?_
    have hy : its.toArray[i]? = some y := hy
    have ey : y = u := by
      rw [List.getElem?_toArray, hu] at hy
      exact (Option.some.inj hy).symm
    subst ey
    refine ⟨_, rfl, wpAny_letOwnedTupleGo_enum (s := { s with heap := g, toks := tk + 1 }) ho fun g2 he2 sb => ?_⟩
    have hT2 : g2.get? s.heap.objs.size = some { cls := .type "tuple", data := .seq #[.int i tk, y] } := (sb.2 _ (Nat.ne_of_gt eL)).trans hT
    have fresh : ObjOk X.prog X.w (upd H s.heap.objs.size (.tup [.int (i : Nat), x])) g2 s.heap.objs.size (.tup [.int (i : Nat), x]) :=
      ⟨by rw [sizeLine_eq]; simp, [.int i tk, y], .cons ⟨_, rfl⟩ (.cons ru .nil), ⟨_, hT2, rfl, _, rfl⟩⟩
    have I1 : Inv X pins σ (upd H s.heap.objs.size (.tup [.int (i : Nat), x])) { s with heap := g2, toks := tk + 1 } :=
      I.turnedNew (ch := [e, it]) (fun b ob hb q => (sb.2 b (fun z => hb (z ▸ List.mem_cons_self ..))).trans (hk b ob (fun z => hb (z ▸ List.mem_cons_self ..)) (fun z => hb (z ▸ List.mem_cons_of_mem _ (List.mem_cons_self ..))) q)) hf (Nat.le_refl _) fresh
    refine ⟨.ref s.heap.objs.size, _, I1, rfl, ⟨_, x, rfl, I.hok.fresh (Nat.le_refl _), rfl, fun ys hy => by rw [I.tuple_inj hy hq]; exact hx⟩, ⟨⟨y, ?_⟩, ?_, hne⟩, fun b hb => ?_⟩
    · have z : ((i + 1 : Nat) : Int) = (i : Int) + 1 := by omega
      rw [z]; exact he2
    · obtain ⟨⟨o, ho1, ho2⟩, _⟩ := st'
      exact ⟨o, (sb.2 it (Ne.symm hne)).trans ho1, ho2⟩
    · have bL : b < s.heap.objs.size := by
        rcases List.mem_cons.mp hb with z | z
        · rw [z]; exact eL
        · rw [List.mem_singleton.mp z]; exact iL
      rw [upd_ne (Nat.ne_of_lt bL)]
      exact (hf b hb).1
  done := by
    intro X h1 h2 h3 hc i pins s σ H E I hf st hg
    subst h1 h2 h3
    obtain ⟨⟨old, he⟩, hit, hne⟩ := st
    obtain ⟨xs, hq, hx⟩ := hg
    obtain ⟨its, rv, pt, hz⟩ := I.tuple hq
    have pt : s.heap.IsTuple a its.toArray := pt
    obtain ⟨f0, f1, f2, f3, f4, f5⟩ := hf it (by simp)
    have hl := rv.length
    have e : i = its.toArray.size := by simp; omega
    subst e
    exact wpAny_pyNext_enum_endD (draws_tup (A := X.A.in1) (I.ok.hd hc) it a (tit_ne hit pt) its.toArray) he ⟨hit, pt⟩ fun g eb => ⟨rfl, I.turned (t' := s.toks) (fun b o hb q => eb b o hb q) f0 f1 f3 f4 f5⟩
  self := fun A i s Q E ⟨⟨_, he⟩, _⟩ h => wpAny_pyIter_enum he h
def iEnumT (K : PySem.W.Frag) (ta : TE) : TI := fun σ H R => ta σ H fun x H1 => ∃ a xs, x = .ref a ∧ SqT K H1 a xs ∧ R (IteT K a) H1
def iEnumL (K : PySem.W.Frag) (ta : TE) : TI := fun σ H R => ta σ H fun x H1 => ∃ a xs, x = .ref a ∧ SqL K H1 a xs ∧ R (Ite K a) H1
section
variable {X : Cx} {v : Ev} {g : G} {W : WX} {pos p p2 pos2 tpos : Pos} {a b : Expr} {e1 : Ex} {x y : Str} {elts es : List Expr} {kk : Nat} {fs : List Ex}
theorem pi_enumT {ta : TE} (hg : Gl X "enumerate") (hm : X.mg "enumerate" = none) (ha : PE X a ta) (hs : starEach [a] X.env = (false, eval a X.env) :: starEach [] X.env) : PI X (.Tuple elts kk tpos) (.Call (.Name "enumerate" p) [a] [] pos) (iEnumT X.K ta) := by
  refine ⟨fun pins s σ H R I h => ?_⟩
  refine Call_ (ld_blt I hg hm boot_enumerate (PyProof.Rows.callWith_type1 (thn ((pa_cons ha pa_nil hs).run pos pins s σ H (fun vs H1 => ∃ q xs, vs = [.ref q] ∧ SqT X.K H1 q xs ∧ R (IteT X.K q) H1) I (?_ : tCons ta tNil σ H _)) fun us s1 ⟨vs, H1, I1, r1, q1⟩ => ?_) hs rfl))
  · have e : (fun z H1 => tNil σ H1 fun xs H2 => (fun vs H1 => ∃ q xs, vs = [V.ref q] ∧ SqT X.K H1 q xs ∧ R (IteT X.K q) H1) (z :: xs) H2) = fun z H1 => ∃ q xs, z = V.ref q ∧ SqT X.K H1 q xs ∧ R (IteT X.K q) H1 := by
      funext z H1
      show (∃ q xs, [z] = [V.ref q] ∧ _) = _
      simp
    unfold tCons
    rw [e]
    exact h
  · obtain ⟨q, xs, ev, hq, z⟩ := q1
    subst ev
    cases r1 with
    | cons r rr =>
      cases rr
      cases r
      obtain ⟨its, rv, pt, hz⟩ := I1.tuple hq
      refine call_enumT (show s1.heap.IsTuple q its.toArray from pt) fun h' he hit hsz hk => wpAny_pyIter_enum he ?_
      have I2 : Inv X pins σ H1 { s1 with heap := h' } := I1.kept (t' := s1.toks) hk
      refine ⟨s1.heap.objs.size + 1, [s1.heap.objs.size + 1, s1.heap.objs.size], _, _, H1, rfl, I2, turn_enumT q (s1.heap.objs.size + 1) s1.heap.objs.size, ⟨⟨.none, he⟩, hit, Nat.succ_ne_self _⟩, fun b hb => ?_, z⟩
      have le : s1.heap.objs.size ≤ b := by
        rcases List.mem_cons.mp hb with z | z
        · rw [z]; exact Nat.le_add_right _ _
        · rw [List.mem_singleton.mp z]; exact Nat.le_refl _
      exact I1.fpOk le (I1.hok.fresh le)
theorem pi_enumL {ta : TE} (hg : Gl X "enumerate") (hm : X.mg "enumerate" = none) (ha : PE X a ta) (hs : starEach [a] X.env = (false, eval a X.env) :: starEach [] X.env) : PI X (.Tuple elts kk tpos) (.Call (.Name "enumerate" p) [a] [] pos) (iEnumL X.K ta) :=
  PI.imp (pi_enum hg hm (pa_cons ha pa_nil hs) (by rw [hs]; rfl)) fun σ H R h => by
    show tCons ta tNil σ H _
    have e : (fun z H1 => tNil σ H1 fun xs H2 => (fun vs H1 => ∃ q xs, vs = [V.ref q] ∧ SqL X.K H1 q xs ∧ R (Ite X.K q) H1) (z :: xs) H2) = fun z H1 => ∃ q xs, z = V.ref q ∧ SqL X.K H1 q xs ∧ R (Ite X.K q) H1 := by
      funext z H1
      show (∃ q xs, [z] = [V.ref q] ∧ _) = _
      simp
    unfold tCons
    rw [e]
    exact h
theorem enum_len : ∀ (ds : List D) (k : Nat), (enumL k ds).length = ds.length
  | [], _ => rfl
  | d :: ds, k => by
    show (enumL (k + 1) ds).length + 1 = ds.length + 1
    rw [enum_len]
theorem enum_at : ∀ (ds : List D) (k i : Nat) (d : D), ds[i]? = some d → (enumL k ds)[i]? = some (.tup [.int ((k + i : Nat) : Int), d])
  | [], _, _, _, e => by simp at e
  | c :: ds, k, 0, d, e => by simp at e; subst e; rfl
  | c :: ds, k, i + 1, d, e => by
    show (enumL (k + 1) ds)[i]? = _
    rw [enum_at ds (k + 1) i d (by simpa using e), Nat.add_right_comm, Nat.add_assoc]
theorem new_pair {ι : List Addr} {H : Hp} {h : Hh} {T : Addr} {i : Nat} {d : D} {x : V} (hr : HR v ι H h) (hT : H T = none) (r : RP v ι H d x) :
    Ext ι H ι (upd H T (.tup [.int (i : Int), x])) ∧ HR v ι (upd H T (.tup [.int (i : Int), x])) h ∧ RP v ι (upd H T (.tup [.int (i : Int), x])) (.tup [.int (i : Int), d]) (.ref T) :=
  ⟨ext_new hT, hr.new hT, .tup (SqT.of upd_same) (.cons (.int _) (.cons (r.mono (ext_new hT)) .nil))⟩
theorem src_enumT {ι : List Addr} {H : Hp} {q : Addr} {ds : List D} {vs : List V} {K : PySem.W.Frag} (hK : K = v.K) (h1 : SqT v.K H q vs) (h2 : RPs v ι H ds vs) : Src1 v ⟨enumL 0 ds, []⟩ (IteT K q) ι H := by
  subst hK
  refine ⟨fun ι' H' h' i e _ _ hi => ?_, fun ι' H' h' e _ _ => ⟨vs, e.sqT h1, by rw [enum_len]; exact h2.length.symm⟩, fun ι' H' h' i x H'' e hr _ hi y => ?_⟩
  · have hi : i < (enumL 0 ds).length := hi
    rw [enum_len, h2.length] at hi
    exact ⟨vs, vs[i], e.sqT h1, List.getElem?_eq_getElem hi⟩
  · have hi : i < (enumL 0 ds).length := hi
    rw [enum_len] at hi
    obtain ⟨T, z, rfl, hT, rfl, hz⟩ := y
    have hx := hz vs (e.sqT h1)
    obtain ⟨z', hz', r⟩ := h2.get (List.getElem?_eq_getElem hi)
    rw [hx] at hz'; cases hz'
    obtain ⟨n1, n2, n3⟩ := new_pair (i := i) hr hT (r.mono e)
    refine ⟨n1, n2, _, enum_at ds 0 i ds[i] (List.getElem?_eq_getElem hi), ?_⟩
    rw [Nat.zero_add]; exact n3
theorem src_enumL {ι : List Addr} {H : Hp} {q : Addr} {ds : List D} {gd : List (Nat × C)} {K : PySem.W.Frag} (hK : K = v.K) (k : ∀ ι' H' h', Ext ι H ι' H' → HR v ι' H' h' → gdOk h' gd = true → ∃ vs, SqL v.K H' q vs ∧ RPs v ι' H' ds vs) : Src1 v ⟨enumL 0 ds, gd⟩ (Ite K q) ι H := by
  subst hK
  refine ⟨fun ι' H' h' i e hr hg hi => ?_, fun ι' H' h' e hr hg => ?_, fun ι' H' h' i x H'' e hr hg hi y => ?_⟩
  · obtain ⟨vs, h1, h2⟩ := k ι' H' h' e hr hg
    have hi : i < (enumL 0 ds).length := hi
    rw [enum_len, h2.length] at hi
    exact ⟨vs, vs[i], h1, List.getElem?_eq_getElem hi⟩
  · obtain ⟨vs, h1, h2⟩ := k ι' H' h' e hr hg
    exact ⟨vs, h1, by rw [enum_len]; exact Nat.le_of_eq h2.length.symm⟩
  · obtain ⟨vs, h1, h2⟩ := k ι' H' h' e hr hg
    have hi : i < (enumL 0 ds).length := hi
    rw [enum_len] at hi
    obtain ⟨T, z, rfl, hT, rfl, hz⟩ := y
    have hx := hz vs h1
    obtain ⟨z', hz', r⟩ := h2.get (List.getElem?_eq_getElem hi)
    rw [hx] at hz'; cases hz'
    obtain ⟨n1, n2, n3⟩ := new_pair (i := i) hr hT r
    refine ⟨n1, n2, _, enum_at ds 0 i ds[i] (List.getElem?_eq_getElem hi), ?_⟩
    rw [Nat.zero_add]; exact n3
theorem i_enum (hb : Cb X v W) (hx : x = "enumerate") (hg : Gl X x) (hm : X.mg x = none) (ha : PE X a (tE v g W e1)) (hs : starEach [a] X.env = (false, eval a X.env) :: starEach [] X.env := by rfl) : PI X (.Tuple elts kk tpos) (.Call (.Name x p) [a] [] pos) (tI v g W (.enum e1)) := by
  subst hx
  refine PI.imp (PI.or (pi_enumT hg hm ha hs) (pi_enumL hg hm ha hs)) fun σ H R ⟨ι, δ, h, hr, hs, go⟩ => ?_
  have e : evI g (.enum e1) δ h = (evE g e1 δ h).bind fun x h => match srcT h x with
    | some s => .ok ⟨enumL 0 s.ds, s.gd⟩ h
    | none => .no := by simp only [evI] <;> rfl
  rw [e] at go
  by_cases t1 : ∃ ds h', evE g e1 δ h = .ok (.tup ds) h'
  · obtain ⟨ds, h', q⟩ := t1
    refine .inl ⟨ι, δ, h, hr, hs, Go.bind (SS := rrE v) go fun d h1 ι1 H1 x r1 ex1 hr1 rx1 go1 => ?_⟩
    rw [q] at r1; cases r1
    obtain ⟨p, vs, rfl, s1, s2⟩ := rv_tup rx1
    exact ⟨p, vs, rfl, by rw [hb.hK]; exact s1, Go.here (RR := rrI v) (show Go (rrI v) v ι1 H1 (.ok ⟨enumL 0 ds, []⟩ _) R _ from go1) hr1 (src_enumT hb.hK s1 s2)⟩
  · refine .inr ⟨ι, δ, h, hr, hs, Go.bind (SS := rrE v) go fun d h1 ι1 H1 x r1 ex1 hr1 rx1 go1 => ?_⟩
    have e2 : srcT h1 d = srcL h1 d := by
      cases d with
      | tup ds => exact absurd ⟨_, _, r1⟩ t1
      | _ => rfl
    rw [e2] at go1
    rw [hb.hK]
    cases q : srcL h1 d with
    | none => rw [q] at go1; exact go1.elim
    | some s =>
      rw [q] at go1
      have go1 : Go (rrI v) v ι1 H1 (.ok ⟨enumL 0 s.ds, s.gd⟩ h1) R _ := go1
      unfold srcL at q
      split at q
      · cases q
        obtain ⟨p, vs, rfl, h2, h3, h4⟩ := (show RV v ι1 H1 (.lst _) x from rx1.1)
        exact ⟨p, vs, rfl, SqL.of h3, Go.here (RR := rrI v) go1 hr1 (src_enumL rfl fun ι' H' h' ex _ _ => ⟨vs, SqL.of (ex.fix p _ h3 fun z => absurd z h2), h4.mono ex⟩)⟩
      · cases q
        cases (show RP v ι1 H1 (.rol _) x from rx1.1) with
        | rol h2 h3 => exact ⟨_, _, rfl, h2.sq, Go.here (RR := rrI v) go1 hr1 (src_enumL rfl fun ι' H' h' ex _ _ => ⟨_, (ex.roL h2).sq, h3.mono ex⟩)⟩
      · rename_i n
        obtain ⟨p, rfl, hp⟩ := rv_ref rx1
        split at q
        · rename_i xs eq
          cases q
          obtain ⟨vs, h2, h3⟩ := (show CR v ι1 H1 p (.lst _) from hr1.cell n p _ hp eq)
          refine ⟨p, vs, rfl, SqL.of h2, Go.here (RR := rrI v) go1 hr1 (src_enumL rfl fun ι' H' h' ex hr' hg => ?_)⟩
          have z := gd_at hg (List.mem_cons_self ..)
          obtain ⟨vs', h4, h5⟩ := (show CR v ι' H' p (.lst _) from hr'.cell n p _ (ex.at hp) z)
          exact ⟨vs', SqL.of h4, h5⟩
        · cases q
      · cases q
end
end Ivy

/-! Ivy, part Q: tuple(range(..)) of any size. -/
namespace Ivy
open PySem PySem.Spec PyProof.Rows L2
section
variable {P : Program} {w : World} {A : Around} {E : Value → Shared → Prop} {s : Shared} {r : Addr} {a b c : Int} {t u v : Tok} {n : Nat}
theorem long_extend {R : Result → Shared → Prop} (hh : A.handled = none) (hr : IsRange s.heap r a b c t u v) (big : Builtin.Range.small a b c = false) (hn : Builtin.Range.rangeSize a b c = n) (hlen : n ≤ 2 ^ 24) (S : Addr) (res : Value) (k0 : Nat)
    (hS : s.heap.get? S = some { cls := .type "list", data := .seq #[] k0 })
    (hR : ∀ g tk acc k, (∀ p o, p ≠ S → s.heap.get? p = some o → g.get? p = some o) → g.get? S = some { cls := .type "list", dict := none, data := .seq acc k, slots := #[] } → ItemsOf (fun i z => ∃ t, z = .int (a + i * c) t) acc n → R (.ok (.ret res)) { s with heap := g, toks := tk }) :
    wpAny (model P w) A.in1 (Builtin.List.listExtendWith (.ref S) (.ref r) res) (fun fin s2 => match fin with | .done f => R (.ok f) s2 | .again k => k.quiet = true ∧ codeAny (model P w) A k R s2) (fun e s2 => R (.error e) s2) s := by
  have nSr : S ≠ r := fun e => by rw [e, hr] at hS; simp at hS
  have ltS : S < s.heap.objs.size := Heap.lt_size hS
  have nSI : S ≠ s.heap.objs.size := Nat.ne_of_lt ltS
  have nSf : S ∉ [s.heap.objs.size] := fun hm => nSI (List.mem_singleton.mp hm)
  have W := (Walks.longrange (prog := P) (w := w) (A := A.in1) hh s.heap.objs.size a c n).toS
  have loop : ∀ (g : Heap) (k1 tk : Nat), IsLongIter g s.heap.objs.size (a + ((0 : Nat) : Int) * c) ((n : Int) - ((0 : Nat) : Int)) c → (∀ p o, p ≠ S → s.heap.get? p = some o → g.get? p = some o) → g.get? S = some { cls := .type "list", data := .seq #[] k1 } →
      codeAny (model P w) A (.builtin "list.extend.loop" ⟨[.ref S, .ref s.heap.objs.size, res], []⟩) R { s with heap := g, toks := tk } := by
    intro g k1 tk hit hk hS1
    refine codeAny_extend_loopS W (by rw [sizeLine_eq]; omega) S nSf res n 0 _ #[] k1 rfl (Nat.zero_le _) hit hS1 (ItemsOf.nil _) fun s2 acc k2 hm hS2 hacc => ?_
    rw [Moved.eq_with hm]
    refine hR s2.heap s2.toks acc k2 (fun p o hp e => hm.heap p o (fun mem => ?_) (hk p o hp e)) hS2 hacc
    rcases List.mem_cons.mp mem with z | mem
    · exact hp z
    · exact absurd (Heap.lt_size e) (by rw [List.mem_singleton.mp mem]; exact Nat.lt_irrefl _)
  unfold Builtin.List.listExtendWith
  refine wpAny_bind (wpAny_typeOf (T := "range") ⟨_, hr, rfl⟩ ?_)
  have q1 : Builtin.List.listSameRef (.ref S) (.ref r) = false := by simp [Builtin.List.listSameRef, nSr]
  have q2 : (Value.type "range" == Value.type "list") = false := by decide
  have q3 : (Value.type "range" == Value.type "tuple") = false := by decide
  simp only [q1, q2, q3, Bool.or_false, Bool.false_eq_true, if_false]
  refine wpAny_bind (wpAny_pyIter_longrange hr big ?_)
  refine wpAny_bind (wpAny_holding (wpAny_hint_range (n := n) (Heap.get?_push_of_some _ hr) hn hlen ?_))
  have it1 : IsLongIter (s.heap.push { cls := .type "longrange_iterator", data := .fields #[rawInt a, rawInt (Builtin.Range.rangeSize a b c), rawInt c] }) s.heap.objs.size (a + ((0 : Nat) : Int) * c) ((n : Int) - ((0 : Nat) : Int)) c := by
    show IsLongIter _ _ _ _ _
    rw [hn]
    simpa using Heap.get?_push_size _ rfl
  have S1 := Heap.get?_push_of_some { cls := .type "longrange_iterator", data := .fields #[rawInt a, rawInt (Builtin.Range.rangeSize a b c), rawInt c] } hS
  refine wpAny_ite_split (fun _ => ?_) (fun _ => wpAny_pure ⟨plainId_quiet F.plain_extend_loop _, loop _ k0 _ it1 (fun p o _ e => Heap.get?_push_of_some _ e) S1⟩)
  refine wpAny_bind (wpAny_rule ?_)
  refine wpAny_bind ?_
  show wpAny _ _ (updateSeq S (·.push .none) >>= fun _ => updateSeq S (·.pop)) _ _ _
  refine wpAny_bind (wpAny_updateSeq S1 rfl ?_)
  have S2 := Heap.get?_update_self (Obj.mapSeq (·.push Value.none)) S1 rfl
  refine wpAny_updateSeq (hz := by seq_fits) S2 rfl ?_
  have S3 := Heap.get?_update_self (Obj.mapSeq (·.pop)) S2 rfl
  refine wpAny_pure ⟨plainId_quiet F.plain_extend_loop _, loop _ _ _ ?_ (fun p o hp e => ?_) S3⟩
  · exact (Heap.get?_update_other _ _ nSI).trans ((Heap.get?_update_other _ _ nSI).trans it1)
  · exact (Heap.get?_update_other _ _ (Ne.symm hp)).trans ((Heap.get?_update_other _ _ (Ne.symm hp)).trans (Heap.get?_push_of_some _ e))
theorem long_collect {Q : List Value → Shared → Prop} (hh : A.handled = none) (hr : IsRange s.heap r a b c t u v) (big : Builtin.Range.small a b c = false) (hn : Builtin.Range.rangeSize a b c = n) (hlen : n ≤ 2 ^ 24)
    (hQ : ∀ (g : Heap) (tk : Nat) (acc : Array Value), (∀ p o, s.heap.get? p = some o → g.get? p = some o) → ItemsOf (fun i z => ∃ t, z = .int (a + i * c) t) acc n → Q acc.toList { s with heap := g, toks := tk }) : wpAny (model P w) A (collect (.ref r)) Q E s := by
  unfold collect
  refine wpAny_bind (wpAny_runValue (codeAny_builtin F.entry_proto_collect ?_)); rw [Around.under_plainId F.plain_proto_collect _]
  show wpAny _ A.in1 (newList [] >>= fun l => again (.builtin "list.__iadd__" ⟨[l, .ref r], []⟩)) _ _ s
  refine wpAny_bind (wpAny_newObj_type ?_); refine wpAny_pure ⟨plainId_quiet F.plain_list_iadd _, codeAny_builtin F.entry_list_iadd ?_⟩
  rw [Around.under_plainId F.plain_list_iadd _]
  show wpAny _ A.in1 (Builtin.List.listExtendWith (.ref s.heap.objs.size) (.ref r) (.ref s.heap.objs.size)) _ _ _
  have S0 : (s.heap.push { cls := .type "list", data := .seq ([] : List Value).toArray }).get? s.heap.objs.size = some { cls := .type "list", data := .seq #[] 0 } := Heap.get?_push_size _ rfl
  refine wpAny_mono (long_extend (A := A) (R := fun rr s2 => rr = .ok (.ret (.ref s.heap.objs.size)) ∧ ∃ (g : Heap) (tk : Nat) (acc : Array Value) (k : Nat), s2 = { s with heap := g, toks := tk } ∧ (∀ p o, s.heap.get? p = some o → g.get? p = some o) ∧
        g.get? s.heap.objs.size = some { cls := .type "list", dict := none, data := .seq acc k, slots := #[] } ∧ ItemsOf (fun i z => ∃ t, z = .int (a + i * c) t) acc n)
      (s := { s with heap := s.heap.push { cls := .type "list", data := .seq ([] : List Value).toArray } }) hh (Heap.get?_push_of_some _ hr) big hn hlen _ _ 0 S0
      (fun g tk acc k hk e hi => ⟨rfl, g, tk, acc, k, rfl, fun p o q => hk p o (Nat.ne_of_lt (Heap.lt_size q)) (Heap.get?_push_of_some _ q), e, hi⟩)) (fun fin s2 z => ?_) (fun e s2 z => ?_)
  · cases fin with
    | done f =>
      obtain ⟨e, g, tk, acc, k, rfl, hk, z2, hi⟩ := z
      cases e
      show wpAny _ A (load s.heap.objs.size >>= _) _ _ _
      exact wpAny_bind (wpAny_load z2 (wpAny_pure (hQ g tk acc hk hi)))
    | again k0 =>
      refine ⟨z.1, codeAny_mono z.2 fun rr s3 zz => ?_⟩
      obtain ⟨rfl, g, tk, acc, k, rfl, hk, z2, hi⟩ := zz
      show wpAny _ A (load s.heap.objs.size >>= _) _ _ _
      exact wpAny_bind (wpAny_load z2 (wpAny_pure (hQ g tk acc hk hi)))
  · exact absurd z.1 (by simp)
theorem long_tuple {Q : Value → Shared → Prop} (hh : A.handled = none) (hr : IsRange s.heap r a b c t u v) (big : Builtin.Range.small a b c = false) (hn : Builtin.Range.rangeSize a b c = n) (hlen : n ≤ 2 ^ 24)
    (hQ : ∀ (g : Heap) (tk : Nat) (acc : Array Value), (∀ p o, s.heap.get? p = some o → g.get? p = some o) → ItemsOf (fun i z => ∃ t, z = .int (a + i * c) t) acc n → Q (.ref g.objs.size) { s with heap := g.push { cls := .type "tuple", data := .seq acc }, toks := tk }) :
    wpAny (model P w) A (call (.type "tuple") [.ref r]) Q E s := by
  have new : codeAny (model P w) A.in1 (.call (.builtin "tuple.__new__") ⟨[.type "tuple", .ref r], []⟩) (wants (fun ob s₁ => s₁.TypeIs ob "tuple" ∧ Q ob s₁) E) s := by
    refine codeAny_of_tree ?_
    show wpAny _ A.in1.in1 (do checkBuiltinCall "tuple.__new__" ⟨[.type "tuple", .ref r], []⟩; again (.builtin "tuple.__new__" ⟨[.type "tuple", .ref r], []⟩)) _ _ s
    refine wpAny_bind (wpAny_of_eq (F.newCall_tuple_1 _) (wpAny_pure ⟨plainId_quiet F.plain_tuple_new _, codeAny_builtin F.entry_tuple_new ?_⟩))
    rw [Around.under_plainId F.plain_tuple_new _]
    have k1 := sub_tuple_self
    have k2 := init_tuple_lookup
    have k3 := madeHere_tuple
    have ty : s.TypeIs (.ref r) "range" := ⟨_, hr, rfl⟩
    have h1 : A.in1.in1.handled = none := hh
    wp_walk using wpAny_typeOf ty, long_collect (A := A.in1.in1) h1 hr big hn hlen
    intro g tk acc hk hacc
    show wpAny _ _ (Builtin.Tuple.tupleExact acc.toList.toArray >>= fun z => ret z) _ _ _
    unfold Builtin.Tuple.tupleExact
    refine wpAny_bind (wpAny_newObj_type ?_ (by show acc.toList.toArray.size ≤ sizeLine; simp only [Array.toArray_toList]; rw [hacc.1, sizeLine_eq]; omega)); refine wpAny_pure ?_
    have e : acc.toList.toArray = acc := by simp
    rw [e]
    exact ⟨⟨_, Heap.get?_push_size _ rfl, rfl⟩, hQ g tk acc hk hacc⟩
  refine callType_codes (Q₁ := fun ob s₁ => s₁.TypeIs ob "tuple" ∧ Q ob s₁) F.called_tuple (F.typeCall_tuple_1 _) F.entry_object_init new fun ob s₁ z => ?_
  exact ⟨z.1, F.args_object_init_2 ob _, object_init_meets F.called_tuple.init.lookup F.called_tuple.made (by decide) P w A.in1 _ s₁ ⟨z.1, rfl, z.2⟩⟩
theorem any_tuple {Q : Value → Shared → Prop} (hh : A.handled = none) (hr : IsRange s.heap r a b c t u v) (hn : Builtin.Range.rangeSize a b c = n) (hlen : n ≤ 2 ^ 24)
    (hQ : ∀ (g : Heap) (tk : Nat) (acc : Array Value), (∀ p o, s.heap.get? p = some o → g.get? p = some o) → ItemsOf (fun i z => ∃ t, z = .int (a + i * c) t) acc n → Q (.ref g.objs.size) { s with heap := g.push { cls := .type "tuple", data := .seq acc }, toks := tk }) :
    wpAny (model P w) A (call (.type "tuple") [.ref r]) Q E s := by
  cases sm : Builtin.Range.small a b c with
  | true => exact L2.call_tuple_range hh hr sm hn hlen hQ
  | false => exact long_tuple hh hr sm hn hlen hQ
end
section
variable {X : Cx} {v : Ev} {g : G} {W : WX} {pos p p2 pos2 : Pos} {a b : Expr} {e1 : Ex} {x y : Str} {es : List Expr} {fs : List Ex}
/-- the items of a range -/
def rgA (lo c : Int) (n : Nat) : List V := (List.range n).map fun (k : Nat) => V.int (lo + (k : Int) * c)
theorem rg_vals {lo c : Int} {n : Nat} {acc : Array Value} (h : ItemsOf (fun i z => ∃ t, z = .int (lo + i * c) t) acc n) : Vals (rgA lo c n) acc.toList := by
  have e : acc.toList.length = n := by rw [Array.length_toList]; exact h.1
  unfold rgA
  rw [← e]
  refine vals_of_get acc.toList _ fun j u hj => ?_
  obtain ⟨t, rfl⟩ := h.2 j u (by rw [← hj, Array.getElem?_toList])
  exact ⟨t, rfl⟩
/-- three readings of range's arguments, then a new tuple -/
def tTupA (ta : TA) : TE := fun σ H Q => ta σ H fun vs H1 => ∃ lo hi c, (vs = [.int hi] ∧ lo = 0 ∧ c = 1 ∨ (vs = [.int lo, .int hi] ∧ c = 1 ∨ vs = [.int lo, .int hi, .int c] ∧ c ≠ 0 ∧ c.natAbs.log2 < 9000)) ∧ rangeN lo hi c ≤ 2 ^ 24 ∧ ∀ q, H1 q = none → Q (.ref q) (upd H1 q (.tup (rgA lo c (rangeN lo hi c))))
theorem pe_tupA {ta : TA} (hc : X.calm = true) (hg : Gl X "tuple") (hm : X.mg "tuple" = none) (hg2 : Gl X "range") (hm2 : X.mg "range" = none) (ha : PA X (a :: es) ta) (hs : starEach (a :: es) X.env = (false, eval a X.env) :: starEach es X.env) (hpl : (backTo pos2 (starEach es X.env)).any (·.1) = false)
    (na : starEach [.Call (.Name "range" p2) (a :: es) [] pos2] X.env = (false, eval (.Call (.Name "range" p2) (a :: es) [] pos2) X.env) :: starEach [] X.env) :
    PE X (.Call (.Name "tuple" p) [.Call (.Name "range" p2) (a :: es) [] pos2] [] pos) (tTupA ta) := by
  refine ⟨fun pins s σ H Q I h => ?_⟩
  have fin : ∀ {s1 : Shared} {H1 : Hp} {lo hi c : Int} {t u w : Tok} {tk : Nat} (I1 : Inv X pins σ H1 s1), rangeN lo hi c ≤ 2 ^ 24 → (∀ q, H1 q = none → Q (.ref q) (upd H1 q (.tup (rgA lo c (rangeN lo hi c))))) →
      wpAny (model X.prog X.w) X.A (call (.type "tuple") [.ref s1.heap.objs.size]) (EP X pins σ Q) X.xe { s1 with heap := s1.heap.push { cls := .type "range", data := .fields #[.int lo t, .int hi u, .int c w] }, toks := tk } := fun {s1 H1 lo hi c t u w tk} I1 hl q => by
    have I2 : Inv X pins σ H1 { s1 with heap := s1.heap.push { cls := .type "range", data := .fields #[.int lo t, .int hi u, .int c w] }, toks := tk } := I1.kept fun b o e => Heap.get?_push_of_some _ e
    refine any_tuple (I1.ok.hd hc) (IsRange.new ..) (rangeN_eq lo hi c) hl fun h' tk2 acc hk hi2 => ?_
    have I3 : Inv X pins σ H1 { s1 with heap := h', toks := tk2 } := I1.kept fun b o e => hk b o (Heap.get?_push_of_some _ e)
    refine ⟨.ref h'.objs.size, upd H1 h'.objs.size (.tup (rgA lo c (rangeN lo hi c))), I3.laid (t' := tk2) (fun b o e => Heap.get?_push_of_some _ e) (Nat.le_refl _) (show ObjOk X.prog X.w _ _ _ (.tup _) from ⟨?_, acc.toList, rg_vals hi2, ?_⟩), rfl, q _ (I3.hok.fresh (Nat.le_refl _))⟩
    · rw [rgA, List.length_map, List.length_range, sizeLine_eq]; omega
    · rw [Array.toArray_toList]; exact IsTup.new _ _
  refine Call_ (ld_blt I hg hm boot_tuple (PyProof.Rows.callWith_type1 (args_cons ?_ na) na))
  refine Call_ (ld_blt I hg2 hm2 boot_range (PyProof.Rows.callWith_type1 (thn (ha.run pos2 pins s σ H _ I h) fun us s1 ⟨vs, H1, I1, r1, q1⟩ => ?_) hs hpl))
  obtain ⟨lo, hi, c, q1, hl, q⟩ := q1
  rcases q1 with ⟨rfl, rfl, rfl⟩ | ⟨rfl, rfl⟩ | ⟨rfl, c0, c1⟩
  · cases r1 with
    | cons r rr =>
      cases rr
      obtain ⟨t, rfl⟩ := r
      exact call_range_1 (args_nil (fin I1 hl q))
  · cases r1 with
    | cons r rr =>
    cases rr with
    | cons r' rr =>
      cases rr
      obtain ⟨t, rfl⟩ := r
      obtain ⟨t', rfl⟩ := r'
      exact call_range_2 (args_nil (fin I1 hl q))
  · cases r1 with
    | cons r rr =>
    cases rr with
    | cons r' rr =>
    cases rr with
    | cons r'' rr =>
      cases rr
      obtain ⟨t, rfl⟩ := r
      obtain ⟨t', rfl⟩ := r'
      obtain ⟨t'', rfl⟩ := r''
      exact call_range_3 c0 (args_nil (fin I1 hl q)) (.inl (PyProof.noPylong_of_log2 c1))
theorem rg_rps {ι : List Addr} {H : Hp} (lo c : Int) (n : Nat) : RPs v ι H (rangeL lo n c) (rgA lo c n) := by
  unfold rangeL rgA
  induction (List.range n) with
  | nil => exact .nil
  | cons k ks ih => exact .cons (.int _) ih
theorem e_tupRng (hc : Cc X v W) (hg : Gl X x) (hm : X.mg x = none) (hg2 : Gl X y) (hm2 : X.mg y = none) (ha : PA X (a :: es) (tL v g W fs)) (hx : x = "tuple" := by rfl) (hy : y = "range" := by rfl) (hs : starEach (a :: es) X.env = (false, eval a X.env) :: starEach es X.env := by rfl) (hpl : (backTo pos2 (starEach es X.env)).any (·.1) = false := by rfl)
    (na : starEach [.Call (.Name y p2) (a :: es) [] pos2] X.env = (false, eval (.Call (.Name y p2) (a :: es) [] pos2) X.env) :: starEach [] X.env := by rfl) :
    PE X (.Call (.Name x p) [.Call (.Name y p2) (a :: es) [] pos2] [] pos) (tE v g W (.op .tupRng fs)) := by
  subst hx hy
  refine PE.imp (pe_tupA hc.calm hg hm hg2 hm2 ha hs hpl na) fun σ H Q ⟨ι, δ, h, hr, hs, go⟩ => ?_
  rw [evE_op] at go
  refine ⟨ι, δ, h, hr, hs, Go.bind (SS := rrL v) go fun ds h1 ι1 H1 xs r1 ex1 hr1 rx1 go1 => ?_⟩
  have go1 : Go (rrE v) v ι1 H1 (match rngS ds with
    | some s => whenR (decide (s.ds.length ≤ cells)) (.ok (.tup s.ds) h1)
    | none => .no) Q _ := go1
  have fin : ∀ {lo hi c : Int}, Go (rrE v) v ι1 H1 (whenR (decide ((rangeL lo (rangeN lo hi c) c).length ≤ cells)) (.ok (.tup (rangeL lo (rangeN lo hi c) c)) h1)) Q (fun c d H' => W c d σ H') → rangeN lo hi c ≤ 2 ^ 24 ∧ ∀ q, H1 q = none → Q (.ref q) (upd H1 q (.tup (rgA lo c (rangeN lo hi c)))) := fun {lo hi c} go => by
    obtain ⟨z, go⟩ := go_when go
    have z := of_decide_eq_true z
    rw [rangeL, List.length_map, List.length_range] at z
    exact ⟨z, fun q hq => go_tup go hr1 (rg_rps lo c _) hq⟩
  cases q : rngS ds with
  | none => rw [q] at go1; exact go1.elim
  | some s =>
    rw [q] at go1
    unfold rngS at q
    split at q
    · cases q
      cases rx1 with
      | cons a1 t1 =>
        cases t1
        rw [rv_int a1]
        exact ⟨0, _, 1, .inl ⟨rfl, rfl, rfl⟩, fin go1⟩
    · cases q
      cases rx1 with
      | cons a1 t1 =>
      cases t1 with
      | cons a2 t1 =>
        cases t1
        rw [rv_int a1, rv_int a2]
        exact ⟨_, _, 1, .inr (.inl ⟨rfl, rfl⟩), fin go1⟩
    · split at q
      · rename_i cc
        cases q
        cases rx1 with
        | cons a1 t1 =>
        cases t1 with
        | cons a2 t1 =>
        cases t1 with
        | cons a3 t1 =>
          cases t1
          rw [rv_int a1, rv_int a2, rv_int a3]
          have c0 := cc.1
          exact ⟨_, _, _, .inr (.inr ⟨rfl, c0, (Nat.log2_lt (by omega)).mpr cc.2⟩), fin go1⟩
      · cases q
    · cases q
end
end Ivy

/-! Ivy, part R: calls without arguments, sorted, dict displays, pop, extend. -/
namespace Ivy
open PySem PySem.Spec PyProof.Rows L2
section
variable {X : Cx} {v : Ev} {g : G} {W : WX} {a b c : Expr} {e1 e2 e3 : Ex} {es rest : List Expr} {fs : List Ex} {pos p apos cpos : Pos} {o : Op} {x : Str} {id : String} {k f : Nat} {fa : Addr} {fd : FuncData} {ps : List Str}
theorem e_call0 (hb : Cb X v W) (F : FnOk X.prog X.w X.K X.mg X.base (L2.CX X.prog X.w) k fa fd ps (spD v (g.fn f) ps.length)) (hr : Room k X.A) (hg : Gl X x) (hm : X.mg x = some (.ref fa)) (hk : PySem.W.keepIn X.K (.ref fa) = true) (hbi : Binds X.K fd ps [])
    (hl : ps.length = 0 := by rfl) (hdb : (x == ("__debug__" : Str)) = false := by decide) : PE X (.Call (.Name x p) [] [] pos) (tE v g W (.call f [] [])) := by
  refine ⟨fun pins s σ H Q I ⟨ι, δ, h, hr', hs, go⟩ => ?_⟩
  rw [evE_call] at go
  have go : Go (rrE v) v ι H (g.fn f [] h) Q (fun c d H' => W c d σ H') := by
    have e : evEs g [] δ h = .ok [] h := by simp only [evEs]
    rw [e] at go
    exact go
  refine wpAny_Call_Name_kw (ld_glob I hg hm ?_ hdb)
  exact PySem.W.callWith_K0 I.kIn hk (run_fnSD (us := []) (vs := []) F hr hbi .nil (passAt hb.tk σ) I .nil ⟨ι, h, [], hr', .nil, hl.symm, go⟩)

/-! ### sorted -/
theorem insB_perm (x : Int) : ∀ l : List Int, (insB x l).Perm (x :: l)
  | [] => .refl _
  | y :: ys => by
    unfold insB
    split
    · exact .refl _
    · exact ((insB_perm x ys).cons y).trans (.swap ..)
theorem sortI_perm : ∀ l : List Int, (sortI l).Perm l
  | [] => .refl _
  | x :: xs => (insB_perm x _).trans ((sortI_perm xs).cons x)
theorem insB_sorted (x : Int) : ∀ l : List Int, l.Pairwise (· ≤ ·) → (insB x l).Pairwise (· ≤ ·)
  | [], _ => by simp [insB]
  | y :: ys, h => by
    unfold insB
    have h1 := List.pairwise_cons.mp h
    split
    · rename_i c
      exact List.pairwise_cons.mpr ⟨fun z hz => by
        rcases List.mem_cons.mp hz with rfl | hz
        · exact c
        · exact Int.le_trans c (h1.1 z hz), h⟩
    · rename_i c
      refine List.pairwise_cons.mpr ⟨fun z hz => ?_, insB_sorted x ys h1.2⟩
      rcases List.mem_cons.mp ((insB_perm x ys).mem_iff.mp hz) with rfl | hz
      · omega
      · exact h1.1 z hz
theorem sortI_sorted : ∀ l : List Int, (sortI l).Pairwise (· ≤ ·)
  | [] => .nil
  | x :: xs => insB_sorted x _ (sortI_sorted xs)
theorem sorted_uniq : ∀ {l l' : List Int}, l.Perm l' → l.Pairwise (· ≤ ·) → l'.Pairwise (· ≤ ·) → l = l'
  | [], l', h, _, _ => by rw [List.nil_perm.mp h]
  | x :: xs, [], h, _, _ => by cases List.perm_nil.mp h
  | x :: xs, y :: ys, h, h1, h2 => by
    have p1 := List.pairwise_cons.mp h1
    have p2 := List.pairwise_cons.mp h2
    have e : x = y := by
      have a1 : y ∈ x :: xs := h.mem_iff.mpr (List.mem_cons_self ..)
      have a2 : x ∈ y :: ys := h.mem_iff.mp (List.mem_cons_self ..)
      rcases List.mem_cons.mp a1 with rfl | a1
      · rfl
      · rcases List.mem_cons.mp a2 with rfl | a2
        · rfl
        · exact Int.le_antisymm (p1.1 y a1) (p2.1 x a2)
    subst e
    rw [sorted_uniq (List.Perm.cons_inv h) p1.2 p2.2]
theorem ltL_irr : ∀ x : Tx, ltL x x = false
  | [] => rfl
  | a :: x => by simp [ltL, ltL_irr x]
def c_sorted {X : Cx} : CallR X (.builtin "sorted") (rSortedI X.K) := cr_sortedI
theorem n_sorted (hK : X.K = v.K) : OpN v g .sorted (rSortedI X.K) := by
  rw [hK]
  refine one_arg' (fun _ => rfl) (fun d _ _ _ => by cases d <;> rfl) fun ι H H0 h d x Q E hr rx go => ?_
  have go : Go (rrE v) v ι H (match lsD h d with
    | some xs => (match intsL xs with
      | some ns => whenR (decide (ns.length ≤ cells)) (.ok (.lst ((sortI ns).map .int)) h)
      | none => .no)
    | none => .no) Q E := go
  split at go
  · rename_i ds q
    split at go
    · rename_i ns q2
      obtain ⟨c, go⟩ := go_when go
      obtain ⟨a, vs, rfl, s, r⟩ := ls_ok hr rx q
      have ev := ints_v r q2
      subst ev
      refine ⟨a, ns, rfl, s, fun ns' p hp hs hn => ?_⟩
      have e : ns' = sortI ns := sorted_uniq (hp.trans (sortI_perm ns).symm) hs (sortI_sorted ns)
      subst e
      have rr : ∀ l : List Int, RPs v ι H (l.map .int) (l.map V.int) := fun l => by
        induction l with
        | nil => exact .nil
        | cons i l ih => exact .cons (.int i) ih
      exact go_fresh go hr (rr _) hn
    · exact go.elim
  · exact go.elim

/-! ### pop, extend -/
theorem v_pop (ι : List Addr) (H H0 : Hp) (h : Hh) (n : Nat) (x : V) (Q : VK) (E : XK) (hr : HR v ι H h) (rx : rrE v ι H0 H (.ref n) x) (go : Go (rrE v) v ι H (opApp g.sub .pop [.ref n] h) Q E) : rPop x [] H Q := by
  obtain ⟨p, rfl, hp⟩ := rv_ref rx
  have go : Go (rrE v) v ι H (match h[n]? with
    | some (.lst xs) => (match xs[xs.length - 1]? with
      | some d => chg h n xs.dropLast d
      | none => .no)
    | _ => .no) Q E := go
  split at go
  · rename_i xs q
    split at go
    · rename_i dd q2
      obtain ⟨vs, hv, hd⟩ := (show CR v ι H p (.lst _) from hr.cell n p _ hp q)
      obtain ⟨y, hy, ry⟩ := hd.get q2
      refine ⟨p, vs, y, rfl, rfl, hv, by rw [← hd.length]; exact hy, ?_⟩
      have dl : RPs v ι H xs.dropLast vs.dropLast := by
        rw [List.dropLast_eq_take, List.dropLast_eq_take, hd.length]
        exact hd.take _
      have ex := ext_cell (o := .lst vs.dropLast) hr hp hv rfl
      have r2 := ry.mono ex
      refine go ι _ y ex (hr.set hp ex ⟨_, upd_same, dl.mono ex⟩) ?_
      cases dd <;> first | exact ⟨r2, trivial⟩ | cases r2
    · exact go.elim
  · exact go.elim
theorem v_extend (ι : List Addr) (H H0 H1 : Hp) (h : Hh) (n : Nat) (e : D) (x y : V) (Q : VK) (E : XK) (hr : HR v ι H h) (rx : rrE v ι H0 H (.ref n) x) (ry : rrE v ι H1 H e y) (go : Go (rrE v) v ι H (opApp g.sub .extend [.ref n, e] h) Q E) : rExtend x [y] H Q := by
  obtain ⟨p, rfl, hp⟩ := rv_ref rx
  have go : Go (rrE v) v ι H (match h[n]?, lmD h e with
    | some (.lst xs), some ys => whenR (decide (xs.length + ys.length ≤ cells)) (chg h n (xs ++ ys) .non)
    | _, _ => .no) Q E := go
  split at go
  · rename_i xs ys q q2
    obtain ⟨c, go⟩ := go_when go
    obtain ⟨b, vs, rfl, hb, rb⟩ := lm_ok hr ry q2
    obtain ⟨us, hv, hd⟩ := (show CR v ι H p (.lst _) from hr.cell n p _ hp q)
    refine ⟨p, b, us, vs, rfl, rfl, hv, hb, by rw [← hd.length, ← rb.length, ← cells_eq]; exact of_decide_eq_true c, ?_⟩
    exact go_set (show Go (rrE v) v ι H (.ok .non (h.set n (.lst (xs ++ ys)))) Q E from go) hr hp hv rfl (fun ex => ⟨_, upd_same, (hd.app rb).mono ex⟩) .non rfl
  · exact go.elim
theorem e_pop (hb : Cb X v W) (ha : PE X a (tE v g W e1)) (hbase : attributeBase a "pop" X.env (eval a X.env) = eval a X.env := by rfl) (hline : (apos.endLine == cpos.line) = true := by rfl) :
    PE X (.Call (.Attribute a "pop" apos) [] [] cpos) (tE v g W (.op .pop [.ck 1 e1])) :=
  e_lm0 hb PySem.F.slot_list_pop PySem.F.type_list_pop mt_pop v_pop ha hbase hline
theorem e_extend (hb : Cb X v W) (ha : PE X a (tE v g W e1)) (hi : PE X b (tE v g W e2)) (hbase : attributeBase a "extend" X.env (eval a X.env) = eval a X.env := by rfl)
    (hfew : ((backTo cpos (starEach [b] X.env)).all (fun x => !x.1) && (backToKw cpos (keywordEach [] X.env)).all (fun x => x.1.isSome)
      && decide ([b].length + ([] : List Keyword).length + (if ([] : List Keyword).isEmpty then 0 else 1) < 30)) = true := by rfl)
    (hline : (apos.endLine == cpos.line) = true := by rfl) (hs : starEach [b] X.env = (false, eval b X.env) :: starEach [] X.env := by rfl) (hplain : (backTo cpos (starEach [] X.env)).any (·.1) = false := by rfl) :
    PE X (.Call (.Attribute a "extend" apos) [b] [] cpos) (tE v g W (.op .extend [.ck 1 e1, e2])) :=
  e_lm1 hb PySem.F.slot_list_extend PySem.F.type_list_extend mt_extend v_extend ha hi hbase hfew hline hs hplain
end

/-! ### dict displays -/
section
variable {v : Ev}
mutual
theorem RP.swapD {ι : List Addr} {H : Hp} {A : Addr} {o : HO} {acc : List (Key × V)} (hA : H A = some (.dK acc)) : ∀ {d : D} {x : V}, RP v ι H d x → RP v ι (upd H A o) d x
  | _, _, .non => .non
  | _, _, .bl b => .bl b
  | _, _, .int i => .int i
  | _, _, .str x => .str x
  | _, _, .tup h r => .tup (by
    rcases h with (h | ⟨o, h⟩) | h
    · exact .inl (.inl (by rw [upd_ne fun z => by subst z; rw [hA] at h; cases h]; exact h))
    · exact .inl (.inr ⟨o, by rw [upd_ne fun z => by subst z; rw [hA] at h; cases h]; exact h⟩)
    · exact .inr h) (RPs.swapD hA r)
  | _, _, .rol h r => .rol (by
    rcases h with ⟨o, h⟩ | h
    · exact .inl ⟨o, by rw [upd_ne fun z => by subst z; rw [hA] at h; cases h]; exact h⟩
    · exact .inr h) (RPs.swapD hA r)
  | _, _, .ref h => .ref h
theorem RPs.swapD {ι : List Addr} {H : Hp} {A : Addr} {o : HO} {acc : List (Key × V)} (hA : H A = some (.dK acc)) : ∀ {ds : List D} {xs : List V}, RPs v ι H ds xs → RPs v ι (upd H A o) ds xs
  | _, _, .nil => .nil
  | _, _, .cons h r => .cons (RP.swapD hA h) (RPs.swapD hA r)
end
theorem HR.swapD {ι : List Addr} {H : Hp} {h : Hh} {A : Addr} {o : HO} {acc : List (Key × V)} (r : HR v ι H h) (hA : H A = some (.dK acc)) (nA : A ∉ ι) : HR v ι (upd H A o) h := ⟨r.len, r.nd, fun n p cc h1 h2 => by
  have q := r.cell n p cc h1 h2
  have ne : p ≠ A := fun z => nA (z ▸ List.mem_of_getElem? h1)
  cases cc with
  | lst ds => obtain ⟨vs, z1, z2⟩ := q; exact ⟨vs, by rw [upd_ne ne]; exact z1, z2.swapD hA⟩
  | dct ds => obtain ⟨vs, z1, z2⟩ := q; exact ⟨vs, by rw [upd_ne ne]; exact z1, z2.1, z2.2.swapD hA⟩
  | ins c' ds => obtain ⟨dx, vs, z0, z1, z2⟩ := q; exact ⟨dx, vs, z0, by rw [upd_ne ne]; exact z1, z2.1, z2.2.swapD hA⟩⟩
end
section
variable {X : Cx} {v : Ev} {g : G} {W : WX} {a b : Expr} {e1 e2 : Ex} {fs : List Ex} {pos : Pos} {keys : List (Option Expr)} {values : List Expr}
theorem tE_imp {σ : L2.St} {H : Hp} {Q Q' : VK} (t : tE v g W e1 σ H Q) (k : ∀ x H, Q x H → Q' x H) : tE v g W e1 σ H Q' := by
  obtain ⟨ι, δ, h, hr, hs, go⟩ := t
  exact ⟨ι, δ, h, hr, hs, go.imp k fun _ _ _ z => z⟩
def trsOf (v : Ev) (g : G) (W : WX) : List Ex → List (TE × TE)
  | k :: a :: r => (tE v g W k, tE v g W a) :: trsOf v g W r
  | _ => []
def pairUp {α : Type} : List α → List (α × α)
  | k :: a :: r => (k, a) :: pairUp r
  | _ => []
/-- as many keys as values -/
inductive PD (X : Cx) (v : Ev) (g : G) (W : WX) (pos : Pos) : List (Option Expr) → List Expr → List Ex → Prop
  | nil : PD X v g W pos [] [] []
  | cons {k a : Expr} {ks : List (Option Expr)} {vs : List Expr} {ek ea : Ex} {fs : List Ex} : PE X k (tE v g W ek) → PE X a (tE v g W ea) → PD X v g W pos ks vs fs → PD X v g W pos (some k :: ks) (a :: vs) (ek :: ea :: fs)
theorem PD.pps (h : PD X v g W pos keys values fs) : PPs X pos keys values (trsOf v g W fs) := by
  induction h with
  | nil => exact pps_nil
  | cons h1 h2 _ ih => exact pps_cons h1 h2 ih
theorem PD.len (h : PD X v g W pos keys values fs) : keys.length = values.length ∧ keys.all (·.isSome) = true ∧ fs.length = 2 * keys.length := by
  induction h with
  | nil => exact ⟨rfl, rfl, rfl⟩
  | cons h1 h2 _ ih => exact ⟨by simp [ih.1], by simpa using ih.2.1, by simp [ih.2.2]; omega⟩
theorem PD.pairs (hp : PD X v g W pos keys values fs) : ∀ {σ : L2.St} {H : Hp} {R : List (V × V) → Hp → Prop}, tL v g W fs σ H (fun xs H' => R (pairUp xs) H') → tPairs (trsOf v g W fs) σ H R := by
  induction hp with
  | nil =>
    intro σ H R ⟨ι, δ, h, hr, hs, go⟩
    exact go.here hr .nil
  | cons h1 h2 _ ih =>
    intro σ H R t
    refine tE_imp (l_cons t) fun x H1 q1 => tE_imp (l_cons q1) fun y H2 q2 => ?_
    exact ih q2
theorem pairs_ok {ι : List Addr} {H0 H : Hp} : ∀ {ds : List D} {xs : List V} {kvs : List (Ky × D)}, rrL v ι H0 H ds xs → pairsD ds = some kvs → ∃ kvs' : List (Key × V), pairUp xs = kvs'.map (fun kv => (kV kv.1, kv.2)) ∧ RK v ι H kvs kvs'
  | [], _, kvs, .nil, e => by cases e; exact ⟨[], rfl, rfl, .nil⟩
  | [_], _, kvs, .cons _ .nil, e => by cases e
  | k :: d :: ds, _, kvs, .cons (x := x) r1 (.cons (x := y) r2 r), e => by
    have e : (match kyD k, pairsD ds with
      | some k, some kvs => if D.pers d then some ((k, d) :: kvs) else none
      | _, _ => none) = some kvs := e
    split at e
    · rename_i k' kvs1 q1 q2
      split at e
      · rename_i c
        cases e
        obtain ⟨kvs', p1, p2, p3⟩ := pairs_ok r q2
        refine ⟨(kyV k', y) :: kvs', ?_, ?_, ?_⟩
        · rw [List.map_cons, ← p1, ← ky_val q1 r1]
          rfl
        · rw [List.map_cons, List.map_cons, p2]
        · rw [List.map_cons, List.map_cons]
          exact .cons (r2.1.rp c) p3
      · cases e
    · cases e
theorem merge_ok {ι : List Addr} {H : Hp} : ∀ {more : List (Ky × D)} {more' : List (Key × V)} {kvs : List (Ky × D)} {kvs' : List (Key × V)}, RK v ι H more more' → RK v ι H kvs kvs' → RK v ι H (more.foldl (fun acc kv => kPut acc kv.1 kv.2) kvs) (mergeK kvs' more')
  | [], [], _, _, _, r => r
  | [], _ :: _, _, _, r0, _ => by have := r0.1; cases this
  | _ :: _, [], _, _, r0, _ => by have := r0.1; cases this
  | (k, d) :: more, (k', x) :: more', kvs, kvs', r0, r => by
    obtain ⟨h1, h2⟩ := r0
    rw [List.map_cons, List.map_cons] at h1 h2
    obtain ⟨e1, e2⟩ := List.cons.inj h1
    cases h2 with
    | cons q1 q2 =>
      have e1 : k' = kyV k := e1
      subst e1
      exact merge_ok (more := more) (more' := more') ⟨e2, q2⟩ (r.put k q1)
theorem e_dict (hp : PD X v g W pos keys values fs) (h0 : keys ≠ []) (h15 : keys.length ≤ 15 := by decide) : PE X (.Dict keys values pos) (tE v g W (.op .dict fs)) := by
  obtain ⟨l1, l2, l3⟩ := hp.len
  refine PE.imp (pe_disp hp.pps l2 l1 h0 h15) fun σ H Q ⟨ι, δ, h, hr, hs, go⟩ p hn => ?_
  have eo : evE g (.op .dict fs) δ h = (evEs g fs δ h).bind fun ds h => opApp g.sub .dict ds h := by simp only [evE]
  rw [eo] at go
  have np := hr.notIn hn
  have ex0 : Ext ι H ι (upd H p (.dK [])) := ext_new hn
  have hr0 : HR v ι (upd H p (.dK [])) h := hr.new hn
  refine hp.pairs ⟨ι, δ, h, hr0, hs.mono ex0, ?_⟩
  refine Go.bind (SS := rrL v) (Go.shift ex0 hr0 go) fun ds h1 ι1 H1 xs r1 ex1 hr1 rx1 _ => ?_
  obtain ⟨np1, hp1⟩ := ex1.out upd_same np
  rw [r1, R.okb] at go
  have go : Go (rrE v) v ι H (match pairsD ds with
    | some kvs => .ok (.dct (kvs.foldl (fun acc kv => kPut acc kv.1 kv.2) [])) h1
    | none => .no) Q _ := go
  cases q : pairsD ds with
  | none => rw [q] at go; exact go.elim
  | some kvs =>
    rw [q] at go
    obtain ⟨kvs', p1, p2⟩ := pairs_ok rx1 q
    have ln : kvs'.length ≤ 15 := by
      have a1 := congrArg List.length p1
      rw [List.length_map] at a1
      have a2 : ∀ l : List V, (pairUp l).length * 2 ≤ l.length := fun l => by
        match l with
        | [] => simp [pairUp]
        | [_] => simp [pairUp]
        | _ :: _ :: r =>
          have : ∀ m (l : List V), l.length ≤ m → (pairUp l).length * 2 ≤ l.length := fun m => by
            induction m with
            | zero => intro l hl; cases l <;> simp_all [pairUp]
            | succ m ih =>
              intro l hl
              match l with
              | [] => simp [pairUp]
              | [_] => simp [pairUp]
              | _ :: _ :: r =>
                have := ih r (by simp at hl; omega)
                simp [pairUp]
                omega
          exact this _ _ (Nat.le_refl _)
      have a3 := a2 xs
      have a4 : xs.length = ds.length := by
        have : ∀ {ds : List D} {xs : List V}, rrL v ι1 (upd H p (.dK [])) H1 ds xs → xs.length = ds.length := fun {ds xs} r => by
          induction r with
          | nil => rfl
          | cons _ _ ih => simp [ih]
        exact this rx1
      have a5 := evEs_len r1
      omega
    refine ⟨hp1, kvs', p1, ln, ?_⟩
    have hr2 : HR v ι1 (upd H1 p (.dK (mergeK [] kvs'))) h1 := hr1.swapD hp1 np1
    have rk : RK v ι1 (upd H1 p (.dK (mergeK [] kvs'))) kvs kvs' := ⟨p2.1, p2.2.swapD hp1⟩
    exact go ι1 _ (.ref p) ((ex0.trans ex1).put hn) hr2 ⟨⟨p, _, rfl, np1, upd_same, merge_ok rk ⟨rfl, .nil⟩⟩, fun a e => by cases e; exact hn⟩
theorem e_dict0 : PE X (.Dict [] [] pos) (tE v g W (.op .dict [])) :=
  PE.imp pe_dnewK fun σ H Q ⟨ι, δ, h, hr, hs, go⟩ p hn => by
    have eo : evE g (.op .dict []) δ h = .ok (.dct []) h := by
      simp only [evE, evEs]
      rfl
    rw [eo] at go
    have hr2 := hr.new (o := .dK []) hn
    exact go ι _ (.ref p) (ext_new hn) hr2 ⟨⟨p, [], rfl, hr.notIn hn, upd_same, rfl, .nil⟩, fun a e => by cases e; exact hn⟩
end

/-! ### list(range(..)) -/
section
variable {X : Cx} {v : Ev} {g : G} {W : WX} {a b : Expr} {e1 e2 : Ex} {pos p p2 pos2 : Pos} {x y : Str}
theorem rangeN_1 (lo hi : Int) : rangeN lo hi 1 = (hi - lo).toNat := by
  unfold rangeN
  rw [if_pos (by decide)]
  split
  · rw [Int.ediv_one]; omega
  · omega
theorem rgV_rps {ι : List Addr} {H : Hp} (lo hi : Int) : RPs v ι H (rangeL lo (rangeN lo hi 1) 1) (rgV lo hi) := by
  rw [rangeN_1]
  unfold rangeL rgV
  induction (List.range (hi - lo).toNat) with
  | nil => exact .nil
  | cons k ks ih =>
    refine .cons ?_ ih
    show RP v ι H (.int (lo + (k : Int) * 1)) (.int (lo + (k : Int)))
    rw [Int.mul_one]
    exact .int _
theorem lrg_fin {ι : List Addr} {H : Hp} {h : Hh} {lo hi : Int} {Q : VK} {E : XK} {c2 : Bool} (hr : HR v ι H h) (go : Go (rrE v) v ι H (whenR (decide ((rangeL lo (rangeN lo hi 1) 1).length ≤ cells) && (decide (lo.natAbs < 4611686018427387904) && decide (hi.natAbs < 4611686018427387904))) (.ok (.lst (rangeL lo (rangeN lo hi 1) 1)) h)) Q E) :
    RgOk lo hi ∧ ∀ q, H q = none → Q (.ref q) (upd H q (.lst (rgV lo hi))) := by
  obtain ⟨c, go⟩ := go_when go
  rw [Bool.and_eq_true, Bool.and_eq_true] at c
  have c0 := of_decide_eq_true c.1
  have c1 := of_decide_eq_true c.2.1
  have c2 := of_decide_eq_true c.2.2
  rw [rangeL, List.length_map, List.length_range, rangeN_1] at c0
  have z : (cells : Nat) = 2 ^ 24 := by decide
  rw [z] at c0
  exact ⟨⟨by omega, by omega, by omega, by omega, c0⟩, fun q hq => go_fresh go hr (rgV_rps lo hi) hq⟩
theorem e_lstRng1 (hc : Cc X v W) (hg : Gl X x) (hm : X.mg x = none) (hg2 : Gl X y) (hm2 : X.mg y = none) (ha : PE X a (tE v g W e1)) (hx : x = "list" := by rfl) (hy : y = "range" := by rfl) (hs : starEach [a] X.env = (false, eval a X.env) :: starEach [] X.env := by rfl) (hpl : (backTo pos2 (starEach [] X.env)).any (·.1) = false := by rfl)
    (na : starEach [.Call (.Name y p2) [a] [] pos2] X.env = (false, eval (.Call (.Name y p2) [a] [] pos2) X.env) :: starEach [] X.env := by rfl) :
    PE X (.Call (.Name x p) [.Call (.Name y p2) [a] [] pos2] [] pos) (tE v g W (.op .listRng [e1])) := by
  subst hx hy
  refine PE.imp (pe_listRg hc.calm hg hm (prg_1 hg2 hm2 ha hs) na) fun σ H Q ⟨ι, δ, h, hr, hs, go⟩ => ?_
  rw [evE_op1] at go
  refine ⟨ι, δ, h, hr, hs, Go.bind (SS := rrE v) go fun d h1 ι1 H1 xs r1 ex1 hr1 rx1 go1 => ?_⟩
  cases d <;> first | exact go1.elim | skip
  rw [rv_int rx1]
  rename_i j
  refine ⟨j, rfl, lrg_fin (c2 := true) hr1 (E := fun c d H' => W c d σ H') ?_⟩
  have e : opApp g.sub .listRng [.int j] h1 = whenR (decide ((rangeL 0 (rangeN 0 j 1) 1).length ≤ cells) && (decide ((0 : Int).natAbs < 4611686018427387904) && decide (j.natAbs < 4611686018427387904))) (.ok (.lst (rangeL 0 (rangeN 0 j 1) 1)) h1) := by
    show whenR (decide ((rangeL 0 (rangeN 0 j 1) 1).length ≤ cells) && [D.int j].all smallD) (.ok (.lst (rangeL 0 (rangeN 0 j 1) 1)) h1 : R D) = _
    simp [smallD]
  rw [← e]
  exact go1
end

/-! ### a comprehension within another -/
def relabS (S sc : Scope) : Scope := { S with names := S.names.map fun (n, k) => if (k == .free && sc.kind == .function && sc.names.lookup n == some .cell) then (n, .cell) else (n, k) }
theorem blk_nest {X : Cx} {s : Shared} {H : Hp} {S T sc : Scope} {C : Addr} {cl : List (Str × Addr)} {fp : List Addr} {N : List Str} {own : List (Str × Nat)} (hN : X.N = N) (hs : X.env.scope = sc) (h1 : T.kind = .function) (h2 : ∀ y ∈ T.names, T.names.lookup y.1 = some y.2) (h3 : ∀ p ∈ own, N[p.2]? = some p.1)
    (h4 : ∀ y ∈ T.names, y.2 = .free → (relabS S sc).names.lookup y.1 = some .cell ∨ (relabS S sc).names.lookup y.1 = some .free) (h5 : ∀ y ∈ T.names, y.2 = .local ∨ y.2 = .cell → y.1 ∈ own.map (·.1) ∨ y.1 ∉ N) :
    BlkOk (X.blk s H S (compEnvC S cl C X.env) fp).N (X.blk s H S (compEnvC S cl C X.env) fp).env.scope T own := by
  subst hN hs
  exact ⟨h1, h2, h3, h4, h5⟩
end Ivy

/-! Ivy, part S: lemmas for running the evaluator by simp. -/
namespace Ivy
section
variable {α β : Type} {s : Nat → Nat → Bool} {h : Hh} {i j k : Int} {x y : Tx} {a b c d : D} {xs ys : List D} {n m : Nat} {δ : Sl} {p q : Bool}
@[simp] theorem s_okb (a : α) (k : α → Hh → R β) : (R.ok a h).bind k = k a h := rfl
@[simp] theorem s_nob (k : α → Hh → R β) : (R.no : R α).bind k = .no := rfl
@[simp] theorem s_go (a : α) (k : α → Hh → Rs) : (R.ok a h).go δ k = k a h := rfl
@[simp] theorem s_calm (a : α) : (R.ok a h).calm = .ok a h := rfl
@[simp] theorem s_wt (r : R α) : whenR true r = r := rfl
@[simp] theorem s_wf (r : R α) : whenR false r = .no := rfl
@[simp] theorem s_int : intR i h = .ok (.int i) h := rfl
@[simp] theorem s_bl : blR p h = .ok (.bl p) h := rfl
@[simp] theorem s_fin : finish h d h = .ok d h := by simp [finish]
@[simp] theorem s_endN : endF h (.nx δ h) = .ok .non h := by simp [endF]
@[simp] theorem s_endR : endF h (.ret d h) = .ok d h := by simp [endF]
theorem fin_len {g : Hh} (e : g.length = h.length) : finish h d g = .ok d g := by simp [finish, e]
/-! arithmetic -/
@[simp] theorem o_addI : opApp s .add [.int i, .int j] h = .ok (.int (i + j)) h := rfl
@[simp] theorem o_iaddI : opApp s .iadd [.int i, .int j] h = .ok (.int (i + j)) h := rfl
@[simp] theorem o_subI : opApp s .sub [.int i, .int j] h = .ok (.int (i - j)) h := rfl
@[simp] theorem o_mulI' : opApp s .mul [.int i, .int j] h = whenR (mulOk i j) (.ok (.int (i * j)) h) := rfl
@[simp] theorem o_imulI : opApp s .imul [.int i, .int j] h = whenR (mulOk i j) (.ok (.int (i * j)) h) := rfl
@[simp] theorem o_fdivI : opApp s .fdiv [.int i, .int j] h = whenR (decide (j ≠ 0) && decide (j.natAbs < bigD)) (.ok (.int (i.fdiv j)) h) := rfl
@[simp] theorem o_modI : opApp s .mod [.int i, .int j] h = whenR (decide (j ≠ 0)) (.ok (.int (i.fmod j)) h) := rfl
@[simp] theorem o_powI : opApp s .pow [.int i, .int j] h = whenR (decide (0 ≤ j) && decide (j ≤ 1000000) && decide (i.natAbs < 18446744073709551616)) (.ok (.int (i ^ j.toNat)) h) := rfl
@[simp] theorem o_shlI : opApp s .shl [.int i, .int j] h = whenR (decide (0 ≤ j) && decide (j ≤ 1000000) && decide (i.natAbs < big)) (.ok (.int (i * 2 ^ j.toNat)) h) := rfl
@[simp] theorem o_negI : opApp s .neg [.int i] h = .ok (.int (-i)) h := rfl
@[simp] theorem o_absI : opApp s .abs [.int i] h = .ok (.int (if i < 0 then -i else i)) h := rfl
@[simp] theorem o_intI : opApp s .int [.int i] h = .ok (.int i) h := rfl
@[simp] theorem o_bits : opApp s .bits [.int i] h = .ok (.int (bitLen i)) h := rfl
/-! order, equality -/
@[simp] theorem o_ltI : opApp s .lt [.int i, .int j] h = .ok (.bl (decide (i < j))) h := rfl
@[simp] theorem o_leI : opApp s .le [.int i, .int j] h = .ok (.bl (decide (i ≤ j))) h := rfl
@[simp] theorem o_gtI : opApp s .gt [.int i, .int j] h = .ok (.bl (decide (j < i))) h := rfl
@[simp] theorem o_geI : opApp s .ge [.int i, .int j] h = .ok (.bl (decide (j ≤ i))) h := rfl
@[simp] theorem o_eqI : opApp s .eq [.int i, .int j] h = .ok (.bl (decide (i = j))) h := rfl
@[simp] theorem o_neI : opApp s .ne [.int i, .int j] h = .ok (.bl (!decide (i = j))) h := rfl
@[simp] theorem o_eqS : opApp s .eq [.str x, .str y] h = .ok (.bl (decide (x = y))) h := rfl
@[simp] theorem o_neS : opApp s .ne [.str x, .str y] h = .ok (.bl (!decide (x = y))) h := rfl
@[simp] theorem o_eqB : opApp s .eq [.bl p, .bl q] h = .ok (.bl (p == q)) h := rfl
@[simp] theorem o_isN : opApp s .isNone [a] h = .ok (.bl (D.isNon a)) h := rfl
@[simp] theorem o_notN : opApp s .notNone [a] h = .ok (.bl (!D.isNon a)) h := rfl
/-! displays, items -/
@[simp] theorem o_tup : opApp s .tup xs h = whenR (persL xs && decide (xs.length ≤ cells)) (.ok (.tup xs) h) := rfl
@[simp] theorem o_lst : opApp s .lst xs h = whenR (persL xs && decide (xs.length ≤ cells)) (.ok (.lst xs) h) := rfl
@[simp] theorem s_pers0 : persL [] = true := rfl
@[simp] theorem s_pers1 : persL (a :: xs) = (D.pers a && persL xs) := rfl
@[simp] theorem at0 : atP (a :: xs) 0 = some a := by simp [atP, ixP]
@[simp] theorem at1 : atP (a :: b :: xs) 1 = some b := by
  unfold atP ixP
  rw [if_pos (by omega), if_pos (by simp only [List.length_cons]; omega)]
  rfl
@[simp] theorem at2 : atP (a :: b :: c :: xs) 2 = some c := by
  unfold atP ixP
  rw [if_pos (by omega), if_pos (by simp only [List.length_cons]; omega)]
  rfl
@[simp] theorem at3 : atP (a :: b :: c :: d :: xs) 3 = some d := by
  unfold atP ixP
  rw [if_pos (by omega), if_pos (by simp only [List.length_cons]; omega)]
  rfl
@[simp] theorem o_idxT : opApp s .idx [.tup xs, .int i] h = (match atP xs i with
  | some d => .ok d h
  | none => .no) := rfl
@[simp] theorem o_lenT : opApp s .len [.tup xs] h = .ok (.int xs.length) h := rfl
theorem o_idxL (e : h[n]? = some (.lst xs)) : opApp s .idx [.ref n, .int i] h = (match atP xs i with
  | some d => .ok d h
  | none => .no) := by
  show opIdx h (.ref n) (.int i) = _
  unfold opIdx
  simp [dcD, sqD, lsD, e] <;> rfl
theorem o_lenL (e : h[n]? = some (.lst xs)) : opApp s .len [.ref n] h = .ok (.int xs.length) h := by
  show (match sqD h (.ref n) with
    | some xs => intR xs.length h
    | none => match dcD h (.ref n) with
      | some kvs => intR kvs.length h
      | none => .no) = _
  simp [sqD, lsD, e]
theorem o_setL (e : h[n]? = some (.lst xs)) : opApp s .setItem [d, .ref n, .int i] h = (match ixP xs.length i with
  | some k => whenR (D.pers d) (.ok .non (h.set n (.lst (xs.set k d))))
  | none => .no) := by
  show (match h[n]?, (D.int i : D) with
    | some (.lst xs), .int i => (match ixP xs.length i with
      | some k => whenR (D.pers d) (chg h n (xs.set k d) .non)
      | none => .no)
    | some (.dct kvs), b => (match kyD b with
      | some k => whenR (D.pers d && decide (kvs.length < cells)) (.ok .non (h.set n (.dct (kPut kvs k d))))
      | none => .no)
    | _, _ => .no) = _
  rw [e]
  rfl
@[simp] theorem o_isi (ts : List Ty) : opApp s (.isi ts) [a] h = (match tyD h a with
    | some k => .ok (.bl (ts.any (tyIs s k))) h
    | none => .no) := rfl
@[simp] theorem o_sl01T : opApp s (.slice false true) [.tup xs, .int j] h = .ok (.tup (cut xs none (some j))) h := rfl
@[simp] theorem o_sl10T : opApp s (.slice true false) [.tup xs, .int j] h = .ok (.tup (cut xs (some j) none)) h := rfl
@[simp] theorem s_boxT : boxR (.tup xs) h = .ok (.tup xs) h := rfl
@[simp] theorem s_boxI : boxR (.int i) h = .ok (.int i) h := rfl
@[simp] theorem s_boxN : boxR .non h = .ok .non h := rfl
@[simp] theorem s_boxB : boxR (.bl p) h = .ok (.bl p) h := rfl
@[simp] theorem s_boxS : boxR (.str x) h = .ok (.str x) h := rfl
@[simp] theorem s_boxR : boxR (.ref n) h = .ok (.ref n) h := rfl
@[simp] theorem s_boxL : boxR (.lst xs) h = .ok (.ref h.length) (h ++ [.lst xs]) := rfl
@[simp] theorem s_truB : truD h (.bl p) = .ok p h := rfl
@[simp] theorem s_truI : truD h (.int i) = .ok (i != 0) h := rfl
@[simp] theorem p_non : D.pers .non = true := rfl
@[simp] theorem p_bl : D.pers (.bl p) = true := rfl
@[simp] theorem p_int : D.pers (.int i) = true := rfl
@[simp] theorem p_str : D.pers (.str x) = true := rfl
@[simp] theorem p_tup : D.pers (.tup xs) = true := rfl
@[simp] theorem p_ref : D.pers (.ref n) = true := rfl
@[simp] theorem n_non : D.isNon .non = true := rfl
@[simp] theorem n_bl : D.isNon (.bl p) = false := rfl
@[simp] theorem n_int : D.isNon (.int i) = false := rfl
@[simp] theorem nn_str : D.isNon (.str x) = false := rfl
@[simp] theorem n_tup : D.isNon (.tup xs) = false := rfl
@[simp] theorem n_ref : D.isNon (.ref n) = false := rfl
@[simp] theorem g_name' : putT (.name m) d δ = if D.pers d = true then some (δ.set m (some d)) else none := by simp [putT]
@[simp] theorem g_tup' (ts : List Tg) : putT (.tup ts) (.tup xs) δ = putTs ts xs δ := by simp [putT]
@[simp] theorem g_nil' : putTs [] [] δ = some δ := by simp [putTs]
@[simp] theorem g_cons' (t : Tg) (ts : List Tg) : putTs (t :: ts) (d :: xs) δ = (match putT t d δ with
  | some δ' => putTs ts xs δ'
  | none => none) := by simp [putTs] <;> rfl
@[simp] theorem t_non : tyD h .non = some (.inl .none) := rfl
@[simp] theorem t_bl : tyD h (.bl p) = some (.inl .bool) := rfl
@[simp] theorem t_int : tyD h (.int i) = some (.inl .int) := rfl
@[simp] theorem t_str : tyD h (.str x) = some (.inl .str) := rfl
@[simp] theorem t_tup : tyD h (.tup xs) = some (.inl .tuple) := rfl
end
/-! loops, turn by turn -/
section
variable {T : Sl → Hh → R Bool} {B : Sl → Hh → Rs} {ks : List Nat} {n : Nat} {δ δ1 δ2 : Sl} {h h1 h2 : Hh} {t : Tg} {x : D} {xs : List D} {gd : List (Nat × C)}
theorem lpW_go (hT : T δ h = .ok true h1) (hB : B δ h1 = .nx δ2 h2) : lpW T ks B (n + 1) δ h = lpW T ks B n (wipeS δ2 ks) h2 := by
  show (T δ h).go δ _ = _
  rw [hT]
  simp only [s_go, if_true]
  rw [hB]
theorem lpW_end (hT : T δ h = .ok false h1) : lpW T ks B (n + 1) δ h = .nx (wipeS δ ks) h1 := by
  show (T δ h).go δ _ = _
  rw [hT]
  rfl
theorem lpF_nil : lpF [] t ks B [] δ h = .nx (wipeS δ ks) h := rfl
theorem lpF_go (hp : putT t x δ = some δ1) (hB : B δ1 h = .nx δ2 h2) : lpF [] t ks B (x :: xs) δ h = lpF [] t ks B xs (wipeS δ2 ks) h2 := by
  show (match putT t x δ with
    | some δ' => _
    | none => _) = _
  rw [hp]
  simp only
  rw [hB]
theorem lpF_brk (hp : putT t x δ = some δ1) (hB : B δ1 h = .brk δ2 h2) : lpF [] t ks B (x :: xs) δ h = .nx (wipeS δ2 ks) h2 := by
  show (match putT t x δ with
    | some δ' => _
    | none => _) = _
  rw [hp]
  simp only
  rw [hB]
theorem lpF_ret {d : D} (hp : putT t x δ = some δ1) (hB : B δ1 h = .ret d h2) : lpF [] t ks B (x :: xs) δ h = .ret d h2 := by
  show (match putT t x δ with
    | some δ' => _
    | none => _) = _
  rw [hp]
  simp only
  rw [hB]
end
@[simp] theorem cells_n : cells = 16777216 := rfl
@[simp] theorem wipe0 {δ : Sl} : wipeS δ [] = δ := rfl
@[simp] theorem wipe1 {δ : Sl} {k : Nat} {ks : List Nat} : wipeS δ (k :: ks) = (wipeS δ ks).set k none := rfl
theorem mulOk_of {i j : Int} (hi : i.natAbs < 2 ^ 400000) (hj : j.natAbs < 2 ^ 400000) : mulOk i j = true := by
  have h : 2 ^ 400000 ≤ big := Nat.pow_le_pow_right (by omega) (by omega)
  unfold mulOk
  rw [Bool.or_eq_true, Bool.and_eq_true]
  exact .inr ⟨decide_eq_true (Nat.lt_of_lt_of_le hi h), decide_eq_true (Nat.lt_of_lt_of_le hj h)⟩
theorem callF_eq (P : Pg) (n f : Nat) (ds : List D) (h : Hh) : callF P (n + 1) f ds h = match P.fns[f]? with
    | some fn => runF ⟨callF P n, P.cs, P.sub, P.w⟩ fn ds h
    | none => .no := rfl
end Ivy

/-! Ivy, part T: more lemmas for plain laws. -/
namespace Ivy
section
variable {α β : Type} {s : Nat → Nat → Bool} {h g : Hh} {i j k : Int} {x y : Tx} {a b c d : D} {xs ys : List D} {n m r : Nat} {δ : Sl} {p q : Bool} {kvs : List (Ky × D)}
@[simp] theorem p_rol : D.pers (.rol xs) = true := rfl
@[simp] theorem p_lst : D.pers (.lst xs) = false := rfl
@[simp] theorem srcD_tup : srcD h (.tup xs) = some ⟨xs, []⟩ := rfl
@[simp] theorem srcT_tup : srcT h (.tup xs) = some ⟨xs, []⟩ := rfl
@[simp] theorem srcD_lst : srcD h (.lst xs) = some ⟨xs, []⟩ := rfl
@[simp] theorem srcT_lst : srcT h (.lst xs) = some ⟨xs, []⟩ := rfl
theorem srcD_at (e : h[n]? = some (.lst xs)) : srcD h (.ref n) = some ⟨xs, [(n, .lst xs)]⟩ := by
  show srcL h (.ref n) = _
  unfold srcL
  simp [e]
theorem srcT_at (e : h[n]? = some (.lst xs)) : srcT h (.ref n) = some ⟨xs, [(n, .lst xs)]⟩ := by
  show srcL h (.ref n) = _
  unfold srcL
  simp [e]
mutual
theorem beq_refl : ∀ d : D, D.beq d d = true
  | .non => by simp [D.beq]
  | .bl b => by simp [D.beq]
  | .int b => by simp [D.beq]
  | .str b => by simp [D.beq]
  | .tup xs => by simp [D.beq, beqL_refl xs]
  | .rol xs => by simp [D.beq, beqL_refl xs]
  | .lst xs => by simp [D.beq, beqL_refl xs]
  | .dct xs => by simp [D.beq, beqK_refl xs]
  | .ref n => by simp [D.beq]
  | .exc c fs => by simp [D.beq, beqF_refl fs]
theorem beqL_refl : ∀ d : List D, D.beqL d d = true
  | [] => by simp [D.beqL]
  | d :: ds => by simp [D.beqL, beq_refl d, beqL_refl ds]
theorem beqK_refl : ∀ d : List (Ky × D), D.beqK d d = true
  | [] => by simp [D.beqK]
  | (k, d) :: ds => by simp [D.beqK, beq_refl d, beqK_refl ds]
theorem beqF_refl : ∀ d : List (Tx × D), D.beqF d d = true
  | [] => by simp [D.beqF]
  | (k, d) :: ds => by simp [D.beqF, beq_refl d, beqF_refl ds]
end
theorem cbeq_refl (c : C) : C.beq c c = true := by cases c <;> simp [C.beq, beqL_refl, beqK_refl, beqF_refl]
theorem gd_nil : gdOk h [] = true := rfl
theorem gd_one (e : h[r]? = some (.lst xs)) : gdOk h [(r, .lst xs)] = true := by simp [gdOk, e, cbeq_refl]
/-! ### statements one behind the other -/
theorem evSs_nil {g : G} : evSs g [] δ h = .nx δ h := by simp only [evSs]
theorem evSs_cons {g : G} {s : St} {ss : List St} {δ2 : Sl} {h2 : Hh} (e : evS g s δ h = .nx δ2 h2) : evSs g (s :: ss) δ h = evSs g ss δ2 h2 := by
  show (match evS g s δ h with
    | .nx δ2 h2 => evSs g ss δ2 h2
    | r => r) = _
  rw [e]
theorem evSs_ret {g : G} {s : St} {ss : List St} {h2 : Hh} (e : evS g s δ h = .ret d h2) : evSs g (s :: ss) δ h = .ret d h2 := by
  show (match evS g s δ h with
    | .nx δ2 h2 => evSs g ss δ2 h2
    | r => r) = _
  rw [e]
theorem evSs_app {g : G} : ∀ {ss ts : List St} {δ δ2 : Sl} {h h2 : Hh}, evSs g ss δ h = .nx δ2 h2 → evSs g (ss ++ ts) δ h = evSs g ts δ2 h2
  | [], ts, δ, δ2, h, h2, e => by
    have e : Rs.nx δ h = .nx δ2 h2 := e
    cases e
    rfl
  | s :: ss, ts, δ, δ2, h, h2, e => by
    have e : (match evS g s δ h with
      | .nx δ2 h2 => evSs g ss δ2 h2
      | r => r) = .nx δ2 h2 := e
    show (match evS g s δ h with
      | .nx δ2 h2 => evSs g (ss ++ ts) δ2 h2
      | r => r) = _
    cases q : evS g s δ h <;> rw [q] at e <;> first | exact evSs_app e | cases e
/-! ### loops with a guard -/
section
variable {T : Sl → Hh → R Bool} {B : Sl → Hh → Rs} {ks : List Nat} {δ1 δ2 : Sl} {h1 h2 : Hh} {t : Tg} {gd : List (Nat × C)}
theorem lpG_nil (e : gdOk h gd = true) : lpF gd t ks B [] δ h = .nx (wipeS δ ks) h := by
  show (if gdOk h gd = true then _ else _) = _
  rw [if_pos e]
theorem lpG_go (e : gdOk h gd = true) (hp : putT t a δ = some δ1) (hB : B δ1 h = .nx δ2 h2) : lpF gd t ks B (a :: xs) δ h = lpF gd t ks B xs (wipeS δ2 ks) h2 := by
  show (if gdOk h gd = true then _ else _) = _
  rw [if_pos e, hp]
  simp only
  rw [hB]
theorem lpG_cont (e : gdOk h gd = true) (hp : putT t a δ = some δ1) (hB : B δ1 h = .cont δ2 h2) : lpF gd t ks B (a :: xs) δ h = lpF gd t ks B xs (wipeS δ2 ks) h2 := by
  show (if gdOk h gd = true then _ else _) = _
  rw [if_pos e, hp]
  simp only
  rw [hB]
theorem lpG_brk (e : gdOk h gd = true) (hp : putT t a δ = some δ1) (hB : B δ1 h = .brk δ2 h2) : lpF gd t ks B (a :: xs) δ h = .nx (wipeS δ2 ks) h2 := by
  show (if gdOk h gd = true then _ else _) = _
  rw [if_pos e, hp]
  simp only
  rw [hB]
theorem lpG_ret (e : gdOk h gd = true) (hp : putT t a δ = some δ1) (hB : B δ1 h = .ret d h2) : lpF gd t ks B (a :: xs) δ h = .ret d h2 := by
  show (if gdOk h gd = true then _ else _) = _
  rw [if_pos e, hp]
  simp only
  rw [hB]
end
/-! ### comprehensions -/
theorem lpC_eq {gd : List (Nat × C)} {step : D → Hh → R (Option D)} : lpC gd step (a :: xs) h = whenR (gdOk h gd) (((step a h).calm).bind fun y h => (lpC gd step xs h).bind fun ys h => .ok (match y with
      | some y => y :: ys
      | none => ys) h) := rfl
theorem lpC_map {gd : List (Nat × C)} {step : D → Hh → R (Option D)} (e : gdOk h gd = true) (F G : α → D) : ∀ zs : List α, (∀ z ∈ zs, step (F z) h = .ok (some (G z)) h) → lpC gd step (zs.map F) h = .ok (zs.map G) h
  | [], _ => by show whenR (gdOk h gd) _ = _; rw [e]; rfl
  | z :: zs, hz => by
    rw [List.map_cons, lpC_eq, e, hz z (List.mem_cons_self ..)]
    simp only [s_wt, s_calm, s_okb]
    rw [lpC_map e F G zs fun y hy => hz y (List.mem_cons_of_mem _ hy)]
    simp
theorem lpC_filter {gd : List (Nat × C)} {step : D → Hh → R (Option D)} (e : gdOk h gd = true) (F G : α → D) (p : α → Bool) : ∀ zs : List α, (∀ z ∈ zs, step (F z) h = .ok (if p z = true then some (G z) else none) h) → lpC gd step (zs.map F) h = .ok ((zs.filter p).map G) h
  | [], _ => by show whenR (gdOk h gd) _ = _; rw [e]; rfl
  | z :: zs, hz => by
    rw [List.map_cons, lpC_eq, e, hz z (List.mem_cons_self ..)]
    simp only [s_wt, s_calm, s_okb]
    rw [lpC_filter e F G p zs fun y hy => hz y (List.mem_cons_of_mem _ hy)]
    by_cases c : p z = true <;> simp [c]
/-- each item makes a new cell -/
theorem lpC_box {step : D → Hh → R (Option D)} (F : α → D) (c : α → C) : ∀ (zs : List α) (g : Hh), (∀ z ∈ zs, ∀ g, step (F z) g = .ok (some (.ref g.length)) (g ++ [c z])) → lpC [] step (zs.map F) g = .ok ((List.range zs.length).map fun i => .ref (g.length + i)) (g ++ zs.map c)
  | [], g, _ => by
    show whenR (gdOk g []) (.ok [] g) = _
    simp [gd_nil]
  | z :: zs, g, hz => by
    rw [List.map_cons, lpC_eq, gd_nil, hz z (List.mem_cons_self ..)]
    simp only [s_wt, s_calm, s_okb]
    rw [lpC_box F c zs _ fun y hy => hz y (List.mem_cons_of_mem _ hy)]
    simp only [s_okb, List.length_append, List.length_cons, List.length_nil, List.range_succ_eq_map, List.map_cons, List.map_map, List.append_assoc]
    congr 1
    rw [show (D.ref (g.length + 0)) = .ref g.length from rfl]
    congr 1
    refine List.map_congr_left fun i _ => ?_
    simp
    omega
theorem bools_map (f : α → Bool) : ∀ zs : List α, boolsL (zs.map fun z => .bl (f z)) = some (zs.map f)
  | [] => rfl
  | z :: zs => by
    show (boolsL (zs.map fun z => D.bl (f z))).map _ = _
    rw [bools_map f zs]; rfl
theorem ints_map (f : α → Int) : ∀ zs : List α, intsL (zs.map fun z => .int (f z)) = some (zs.map f)
  | [] => rfl
  | z :: zs => by
    show (intsL (zs.map fun z => D.int (f z))).map _ = _
    rw [ints_map f zs]; rfl
theorem o_any (f : α → Bool) (zs : List α) : opApp s .any [.lst (zs.map fun z => .bl (f z))] h = .ok (.bl (zs.any f)) h := by
  show (match (some (zs.map fun z => D.bl (f z))).bind boolsL with
    | some bs => blR (bs.any id) h
    | none => .no : R D) = _
  rw [Option.bind_some, bools_map]
  simp [List.any_map]
theorem o_all (f : α → Bool) (zs : List α) : opApp s .all [.lst (zs.map fun z => .bl (f z))] h = .ok (.bl (zs.all f)) h := by
  show (match (some (zs.map fun z => D.bl (f z))).bind boolsL with
    | some bs => blR (bs.all id) h
    | none => .no : R D) = _
  rw [Option.bind_some, bools_map]
  simp [List.all_map]
theorem o_sumL (f : α → Int) (zs : List α) : opApp s .sum [.lst (zs.map fun z => .int (f z))] h = .ok (.int (zs.map f).sum) h := by
  show (match (some (zs.map fun z => D.int (f z))).bind intsL with
    | some ns => intR ns.sum h
    | none => .no : R D) = _
  rw [Option.bind_some, ints_map]
  rfl
theorem o_sortL (f : α → Int) (zs : List α) (hl : zs.length ≤ cells) : opApp s .sorted [.lst (zs.map fun z => .int (f z))] h = .ok (.lst ((sortI (zs.map f)).map .int)) h := by
  show (match intsL (zs.map fun z => D.int (f z)) with
    | some ns => whenR (decide (ns.length ≤ cells)) (.ok (.lst ((sortI ns).map .int)) h)
    | none => .no : R D) = _
  rw [ints_map]
  simp at hl ⊢
  simp [hl]
/-! ### places -/
theorem atP_nat {xs : List α} {j : Nat} (h : j < xs.length) : atP xs (j : Int) = some xs[j] := by
  unfold atP ixP
  rw [if_pos (by omega), if_pos (by omega)]
  simp [h]
theorem atP_map {f : α → D} {zs : List α} {j : Nat} {z : α} (e : zs[j]? = some z) : atP (zs.map f) (j : Int) = some (f z) := by
  have hl := (List.getElem?_eq_some_iff.mp e).1
  have e2 := (List.getElem?_eq_some_iff.mp e).2
  rw [atP_nat (by simpa using hl)]
  simp [e2]
theorem cut_drop (xs : List α) (k : Nat) (h : k ≤ xs.length) : cut xs (some (k : Int)) none = xs.drop k := by
  simp only [cut, clip]
  rw [if_neg (by omega)]
  have : min ((k : Int).toNat) xs.length = k := by omega
  simp only [this]
  rw [List.take_of_length_le (by rw [List.length_drop]; omega)]
theorem cut_take (xs : List α) (k : Nat) (h : k ≤ xs.length) : cut xs none (some (k : Int)) = xs.take k := by
  simp only [cut, clip]
  rw [if_neg (by omega)]
  have : min ((k : Int).toNat) xs.length = k := by omega
  simp only [this]
  simp
/-! ### lists in the heap -/
theorem ck_at (e : h[n]? = some (.lst xs)) : ckR 1 (.ref n) h = .ok (.ref n) h := by
  unfold ckR
  simp [e]
theorem o_appendL (e : h[n]? = some (.lst xs)) : opApp s .append [.ref n, d] h = whenR (D.pers d && decide (xs.length < cells)) (.ok .non (h.set n (.lst (xs ++ [d])))) := by
  show (match h[n]? with
    | some (.lst xs) => whenR (D.pers d && decide (xs.length < cells)) (chg h n (xs ++ [d]) .non)
    | _ => .no) = _
  rw [e]
  rfl
theorem o_extendL (e : h[n]? = some (.lst xs)) : opApp s .extend [.ref n, .lst ys] h = whenR (decide (xs.length + ys.length ≤ cells)) (.ok .non (h.set n (.lst (xs ++ ys)))) := by
  show (match h[n]?, lmD h (.lst ys) with
    | some (.lst xs), some ys => whenR (decide (xs.length + ys.length ≤ cells)) (chg h n (xs ++ ys) .non)
    | _, _ => .no : R D) = _
  rw [e]
  rfl
theorem o_addT : opApp s .add [.tup xs, .tup ys] h = whenR (decide (xs.length + ys.length ≤ cells)) (.ok (.tup (xs ++ ys)) h) := rfl
theorem o_addLL : opApp s .add [.lst xs, .lst ys] h = whenR (decide (xs.length + ys.length ≤ cells)) (.ok (.lst (xs ++ ys)) h) := rfl
theorem o_tupAt (e : h[n]? = some (.lst xs)) : opApp s .tuple [.ref n] h = .ok (.tup xs) h := by
  show (match lsD h (.ref n) with
    | some xs => .ok (.tup xs) h
    | none => .no : R D) = _
  simp [lsD, e]
@[simp] theorem o_tupL : opApp s .tuple [.lst xs] h = .ok (.tup xs) h := rfl
@[simp] theorem o_lenLf : opApp s .len [.lst xs] h = .ok (.int xs.length) h := rfl
theorem o_rngL {zs : List Int} : (zs.map D.int).length = zs.length := List.length_map ..
/-! ### dicts in the heap -/
theorem o_idxK (e : h[n]? = some (.dct kvs)) (x : Tx) : opApp s .idx [.ref n, .str x] h = (match kGet kvs (.inr x) with
  | some d => .ok d h
  | none => .no) := by
  show opIdx h (.ref n) (.str x) = _
  unfold opIdx
  simp [dcD, e, kyD] <;> rfl
theorem o_idxKi (e : h[n]? = some (.dct kvs)) (i : Int) : opApp s .idx [.ref n, .int i] h = (match kGet kvs (.inl i) with
  | some d => .ok d h
  | none => .no) := by
  show opIdx h (.ref n) (.int i) = _
  unfold opIdx
  simp [dcD, e, kyD] <;> rfl
theorem o_setK (e : h[n]? = some (.dct kvs)) (x : Tx) : opApp s .setItem [d, .ref n, .str x] h = whenR (D.pers d && decide (kvs.length < cells)) (.ok .non (h.set n (.dct (kPut kvs (.inr x) d)))) := by
  show (match h[n]?, (D.str x : D) with
    | some (.lst xs), .int i => (match ixP xs.length i with
      | some k => whenR (D.pers d) (chg h n (xs.set k d) .non)
      | none => .no)
    | some (.dct kvs), b => (match kyD b with
      | some k => whenR (D.pers d && decide (kvs.length < cells)) (.ok .non (h.set n (.dct (kPut kvs k d))))
      | none => .no)
    | _, _ => .no) = _
  rw [e]
  rfl
theorem o_setKi (e : h[n]? = some (.dct kvs)) (i : Int) : opApp s .setItem [d, .ref n, .int i] h = whenR (D.pers d && decide (kvs.length < cells)) (.ok .non (h.set n (.dct (kPut kvs (.inl i) d)))) := by
  show (match h[n]?, (D.int i : D) with
    | some (.lst xs), .int i => (match ixP xs.length i with
      | some k => whenR (D.pers d) (chg h n (xs.set k d) .non)
      | none => .no)
    | some (.dct kvs), b => (match kyD b with
      | some k => whenR (D.pers d && decide (kvs.length < cells)) (.ok .non (h.set n (.dct (kPut kvs k d))))
      | none => .no)
    | _, _ => .no) = _
  rw [e]
  rfl
theorem o_notInK (e : h[n]? = some (.dct kvs)) (i : Int) : opApp s .notIn [.int i, .ref n] h = .ok (.bl (!(kGet kvs (.inl i)).isSome)) h := by
  show opIn h true (.int i) (.ref n) = _
  unfold opIn
  simp [dcD, e, kyD]
/-- not in a list of ints -/
theorem o_notInL {zs : List Int} (e : h[n]? = some (.lst (zs.map .int))) : opApp s .notIn [.int i, .ref n] h = .ok (.bl (!decide (i ∈ zs))) h := by
  show opIn h true (.int i) (.ref n) = _
  have fl : ((zs.map D.int).all flatD) = true := by simp [flatD]
  have an : ((zs.map D.int).any fun y => D.eqv y (.int i)) = decide (i ∈ zs) := by
    rw [List.any_map]
    by_cases c : i ∈ zs
    · rw [decide_eq_true c]
      simp
      exact ⟨i, c, by simp [D.eqv]⟩
    · rw [decide_eq_false c]
      simp
      intro z hz
      simp [D.eqv]
      intro q
      subst q
      exact c hz
  unfold opIn
  simp only [dcD, e, sqD, lsD, fl, an, flatD, Bool.true_and]
  simp
/-! ### the heap behind a call -/
/-- the old cells stand as they stood -/
structure Grow (h g : Hh) : Prop where
  len : h.length ≤ g.length
  off : ∀ i, i < h.length → g[i]? = h[i]?
theorem Grow.refl : Grow h h := ⟨Nat.le_refl _, fun _ _ => rfl⟩
theorem Grow.trans {f : Hh} (x : Grow f g) (y : Grow g h) : Grow f h := ⟨Nat.le_trans x.len y.len, fun i hi => (y.off i (Nat.lt_of_lt_of_le hi x.len)).trans (x.off i hi)⟩
theorem Grow.app (cs : List C) : Grow h (h ++ cs) := ⟨by simp, fun i hi => List.getElem?_append_left hi⟩
theorem Grow.at {c : C} (x : Grow h g) (e : h[n]? = some c) : g[n]? = some c := (x.off n (List.getElem?_eq_some_iff.mp e).1).trans e
theorem Grow.set {c : C} (x : Grow h g) (hr : h.length ≤ r) : Grow h (g.set r c) := ⟨by rw [List.length_set]; exact x.len, fun i hi => by rw [List.getElem?_set_ne (by omega)]; exact x.off i hi⟩
theorem Grow.take (x : Grow h g) : g.take h.length = h := by
  refine List.ext_getElem? fun i => ?_
  by_cases hi : i < h.length
  · rw [List.getElem?_take_of_lt hi, x.off i hi]
  · rw [List.getElem?_eq_none (by rw [List.length_take]; have := x.len; omega), List.getElem?_eq_none (by omega)]
theorem trim_grow {n : Nat} : ∀ (h g : Hh), Grow h g → trimOk n h g = true
  | [], _, _ => rfl
  | c :: h, [], x => by have := x.len; simp at this
  | c :: h, c' :: g, x => by
    show ((C.beq c c' || C.low n c') && trimOk n h g) = true
    have e : c' = c := by have := x.off 0 (by simp); simpa using this
    subst e
    rw [cbeq_refl, trim_grow h g ⟨by have := x.len; simpa using this, fun i hi => by have := x.off (i + 1) (by simpa using hi); simpa using this⟩]
    rfl
def isRef : D → Bool
  | .ref _ => true
  | _ => false
theorem fin_grow (x : Grow h g) (hd : D.low h.length d = true) (hr : isRef d = false) : finish h d g = .ok d h := by
  by_cases e : g.length = h.length
  · have : g = h := by
      rw [← x.take, ← e, List.take_length]
    subst this
    exact s_fin
  · have el : lift h.length g d = d := by cases d <;> first | rfl | cases hr
    unfold finish
    rw [if_neg e, el, hd, trim_grow h g x, x.take]
    rfl
/-- a new list of flat data handed back -/
theorem fin_list (x : Grow h g) (hn : h.length ≤ n) (e : g[n]? = some (.lst xs)) (hd : D.lowL h.length xs = true) : finish h (.ref n) g = .ok (.lst xs) h := by
  have hl := (List.getElem?_eq_some_iff.mp e).1
  have el : lift h.length g (.ref n) = .lst xs := by
    unfold lift
    simp only
    rw [if_pos hn, e]
  unfold finish
  rw [if_neg (by omega), el, trim_grow h g x, x.take]
  simp [D.low, hd]
theorem low_map (f : α → D) (hf : ∀ z, D.low n (f z) = true) : ∀ zs : List α, D.lowL n (zs.map f) = true
  | [] => by simp [D.lowL]
  | z :: zs => by simp [D.lowL, hf z, low_map f hf zs]
end
/-! ### numbers -/
theorem fmod_pos {a b : Int} (hb : 0 < b) : a.fmod b = a % b := by
  rw [Int.fmod_eq_emod, if_pos (.inl (by omega))]; omega
theorem fdiv_pos {a b : Int} (hb : 0 < b) : a.fdiv b = a / b := Int.fdiv_eq_ediv_of_nonneg a (by omega)
theorem pw {k l : Nat} (h : k ≤ l) : 2 ^ k ≤ 2 ^ l := Nat.pow_le_pow_right (by omega) h
theorem small_bigD {x : Int} (h : x.natAbs < 1000000000000000000) : x.natAbs < bigD := Nat.lt_trans h (Nat.lt_of_lt_of_le (by decide : 1000000000000000000 < 2 ^ 60) (pw (by omega)))
theorem mul_small {i j : Int} (h : i.natAbs < 18446744073709551616 ∨ j.natAbs < 18446744073709551616) : mulOk i j = true := by
  unfold mulOk
  rcases h with h | h <;> simp [h]
theorem rangeN_one (lo hi : Int) : rangeN lo hi 1 = (hi - lo).toNat := by
  unfold rangeN
  rw [if_pos (by decide)]
  split
  · rw [Int.ediv_one]; omega
  · omega
/-- range(n) as naturals -/
theorem range_nat (n : Nat) : rangeL 0 (rangeN 0 (n : Int) 1) 1 = (List.range n).map fun (k : Nat) => D.int (k : Int) := by
  rw [rangeN_one]
  unfold rangeL
  have : ((n : Int) - 0).toNat = n := by omega
  rw [this]
  refine List.map_congr_left fun k _ => ?_
  simp
theorem rangeL_pers {lo c : Int} {n : Nat} : ∀ x ∈ rangeL lo n c, D.pers x = true := fun x hx => by
  obtain ⟨k, _, rfl⟩ := List.mem_map.mp hx
  rfl
theorem rng1 (i : Int) : rngS [.int i] = some ⟨rangeL 0 (rangeN 0 i 1) 1, []⟩ := rfl
theorem rng2 (i j : Int) : rngS [.int i, .int j] = some ⟨rangeL i (rangeN i j 1) 1, []⟩ := rfl
end Ivy

/-! Ivy, part U: try with clauses that may name their exception. -/
namespace Ivy
open PySem PySem.Spec PyProof.Rows L2
/-- a suite's ends behind which slot k is empty -/
def goneD (k : Nat) (D : Ends) : Ends where
  nx := fun τ G => D.nx (τ.set k none) G
  bk := fun τ G => D.bk (τ.set k none) G
  ct := fun τ G => D.ct (τ.set k none) G
  rt := D.rt
abbrev SuT := Addr → Value → Option Addr → TS
/-- what clauses wish -/
def wCl (K : PySem.W.Frag) (Wo : WX) (D : Ends) : List (Option Nat × Value × SuT) → WX
  | [] => Wo
  | (k, c, t) :: r => fun y e τ G => ∃ q, PySem.W.exmOne K y c = some q ∧ (q = false → wCl K Wo D r y e τ G) ∧ (q = true → ∀ p, G p = none → match k with
    | none => t p y e D τ G
    | some k => t p y e (goneD k D) (τ.set k (some (.ref p))) G)
/-- the reading of a suite -/
def SuOk (X : Cx) (b : List Stmt) (t : SuT) : Prop := ∀ (p : Addr) (o : Obj) (y : Value) (e : Option Addr) (more : List (Addr × Obj)), Zc y e o → (∃ us, o.data = .fields us) → PSs (X.suite p ((p, o) :: more)) b (t p y e)
inductive Cls (X : Cx) : List ExceptHandler → List (Option Nat × Value × SuT) → Prop
  | nil : Cls X [] []
  | plain {z : Str} {c : Value} {t : SuT} {b0 : Stmt} {b : List Stmt} {p1 p2 : Pos} {r : List ExceptHandler} {l : List (Option Nat × Value × SuT)} (hn : Names X z c) (hs : SuOk X (b0 :: b) t) (hr : Cls X r l) : Cls X (.ExceptHandler (some (.Name z p1)) none (b0 :: b) p2 :: r) ((none, c, t) :: l)
  | named {z n : Str} {k : Nat} {c : Value} {t : SuT} {b0 : Stmt} {b : List Stmt} {p1 p2 : Pos} {r : List ExceptHandler} {l : List (Option Nat × Value × SuT)} (hk : X.N[k]? = some n) (hl : X.env.kindOf n = some .local) (hn : Names X z c) (hs : SuOk X (b0 :: b) t) (hr : Cls X r l) :
    Cls X (.ExceptHandler (some (.Name z p1)) (some n) (b0 :: b) p2 :: r) ((some k, c, t) :: l)
section
variable {X : Cx} {pins : List (Addr × Obj)} {τ : L2.St} {G : Hp} {p : Addr} {y : Value} {e : Option Addr} {B : Heap} {s0 s1 : Shared}
/-- an exception of the body that has come to the clauses -/
structure Fl (X : Cx) (pins : List (Addr × Obj)) (τ : L2.St) (G : Hp) (p : Addr) (B : Heap) (s0 s1 : Shared) : Prop where
  base : Inv X pins τ G s0
  stays : ∀ q o, s0.heap.get? q = some o → q ∉ frs X.stack → B.get? q = some o
  grown : s0.heap.UpToSlots s1.heap
  free : G p = none
  world : s1.os = s0.os
  bare : AllBare s1.gens
theorem Fl.at (f : Fl X pins τ G p B s0 s1) {hp : Heap} (k : B.StaysIn hp) (u : s1.heap.UpToSlots hp) : Inv X pins τ G { s1 with heap := hp } :=
  Inv.landed (s' := { s1 with heap := hp }) f.base f.stays k (f.grown.trans u) f.world f.bare
theorem fl_apart (hF : X.env.frame = some X.env.locals) {hp : Heap} {o : Obj} {us : Array Value} (ff : hp.FunFrames B (X.env :: X.outer)) (q : hp.get? p = some o) (hd : o.data = .fields us) : p ≠ X.env.locals ∧ p ∉ X.fs := by
  have no : p ∉ frs (X.env :: X.outer) := fun m => by
    obtain ⟨_, o2, q2, nf⟩ := ff.mem m
    rw [q] at q2
    cases q2
    exact nf _ hd
  refine ⟨fun z => no (List.mem_filterMap.mpr ⟨X.env, List.mem_cons_self, by rw [hF, z]⟩), fun m => ?_⟩
  obtain ⟨v2, m2, q2⟩ := List.mem_filterMap.mp m
  exact no (List.mem_filterMap.mpr ⟨v2, List.mem_cons_of_mem _ m2, q2⟩)
/-- a suite's ends, slot k gone or not -/
theorem su_end {D : Ends} {f : Flow} {s : Shared} {q : Addr × Obj} (ok : X.Ok) (h : SP (X.suite p (q :: (X.pn ++ pins))) [] D f s) : SP X pins D f s := by
  cases f with
  | next => obtain ⟨a, b, c, d⟩ := h; exact ⟨a, b, c.unsuite ok, d⟩
  | brk => obtain ⟨a, b, c, d⟩ := h; exact ⟨a, b, c.unsuite ok, d⟩
  | cont => obtain ⟨a, b, c, d⟩ := h; exact ⟨a, b, c.unsuite ok, d⟩
  | ret u => obtain ⟨w, a, b, c, d⟩ := h; exact ⟨w, a, b, c.unsuite ok, d⟩
theorem gone_end {D : Ends} {f : Flow} {s : Shared} {k : Nat} {n : Str} {ps : Pos} {E : Value → Shared → Prop} (hN : X.N.Nodup) (hk : X.N[k]? = some n) (hl : X.env.kindOf n = some .local) (h : SP X pins (goneD k D) f s) :
    wpAny (model X.prog X.w) X.A (do bindName X.env n .none; unbindBehindTheSuite X.env n ps) (fun _ s2 => SP X pins D f s2) E s := by
  cases f with
  | next => obtain ⟨a, b, c, d⟩ := h; exact gone_ok c hN hk hl fun s7 j => ⟨_, _, j, d⟩
  | brk => obtain ⟨a, b, c, d⟩ := h; exact gone_ok c hN hk hl fun s7 j => ⟨_, _, j, d⟩
  | cont => obtain ⟨a, b, c, d⟩ := h; exact gone_ok c hN hk hl fun s7 j => ⟨_, _, j, d⟩
  | ret u => obtain ⟨w, a, b, c, d⟩ := h; exact gone_ok c hN hk hl fun s7 j => ⟨_, _, _, j, d⟩
/-- does a clause's class take it -/
theorem cl_test {z : Str} {c : Value} {q : Bool} {hp : Heap} {o : Obj} {us : Array Value} {np : Pos} {Q : Bool → Shared → Prop} {E E2 : Value → Shared → Prop} (hF : X.env.frame = some X.env.locals) (J : Inv X pins τ G { s1 with heap := hp }) (ff : hp.FunFrames B (X.env :: X.outer)) (ha : hp.get? p = some o) (hz : Zc y e o) (hd : o.data = .fields us) (na : G p = none) (hn : Names X z c) (hb : PySem.W.exmOne X.K y c = some q) (h : Q q { s1 with heap := hp }) :
    wpAny (model X.prog X.w) (X.A.mark (some (.ref p))) (eval (.Name z np) X.env) (fun c s => wpAny (model X.prog X.w) (X.A.mark (some (.ref p))) (excMatches (.ref p) c) Q E s) E2 { s1 with heap := hp } := by
  obtain ⟨n1, n2⟩ := fl_apart hF ff ha hd
  have S := J.suite ha hd na n1 n2
  have L1 : PySem.W.Looks (model X.prog X.w) hp (typeOf (.ref p)) y := fun A Q E s k q => wpAny_typeOf_ref (k _ _ ha) (by rw [hz.1]; exact q)
  have L3 := (PySem.W.exm_one (M := model X.prog X.w) (J.kIn) L1 hb).here (A := X.A.mark (some (.ref p))) (E := E) h
  obtain ⟨g1, g2, g3 | ⟨g3, g4, g5⟩⟩ := hn
  · exact ld_glob (X := X.suite p ((p, o) :: (X.pn ++ pins))) S g1 g3 L3 g2
  · exact ld_blt (X := X.suite p ((p, o) :: (X.pn ++ pins))) S g1 g3 g4 L3 g5 g2
/-- the way through the clauses -/
theorem cls_go {Wo : WX} {D : Ends} {hds : List ExceptHandler} {l : List (Option Nat × Value × SuT)} (tk : Takes X Wo) (hS : X.stack = X.env :: X.outer) (hF : X.env.frame = some X.env.locals) (hN : X.N.Nodup) (ok : X.Ok) (f : Fl X pins τ G p B s0 s1) {hp : Heap} (fl : HandSPX.FlyingZ B (X.env :: X.outer) p (Zc y e) hp) (u : s1.heap.UpToSlots hp) (hk : Cls X hds l) :
    wCl X.K Wo D l y e τ G → wpAny (model X.prog X.w) X.A (handleBy (.ref p) X.env hds) (SP X pins D) X.xe { s1 with heap := hp } := by
  have J := f.at fl.1 u
  obtain ⟨o, us, ha, hz, hd⟩ := fl.there
  -- a suite
  have suite : ∀ {b0 : Stmt} {b : List Stmt} {t : SuT} {D' : Ends} {τ' : L2.St} {hq : Heap} {s : Shared} (R : Flow → Shared → Prop), SuOk X (b0 :: b) t → t p y e D' τ' G → (∃ (o : Obj) (us : Array Value), Zc y e o ∧ o.data = .fields us ∧ Inv (X.suite p ((p, o) :: (X.pn ++ pins))) [] τ' G s) → (∀ f s2, SP X pins D' f s2 → R f s2) → ∀ {E : Value → Shared → Prop},
      wpAny (model X.prog X.w) (X.A.mark (some (.ref p))) (execs (b0 :: b) X.env) R E s := fun {b0 b t D' τ' hq s} R hs ht ⟨o, us, z1, z2, S⟩ hR {E} =>
    wpAny_mono ((hs p o y e (X.pn ++ pins) z1 ⟨_, z2⟩).run [] _ _ G D' S ht) (fun f2 s2 h2 => hR f2 s2 (su_end ok h2)) fun _ _ z => z.elim
  induction hk with
  | nil =>
    intro w
    refine wpAny_handleBy_nil ?_
    obtain ⟨_, _, _, o2, us2, T, _, _, q1, _, q2, q3, _⟩ := id fl
    unfold PySem.passOn
    refine wpAny_bind (wpAny_field q1 q2 q3 ?_)
    rw [if_neg (show ¬ ((Value.ref T == Value.none) = true) from by simp)]
    have out : wpAny (model X.prog X.w) X.A (setFlight (.ref p) X.env.frame) (fun _ s4 => wpAny (model X.prog X.w) X.A (throw (.ref p) : Sem Flow) (SP X pins D) X.xe s4) X.xe { s1 with heap := hp } := by
      rw [hF]
      refine HandSPX.setFlight_upZ fl fun h4 held up4 => wpAny_throw (tk _ _ ?_)
      refine ⟨p, B, s0, pins, τ, G, y, e, rfl, f.base, f.stays, (f.grown.trans u).trans up4, ?_, f.free, f.world, f.bare, w⟩
      rw [hS]
      exact .inr (.inr held)
    first
      | exact wpAny_bind (wpAny_pure (wpAny_bind out))
      | exact wpAny_bind out
  | @plain z c t b0 b p1 p2 r l hn hs hr ih =>
    rintro ⟨q, h1, h2, h3⟩
    refine wpAny_handleBy_cons (codeAny_handlers_test ?_) (by intro z; cases z)
    refine cl_test hF J fl.2.2.1 ha hz hd f.free hn h1 ?_
    cases q with
    | false => exact ih (h2 rfl)
    | true =>
      refine codeAny_handlers_suite (HandSPX.lands_againZ fl fun h4 fl4 up4 => ?_)
      obtain ⟨o4, us4, a4, z4, d4⟩ := fl4.there
      obtain ⟨n1, n2⟩ := fl_apart hF fl4.2.2.1 a4 d4
      exact suite (hq := h4) _ hs (h3 rfl p f.free) ⟨o4, us4, z4, d4, (f.at fl4.1 (u.trans up4)).suite a4 d4 f.free n1 n2⟩ fun _ _ r => r
  | @named z n k c t b0 b p1 p2 r l hk hl hn hs hr ih =>
    rintro ⟨q, h1, h2, h3⟩
    refine wpAny_handleBy_cons (codeAny_handlers_test ?_) (by intro z; cases z)
    refine cl_test hF J fl.2.2.1 ha hz hd f.free hn h1 ?_
    cases q with
    | false => exact ih (h2 rfl)
    | true =>
      refine codeAny_handlers_suite_as (HandSPX.lands_againZ fl fun h4 fl4 up4 => ?_)
      obtain ⟨o4, us4, a4, z4, d4⟩ := fl4.there
      obtain ⟨n1, n2⟩ := fl_apart hF fl4.2.2.1 a4 d4
      refine store_ok (X := X.suite p ((p, o4) :: (X.pn ++ pins))) (v := .ref p) ((f.at fl4.1 (u.trans up4)).suite a4 d4 f.free n1 n2) hN hk (.inl hl) rfl (fun s5 S5 => ?_) (.inr hl)
      exact suite (hq := h4) _ hs (h3 rfl p f.free) ⟨o4, us4, z4, d4, S5⟩ fun _ _ r => gone_end hN hk hl r
/-- try: .. except X as n: .. -/
theorem ps_cls {Wo : WX} {body : List Stmt} {h0 : ExceptHandler} {hds : List ExceptHandler} {l : List (Option Nat × Value × SuT)} {tb : WX → TS} {pos : Pos} (tk : Takes X Wo) (hS : X.stack = X.env :: X.outer) (hF : X.env.frame = some X.env.locals) (hN : X.N.Nodup)
    (hb : ∀ (W : WX) (pn : List (Addr × Obj)) (xe : Value → Shared → Prop), Takes (X.tr pn xe) W → PassesOwn (model X.prog X.w) X.A X.env xe → PSs (X.tr pn xe) body (tb W)) (hh : Cls X (h0 :: hds) l) :
    PS X (.Try body (h0 :: hds) [] [] pos) fun D τ G => tb (wCl X.K Wo D l) D τ G := by
  refine ⟨fun pins s τ G D I h => wpAny_Try_except ?_⟩
  have ok := I.ok
  have hA : X.A.frames = some (X.env :: X.outer) := by rw [ok.frames, hS]
  let xe : Value → Shared → Prop := fun x s2 => wpAny (model X.prog X.w) X.A (noteFrame x X.env) (fun _ s3 => wpAny (model X.prog X.w) X.A (setFlight x none) (fun _ s4 => wpAny (model X.prog X.w) X.A (handleBy x X.env (h0 :: hds)) (SP X pins D) X.xe s4) X.xe s3) X.xe s2
  have tk2 : Takes (X.tr (X.pn ++ pins) xe) (wCl X.K Wo D l) := by
    rintro x s2 ⟨p, B, s0, more, τ2, G2, y, e, rfl, J, nb, up, sky, na, os, ag, w⟩
    have sky2 : Sky B (X.env :: X.outer) p (Zc y e) X.env.locals s2.heap := by rw [← hS]; exact sky
    show wpAny (model X.prog X.w) X.A (noteFrame (.ref p) X.env) _ _ _
    exact Sky.land Zc.steady hA hF sky2 fun h3 fl3 up3 => cls_go tk hS hF hN ok ⟨J.ofTry ok, nb, up, na, os, ag⟩ fl3 up3 hh w
  refine wpAny_mono ((hb _ _ xe tk2 PassesOwn.looking).run [] s τ G D (I.toTry _) h) (fun f2 s2 h2 => ?_) fun _ _ z => z
  cases f2 with
  | next => obtain ⟨a, b, c, d⟩ := h2; exact wpAny_execs_nil ⟨a, b, c.ofTry ok, d⟩
  | brk => obtain ⟨a, b, c, d⟩ := h2; exact ⟨a, b, c.ofTry ok, d⟩
  | cont => obtain ⟨a, b, c, d⟩ := h2; exact ⟨a, b, c.ofTry ok, d⟩
  | ret z => obtain ⟨w, a, b, c, d⟩ := h2; exact ⟨w, a, b, c.ofTry ok, d⟩
end
end Ivy

/-! Ivy, part V: raise, try with clauses, what a suite does with its exception. -/
namespace Ivy
open PySem PySem.Spec PyProof.Rows L2
/-! ### the same data, another exception at hand -/
abbrev Ev.x (v : Ev) (o : Option (Addr × Nat × Option Addr)) : Ev := { v with xo := o }
section
variable {v : Ev} {o o2 : Option (Addr × Nat × Option Addr)} {ι : List Addr} {H H0 : Hp} {h : Hh}
mutual
theorem RP.ev : ∀ {d : D} {x : V}, RP (v.x o) ι H d x → RP (v.x o2) ι H d x
  | _, _, .non => .non
  | _, _, .bl b => .bl b
  | _, _, .int i => .int i
  | _, _, .str x => .str x
  | _, _, .tup h r => .tup h (RPs.ev r)
  | _, _, .rol h r => .rol h (RPs.ev r)
  | _, _, .ref h => .ref h
theorem RPs.ev : ∀ {ds : List D} {xs : List V}, RPs (v.x o) ι H ds xs → RPs (v.x o2) ι H ds xs
  | _, _, .nil => .nil
  | _, _, .cons h r => .cons (RP.ev h) (RPs.ev r)
end
theorem HR.ev (r : HR (v.x o) ι H h) : HR (v.x o2) ι H h := ⟨r.len, r.nd, fun n a c h1 h2 => by
  have q := r.cell n a c h1 h2
  cases c with
  | lst ds => obtain ⟨vs, z1, z2⟩ := q; exact ⟨vs, z1, z2.ev⟩
  | dct ds => obtain ⟨vs, z1, z2⟩ := q; exact ⟨vs, z1, z2.1, z2.2.ev⟩
  | ins c' ds => obtain ⟨dx, vs, z0, z1, z2⟩ := q; exact ⟨dx, vs, z0, z1, z2.1, z2.2.ev⟩⟩
theorem RX.ev {d : D} {x : V} (n : isX d = false) (r : RX (v.x o) ι H d x) : RX (v.x o2) ι H d x := by
  cases d with
  | exc c fs => cases n
  | _ => exact RP.ev r
theorem RV.ev {d : D} {x : V} (n : isX d = false) (r : RV (v.x o) ι H d x) : RV (v.x o2) ι H d x := by
  cases d with
  | exc c fs => cases n
  | lst ds => obtain ⟨a, vs, h1, h2, h3, h4⟩ := r; exact ⟨a, vs, h1, h2, h3, h4.ev⟩
  | dct ds => obtain ⟨a, vs, h1, h2, h3, h4⟩ := r; exact ⟨a, vs, h1, h2, h3, h4.1, h4.2.ev⟩
  | _ => exact RP.ev r
theorem noX_at {δ : Sl} {i : Nat} {d : D} (n : noX δ = true) (e : δ[i]? = some (some d)) : isX d = false := by
  have := List.all_eq_true.mp n _ (List.mem_of_getElem? e)
  cases d <;> first | rfl | cases this
theorem SR.ev {δ : Sl} {σ : L2.St} (n : noX δ = true) (r : SR (v.x o) ι H δ σ) : SR (v.x o2) ι H δ σ := ⟨r.1, fun i d hd => by
  obtain ⟨x, h1, h2⟩ := r.2 i d hd
  exact ⟨x, h1, RX.ev (noX_at n hd) h2⟩⟩
end

/-! ### the clauses -/
def suT (v : Ev) (g : G) (b : List St) : SuT := fun p y e D τ G => ∃ c, v.xs c = true ∧ y = .ref (v.ca c) ∧ tSs (v.x (some (p, c, e))) g Wn b D τ G
def hdL (v : Ev) (g : G) : Hd → Option Nat × Value × SuT
  | .mk c i b => (i, .ref (v.ca c), suT v g b)
/-- what the clauses' classes are -/
def HdOk (K : PySem.W.Frag) (v : Ev) (g : G) (hs : List Hd) : Prop := ∀ c i b, Hd.mk c i b ∈ hs → ∀ k, v.xs k = true → PySem.W.exmOne K (.ref (v.ca k)) (.ref (v.ca c)) = some (g.sub k c)
theorem set_off {v : Ev} {ι : List Addr} {H : Hp} {δ : Sl} {σ : L2.St} (r : SR v ι H δ σ) (i : Nat) : SR v ι H (δ.set i none) (σ.set i none) := by
  refine ⟨by rw [List.length_set, List.length_set]; exact r.1, fun j d hd => ?_⟩
  by_cases hj : i = j
  · subst hj
    by_cases hi : i < δ.length
    · rw [List.getElem?_set_self hi] at hd; cases hd
    · rw [List.getElem?_eq_none (by rw [List.length_set]; omega)] at hd; cases hd
  · rw [List.getElem?_set_ne hj] at hd ⊢
    exact r.2 j d hd
theorem SR.setX {v : Ev} {ι : List Addr} {H : Hp} {δ : Sl} {σ : L2.St} {i : Nat} {d : D} {x : V} (r : SR v ι H δ σ) (q : RX v ι H d x) : SR v ι H (δ.set i (some d)) (σ.set i (some x)) := by
  refine ⟨by rw [List.length_set, List.length_set]; exact r.1, fun j e he => ?_⟩
  by_cases hj : i = j
  · subst hj
    by_cases hi : i < δ.length
    · rw [List.getElem?_set_self hi] at he
      cases he
      exact ⟨x, List.getElem?_set_self (by rw [← r.1]; exact hi), q⟩
    · rw [List.getElem?_eq_none (by rw [List.length_set]; omega)] at he; cases he
  · rw [List.getElem?_set_ne hj] at he ⊢
    exact r.2 j e he
section
variable {X : Cx} {v : Ev} {g : G} {W : WX} {pos p p1 p2 : Pos} {sts : List Stmt} {ss : List St}
def endI (i : Option Nat) (En : Ends) : Ends := match i with
  | none => En
  | some k => goneD k En
/-- a suite's reading, its ends as the try's -/
theorem su_go {En : Ends} {ι : List Addr} {H : Hp} {o : Option (Addr × Nat × Option Addr)} {r : Rs} {i : Option Nat} (hv : v.xo = none) (go : GoS v W ι H (offS i r) En) :
    GoS (v.x o) Wn ι H r (endI i En) := by
  have ev0 : v = v.x none := by cases v; cases hv; rfl
  rw [ev0] at go
  cases r with
  | nx δ h =>
    have go : GoS (v.x none) W ι H (if noX (offI i δ) = true then .nx (offI i δ) h else .no) En := go
    split at go
    · rename_i n
      intro ι' H' σ' ex hr hs
      cases i with
      | none => exact go ι' H' σ' ex hr.ev (SR.ev n hs)
      | some k => exact go ι' H' _ ex hr.ev (SR.ev n (set_off hs k))
    · exact go.elim
  | brk δ h =>
    have go : GoS (v.x none) W ι H (if noX (offI i δ) = true then .brk (offI i δ) h else .no) En := go
    split at go
    · rename_i n
      intro ι' H' σ' ex hr hs
      cases i with
      | none => exact go ι' H' σ' ex hr.ev (SR.ev n hs)
      | some k => exact go ι' H' _ ex hr.ev (SR.ev n (set_off hs k))
    · exact go.elim
  | cont δ h =>
    have go : GoS (v.x none) W ι H (if noX (offI i δ) = true then .cont (offI i δ) h else .no) En := go
    split at go
    · rename_i n
      intro ι' H' σ' ex hr hs
      cases i with
      | none => exact go ι' H' σ' ex hr.ev (SR.ev n hs)
      | some k => exact go ι' H' _ ex hr.ev (SR.ev n (set_off hs k))
    · exact go.elim
  | ret d h =>
    have go : GoS (v.x none) W ι H (if isX d = true then .no else .ret d h) En := go
    split at go
    · exact go.elim
    · rename_i n
      intro ι' H' x ex hr rx
      have e : (endI i En).rt = En.rt := by cases i <;> rfl
      rw [e]
      exact go ι' H' x ex hr.ev ⟨RV.ev (by simpa using n) rx.1, rx.2⟩
  | err c fs δ h => exact go.elim
  | no => exact go.elim
theorem w_cl {K : PySem.W.Frag} {En : Ends} {ι : List Addr} {H : Hp} {h : Hh} {δ : Sl} {σ : L2.St} {c : Nat} {fs : List (Tx × D)} {y : Value} {e : Option Addr} (hv : v.xo = none) (hK : K = v.K) (hr : HR v ι H h) (hs : SR v ι H δ σ) (xr : XR v ι H c fs y e) :
    ∀ hs : List Hd, HdOk K v g hs → GoS v W ι H (evH g hs c fs δ h) En → wCl K W En (hs.map (hdL v g)) y e σ H
  | [], _, go => by
    have e1 : evH g [] c fs δ h = .err c fs δ h := by simp only [evH]
    rw [e1] at go
    exact go ι H σ y e .refl hr hs xr
  | .mk k i b :: r, ok, go => by
    have e1 : evH g (.mk k i b :: r) c fs δ h = if g.sub c k = true then (if noX δ = true then offS i (evSs g b (match (generalizing := false) i with
      | some i => δ.set i (some (.exc c fs))
      | none => δ) h) else .no) else evH g r c fs δ h := by simp only [evH] <;> rfl
    rw [e1] at go
    refine ⟨g.sub c k, ?_, fun q => ?_, fun q p hp => ?_⟩
    · rw [xr.1.2]
      exact ok k i b (List.mem_cons_self ..) c xr.1.1
    · rw [q, if_neg Bool.false_ne_true] at go
      exact w_cl hv hK hr hs xr r (fun c i b m => ok c i b (List.mem_cons_of_mem _ m)) go
    · rw [q, if_pos rfl] at go
      split at go
      · rename_i n
        have ev0 : v = v.x none := by cases v; cases hv; rfl
        have hr2 : HR (v.x (some (p, c, e))) ι H h := by rw [ev0] at hr; exact hr.ev
        have hs2 : SR (v.x (some (p, c, e))) ι H δ σ := by rw [ev0] at hs; exact SR.ev n hs
        have rx : RX (v.x (some (p, c, e))) ι H (.exc c fs) (.ref p) := by
          have x2 := xr.2
          cases e with
          | none => exact ⟨p, rfl, .inl ⟨rfl, x2⟩⟩
          | some d =>
            obtain ⟨fvs, vs, z1, z2, z3⟩ := x2
            refine ⟨p, rfl, .inr ⟨d, fvs, vs, rfl, z1, z2, ?_⟩⟩
            rw [ev0] at z3
            exact z3.ev
        have go2 := su_go (o := some (p, c, e)) hv go
        cases i with
        | none => exact ⟨c, xr.1.1, xr.1.2, ι, δ, h, hr2, hs2, go2⟩
        | some j => exact ⟨c, xr.1.1, xr.1.2, ι, _, h, hr2, hs2.setX rx, go2⟩
      · exact go.elim
/-- try: .. with clauses -/
theorem s_try {h0 : ExceptHandler} {hds : List ExceptHandler} {hs : List Hd} (hc : Cc X v W) (hv : v.xo = none) (ok : HdOk X.K v g hs)
    (hb : ∀ (W : WX) (pn : List (Addr × Obj)) (xe : Value → Shared → Prop), Cc (X.tr pn xe) v W → PSs (X.tr pn xe) sts (tSs v g W ss)) (hh : Cls X (h0 :: hds) (hs.map (hdL v g)))
    (hS : X.stack = X.env :: X.outer := by rfl) (hF : X.env.frame = some X.env.locals := by rfl) : PS X (.Try sts (h0 :: hds) [] [] pos) (tS v g W (.try ss hs)) :=
  PS.imp (ps_cls (tb := fun W => tSs v g W ss) hc.tk hS hF hc.nd (fun W pn xe tk po => hb W pn xe ⟨⟨hc.hK, tk, hc.nd, hc.hu⟩, hc.calm, po⟩) hh) fun D σ H ⟨ι, δ, h, hr, hs', go⟩ => by
    have e : evS g (.try ss hs) δ h = (match evSs g ss δ h with
      | .err c fs δ2 h2 => evH g hs c fs δ2 h2
      | r => r) := by simp only [evS] <;> rfl
    rw [e] at go
    refine ⟨ι, δ, h, hr, hs', ?_⟩
    cases q : evSs g ss δ h with
    | nx δ h => rw [q] at go; exact go
    | brk δ h => rw [q] at go; exact go
    | cont δ h => rw [q] at go; exact go
    | ret d h => rw [q] at go; exact go
    | no => rw [q] at go; exact go
    | err c fs δ2 h2 =>
      rw [q] at go
      exact fun ι' H' σ' cls dd ex hr2 hs2 xr => w_cl hv hc.hK hr2 hs2 xr hs ok (GoS.shift ex hr2 go)
/-- within a suite -/
structure Cs (X : Cx) (v : Ev) : Prop extends Cb X v Wn where
  su : ∃ X0 a oe pn c d, X = Cx.suite X0 a ((a, oe) :: pn) ∧ v.xo = some (a, c, d) ∧ v.xs c = true ∧ Zc (.ref (v.ca c)) d oe ∧ ∃ vs, oe.data = .fields vs
theorem Cc.su (hc : Cc X v W) {p : Addr} {o : Obj} {c : Nat} {e : Option Addr} {more : List (Addr × Obj)} (hx : v.xs c = true) (z : Zc (.ref (v.ca c)) e o) (f : ∃ us, o.data = .fields us) : Cs (X.suite p ((p, o) :: more)) (v.x (some (p, c, e))) :=
  ⟨⟨hc.hK, fun u s' ⟨a, B, sI, pins, σ, H, cls, d, e, I, nb, up, sky, na, os, ag, w⟩ => w.elim, hc.nd, hc.hu⟩, X, p, o, more, c, e, rfl, rfl, hx, z, f⟩
theorem h_nil : Cls X [] (([] : List Hd).map (hdL v g)) := .nil
theorem su_ok {b : List Stmt} {bs : List St} (hc : Cc X v W) (hs : ∀ (p : Addr) (o : Obj) (c : Nat) (e : Option Addr) (more : List (Addr × Obj)), Cs (X.suite p ((p, o) :: more)) (v.x (some (p, c, e))) → PSs (X.suite p ((p, o) :: more)) b (tSs (v.x (some (p, c, e))) g Wn bs)) : SuOk X b (suT v g bs) :=
  fun p o y e more z f => ⟨fun pins s σ H D I ⟨c, h1, h2, t⟩ => by
    subst h2
    exact (hs p o c e more (hc.su h1 z f)).run pins s σ H D I t⟩
theorem h_plain {z : Str} {c : Nat} {b0 : Stmt} {b : List Stmt} {r : List ExceptHandler} {bs : List St} {l : List Hd} (hc : Cc X v W) (hg : Gl X z) (hm : X.mg z = some (.ref (v.ca c))) (hs : ∀ (p : Addr) (o : Obj) (c : Nat) (e : Option Addr) (more : List (Addr × Obj)), Cs (X.suite p ((p, o) :: more)) (v.x (some (p, c, e))) → PSs (X.suite p ((p, o) :: more)) (b0 :: b) (tSs (v.x (some (p, c, e))) g Wn bs))
    (hr : Cls X r (l.map (hdL v g))) (hd : (z == ("__debug__" : Str)) = false := by decide) : Cls X (.ExceptHandler (some (.Name z p1)) none (b0 :: b) p2 :: r) ((Hd.mk c none bs :: l).map (hdL v g)) :=
  .plain ⟨hg, hd, .inl hm⟩ (su_ok hc hs) hr
theorem h_named {z n : Str} {k c : Nat} {b0 : Stmt} {b : List Stmt} {r : List ExceptHandler} {bs : List St} {l : List Hd} (hc : Cc X v W) (hk : X.N[k]? = some n) (hl : X.env.kindOf n = some .local) (hg : Gl X z) (hm : X.mg z = some (.ref (v.ca c))) (hs : ∀ (p : Addr) (o : Obj) (c : Nat) (e : Option Addr) (more : List (Addr × Obj)), Cs (X.suite p ((p, o) :: more)) (v.x (some (p, c, e))) → PSs (X.suite p ((p, o) :: more)) (b0 :: b) (tSs (v.x (some (p, c, e))) g Wn bs))
    (hr : Cls X r (l.map (hdL v g))) (hd : (z == ("__debug__" : Str)) = false := by decide) : Cls X (.ExceptHandler (some (.Name z p1)) (some n) (b0 :: b) p2 :: r) ((Hd.mk c (some k) bs :: l).map (hdL v g)) :=
  .named hk hl ⟨hg, hd, .inl hm⟩ (su_ok hc hs) hr
end

/-! ### isinstance, fields of the exception at hand -/
/-- what is asked of the exceptions' classes -/
def XcF (K : PySem.W.Frag) (v : Ev) : Prop := ∀ c, v.xs c = true → ExcC K (v.ca c)
def XtF (K : PySem.W.Frag) (v : Ev) (sub : Nat → Nat → Bool) (t : Ty) : Prop := ∀ c, v.xs c = true → PySem.W.kitOne K (.ref (v.ca c)) (tyU v t) = some (tyIs sub (.inr c) t)
def XfF (K : PySem.W.Frag) (v : Ev) (f : Tx) : Prop := ∀ c, v.xs c = true → PySem.W.findIn K (.ref (v.ca c)) (tx f) = some none
/-- isinstance(e, c), e the exception that the suite holds, with a dict or without -/
def rIsD (K : PySem.W.Frag) (D a : Addr) (d : Option Addr) : List V → Hp → VK → Prop := fun xs H Q => ∃ (c : V) (cv : Value) (b : Bool), xs = [.ref a, c] ∧ (∀ u, RelV c u → u = cv) ∧ PySem.W.kitOne K (.ref D) cv = some b ∧ (∀ dd, d = some dd → ∃ fs, H dd = some (.xd fs)) ∧ Q (.bl b) H
theorem call_isD {X : Cx} {a D : Addr} {oe : Obj} {d : Option Addr} {pn : List (Addr × Obj)} (C : ExcC X.K D) (hz : Zc (.ref D) d oe) (hf : ∃ vs, oe.data = .fields vs) : CallR (X.suite a ((a, oe) :: pn)) (.builtin "isinstance") (rIsD X.K D a d) := by
  intro pins s σ H xs us Q I r h
  obtain ⟨c, cv, b, rfl, hcv, e, hdd, q⟩ := h
  cases r with
  | cons rx rr =>
    cases rr with
    | cons rt rr =>
      cases rr
      cases rx
      have ec := hcv _ rt
      subst ec
      obtain ⟨hget, _⟩ := I.pin (a, oe) (List.mem_append.mpr (.inl List.mem_cons_self))
      obtain ⟨vs, hv⟩ := hf
      have hcl : (PySem.W.clsIn X.K D).isSome = true := by
        obtain ⟨cd, hc, _⟩ := PySem.W.any_some C.hd
        rw [hc]; rfl
      have J : ∃ od, PySem.W.InstAt s.heap a oe D od := by
        obtain ⟨oc, od, oda, osl⟩ := oe
        obtain ⟨h1, h2⟩ := hz
        dsimp only at h1 h2 hv
        subst h1 h2 hv
        cases od with
        | none => exact ⟨none, hget, rfl, rfl, trivial⟩
        | some dd =>
          obtain ⟨fs, hfs⟩ := hdd dd rfl
          have hx : ObjOk X.prog X.w H s.heap dd (.xd fs) := I.hok dd _ hfs
          obtain ⟨mA, hns, hr⟩ := hx
          obtain ⟨od, ho, hl⟩ := lookIn_ns hns
          exact ⟨some od, hget, rfl, rfl, ho⟩
      obtain ⟨od, J⟩ := J
      exact PySem.W.kia_one (PySem.W.kitx_exc (od := od) hcl C.hg C.hk C.hs C.ha C.hn C.ht C.hm) I.kIn J e (fun z => nomatch z) fun tk => ⟨.bl b, H, I.kept (t' := tk) fun _ _ z => z, rfl, q⟩
section
variable {X : Cx} {v : Ev} {g : G} {W : WX} {a b : Expr} {e1 : Ex} {pos p p2 : Pos} {x : Str}
theorem xo_at {ι : List Addr} {H : Hp} {c k : Nat} {fs : List (Tx × D)} {x : V} {a : Addr} {d : Option Addr} (e : v.xo = some (a, c, d)) (r : XO v ι H k fs x) : x = .ref a ∧ k = c ∧ (∀ dd, d = some dd → ∃ fs, H dd = some (.xd fs)) := by
  obtain ⟨b, rfl, ⟨q, _⟩ | ⟨d2, fvs, vs, q, q2, _⟩⟩ := r
  · rw [e] at q; cases q; exact ⟨rfl, rfl, fun _ z => nomatch z⟩
  · rw [e] at q; cases q; exact ⟨rfl, rfl, fun _ z => by cases z; exact ⟨_, q2⟩⟩
theorem e_isX {t : Ty} (hs : Cs X v) (xc : XcF X.K v) (xt : XtF X.K v g.sub t) (hg : Gl X x) (hm : X.mg x = none) (hv : bootBuiltins x = some (.builtin "isinstance")) (ha : PE X a (tE v g Wn e1)) (hT : PE X b (tC (tyV' v t)))
    (hst : starEach [a, b] X.env = (false, eval a X.env) :: starEach [b] X.env := by rfl) (hs2 : starEach [b] X.env = (false, eval b X.env) :: starEach [] X.env := by rfl) (hpl : (backTo pos (starEach [b] X.env)).any (·.1) = false := by rfl)
    (hn : x ≠ "__name__" := by decide) (hdb : (x == ("__debug__" : Str)) = false := by decide) : PE X (.Call (.Name x p) [a, b] [] pos) (tE v g Wn (.op (.isX t) [e1])) := by
  obtain ⟨hb, X0, q, oe, pn, c, d, rfl, ho, hx, hz, hf⟩ := hs
  refine PE.imp (pe_callB (call_isD (xc c hx) hz hf) hg hm hv (pa_cons ha (pa_cons hT pa_nil hs2) hst) hn hdb hst hpl) fun σ H Q ⟨ι, δ, h, hr, hs, go⟩ => ?_
  rw [evE_op1] at go
  refine ⟨ι, δ, h, hr, hs, Go.bind (SS := rrE v) go fun dt h1 ι1 H1 x r1 ex1 hr1 rx1 go1 => ?_⟩
  cases dt with
  | exc k fs =>
    obtain ⟨rfl, rfl, hdd⟩ := xo_at ho (show XO v ι1 H1 k fs x from rx1.1)
    refine ⟨_, _, _, rfl, fun u r => (ty_cls t).eq r, xt k hx, hdd, go_bl (show Go (rrE v) v ι1 H1 (blR (tyIs g.sub (.inr k) t) h1) Q _ from go1) hr1⟩
  | _ => exact go1.elim
theorem fget_at {f : Tx} {x : D} : ∀ {fs : List (Tx × D)}, fGet fs f = some x → ∃ k : Nat, fs[k]? = some (f, x)
  | [], e => by cases e
  | (y, d) :: r, e => by
    unfold fGet at e
    split at e
    · rename_i q
      cases e; subst q
      exact ⟨0, rfl⟩
    · obtain ⟨k, hk⟩ := fget_at e
      exact ⟨k + 1, hk⟩
theorem e_getX {f : Tx} {n : Str} (hs : Cs X v) (xc : XcF X.K v) (xf : XfF X.K v f) (ha : PE X a (tE v g Wn e1)) (hbs : attributeBase a n X.env (eval a X.env) = eval a X.env := by rfl) (hn : n = tx f := by rfl) :
    PE X (.Attribute a n pos) (tE v g Wn (.op (.getX f) [e1])) := by
  subst hn
  obtain ⟨hb, X0, q, oe, pn, c, d, rfl, ho, hx, hz, hf⟩ := hs
  have C := xc c hx
  refine PE.imp (pe_xf (X := X0) ⟨C.hg, C.hk, C.hs, C.hd⟩ (xf c hx) hz hf ha hbs) fun σ H Q ⟨ι, δ, h, hr, hs, go⟩ => ?_
  rw [evE_op1] at go
  refine ⟨ι, δ, h, hr, hs, Go.bind (SS := rrE v) go fun dt h1 ι1 H1 x r1 ex1 hr1 rx1 go1 => ?_⟩
  cases dt with
  | exc k fs =>
    have go1 : Go (rrE v) v ι1 H1 (match fGet fs f with
      | some d => .ok d h1
      | none => .no) Q _ := go1
    split at go1
    · rename_i dd qf
      obtain ⟨b, rfl, ⟨z, zf⟩ | ⟨d2, fvs, vs, z, z2, z3, z4⟩⟩ := (show XO v ι1 H1 k fs x from rx1.1)
      · subst zf; cases qf
      · rw [ho] at z; cases z
        obtain ⟨i, hi⟩ := fget_at qf
        obtain ⟨y, hy, hl⟩ := z3 i f dd hi qf
        refine ⟨rfl, rfl, d2, fvs, y, rfl, z2, hl, ?_⟩
        obtain ⟨y2, hy2, ry⟩ := z4.get (i := i) (d := dd) (by rw [List.getElem?_map, hi]; rfl)
        rw [hy] at hy2; cases hy2
        have go1 : Go (rrE v) v ι1 H1 (match fGet fs f with
          | some d => .ok d h1
          | none => .no) Q (fun c d H' => Wn c d σ H') := go1
        rw [qf] at go1
        refine Go.here (show Go (rrE v) v ι1 H1 (.ok dd h1) Q _ from go1) hr1 ?_
        cases dd <;> first | exact ⟨ry, trivial⟩ | cases ry
    · exact go1.elim
  | _ => exact go1.elim
end

/-! ### raise -/
/-- what an exception's own __init__ does: the fields are set, one behind the other -/
def sInit (K : PySem.W.Frag) (fs : List Str) : Sp := fun vs H Q E => ∃ (a C : Addr) (ws : List V), vs = .ref a :: ws ∧ ws.length = fs.length ∧ OexC K C ∧ (∀ f ∈ fs, PySem.W.findIn K (.ref C) f = some none) ∧ H a = some (exo a C none) ∧
  ∀ (dx : Addr) (H' : Hp), H dx = none → dx ≠ a → H' a = some (exo a C (some dx)) → H' dx = some (exd dx (fs.zip ws).reverse) → (∀ p, p ≠ a → p ≠ dx → H' p = H p) → Q .non H'
def tIni (K : PySem.W.Frag) : List Str → Nat → TS
  | [], _ => tNext
  | f :: r, i => tSeq (tOst K f (tVar 0) (tVar i)) (tIni K r (i + 1))
theorem ini_nil {X : Cx} {K : PySem.W.Frag} {i : Nat} : PSs X [] (tIni K [] i) := pss_nil
theorem ini_cons {X : Cx} {f : Str} {r : List Str} {i : Nat} {s x : Str} {p1 p2 p3 p4 : Pos} {rest : List Stmt} (h0 : X.N[0]? = some s) (v0 : Vis X.env.scope s) (hx : X.N[i]? = some x) (vx : Vis X.env.scope x) (hr : PSs X rest (tIni X.K r (i + 1)))
    (d0 : (s == ("__debug__" : Str)) = false := by decide) (c0 : (s == ("__classdict__" : Str)) = false := by decide) (d1 : (x == ("__debug__" : Str)) = false := by decide) (c1 : (x == ("__classdict__" : Str)) = false := by decide)
    (hs : swapsWith (.Name x p3) (some (.Attribute (.Name s p1) f p2)) p4.line X.env = pure false := by rfl) : PSs X (.Assign [.Attribute (.Name s p1) f p2] (.Name x p3) p4 :: rest) (tIni X.K (f :: r) i) :=
  pss_cons (ps_ost (pe_var h0 v0 d0 c0) (pe_var hx vx d1 c1) hs) hr
theorem ini_rest {K : PySem.W.Frag} {a C dx : Addr} {σ : L2.St} {D : Ends} (T : OexC K C) (h0 : σ[0]? = some (some (.ref a))) :
    ∀ (r : List Str) (ws : List V) (i : Nat) (acc : List (Str × V)) (H : Hp), (∀ f ∈ r, PySem.W.findIn K (.ref C) f = some none) → ws.length = r.length → (∀ j y, ws[j]? = some y → σ[i + j]? = some (some y)) → acc.length + r.length ≤ 900 → H a = some (exo a C (some dx)) → H dx = some (exd dx acc) → dx ≠ a →
      (∀ H', H' a = some (exo a C (some dx)) → H' dx = some (exd dx ((r.zip ws).reverse ++ acc)) → (∀ p, p ≠ a → p ≠ dx → H' p = H p) → D.nx σ H') → tIni K r i D σ H
  | [], ws, i, acc, H, _, _, _, _, ha, hd, _, q => q H ha (by simpa using hd) fun _ _ _ => rfl
  | f :: r, [], i, acc, H, _, hl, _, _, _, _, _, _ => by cases hl
  | f :: r, y :: ws, i, acc, H, hno, hl, hw, hn, ha, hd, hne, q => by
    have hn : acc.length + (r.length + 1) ≤ 900 := hn
    refine ⟨y, by simpa using hw 0 y rfl, .ref a, h0, a, C, rfl, T, hno f (List.mem_cons_self ..), .inr ⟨dx, acc, ha, hd, by omega, ?_⟩⟩
    refine ini_rest T h0 r ws (i + 1) ((f, y) :: acc) _ (fun g hg => hno g (List.mem_cons_of_mem _ hg)) (by simpa using hl) (fun j z hz => by
      have := hw (j + 1) z (by simpa using hz)
      rw [show i + 1 + j = i + (j + 1) by omega]; exact this) (by simp only [List.length_cons]; omega) (by rw [upd_ne (Ne.symm hne)]; exact ha) upd_same hne fun H' h1 h2 h3 => ?_
    refine q H' h1 (by rw [h2]; simp) fun p p1 p2 => ?_
    rw [h3 p p1 p2, upd_ne p2]
theorem ini_ok {K : PySem.W.Frag} {N : List Str} {fs : List Str} {vs : List V} {H : Hp} {Q : VK} {E : XK} (hf : fs ≠ []) (hn : fs.length ≤ 800) (hN : N.length = fs.length + 1) (h : sInit K fs vs H Q E) :
    tIni K fs 1 { nx := fun _ H' => Q .non H', rt := Q } (start N vs) H := by
  obtain ⟨a, C, ws, rfl, hl, T, hno, ha, q⟩ := h
  have at0 : (start N (.ref a :: ws))[0]? = some (some (.ref a)) := by unfold L2.start; simp
  have atj : ∀ j y, ws[j]? = some y → (start N (.ref a :: ws))[1 + j]? = some (some y) := fun j y hy => by
    have hj := (List.getElem?_eq_some_iff.mp hy).1
    unfold L2.start
    rw [List.getElem?_append_left (by simp; omega), List.getElem?_map, show 1 + j = j + 1 by omega, List.getElem?_cons_succ, hy]
    rfl
  cases fs with
  | nil => exact absurd rfl hf
  | cons f r =>
    cases ws with
    | nil => cases hl
    | cons y ws =>
      refine ⟨y, atj 0 y rfl, .ref a, at0, a, C, rfl, T, hno f (List.mem_cons_self ..), .inl ⟨ha, fun dx hdx hne => ?_⟩⟩
      refine ini_rest T at0 r ws 2 [(f, y)] _ (fun g hg => hno g (List.mem_cons_of_mem _ hg)) (by simpa using hl) (fun j z hz => by
        have := atj (j + 1) z (by simpa using hz)
        rw [show 2 + j = 1 + (j + 1) by omega]; exact this) (by simp only [List.length_cons, List.length_nil] at hn ⊢; omega) upd_same (by rw [upd_ne hne]; exact upd_same) hne fun H' h1 h2 h3 => ?_
      refine q dx H' hdx hne h1 (by rw [h2]; simp) fun p p1 p2 => ?_
      rw [h3 p p1 p2, upd_ne p1, upd_ne p2]
/-- an exception's own __init__ -/
theorem ini_fn {P : Program} {w : World} {K : PySem.W.Frag} {mg : Str → Option Value} {base : Heap} {x qual : Str} {params : Arguments} {body : List Stmt} {scope : Scope} {f : Addr} {fd : FuncData} {N ps fs : List Str}
    (F : FunD K x qual params body scope [] [] f fd) (S : FnScope N ps scope) (hf : fs ≠ []) (hn : fs.length ≤ 800) (hN : N.length = fs.length + 1) (hp : ps.length = fs.length + 1)
    (hbody : ∀ (cdv : Value) (A : Around) (outer : List Env) (s : Shared) (H : Hp) (E : XK), PSs (cxOf (L2.CX P w) P w K mg base N qual scope f cdv A outer s H E) body (tIni K fs 1)) : FnOk P w K mg base (L2.CX P w) 1 f fd ps (sInit K fs) := by
  refine F.ok (k := 0) S (fun vs H Q E h => ?_) fun cdv A outer s H vs Q E hr hsp => ⟨_, hbody cdv A outer s H E, ini_ok hf hn hN hsp⟩
  obtain ⟨a, C, ws, rfl, hl, _⟩ := h
  rw [List.length_cons, hl, hp]
/-- all that raising a class asks -/
structure XcI (P : Program) (w : World) (K : PySem.W.Frag) (mg : Str → Option Value) (base : Heap) (v : Ev) (c : Nat) (x : Str) (fs : List Tx) : Prop where
  g : mg x = some (.ref (v.ca c))
  xs : v.xs c = true
  T : OexC K (v.ca c)
  no : ∀ f ∈ fs, PySem.W.findIn K (.ref (v.ca c)) (tx f) = some none
  nd : fs.Nodup
  ini : ∃ fI fd ps, PySem.W.findIn K (.ref (v.ca c)) "__init__" = some (some (.ref fI)) ∧ PySem.W.typeIn K (.ref fI) = some (.type "function") ∧ FnOk P w K mg base (L2.CX P w) 1 fI fd ps (sInit K (fs.map tx)) ∧ Binds K fd ps []
theorem zip_look {f : Str} {y : V} : ∀ {fs : List Str} {vs : List V} {k : Nat}, fs.Nodup → fs[k]? = some f → vs[k]? = some y → vs.length = fs.length → (fs.zip vs).reverse.lookup f = some y := by
  intro fs vs k nd h1 h2 hl
  have key : ∀ {l : List (Str × V)}, (l.map (·.1)).Nodup → (f, y) ∈ l → l.lookup f = some y := by
    intro l
    induction l with
    | nil => intro _ m; cases m
    | cons p l ih =>
      intro nd m
      obtain ⟨g, z⟩ := p
      rw [lookup_put]
      rw [List.map_cons, List.nodup_cons] at nd
      rcases List.mem_cons.mp m with m | m
      · cases m; rw [if_pos rfl]
      · rw [if_neg fun (e : f = g) => nd.1 (e ▸ (List.mem_map.mpr ⟨_, m, rfl⟩ : f ∈ l.map (·.1)))]
        exact ih nd.2 m
  have e : ((fs.zip vs).map (·.1)) = fs := List.map_fst_zip (by omega)
  refine key ?_ (List.mem_reverse.mpr ?_)
  · rw [List.map_reverse, (List.reverse_perm _).nodup_iff, e]; exact nd
  · have : (fs.zip vs)[k]? = some (f, y) := by rw [List.getElem?_zip_eq_some]; exact ⟨h1, h2⟩
    exact List.mem_of_getElem? this
section
variable {X : Cx} {v : Ev} {g : G} {W : WX} {a : Expr} {es : List Expr} {pos p pos2 : Pos} {x : Str} {k c : Nat} {fs : List Tx} {exs : List Ex}
theorem s_raise (hc : Cc X v W) (C : XcI X.prog X.w X.K X.mg X.base v c x fs) (hr : Room (k + 2) X.A) (hg : Gl X x) (ha : PA X (a :: es) (tL v g W exs)) (hl : exs.length = fs.length := by rfl) (hl2 : exs.length ≤ 800 := by decide) (hdb : (x == ("__debug__" : Str)) = false := by decide)
    (he : starEach (a :: es) X.env = (false, eval a X.env) :: starEach es X.env := by rfl) (hpl : (backTo pos (starEach es X.env)).any (·.1) = false := by rfl) : PS X (.Raise (some (.Call (.Name x p) (a :: es) [] pos)) none pos2) (tS v g W (.raise c fs exs)) := by
  obtain ⟨fI, fd, ps, i1, i2, i3, i4⟩ := C.ini
  have ndx : (fs.map tx).Nodup := by
    have := C.nd
    rw [List.nodup_iff_pairwise_ne, List.pairwise_map] at *
    exact this.imp fun h e => h (tx_inj e)
  refine PS.imp (ps_raise hc.calm hc.tk (pmk_oex (sp := sInit X.K (fs.map tx)) (dvs := []) (ds := []) (k := 1) C.T i1 i2 i3 (hr.mono (by omega)) i4 .nil (fun _ _ _ _ _ _ _ z => ?_) hg C.g ha hdb he hpl)) fun E σ H ⟨ι, δ, h, hr, hs, go⟩ => ?_
  · obtain ⟨_, _, _, _, _, _, _, _, _, _, _, _, z⟩ := z
    exact z.elim
  have e : evS g (.raise c fs exs) δ h = (evEs g exs δ h).go δ fun ds h => if persL ds = true then .err c (fs.zip ds) δ h else .no := by simp only [evS]
  rw [e] at go
  refine ⟨ι, δ, h, hr, hs, GoS.bind (SS := rrL v) hs go fun ds h1 ι1 H1 xs r1 ex1 hr1 rx1 go1 => ?_⟩
  split at go1
  · rename_i cp
    have rs := rx1.rps cp
    have lx : xs.length = fs.length := by rw [← rs.length, evEs_len r1, hl]
    refine ⟨by rw [lx, ← hl]; omega, fun a ha => ⟨a, v.ca c, xs, by rw [List.append_nil], by rw [lx, List.length_map], C.T, fun f hf => ?_, upd_same, fun dx H' hdx hne q1 q2 q3 => ?_⟩⟩
    · obtain ⟨f', hf', rfl⟩ := List.mem_map.mp hf
      exact C.no f' hf'
    · have hdx1 : H1 dx = none := by rw [upd_ne hne] at hdx; exact hdx
      refine ⟨rfl, dx, _, q1, q2, hdx1, ?_⟩
      have kp : ∀ p o, H1 p = some o → upd (del H' a) dx (.xd ((fs.map tx).zip xs).reverse) p = some o := fun p o hp => by
        have n1 : p ≠ dx := fun z => by rw [z, hdx1] at hp; cases hp
        have n2 : p ≠ a := fun z => by rw [z, ha] at hp; cases hp
        rw [upd_ne n1, del_ne n2, q3 p n2 n1, upd_ne n2]; exact hp
      have ex2 : Ext ι1 H1 ι1 (upd (del H' a) dx (.xd ((fs.map tx).zip xs).reverse)) := ⟨⟨[], by simp, fun _ z => nomatch z⟩, fun p o hp _ => kp p o hp, fun p o _ hp => ⟨o, kp p o hp, rfl⟩⟩
      have hr2 := hr1.other ex2 fun n p hp => by
        obtain ⟨o, ho, _⟩ := hr1.tracked (List.mem_of_getElem? hp)
        rw [ho]; exact kp p o ho
      refine go1 ι1 _ σ _ _ ex2 hr2 ((hs.mono ex1).mono ex2) ⟨⟨C.xs, rfl⟩, _, xs, upd_same, fun i f y hi _ => ?_, ?_⟩
      · have hi2 := (List.getElem?_zip_eq_some.mp hi)
        obtain ⟨z, hz, _⟩ := rs.get hi2.2
        refine ⟨z, hz, zip_look ndx (by rw [List.getElem?_map, hi2.1]; rfl) hz (by rw [lx, List.length_map])⟩
      · have e3 : (fs.zip ds).map (·.2) = ds := List.map_snd_zip (by rw [rs.length, lx]; exact Nat.le_refl _)
        rw [e3]
        exact rs.mono ex2
  · exact go1.elim
end
end Ivy

/-! Ivy, part W: a program's exception classes: what the head tells of them. -/
namespace Ivy
open PySem PySem.Spec PyProof.Rows L2
theorem bt_ValueError : bootBuiltins "ValueError" = some (.type "ValueError") := PyProof.Rows.Boot.«ValueError»
def hdC : Hd → Nat
  | .mk c _ _ => c
/-- the facts of exceptions that derivations use -/
structure Fe (P : Program) (w : World) (K : PySem.W.Frag) (mg : Str → Option Value) (base : Heap) (v : Ev) (sub : Nat → Nat → Bool) (cn : Nat → Str) (fl : Nat → List Tx) (flds : List Tx) (N : Nat) : Prop where
  g : ∀ c, c < N → mg (cn c) = some (.ref (v.ca c))
  xc : XcF K v
  xt : ∀ c, c < N → XtF K v sub (.cls c)
  xv : XtF K v sub .verr
  xf : ∀ (i : Nat) (f : Tx), flds[i]? = some f → XfF K v f
  hd : ∀ c, c < N → ∀ k, v.xs k = true → PySem.W.exmOne K (.ref (v.ca k)) (.ref (v.ca c)) = some (sub k c)
  ri : ∀ c, v.xs c = true → (fl c).isEmpty = false → XcI P w K mg base v c (cn c) (fl c)
theorem Fe.hds {P : Program} {w : World} {K : PySem.W.Frag} {mg : Str → Option Value} {base : Heap} {v : Ev} {sub : Nat → Nat → Bool} {cn : Nat → Str} {fl : Nat → List Tx} {flds : List Tx} {N : Nat} (fe : Fe P w K mg base v sub cn fl flds N) {g : G} (hg : g.sub = sub) {hs : List Hd}
    (h : hs.all (fun h => decide (hdC h < N)) = true) : HdOk K v g hs := fun c i b m k hk => by
  rw [hg]
  exact fe.hd c (of_decide_eq_true (List.all_eq_true.mp h _ m)) k hk
/-! ### the classes' objects -/
def oexB (K : PySem.W.Frag) (C : Addr) : Bool := match K.lookup C with
  | some ⟨.type "type", _, .cls cd, sl⟩ => (match cd.mro, sl.toList with
    | .ref C' :: bm, [_, _, _, _, some (.builtin n), _] => C' == C && n == "ValueError.__new__" && !cd.hasDel && cd.hasDict && PySem.HandSPX.refsVE bm
    | _, _ => false)
  | _ => false
theorem oexB_ok {K : PySem.W.Frag} {C : Addr} (q : oexB K C = true) : ∃ nm q N bs bm sn sub ab col dd k0 k1 k2 k3 k5, K.lookup C = some (excClassObj nm q C N bs bm true sn sub ab col dd k0 k1 k2 k3 k5 "ValueError.__new__") ∧ PySem.HandSPX.refsVE bm = true := by
  unfold oexB at q
  split at q
  · rename_i dd cd sl ho
    split at q
    · rename_i C' bm k0 k1 k2 k3 n k5 hm hs
      simp only [Bool.and_eq_true, beq_iff_eq, Bool.not_eq_true'] at q
      obtain ⟨⟨⟨⟨rfl, rfl⟩, hdel⟩, hd⟩, ht⟩ := q
      obtain ⟨nm, bs, mro, ns, qn, hd', sn, sub, ab, col, del⟩ := cd
      dsimp only at hm hdel hd
      subst hm hdel hd
      have hsl : sl = #[k0, k1, k2, k3, some (.builtin "ValueError.__new__"), k5] := by
        obtain ⟨l⟩ := sl
        simp only at hs
        rw [hs]
      subst hsl
      exact ⟨nm, qn, ns, bs, bm, sn, sub, ab, col, dd, k0, k1, k2, k3, k5, ho, ht⟩
    · cases q
  · cases q
def xcB (K : PySem.W.Frag) (C : Addr) : Bool := oexB K C && (He.eqO (PySem.W.findIn K (.ref C) "__setattr__") (some (some (.builtin "object.__setattr__"))) && (decide (PySem.W.subIn K (.ref C) (.type "BaseException") = some true) && (decide (PySem.W.typeIn K (.ref C) = some (.type "type")) && (PySem.W.keepIn K (.ref C) &&
  (He.eqO (PySem.W.findIn K (.ref C) "__getattribute__") (some (some (.builtin "BaseException.__getattribute__"))) && (He.eqO (PySem.W.findIn K (.ref C) "__getattr__") (some none) && (PySem.W.hasDictIn K C && (He.eqO (PySem.W.findIn K (.ref C) "__class__") (some (some (.builtin "object.__class__"))) &&
  (He.eqO (PySem.W.specialIn K (.builtin "object.__class__") "__get__") (some (some (.builtin "getset_descriptor.__get__"))) && (decide (PySem.W.takesIn K (.builtin "object.__class__") = some true) && decide (PySem.W.mroIn K C (.type "object") = some true)))))))))))
theorem xcB_ok {K : PySem.W.Frag} {C : Addr} (q : xcB K C = true) : OexC K C ∧ ExcC K C := by
  obtain ⟨c1, q⟩ := He.ba q
  obtain ⟨c2, q⟩ := He.ba q
  obtain ⟨c3, q⟩ := He.ba q
  obtain ⟨c4, q⟩ := He.ba q
  obtain ⟨c5, q⟩ := He.ba q
  obtain ⟨c6, q⟩ := He.ba q
  obtain ⟨c7, q⟩ := He.ba q
  obtain ⟨c8, q⟩ := He.ba q
  obtain ⟨c9, q⟩ := He.ba q
  obtain ⟨c10, q⟩ := He.ba q
  obtain ⟨c11, c12⟩ := He.ba q
  exact ⟨⟨oexB_ok c1, He.eqO_ok c2, of_decide_eq_true c3, of_decide_eq_true c4, c5⟩, ⟨He.eqO_ok c6, He.eqO_ok c7, of_decide_eq_true c3, c8, He.eqO_ok c9, He.eqO_ok c10, of_decide_eq_true c11, of_decide_eq_true c12⟩⟩
/-- one exception class: its number, who defines its __init__ -/
def xkB (K : PySem.W.Frag) (sub : Nat → Nat → Bool) (cn : Nat → Str) (flds : List Tx) (N c : Nat) : Bool := xcB K (He.ga K (cn c)) && (decide (PySem.W.kitOne K (.ref (He.ga K (cn c))) (.type "ValueError") = some (sub c 1000)) &&
  ((List.range N).all (fun k => decide (PySem.W.kitOne K (.ref (He.ga K (cn c))) (.ref (He.ga K (cn k))) = some (sub c k)) && decide (PySem.W.exmOne K (.ref (He.ga K (cn c))) (.ref (He.ga K (cn k))) = some (sub c k))) &&
  flds.all fun f => He.eqO (PySem.W.findIn K (.ref (He.ga K (cn c))) (tx f)) (some none)))
/-- the __init__ of class c stands in class d -/
def xiB (K : PySem.W.Frag) (cn : Nat → Str) (p : Nat × Nat) : Bool := He.eqO (PySem.W.findIn K (.ref (He.ga K (cn p.1))) "__init__") (some (some (.ref (He.fAd K (cn p.2, some "__init__"))))) && decide (PySem.W.typeIn K (.ref (He.fAd K (cn p.2, some "__init__"))) = some (.type "function"))
def exB (K : PySem.W.Frag) (sub : Nat → Nat → Bool) (cn : Nat → Str) (xl : List Nat) (xi : List (Nat × Nat)) (flds : List Tx) (N : Nat) : Bool := (List.range N).all (fun c => He.eqO (PySem.W.nsIn K mainGlobals (cn c)) (some (some (.ref (He.ga K (cn c)))))) && (xl.all (xkB K sub cn flds N) && xi.all (xiB K cn))
/-! ### constants of the top -/
mutual
def cB (K : PySem.W.Frag) : D → Value → Bool
  | .non, .none => true
  | .bl b, .bool c => b == c
  | .int i, .int j _ => decide (i = j)
  | .str x, .str y _ => decide (tx x = y)
  | .tup ds, .ref a => (match K.lookup a with
    | some ⟨.type c, _, .seq its _, _⟩ => decide (c = "tuple") && (decide (its.size ≤ sizeLine) && cBL K ds its.toList)
    | _ => false)
  | _, _ => false
def cBL (K : PySem.W.Frag) : List D → List Value → Bool
  | [], [] => true
  | d :: ds, u :: us => cB K d u && cBL K ds us
  | _, _ => false
end
mutual
theorem cB_ok {v : Ev} {ι : List Addr} {H : Hp} : ∀ (d : D) (u : Value), cB v.K d u = true → ∃ x, RelV x u ∧ RP v ι H d x
  | .non, u, e => by
    cases u with
    | none => exact ⟨.non, rfl, .non⟩
    | _ => simp [cB] at e
  | .bl b, u, e => by
    cases u with
    | bool c =>
      have e : (b == c) = true := by simpa only [cB] using e
      rw [eq_of_beq e]
      exact ⟨.bl c, rfl, .bl c⟩
    | _ => simp [cB] at e
  | .int i, u, e => by
    cases u with
    | int j t =>
      have e : decide (i = j) = true := by simpa only [cB] using e
      rw [of_decide_eq_true e]
      exact ⟨.int j, ⟨t, rfl⟩, .int j⟩
    | _ => simp [cB] at e
  | .str i, u, e => by
    cases u with
    | str j t =>
      have e : decide (tx i = j) = true := by simpa only [cB] using e
      rw [← of_decide_eq_true e]
      exact ⟨.str (tx i), ⟨t, rfl⟩, .str i⟩
    | _ => simp [cB] at e
  | .tup ds, u, e => by
    cases u with
    | ref a =>
      have e : (match v.K.lookup a with
        | some ⟨.type c, _, .seq its _, _⟩ => decide (c = "tuple") && (decide (its.size ≤ sizeLine) && cBL v.K ds its.toList)
        | _ => false) = true := by simpa only [cB] using e
      cases q : v.K.lookup a with
      | none => rw [q] at e; cases e
      | some o =>
        obtain ⟨oc, od, dt, osl⟩ := o
        rw [q] at e
        cases oc with
        | type c =>
          cases dt with
          | seq its n =>
            obtain ⟨h1, h2⟩ := He.ba (show (decide (c = "tuple") && (decide (its.size ≤ sizeLine) && cBL v.K ds its.toList)) = true from e)
            obtain ⟨h3, h4⟩ := He.ba h2
            obtain ⟨xs, r1, r2⟩ := cBL_ok (v := v) (ι := ι) (H := H) ds its.toList h4
            exact ⟨.ref a, rfl, .tup (.inr ⟨_, its, n, q, congrArg Value.type (of_decide_eq_true h1), rfl, of_decide_eq_true h3, r1⟩) r2⟩
          | _ => cases e
        | _ => cases dt <;> cases e
    | _ => simp [cB] at e
  | .rol _, u, e => by cases u <;> simp [cB] at e
  | .lst _, u, e => by cases u <;> simp [cB] at e
  | .dct _, u, e => by cases u <;> simp [cB] at e
  | .ref _, u, e => by cases u <;> simp [cB] at e
  | .exc _ _, u, e => by cases u <;> simp [cB] at e
theorem cBL_ok {v : Ev} {ι : List Addr} {H : Hp} : ∀ (ds : List D) (us : List Value), cBL v.K ds us = true → ∃ xs, Vals xs us ∧ RPs v ι H ds xs
  | [], [], _ => ⟨[], .nil, .nil⟩
  | [], _ :: _, e => by simp [cBL] at e
  | _ :: _, [], e => by simp [cBL] at e
  | d :: ds, u :: us, e => by
    obtain ⟨h1, h2⟩ := He.ba (show (cB v.K d u && cBL v.K ds us) = true by simpa only [cBL] using e)
    obtain ⟨x, r1, r2⟩ := cB_ok (v := v) (ι := ι) (H := H) d u h1
    obtain ⟨xs, s1, s2⟩ := cBL_ok (v := v) (ι := ι) (H := H) ds us h2
    exact ⟨x :: xs, .cons r1 s1, .cons r2 s2⟩
end
/-- the module's names that stand for constants -/
structure Fg (K : PySem.W.Frag) (mg : Str → Option Value) (cs : Nat → D) (kn : Nat → Str) (M : Nat) : Prop where
  g : ∀ k, k < M → ∃ u, mg (kn k) = some u ∧ cB K (cs k) u = true
def cgB (K : PySem.W.Frag) (cs : Nat → D) (kn : Nat → Str) (k : Nat) : Bool := match PySem.W.nsIn K mainGlobals (kn k) with
  | some (some u) => cB K (cs k) u
  | _ => false
theorem fg_of {K : PySem.W.Frag} {h : Heap} {mg : Str → Option Value} {cs : Nat → D} {kn : Nat → Str} {M : Nat} (X : K.In h) (G : h.Ns mainGlobals mg) (c : (List.range M).all (cgB K cs kn) = true) : Fg K mg cs kn M := ⟨fun k hk => by
  have c1 := List.all_eq_true.mp c k (List.mem_range.mpr hk)
  unfold cgB at c1
  split at c1
  · rename_i u q
    exact ⟨u, PySem.W.mg_of X G q, c1⟩
  · cases c1⟩
theorem e_glob {X : Cx} {v : Ev} {g : G} {W : WX} {x : Str} {k : Nat} {pos : Pos} (hb : Cb X v W) (hg : Gl X x) (h : ∃ u, X.mg x = some u ∧ cB X.K (g.cs k) u = true) (hd : (x == ("__debug__" : Str)) = false := by decide) : PE X (.Name x pos) (tE v g W (.glob k)) := by
  obtain ⟨u, hm, c⟩ := h
  refine ⟨fun pins s σ H Q I ⟨ι, δ, h, hr, hs, go⟩ => ?_⟩
  have e : evE g (.glob k) δ h = .ok (g.cs k) h := by simp only [evE]
  rw [e] at go
  rw [hb.hK] at c
  obtain ⟨y, ry, rp⟩ := cB_ok (v := v) (ι := ι) (H := H) (g.cs k) u c
  refine (pe_glob (v := y) hg hm ry hd).run pins s σ H Q I (go.here hr ?_)
  generalize g.cs k = d at rp
  cases d <;> first | exact ⟨rp, trivial⟩ | cases rp
/-! ### the Hook -/
abbrev AlY : Type := He.AlD × Bool
def obsYG (n : Nat) (fa : List He.Fa) (fn : List He.DefD) (ex : PySem.W.Frag → Bool) (g : Addr → Option Obj) : AlY := (He.obsD fa fn (He.frG g (He.asD g n)), ex (He.frG g (He.asD g n)))
def SaysY (fa : List He.Fa) (fn : List He.DefD) (ex : PySem.W.Frag → Bool) (K : PySem.W.Frag) : Prop := He.SaysD fa fn K ∧ ex K = true
def hookY (n : Nat) (fa : List He.Fa) (fn : List He.DefD) (ex : PySem.W.Frag → Bool) : PySem.W.Hook where
  α := AlY
  obs := fun s => obsYG n fa fn ex s.heap.get?
  val := fun _ => (He.valD fn, true)
  says := fun _ h => ∃ K : PySem.W.Frag, K.In h ∧ SaysY fa fn ex K
  of := fun _ _ e => ⟨_, He.frG_in, congrArg (fun z : AlY => z.1) e, congrArg (fun z : AlY => z.2) e⟩
  keeps := fun _ _ _ ⟨K, hK, c⟩ k => ⟨K, PySem.W.Frag.In.keeps hK k, c⟩
theorem obsYG_eq {n : Nat} {fa : List He.Fa} {fn : List He.DefD} {ex : PySem.W.Frag → Bool} {g : Addr → Option Obj} {s : Shared} (h : ∀ a, g a = s.heap.get? a) : obsYG n fa fn ex g = (hookY n fa fn ex).obs s := by
  have e : g = s.heap.get? := funext h
  rw [e] <;> rfl
/-! ### from the head to the facts -/
theorem fe_of {P : Program} {w : World} {K : PySem.W.Frag} {h : Heap} {mg : Str → Option Value} {base : Heap} {v : Ev} {sub : Nat → Nat → Bool} {cn : Nat → Str} {fl : Nat → List Tx} {flds : List Tx} {N : Nat} {xl : List Nat} {xi : List (Nat × Nat)} (X : K.In h) (G : h.Ns mainGlobals mg)
    (hv : v.ca = fun k => He.ga K (cn k)) (hx : v.xs = fun k => xl.contains k) (c : exB K sub cn xl xi flds N = true) (hxl : ∀ c ∈ xl, c < N) (hf : ∀ c ∈ xl, (fl c).isEmpty = false → ∃ d, (c, d) ∈ xi ∧ (∀ f ∈ fl c, f ∈ flds) ∧ (fl c).Nodup ∧
      ∃ fd ps, FnOk P w K mg base (L2.CX P w) 1 (He.fAd K (cn d, some "__init__")) fd ps (sInit K ((fl c).map tx)) ∧ Binds K fd ps []) : Fe P w K mg base v sub cn fl flds N := by
  obtain ⟨c1, c⟩ := He.ba c
  obtain ⟨c2, c3⟩ := He.ba c
  have inl : ∀ {k}, v.xs k = true → k ∈ xl := fun {k} h => by rw [hx] at h; simpa using h
  have at_ : ∀ {k}, v.xs k = true → xkB K sub cn flds N k = true := fun {k} h => List.all_eq_true.mp c2 k (inl h)
  have ca : ∀ k, v.ca k = He.ga K (cn k) := fun k => by rw [hv]
  have gl : ∀ c, c < N → mg (cn c) = some (.ref (v.ca c)) := fun k hk => by
    rw [ca]
    exact PySem.W.mg_of X G (He.eqO_ok (List.all_eq_true.mp c1 k (List.mem_range.mpr hk)))
  refine ⟨gl, fun k hk => ?_, fun k hk j hj => ?_, fun j hj => ?_, fun i f hi k hk => ?_, fun k hk j hj => ?_, fun k hk hne => ?_⟩
  · rw [ca]; exact (xcB_ok (He.ba (at_ hk)).1).2
  · have q := (He.ba (He.ba (at_ hj)).2).2
    have q2 := List.all_eq_true.mp (He.ba q).1 k (List.mem_range.mpr hk)
    rw [ca]
    show PySem.W.kitOne K _ (.ref (v.ca k)) = _
    rw [ca]
    exact of_decide_eq_true (He.ba q2).1
  · rw [ca]
    exact of_decide_eq_true (He.ba (He.ba (at_ hj)).2).1
  · have q := (He.ba (He.ba (at_ hk)).2).2
    rw [ca]
    exact He.eqO_ok (List.all_eq_true.mp (He.ba q).2 f (List.mem_of_getElem? hi))
  · have q := (He.ba (He.ba (at_ hj)).2).2
    have q2 := List.all_eq_true.mp (He.ba q).1 k (List.mem_range.mpr hk)
    rw [ca, ca]
    exact of_decide_eq_true (He.ba q2).2
  · obtain ⟨d, m, hm, nd, fd, ps, F, B⟩ := hf k (inl hk) hne
    have qi := He.ba (List.all_eq_true.mp c3 _ m)
    have q := (He.ba (He.ba (at_ hk)).2).2
    refine ⟨?_, hk, ?_, fun f hf => ?_, nd, He.fAd K (cn d, some "__init__"), fd, ps, ?_, of_decide_eq_true qi.2, F, B⟩
    · exact gl k (hxl k (inl hk))
    · rw [ca]; exact (xcB_ok (He.ba (at_ hk)).1).1
    · rw [ca]
      exact He.eqO_ok (List.all_eq_true.mp (He.ba q).2 f (hm f hf))
    · rw [ca]; exact He.eqO_ok qi.1
end Ivy

/-! Ivy, part X: simp lemmas for raise and try. -/
namespace Ivy
section
variable {α β : Type} {s : Nat → Nat → Bool} {h g : Hh} {c k : Nat} {fs : List (Tx × D)} {δ : Sl} {d : D} {f : Tx} {t : Ty}
@[simp] theorem x_bind (k : α → Hh → R β) : (R.err c fs h : R α).bind k = .err c fs h := rfl
@[simp] theorem x_go (k : α → Hh → Rs) : (R.err c fs h : R α).go δ k = .err c fs δ h := rfl
@[simp] theorem x_fin : finishX h c fs h = .err c fs h := by simp [finishX]
@[simp] theorem x_end : endF h (.err c fs δ h) = .err c fs h := by simp [endF]
@[simp] theorem x_getX : opApp s (.getX f) [.exc c fs] h = (match fGet fs f with
    | some d => .ok d h
    | none => .no) := rfl
@[simp] theorem x_isX : opApp s (.isX t) [.exc c fs] h = .ok (.bl (tyIs s (.inr c) t)) h := rfl
@[simp] theorem x_noX0 : noX [] = true := rfl
@[simp] theorem x_noXn {δ : Sl} : noX (none :: δ) = noX δ := by simp [noX]
@[simp] theorem x_noXi {δ : Sl} {i : Int} : noX (some (.int i) :: δ) = noX δ := by simp [noX]
@[simp] theorem x_noXs {δ : Sl} {i : Tx} : noX (some (.str i) :: δ) = noX δ := by simp [noX]
@[simp] theorem x_noXb {δ : Sl} {i : Bool} : noX (some (.bl i) :: δ) = noX δ := by simp [noX]
@[simp] theorem x_noXN {δ : Sl} : noX (some .non :: δ) = noX δ := by simp [noX]
@[simp] theorem x_noXt {δ : Sl} {i : List D} : noX (some (.tup i) :: δ) = noX δ := by simp [noX]
@[simp] theorem x_noXr {δ : Sl} {i : Nat} : noX (some (.ref i) :: δ) = noX δ := by simp [noX]
@[simp] theorem x_noXx {δ : Sl} : noX (some (.exc c fs) :: δ) = false := by simp [noX]
theorem x_noXp {δ : Sl} (hd : D.pers d = true) : noX (some d :: δ) = noX δ := by
  cases d <;> first | (cases hd; done) | simp [noX]
@[simp] theorem x_fget {x : D} {y : Tx} : fGet ((y, x) :: fs) f = if y = f then some x else fGet fs f := by simp [fGet]
@[simp] theorem x_offN : offI none δ = δ := rfl
@[simp] theorem x_offS {i : Nat} : offI (some i) δ = δ.set i none := rfl
@[simp] theorem x_isXt {i : List D} : isX (.tup i) = false := rfl
@[simp] theorem x_isXb {i : Bool} : isX (.bl i) = false := rfl
@[simp] theorem x_isXi {i : Int} : isX (.int i) = false := rfl
@[simp] theorem x_isXN : isX .non = false := rfl
@[simp] theorem x_isXs {x : Tx} : isX (.str x) = false := rfl
@[simp] theorem x_ret : offS i (.ret d h) = if isX d = true then .no else .ret d h := rfl
end
end Ivy

/-! Ivy, part Y: methods of texts, three names at once. -/
namespace Ivy
open PySem PySem.Spec PyProof.Rows L2
/-! ### split -/
theorem spl_free (c : Nat) : ∀ x : Tx, c ∉ x → splL c x = [x]
  | [], _ => rfl
  | a :: x, h => by
    have h1 : ¬ a = c := fun z => h (by simp [z])
    have h2 : c ∉ x := fun z => h (List.mem_cons_of_mem _ z)
    show (if a = c then _ else _) = _
    rw [if_neg h1, spl_free c x h2]
theorem spl_app (c : Nat) : ∀ (w r : Tx), c ∉ w → splL c (w ++ c :: r) = w :: splL c r
  | [], r, _ => by
    show (if c = c then _ else _) = _
    rw [if_pos rfl]
  | a :: w, r, h => by
    have h1 : ¬ a = c := fun z => h (by simp [z])
    have h2 : c ∉ w := fun z => h (List.mem_cons_of_mem _ z)
    show (if a = c then _ else (match splL c (w ++ c :: r) with
      | [] => [[a]]
      | w :: ws => (a :: w) :: ws)) = _
    rw [if_neg h1, spl_app c w r h2]
theorem spl_join (c : Nat) : ∀ ws : List Tx, ws ≠ [] → (∀ w ∈ ws, c ∉ w) → splL c (joinT [c] ws) = ws
  | [], h, _ => absurd rfl h
  | [w], _, h => by
    show splL c w = [w]
    exact spl_free c w (h w (List.mem_cons_self ..))
  | w :: y :: r, _, h => by
    show splL c (w ++ ([c] ++ joinT [c] (y :: r))) = _
    rw [show w ++ ([c] ++ joinT [c] (y :: r)) = w ++ c :: joinT [c] (y :: r) from rfl, spl_app c w _ (h w (List.mem_cons_self ..))]
    rw [spl_join c (y :: r) (by simp) fun z hz => h z (List.mem_cons_of_mem _ hz)]
def ux (x : Str) : Tx := x.cps.toList
theorem ux_tx (x : Tx) : ux (tx x) = x := by simp [ux, tx]
theorem tx_ux (x : Str) : tx (ux x) = x := by cases x; simp [ux, tx]
theorem join_tx (sep : Tx) : ∀ ys : List Tx, Str.join (tx sep) (ys.map tx) = tx (joinT sep ys)
  | [] => rfl
  | [y] => rfl
  | y :: z :: r => by
    show tx y ++ tx sep ++ Str.join (tx sep) ((z :: r).map tx) = tx (y ++ (sep ++ joinT sep (z :: r)))
    rw [join_tx sep (z :: r), tx_app, tx_app, List.append_assoc]
theorem split_ne (x y : Str) : Txt.split x y ≠ [] := by
  unfold Txt.split
  split
  · simp
  · split
    · simp
    · unfold Builtin.Str.partsBetween
      intro z
      have := congrArg List.length z
      simp at this
theorem tx_split (x : Tx) (c : Nat) : Txt.split (tx x) (tx [c]) = (splL c x).map tx := by
  have h1 := StrLaws.join_split (tx x) (tx [c])
  have h2 := StrLaws.split_free (tx x) c
  have h3 := split_ne (tx x) (tx [c])
  generalize hp : Txt.split (tx x) (tx [c]) = ps at *
  have e : ps = (ps.map ux).map tx := by
    rw [List.map_map]
    conv => lhs; rw [← List.map_id ps]
    exact List.map_congr_left fun p _ => (tx_ux p).symm
  rw [e, join_tx] at h1
  have h4 : joinT [c] (ps.map ux) = x := tx_inj h1
  have h5 := spl_join c (ps.map ux) (by simpa using h3) fun w hw => by
    obtain ⟨p, hp2, rfl⟩ := List.mem_map.mp hw
    refine h2 p ?_
    rw [show (⟨#[c]⟩ : Str) = tx [c] from rfl, hp]
    exact hp2
  rw [h4] at h5
  rw [h5]
  exact e
section
variable {X : Cx} {v : Ev} {g : G} {W : WX} {a b c : Expr} {e1 e2 e3 : Ex} {es rest : List Expr} {pos p apos cpos : Pos}
theorem ck_str {d : D} {h : Hh} : ckR 3 d h = (match d with
    | .str x => .ok (.str x) h
    | _ => .no) := by
  cases d <;> first | rfl | skip
  rename_i n
  show (match h[n]? with
    | some (.lst _) => whenR (3 == 1) (.ok (D.ref n) h)
    | some (.dct _) => whenR (3 == 2) (.ok (D.ref n) h)
    | _ => .no : R D) = .no
  cases h[n]? with
  | none => rfl
  | some c => cases c <;> rfl
/-- a method of a text with one argument -/
theorem e_tm1 {o : Op} {name : Str} {id : String} {r : V → List V → Hp → VK → Prop} (slot : Slot "str" name id) (hty : typeOf (.builtin id) = pure (.type "method_descriptor")) (hm : MtR X id r)
    (val : ∀ (ι : List Addr) (H H1 : Hp) (h : Hh) (x : Tx) (e : D) (y : V) (Q : VK) (E : XK), HR v ι H h → rrE v ι H1 H e y → Go (rrE v) v ι H (opApp g.sub o [.str x, e] h) Q E → r (.str (tx x)) [y] H Q)
    (ha : PE X a (tE v g W e1)) (hi : PE X b (tE v g W e2)) (hbase : attributeBase a name X.env (eval a X.env) = eval a X.env := by rfl)
    (hfew : ((backTo cpos (starEach [b] X.env)).all (fun x => !x.1) && (backToKw cpos (keywordEach [] X.env)).all (fun x => x.1.isSome)
      && decide ([b].length + ([] : List Keyword).length + (if ([] : List Keyword).isEmpty then 0 else 1) < 30)) = true := by rfl)
    (hline : (apos.endLine == cpos.line) = true := by rfl) (hs : starEach [b] X.env = (false, eval b X.env) :: starEach [] X.env := by rfl) (hplain : (backTo cpos (starEach [] X.env)).any (·.1) = false := by rfl) :
    PE X (.Call (.Attribute a name apos) [b] [] cpos) (tE v g W (.op o [.ck 3 e1, e2])) :=
  PE.imp (pe_bm PySem.F.plainAttrs_str slot hty hm ha (pa_cons hi pa_nil hs) hbase hfew hline hs hplain) fun σ H Q ⟨ι, δ, h, hr, hs, go⟩ => by
    rw [evE_op2, evE_ck, R.assoc] at go
    refine ⟨ι, δ, h, hr, hs, Go.bind (SS := rrE v) go fun d h1 ι1 H1 x r1 ex1 hr1 rx1 go1 => ?_⟩
    rw [ck_str] at go1
    cases d <;> first | exact go1.elim | skip
    rename_i n
    rw [rv_str rx1]
    have go1 : Go (rrE v) v ι1 H1 ((evE g e2 δ h1).bind fun y h => opApp g.sub o [.str n, y] h) Q _ := go1
    refine ⟨rfl, ι1, δ, h1, hr1, hs.mono ex1, Go.bind (SS := rrE v) go1 fun e h2 ι2 H2 y r2 ex2 hr2 ry2 go2 => ?_⟩
    exact val ι2 H2 H1 h2 n e y Q _ hr2 ry2 go2
theorem v_split (ι : List Addr) (H H1 : Hp) (h : Hh) (x : Tx) (e : D) (y : V) (Q : VK) (E : XK) (hr : HR v ι H h) (ry : rrE v ι H1 H e y) (go : Go (rrE v) v ι H (opApp g.sub .split [.str x, e] h) Q E) :
    ∃ a b, V.str (tx x) = .str a ∧ [y] = [.str b] ∧ (b.length == 0) = false ∧ a.length + 2 ≤ sizeLine ∧ rNewStrs (Txt.split a b) H Q := by
  cases e <;> first | exact go.elim | skip
  rename_i z
  match z, go with
  | [c], go =>
    obtain ⟨cc, go⟩ := go_when (show Go (rrE v) v ι H (whenR _ (.ok (.lst ((splL c x).map .str)) h)) Q E from go)
    refine ⟨tx x, tx [c], rfl, by rw [rv_str ry], rfl, by rw [tx_len, ← cells_eq]; exact of_decide_eq_true cc, ?_⟩
    rw [tx_split]
    intro p hp
    refine go_fresh go hr ?_ hp
    have rr : ∀ l : List Tx, RPs v ι H (l.map .str) ((l.map tx).map V.str) := fun l => by
      induction l with
      | nil => exact .nil
      | cons i l ih => exact .cons (.str i) ih
    exact rr _
  | [], go => exact go.elim
  | _ :: _ :: _, go => exact go.elim
theorem e_split (ha : PE X a (tE v g W e1)) (hi : PE X b (tE v g W e2)) (hbase : attributeBase a "split" X.env (eval a X.env) = eval a X.env := by rfl)
    (hfew : ((backTo cpos (starEach [b] X.env)).all (fun x => !x.1) && (backToKw cpos (keywordEach [] X.env)).all (fun x => x.1.isSome)
      && decide ([b].length + ([] : List Keyword).length + (if ([] : List Keyword).isEmpty then 0 else 1) < 30)) = true := by rfl)
    (hline : (apos.endLine == cpos.line) = true := by rfl) (hs : starEach [b] X.env = (false, eval b X.env) :: starEach [] X.env := by rfl) (hplain : (backTo cpos (starEach [] X.env)).any (·.1) = false := by rfl) :
    PE X (.Call (.Attribute a "split" apos) [b] [] cpos) (tE v g W (.op .split [.ck 3 e1, e2])) :=
  e_tm1 PySem.F.slot_str_split PySem.F.type_str_split mt_split v_split ha hi hbase hfew hline hs hplain
theorem v_join (hK : X.K = v.K) (ι : List Addr) (H H1 : Hp) (h : Hh) (x : Tx) (e : D) (y : V) (Q : VK) (E : XK) (hr : HR v ι H h) (ry : rrE v ι H1 H e y) (go : Go (rrE v) v ι H (opApp g.sub .join [.str x, e] h) Q E) :
    ∃ a p, ∃ ys : List Str, V.str (tx x) = .str a ∧ [y] = [.ref p] ∧ (SqL X.K H p (ys.map V.str) ∨ SqT X.K H p (ys.map V.str)) ∧ (ys.map (·.length)).sum + ys.length * a.length ≤ 16777216 ∧ Q (.str (Txt.join a ys)) H := by
  rw [hK]
  have go : Go (rrE v) v ι H (match (sqD h e).bind strsL with
    | some ys => whenR (decide ((ys.map (·.length)).sum + ys.length * x.length ≤ cells)) (.ok (.str (joinT x ys)) h)
    | none => .no) Q E := go
  split at go
  · rename_i ys q
    obtain ⟨c, go⟩ := go_when go
    obtain ⟨ds, q1, q2⟩ := bind_some q
    have fin : ∀ vs, RPs v ι H ds vs → vs = (ys.map tx).map V.str := fun vs r => by
      rw [strs_v r q2, List.map_map]; rfl
    have sz : ((ys.map tx).map (·.length)).sum + (ys.map tx).length * (tx x).length ≤ 16777216 := by
      have := of_decide_eq_true c
      rw [List.map_map, List.length_map]
      exact this
    have res : Q (.str (Txt.join (tx x) (ys.map tx))) H := by
      show Q (.str (Builtin.Str.glued (tx x) (ys.map tx))) H
      rw [StrLaws.glued_eq_join, join_tx]
      exact go_str go hr
    cases e <;> first | (cases q1; done) | skip
    · rename_i xs
      obtain ⟨p, vs, rfl, h1, h2⟩ := rv_tup ry
      have e2 : xs = ds := Option.some.inj q1
      subst e2
      exact ⟨tx x, p, ys.map tx, rfl, rfl, .inr (fin vs h2 ▸ h1), sz, res⟩
    all_goals
      obtain ⟨p, vs, rfl, h1, h2⟩ := ls_ok hr ry q1
      exact ⟨tx x, p, ys.map tx, rfl, rfl, .inl (fin vs h2 ▸ h1), sz, res⟩
  · exact go.elim
theorem e_join (hb : Cb X v W) (ha : PE X a (tE v g W e1)) (hi : PE X b (tE v g W e2)) (hbase : attributeBase a "join" X.env (eval a X.env) = eval a X.env := by rfl)
    (hfew : ((backTo cpos (starEach [b] X.env)).all (fun x => !x.1) && (backToKw cpos (keywordEach [] X.env)).all (fun x => x.1.isSome)
      && decide ([b].length + ([] : List Keyword).length + (if ([] : List Keyword).isEmpty then 0 else 1) < 30)) = true := by rfl)
    (hline : (apos.endLine == cpos.line) = true := by rfl) (hs : starEach [b] X.env = (false, eval b X.env) :: starEach [] X.env := by rfl) (hplain : (backTo cpos (starEach [] X.env)).any (·.1) = false := by rfl) :
    PE X (.Call (.Attribute a "join" apos) [b] [] cpos) (tE v g W (.op .join [.ck 3 e1, e2])) :=
  e_tm1 PySem.F.slot_str_join PySem.F.type_str_join mt_join (v_join hb.hK) ha hi hbase hfew hline hs hplain
/-- a, b, c = x, y, z of plain names -/
theorem s_par3 {i j l k2 kt : Nat} {x y z : Str} {px py pz pt pt2 : Pos} (hc : X.calm = true) (hN : X.N.Nodup) (hi : X.N[i]? = some x) (hj : X.N[j]? = some y) (hl : X.N[l]? = some z) (hij : i ≠ j) (hil : i ≠ l) (hjl : j ≠ l)
    (hx : X.env.scope.names.lookup x = some .local) (hy : X.env.scope.names.lookup y = some .local) (hz : X.env.scope.names.lookup z = some .local) (ha : PA X [a, b, c] (tL v g W [e1, e2, e3]))
    (hw : swappedStores [.Tuple [.Name x px, .Name y py, .Name z pz] kt pt] (.Tuple [a, b, c] k2 pt2) X.env = pure (some [x, y, z]))
    (hs : swapsWithSole [.Tuple [.Name x px, .Name y py, .Name z pz] kt pt] (.Tuple [a, b, c] k2 pt2) pos.line X.env = pure false := by rfl) :
    PS X (.Assign [.Tuple [.Name x px, .Name y py, .Name z pz] kt pt] (.Tuple [a, b, c] k2 pt2) pos) (tS v g W (.asg (.tup [.name i, .name j, .name l]) (.op .tup [e1, e2, e3]))) :=
  PS.imp (ps_par3 hc hN hi hj hl hij hil hjl hx hy hz ha hw hs) fun E σ H ⟨ι, δ, h, hr, hs, go⟩ => by
    have e : evS g (.asg (.tup [.name i, .name j, .name l]) (.op .tup [e1, e2, e3])) δ h = (evEs g [e1, e2, e3] δ h).go δ fun ds h => (opApp g.sub .tup ds h).go δ fun x h => match putT (.tup [.name i, .name j, .name l]) x δ with
      | some δ' => .nx δ' h
      | none => .no := by
      simp only [evS, evE]
      cases evEs g [e1, e2, e3] δ h <;> rfl
    rw [e] at go
    refine ⟨ι, δ, h, hr, hs, GoS.bind (SS := rrL v) hs go fun ds h1 ι1 H1 xs r1 ex1 hr1 rx1 go1 => ?_⟩
    have e2 : opApp g.sub .tup ds h1 = whenR (persL ds && decide (ds.length ≤ cells)) (.ok (.tup ds) h1) := rfl
    rw [e2] at go1
    cases c : (persL ds && decide (ds.length ≤ cells)) with
    | false => rw [c] at go1; exact go1.elim
    | true =>
      rw [c] at go1
      rw [Bool.and_eq_true] at c
      have rs := rx1.rps c.1
      have hl3 : ds.length = 3 := evEs_len r1
      match ds, xs, rs, hl3, c.1, go1 with
      | [d1, d2, d3], _, .cons q1 (.cons q2 (.cons q3 .nil)), _, cp, go1 =>
        refine ⟨_, _, _, rfl, ?_⟩
        have p : D.pers d1 = true ∧ D.pers d2 = true ∧ D.pers d3 = true := by simpa [persL] using cp
        have e3 : putT (.tup [.name i, .name j, .name l]) (.tup [d1, d2, d3]) δ = some (((δ.set i (some d1)).set j (some d2)).set l (some d3)) := by
          show putTs [.name i, .name j, .name l] [d1, d2, d3] δ = _
          unfold putTs putT putTs putT putTs putT putTs
          simp only [p.1, p.2.1, p.2.2, if_true]
        have go1 : GoS v W ι1 H1 (match putT (.tup [.name i, .name j, .name l]) (.tup [d1, d2, d3]) δ with
          | some δ' => .nx δ' h1
          | none => .no) E := go1
        rw [e3] at go1
        exact go1 ι1 H1 _ .refl hr1 ((((hs.mono ex1).set q1).set q2).set q3)
end
end Ivy

/-! Ivy, part Z: simp lemmas for texts; a call's end by an exception. -/
namespace Ivy
section
variable {α : Type} {s : Nat → Nat → Bool} {h g : Hh} {i j : Int} {x y u : Tx} {c n k : Nat} {fs : List (Tx × D)} {d : D}
@[simp] theorem o_inS : opApp s .isIn [.str [c], .str y] h = .ok (.bl (decide (c ∈ y))) h := rfl
@[simp] theorem o_idxS : opApp s .idx [.str x, .int i] h = whenR (decide (x.length ≤ cells)) (match atP x i with
  | some c => .ok (.str [c]) h
  | none => .no) := rfl
@[simp] theorem o_lenS : opApp s .len [.str x] h = whenR (decide (x.length ≤ cells)) (.ok (.int x.length) h) := rfl
@[simp] theorem o_addS : opApp s .add [.str x, .str y] h = whenR (decide (x.length + y.length ≤ cells)) (.ok (.str (x ++ y)) h) := rfl
@[simp] theorem o_sl11S : opApp s (.slice true true) [.str x, .int i, .int j] h = whenR (decide (x.length ≤ cells)) (.ok (.str (cut x (some i) (some j))) h) := rfl
@[simp] theorem o_sl01S : opApp s (.slice false true) [.str x, .int j] h = whenR (decide (x.length ≤ cells)) (.ok (.str (cut x none (some j))) h) := rfl
@[simp] theorem o_splitS : opApp s .split [.str x, .str [c]] h = whenR (decide (x.length + 2 ≤ cells)) (.ok (.lst ((splL c x).map .str)) h) := rfl
@[simp] theorem at0g {a : α} {xs : List α} : atP (a :: xs) 0 = some a := by simp [atP, ixP]
theorem atP_app {r : List α} {z : α} {w : List α} : atP (w ++ z :: r) (w.length : Int) = some z := by
  rw [atP_nat (by simp)]; simp
theorem cut_app {w r : List α} (k : Nat) (hk : k ≤ r.length) : cut (w ++ r) (some (w.length : Int)) (some ((w.length : Int) + k)) = r.take k := by
  have e : ∀ d, clip (w ++ r).length d (some (w.length : Int)) = w.length := fun d => by
    unfold clip
    simp only [show ¬ ((w.length : Int) < 0) by omega, if_false]
    simp
  have e2 : ∀ d, clip (w ++ r).length d (some ((w.length : Int) + k)) = w.length + k := fun d => by
    unfold clip
    simp only [show ¬ ((w.length : Int) + k < 0) by omega, if_false]
    simp
    omega
  unfold cut
  rw [e, e2]
  simp
theorem take_tw (f : α → Bool) : ∀ r : List α, r.take (r.takeWhile f).length = r.takeWhile f
  | [] => rfl
  | a :: r => by
    by_cases e : f a = true
    · simp [List.takeWhile_cons, e, take_tw f r]
    · simp [List.takeWhile_cons, e]
theorem drop_tw (f : α → Bool) : ∀ r : List α, r.drop (r.takeWhile f).length = r.dropWhile f
  | [] => rfl
  | a :: r => by
    by_cases e : f a = true
    · simp [List.takeWhile_cons, List.dropWhile_cons, e, drop_tw f r]
    · simp [List.takeWhile_cons, List.dropWhile_cons, e]
theorem tw_le (f : α → Bool) : ∀ r : List α, (r.takeWhile f).length ≤ r.length
  | [] => Nat.le_refl _
  | a :: r => by
    have := tw_le f r
    by_cases e : f a = true
    · simp [List.takeWhile_cons, e]; omega
    · simp [List.takeWhile_cons, e]
theorem low_fs (n : Nat) : ∀ fs : List (Tx × D), (∀ p ∈ fs, D.low n p.2 = true) → D.lowF n fs = true
  | [], _ => by simp [D.lowF]
  | (x, d) :: fs, hf => by simp [D.lowF, hf (x, d) (List.mem_cons_self ..), low_fs n fs fun p m => hf p (List.mem_cons_of_mem _ m)]
/-- an exception leaves a call: what is new goes -/
theorem finX_grow (x : Grow h g) (hf : D.lowF h.length fs = true) : finishX h c fs g = .err c fs h := by
  unfold finishX
  by_cases e : g.length = h.length
  · rw [if_pos e]
    have := x.take
    rw [← e, List.take_length] at this
    rw [this]
  · rw [if_neg e, hf, trim_grow h g x, x.take]; rfl
end
section
variable {B : Sl → Hh → Rs} {T : Sl → Hh → R Bool} {t : Tg} {ks : List Nat} {x : D} {xs : List D} {δ δ1 δ2 : Sl} {h h1 h2 : Hh} {c n : Nat} {fs : List (Tx × D)} {gd : List (Nat × C)}
theorem lpG_err (e : gdOk h gd = true) (hp : putT t x δ = some δ1) (hB : B δ1 h = .err c fs δ2 h2) : lpF gd t ks B (x :: xs) δ h = .err c fs δ2 h2 := by
  show (if gdOk h gd = true then (match putT t x δ with
    | some δ' => _
    | none => _) else _) = _
  rw [if_pos e, hp]
  simp only
  rw [hB]
theorem lpW_err (hT : T δ h = .ok true h1) (hB : B δ h1 = .err c fs δ2 h2) : lpW T ks B (n + 1) δ h = .err c fs δ2 h2 := by
  show (T δ h).go δ _ = _
  rw [hT]
  simp only [s_go, if_true]
  rw [hB]
end
end Ivy

namespace Lk03
open Ivy
def end_of_l1 : List St := [.asg (.name 1) (.op .iadd [(.var 1), (.lit (.int 1))])]
def end_of : Fn := ⟨3, 3, [.whl (.and (.ex (.op .lt [(.var 1), (.op .len [(.var 0)])])) (.ex (.op .isIn [(.op .idx [(.var 0), (.var 1)]), (.var 2)]))) end_of_l1 [], .ret (.var 1)]⟩
def token_at : Fn := ⟨3, 5, [.ite (.ex (.op .isIn [(.op .idx [(.var 1), (.var 2)]), (.glob 2)])) [.asg (.name 3) (.lit (.str [119, 111, 114, 100])), .asg (.name 4) (.box (.call 0 [(.var 1), (.var 2), (.box (.op .add [(.glob 2), (.glob 1)]))] []))] [.ite (.ex (.op .isIn [(.op .idx [(.var 1), (.var 2)]), (.glob 1)])) [.asg (.name 3) (.lit (.str [110, 117, 109, 98, 101, 114])), .asg (.name 4) (.box (.call 0 [(.var 1), (.var 2), (.glob 1)] []))] [.ite (.ex (.op .isIn [(.op .idx [(.var 1), (.var 2)]), (.glob 3)])) [.asg (.name 3) (.lit (.str [115, 105, 103, 110])), .asg (.name 4) (.box (.op .add [(.var 2), (.lit (.int 1))]))] [.raise 6 [[108, 105, 110, 101], [112, 108, 97, 99, 101], [119, 111, 114, 100]] [(.var 0), (.box (.op .add [(.var 2), (.lit (.int 1))])), (.lit (.str [115, 105, 103, 110]))]]]], .ite (.ex (.op .gt [(.op .sub [(.var 4), (.var 2)]), (.glob 0)])) [.raise 6 [[108, 105, 110, 101], [112, 108, 97, 99, 101], [119, 111, 114, 100]] [(.var 0), (.box (.op .add [(.var 2), (.lit (.int 1))])), (.lit (.str [108, 111, 110, 103]))]] [], .ite (.and (.ex (.op .eq [(.var 3), (.lit (.str [110, 117, 109, 98, 101, 114]))])) (.and (.ex (.op .gt [(.op .sub [(.var 4), (.var 2)]), (.lit (.int 1))])) (.ex (.op .eq [(.op .idx [(.var 1), (.var 2)]), (.lit (.str [48]))])))) [.raise 6 [[108, 105, 110, 101], [112, 108, 97, 99, 101], [119, 111, 114, 100]] [(.var 0), (.box (.op .add [(.var 2), (.lit (.int 1))])), (.lit (.str [110, 117, 109, 98, 101, 114]))]] [], .ret (.op .tup [(.var 3), (.box (.op (.slice true true) [(.var 1), (.ck 0 (.var 2)), (.var 4)])), (.var 0), (.box (.op .add [(.var 2), (.lit (.int 1))]))])]⟩
def line_tokens_l1 : List St := [.asg (.name 4) (.box (.call 1 [(.var 0), (.var 1), (.var 3)] [])), .ex (.op .append [(.ck 1 (.var 2)), (.var 4)]), .asg (.name 3) (.box (.call 0 [(.var 1), (.box (.op .add [(.var 3), (.op .len [(.op .idx [(.var 4), (.lit (.int 1))])])])), (.lit (.str [32]))] []))]
def line_tokens : Fn := ⟨2, 5, [.asg (.name 2) (.box (.op .lst [])), .asg (.name 3) (.box (.call 0 [(.var 1), (.lit (.int 0)), (.lit (.str [32]))] [])), .whl (.and (.ex (.op .lt [(.var 3), (.op .len [(.var 1)])])) (.ex (.op .ne [(.op .idx [(.var 1), (.var 3)]), (.lit (.str [35]))]))) line_tokens_l1 [4], .ret (.var 2)]⟩
def tokens_of_l1 : List St := [.asg (.name 1) (.box (.op .add [(.var 1), (.call 2 [(.box (.op .add [(.var 2), (.lit (.int 1))])), (.var 3)] [])]))]
def tokens_of : Fn := ⟨1, 4, [.asg (.name 1) (.box (.op .lst [])), .for (.tup [(.name 2), (.name 3)]) (.enum (.op .split [(.ck 3 (.var 0)), (.lit (.str [10]))])) tokens_of_l1 [2, 3], .ret (.op .tuple [(.var 1)])]⟩
def _law_ink : Fn := ⟨1, 2, [.ret (.op .lst [(.box (.comp [1] (.name 1) (.seq (.op (.slice false true) [(.var 0), (.lit (.int 63))])) [] (.op .mod [(.op .abs [(.op .int [(.var 1)])]), (.op .shl [(.lit (.int 1)), (.lit (.int 2000))])]))), (.lit (.int 2)), (.lit (.int 104729))])]⟩
def _law_drop : Fn := ⟨2, 6, [.ex (.op .setItem [(.box (.op .add [(.op .idx [(.var 0), (.lit (.int 1))]), (.lit (.int 1))])), (.var 0), (.lit (.int 1))]), .asg (.name 2) (.op .idx [(.var 0), (.lit (.int 0))]), .asg (.name 3) (.box (.op .add [(.op .idx [(.var 0), (.lit (.int 2))]), (.op .mul [(.op .idx [(.var 0), (.lit (.int 1))]), (.lit (.int 99991))])])), .ite (.ex (.op .gt [(.op .len [(.var 2)]), (.lit (.int 0))])) [.asg (.name 4) (.op .mod [(.op .add [(.op .fdiv [(.op .idx [(.var 0), (.lit (.int 1))]), (.lit (.int 2))]), (.op .idx [(.var 0), (.lit (.int 1))])]), (.op .len [(.var 2)])]), .asg (.name 5) (.op .idx [(.var 2), (.var 4)]), .ite (.ex (.op .ge [(.var 5), (.op .pow [(.lit (.int 10)), (.lit (.int 18))])])) [.ex (.op .setItem [(.op .fdiv [(.var 5), (.var 1)]), (.var 2), (.var 4)]), .ret (.op .mod [(.op .int [(.var 5)]), (.var 1)])] [], .asg (.name 3) (.box (.op .add [(.var 3), (.op .mul [(.var 5), (.lit (.int 3))])]))] [], .ex (.op .setItem [(.op .mod [(.op .int [(.op .mul [(.var 3), (.op .add [(.op .fdiv [(.var 3), (.lit (.int 16381))]), (.lit (.int 3935559000370003845))])])]), (.lit (.int 2305843009213693951))]), (.var 0), (.lit (.int 2))]), .ret (.op .mod [(.op .fdiv [(.op .idx [(.var 0), (.lit (.int 2))]), (.lit (.int 1073741824))]), (.var 1)])]⟩
def _law_pick : Fn := ⟨2, 2, [.ret (.op .idx [(.var 1), (.call 5 [(.var 0), (.op .len [(.var 1)])] [])])]⟩
def _law_same_l1 : List St := [.ite (.not (.ex (.call 7 [(.op .idx [(.var 0), (.var 2)]), (.op .idx [(.var 1), (.var 2)])] []))) [.ret (.lit (.bl false))] []]
def _law_same : Fn := ⟨2, 3, [.ite (.ex (.op (.isi [.tuple]) [(.var 1)])) [.ite (.or (.not (.ex (.op (.isi [.tuple]) [(.var 0)]))) (.ex (.op .ne [(.op .len [(.var 0)]), (.op .len [(.var 1)])]))) [.ret (.lit (.bl false))] [], .for (.name 2) (.rng [(.op .len [(.var 1)])]) _law_same_l1 [2], .ret (.lit (.bl true))] [], .ite (.ex (.op (.isi [.str]) [(.var 1)])) [.ret (.and (.op (.isi [.str]) [(.var 0)]) (.op .eq [(.var 0), (.var 1)]))] [], .ite (.ex (.op (.isi [.bool]) [(.var 1)])) [.ret (.and (.op (.isi [.bool]) [(.var 0)]) (.op .eq [(.var 0), (.var 1)]))] [], .ret (.and (.op (.isi [.int]) [(.var 0)]) (.and (.not (.ex (.op (.isi [.bool]) [(.var 0)]))) (.op .eq [(.var 0), (.var 1)])))]⟩
def _law_small : Fn := ⟨0, 0, [.ret (.lit (.str [97, 98, 99, 100, 101, 102, 103, 104, 105, 106, 107, 108, 109, 110, 111, 112, 113, 114, 115, 116, 117, 118, 119, 120, 121, 122]))]⟩
def _law_figures : Fn := ⟨0, 0, [.ret (.lit (.str [48, 49, 50, 51, 52, 53, 54, 55, 56, 57]))]⟩
def _law_tokens_l1 : List St := [.asg (.name 5) (.box (.op .add [(.var 5), (.lit (.int 1))])), .asg (.name 9) (.or (.and (.op .eq [(.var 3), (.lit (.str [119, 111, 114, 100]))]) (.op .isIn [(.var 8), (.op .add [(.call 8 [] []), (.call 9 [] [])])])) (.and (.op .eq [(.var 3), (.lit (.str [110, 117, 109, 98, 101, 114]))]) (.op .isIn [(.var 8), (.call 9 [] [])]))), .ite (.ex (.var 9)) [.asg (.name 2) (.box (.op .add [(.var 2), (.var 8)])), .cont] [], .ite (.ex (.op .ne [(.var 3), (.lit (.str []))])) [.ite (.ex (.op .gt [(.op .len [(.var 2)]), (.lit (.int 12))])) [.ret (.op .add [(.op .add [(.op .tup [(.lit (.str [114, 97, 105, 115, 101, 100])), (.lit (.bl true))]), (.var 6)]), (.op .tup [(.lit (.str [108, 111, 110, 103]))])])] [], .ite (.and (.ex (.op .eq [(.var 3), (.lit (.str [110, 117, 109, 98, 101, 114]))])) (.and (.ex (.op .gt [(.op .len [(.var 2)]), (.lit (.int 1))])) (.ex (.op .eq [(.op .idx [(.var 2), (.lit (.int 0))]), (.lit (.str [48]))])))) [.ret (.op .add [(.op .add [(.op .tup [(.lit (.str [114, 97, 105, 115, 101, 100])), (.lit (.bl true))]), (.var 6)]), (.op .tup [(.lit (.str [110, 117, 109, 98, 101, 114]))])])] [], .ex (.op .append [(.ck 1 (.var 1)), (.box (.op .add [(.op .tup [(.var 3), (.var 2)]), (.var 6)]))]), .asg (.name 3) (.lit (.str []))] [], .ite (.ex (.op .eq [(.var 8), (.lit (.str [10]))])) [.asg (.tup [(.name 4), (.name 5), (.name 7)]) (.op .tup [(.box (.op .add [(.var 4), (.lit (.int 1))])), (.lit (.int 0)), (.lit (.bl false))])] [.ite (.or (.ex (.var 7)) (.ex (.op .eq [(.var 8), (.lit (.str [32]))]))) [.cont] [.ite (.ex (.op .eq [(.var 8), (.lit (.str [35]))])) [.asg (.name 7) (.lit (.bl true))] [.ite (.ex (.op .isIn [(.var 8), (.lit (.str [58, 59, 45, 123, 125]))])) [.ex (.op .append [(.ck 1 (.var 1)), (.op .tup [(.lit (.str [115, 105, 103, 110])), (.var 8), (.var 4), (.var 5)])])] [.ite (.ex (.op .isIn [(.var 8), (.call 8 [] [])])) [.asg (.tup [(.name 2), (.name 3), (.name 6)]) (.op .tup [(.var 8), (.lit (.str [119, 111, 114, 100])), (.op .tup [(.var 4), (.var 5)])])] [.ite (.ex (.op .isIn [(.var 8), (.call 9 [] [])])) [.asg (.tup [(.name 2), (.name 3), (.name 6)]) (.op .tup [(.var 8), (.lit (.str [110, 117, 109, 98, 101, 114])), (.op .tup [(.var 4), (.var 5)])])] [.ret (.op .tup [(.lit (.str [114, 97, 105, 115, 101, 100])), (.lit (.bl true)), (.var 4), (.var 5), (.lit (.str [115, 105, 103, 110]))])]]]]]]]
def _law_tokens : Fn := ⟨1, 10, [.asg (.name 1) (.box (.op .lst [])), .asg (.tup [(.name 2), (.name 3), (.name 4), (.name 5)]) (.op .tup [(.lit (.str [])), (.lit (.str [])), (.lit (.int 1)), (.lit (.int 0))]), .asg (.name 6) (.op .tup [(.lit (.int 1)), (.lit (.int 1))]), .asg (.name 7) (.lit (.bl false)), .for (.name 8) (.seq (.op .add [(.var 0), (.lit (.str [10]))])) _law_tokens_l1 [8, 9], .ret (.op .tup [(.lit (.str [116, 111, 108, 100])), (.op .tuple [(.var 1)])])]⟩
def _law_ask : Fn := ⟨2, 5, [.try [.asg (.name 2) (.box (.ifx (.ex (.var 1)) (.call 3 [(.var 0)] [0]) (.call 3 [(.var 0)] [])))] [.mk 6 (some 3) [.asg (.name 4) (.or (.op (.isX (.cls 7)) [(.var 3)]) (.or (.op (.isX (.cls 1)) [(.var 3)]) (.op (.isX (.cls 2)) [(.var 3)]))), .asg (.name 4) (.or (.var 4) (.or (.op (.isX (.cls 4)) [(.var 3)]) (.op (.isX (.cls 5)) [(.var 3)]))), .ret (.op .tup [(.lit (.str [114, 97, 105, 115, 101, 100])), (.and (.op (.isX (.cls 3)) [(.var 3)]) (.and (.op (.isX .verr) [(.var 3)]) (.not (.ex (.var 4))))), (.op (.getX [108, 105, 110, 101]) [(.var 3)]), (.op (.getX [112, 108, 97, 99, 101]) [(.var 3)]), (.op (.getX [119, 111, 114, 100]) [(.var 3)])])], .mk 0 none [.ret (.op .tup [(.lit (.str [114, 97, 105, 115, 101, 100])), (.lit (.bl false)), (.lit (.int 0)), (.lit (.int 0)), (.lit (.str []))])]], .ret (.op .tup [(.lit (.str [116, 111, 108, 100])), (.var 2)])]⟩
def _law_right : Fn := ⟨2, 2, [.ret (.call 7 [(.box (.call 11 [(.var 1), (.op .eq [(.call 5 [(.var 0), (.lit (.int 4))] []), (.lit (.int 0))])] [])), (.box (.call 10 [(.var 1)] []))] [])]⟩
def _law_word_l1 : List St := [.asg (.name 2) (.box (.op .add [(.var 2), (.call 6 [(.var 0), (.box (.op .add [(.call 8 [] []), (.call 9 [] [])]))] [])]))]
def _law_word : Fn := ⟨2, 4, [.asg (.name 2) (.box (.call 6 [(.var 0), (.box (.call 8 [] []))] [])), .for (.name 3) (.rng [(.op .sub [(.var 1), (.lit (.int 1))])]) _law_word_l1 [3], .ret (.var 2)]⟩
def _law_number_l1 : List St := [.asg (.name 2) (.box (.op .add [(.var 2), (.call 6 [(.var 0), (.box (.call 9 [] []))] [])]))]
def _law_number : Fn := ⟨2, 4, [.asg (.name 2) (.box (.call 6 [(.var 0), (.lit (.str [49, 50, 51, 52, 53, 54, 55, 56, 57]))] [])), .for (.name 3) (.rng [(.op .sub [(.var 1), (.lit (.int 1))])]) _law_number_l1 [3], .ret (.var 2)]⟩
def _law_odd : Fn := ⟨1, 1, [.ret (.call 6 [(.var 0), (.lit (.str [65, 66, 67, 68, 69, 70, 71, 72, 73, 74, 75, 76, 77, 78, 79, 80, 81, 82, 83, 84, 85, 86, 87, 88, 89, 90, 95, 33, 36, 38, 39, 40, 41, 42, 43, 44, 46, 47, 60, 61, 62, 63, 64, 91, 93, 94, 124, 126, 96, 34, 92, 9]))] [])]⟩
def _law_piece : Fn := ⟨1, 2, [.asg (.name 1) (.box (.call 5 [(.var 0), (.lit (.int 12))] [])), .ite (.ex (.op .lt [(.var 1), (.lit (.int 3))])) [.ret (.call 13 [(.var 0), (.box (.call 6 [(.var 0), (.box (.op .lst [(.lit (.int 1)), (.lit (.int 1)), (.lit (.int 2)), (.lit (.int 5)), (.lit (.int 11)), (.lit (.int 12))]))] []))] [])] [], .ite (.ex (.op .eq [(.var 1), (.lit (.int 3))])) [.ret (.call 14 [(.var 0), (.box (.call 6 [(.var 0), (.box (.op .lst [(.lit (.int 1)), (.lit (.int 1)), (.lit (.int 2)), (.lit (.int 6)), (.lit (.int 12))]))] []))] [])] [], .ite (.ex (.op .eq [(.var 1), (.lit (.int 4))])) [.ret (.call 6 [(.var 0), (.box (.op .lst [(.lit (.str [100, 101, 101, 100])), (.lit (.str [98, 121])), (.lit (.str [116, 111])), (.lit (.str [119, 111, 114, 100])), (.lit (.str [101, 105, 116, 104, 101, 114])), (.lit (.str [111, 114])), (.lit (.str [108, 111, 111, 112])), (.lit (.str [114, 101, 112, 101, 97, 116])), (.lit (.str [98, 97, 99, 107])), (.lit (.str [109, 97, 105, 110])), (.lit (.str [48]))]))] [])] [], .ite (.ex (.op .lt [(.var 1), (.lit (.int 7))])) [.ret (.call 6 [(.var 0), (.lit (.str [58, 59, 45, 123, 125]))] [])] [], .ite (.ex (.op .eq [(.var 1), (.lit (.int 7))])) [.ret (.call 6 [(.var 0), (.box (.op .lst [(.lit (.str [10])), (.lit (.str [10, 10])), (.lit (.str [32, 10])), (.lit (.str [10, 32, 32]))]))] [])] [], .ite (.ex (.op .eq [(.var 1), (.lit (.int 8))])) [.ret (.op .add [(.op .add [(.lit (.str [35])), (.call 6 [(.var 0), (.box (.op .lst [(.lit (.str [])), (.lit (.str [32])), (.lit (.str [48, 55, 32, 65])), (.lit (.str [123, 32, 35, 32, 125])), (.box (.call 15 [(.var 0)] []))]))] [])]), (.lit (.str [10]))])] [], .ret (.call 6 [(.var 0), (.box (.op .lst [(.lit (.str [32])), (.lit (.str [32])), (.lit (.str [32, 32])), (.lit (.str [32, 32, 32, 32, 32]))]))] [])]⟩
def _law_fault : Fn := ⟨1, 2, [.asg (.name 1) (.box (.call 5 [(.var 0), (.lit (.int 6))] [])), .ite (.ex (.op .lt [(.var 1), (.lit (.int 2))])) [.ret (.call 15 [(.var 0)] [])] [], .ite (.ex (.op .eq [(.var 1), (.lit (.int 2))])) [.ret (.call 13 [(.var 0), (.box (.call 6 [(.var 0), (.box (.op .lst [(.lit (.int 13)), (.lit (.int 13)), (.lit (.int 14)), (.lit (.int 30))]))] []))] [])] [], .ite (.ex (.op .eq [(.var 1), (.lit (.int 3))])) [.ret (.op .add [(.call 6 [(.var 0), (.lit (.str [48, 49, 50, 51, 52, 53, 54, 55, 56, 57]))] []), (.call 14 [(.var 0), (.box (.call 6 [(.var 0), (.box (.op .lst [(.lit (.int 12)), (.lit (.int 12)), (.lit (.int 13)), (.lit (.int 25))]))] []))] [])])] [], .ret (.op .add [(.lit (.str [48])), (.call 6 [(.var 0), (.box (.op .lst [(.lit (.str [48])), (.lit (.str [55])), (.lit (.str [48, 48])), (.lit (.str [49, 50, 51, 52, 53, 54, 55, 56, 57, 48, 49])), (.lit (.str [48, 97])), (.lit (.str [49, 98])), (.lit (.str [49, 50, 51, 52, 53, 54, 55, 56, 57, 48, 49, 50]))]))] [])])]⟩
def _law_pieces_l1 : List St := [.asg (.name 2) (.box (.op .add [(.op .add [(.var 2), (.call 16 [(.var 0)] [])]), (.call 6 [(.var 0), (.box (.op .lst [(.lit (.str [])), (.lit (.str [])), (.lit (.str [32])), (.lit (.str [10]))]))] [])]))]
def _law_pieces : Fn := ⟨2, 4, [.asg (.name 2) (.lit (.str [])), .for (.name 3) (.rng [(.var 1)]) _law_pieces_l1 [3], .ret (.var 2)]⟩
def _law_drawn : Fn := ⟨2, 4, [.asg (.name 2) (.box (.op .add [(.lit (.str [97, 98, 122, 48, 57, 32, 10, 35, 58, 59, 45, 123, 125])), (.call 6 [(.var 0), (.box (.op .lst [(.lit (.str [])), (.lit (.str [])), (.lit (.str [65])), (.lit (.str [48])), (.lit (.str [48, 48, 32, 32])), (.lit (.str [10, 10]))]))] [])])), .ret (.op .join [(.ck 3 (.lit (.str []))), (.comp [3] (.name 3) (.rng [(.var 1)]) [] (.box (.call 6 [(.var 0), (.var 2)] [])))])]⟩
def _law_spoilt_ok_l1 : List St := [.ite (.not (.ex (.call 12 [(.var 0), (.box (.op .add [(.op .add [(.var 1), (.var 6)]), (.var 2)]))] []))) [.ret (.lit (.bl false))] []]
def _law_spoilt_ok_l2 : List St := [.ite (.not (.ex (.call 12 [(.var 0), (.box (.op .add [(.op .add [(.var 1), (.var 7)]), (.var 2)]))] []))) [.ret (.lit (.bl false))] []]
def _law_spoilt_ok : Fn := ⟨1, 8, [.asg (.name 1) (.box (.op .add [(.call 18 [(.var 0), (.box (.call 5 [(.var 0), (.lit (.int 6))] []))] []), (.call 6 [(.var 0), (.box (.op .lst [(.lit (.str [32])), (.lit (.str [10])), (.lit (.str [59]))]))] [])])), .asg (.name 2) (.box (.op .add [(.call 6 [(.var 0), (.box (.op .lst [(.lit (.str [32])), (.lit (.str [10])), (.lit (.str [59]))]))] []), (.call 18 [(.var 0), (.box (.call 5 [(.var 0), (.lit (.int 4))] []))] [])])), .asg (.name 3) (.box (.call 13 [(.var 0), (.lit (.int 13))] [])), .asg (.name 4) (.box (.call 14 [(.var 0), (.lit (.int 13))] [])), .asg (.name 5) (.box (.op .lst [(.var 3), (.var 4), (.box (.op .add [(.lit (.str [48])), (.var 4)])), (.box (.op .add [(.lit (.str [48])), (.call 14 [(.var 0), (.lit (.int 1))] [])])), (.box (.call 15 [(.var 0)] [])), (.box (.call 17 [(.var 0)] [])), (.lit (.str [48, 48])), (.box (.op .mul [(.lit (.str [48])), (.lit (.int 13))]))])), .for (.name 6) (.seq (.var 5)) _law_spoilt_ok_l1 [6], .ite (.not (.ex (.call 12 [(.var 0), (.box (.op .add [(.op .add [(.op .add [(.var 1), (.call 17 [(.var 0)] [])]), (.var 2)]), (.call 17 [(.var 0)] [])]))] []))) [.ret (.lit (.bl false))] [], .for (.name 7) (.seq (.op .lst [(.box (.op (.slice false true) [(.var 3), (.lit (.int 12))])), (.box (.op (.slice false true) [(.var 4), (.lit (.int 12))])), (.box (.op .add [(.op (.slice false true) [(.var 4), (.lit (.int 12))]), (.op (.slice false true) [(.var 3), (.lit (.int 12))])])), (.box (.op .add [(.op .add [(.op (.slice false true) [(.var 3), (.lit (.int 12))]), (.lit (.str [59]))]), (.op (.slice false true) [(.var 4), (.lit (.int 12))])])), (.box (.op .add [(.lit (.str [48])), (.op (.slice false true) [(.var 3), (.lit (.int 12))])])), (.lit (.str [48, 32, 48, 45, 48]))])) _law_spoilt_ok_l2 [7], .ret (.lit (.bl true))]⟩
def _law_known_l1 : List St := [.ite (.not (.ex (.call 7 [(.box (.call 11 [(.box (.op .add [(.op .add [(.var 4), (.lit (.str [10, 32]))]), (.var 7)])), (.lit (.bl true))] [])), (.op .tup [(.lit (.str [114, 97, 105, 115, 101, 100])), (.lit (.bl true)), (.lit (.int 4)), (.lit (.int 2)), (.var 8)])] []))) [.ret (.lit (.bl false))] [], .ite (.not (.ex (.call 7 [(.box (.call 11 [(.box (.op .add [(.op .add [(.var 4), (.lit (.str [10, 32, 35]))]), (.var 7)])), (.lit (.bl false))] [])), (.op .tup [(.lit (.str [116, 111, 108, 100])), (.op .tuple [(.var 6)])])] []))) [.ret (.lit (.bl false))] []]
def _law_known_l2 : List St := [.ite (.not (.ex (.call 7 [(.box (.call 11 [(.var 4), (.op .eq [(.call 5 [(.var 0), (.lit (.int 2))] []), (.lit (.int 0))])] [])), (.op .tup [(.lit (.str [116, 111, 108, 100])), (.op .tup [])])] []))) [.ret (.lit (.bl false))] []]
def _law_known : Fn := ⟨1, 9, [.asg (.name 1) (.box (.call 14 [(.var 0), (.lit (.int 3))] [])), .asg (.name 2) (.box (.call 13 [(.var 0), (.lit (.int 4))] [])), .asg (.name 3) (.box (.op .mul [(.lit (.str [32])), (.call 5 [(.var 0), (.lit (.int 5))] [])])), .asg (.name 4) (.box (.op .add [(.op .add [(.op .add [(.op .add [(.op .add [(.op .add [(.op .add [(.op .add [(.op .add [(.op .add [(.op .add [(.var 3), (.var 2)]), (.lit (.str [58, 45]))]), (.var 1)]), (.lit (.str [35, 32]))]), (.var 2)]), (.lit (.str [10, 10]))]), (.var 3)]), (.lit (.str [123]))]), (.var 1)]), (.var 2)]), (.lit (.str [125]))])), .asg (.name 5) (.op .len [(.var 3)]), .asg (.name 6) (.box (.op .lst [(.op .tup [(.lit (.str [119, 111, 114, 100])), (.var 2), (.lit (.int 1)), (.box (.op .add [(.var 5), (.lit (.int 1))]))]), (.op .tup [(.lit (.str [115, 105, 103, 110])), (.lit (.str [58])), (.lit (.int 1)), (.box (.op .add [(.var 5), (.lit (.int 5))]))]), (.op .tup [(.lit (.str [115, 105, 103, 110])), (.lit (.str [45])), (.lit (.int 1)), (.box (.op .add [(.var 5), (.lit (.int 6))]))]), (.op .tup [(.lit (.str [110, 117, 109, 98, 101, 114])), (.var 1), (.lit (.int 1)), (.box (.op .add [(.var 5), (.lit (.int 7))]))])])), .asg (.name 6) (.box (.op .add [(.var 6), (.op .lst [(.op .tup [(.lit (.str [115, 105, 103, 110])), (.lit (.str [123])), (.lit (.int 3)), (.box (.op .add [(.var 5), (.lit (.int 1))]))]), (.op .tup [(.lit (.str [110, 117, 109, 98, 101, 114])), (.var 1), (.lit (.int 3)), (.box (.op .add [(.var 5), (.lit (.int 2))]))]), (.op .tup [(.lit (.str [119, 111, 114, 100])), (.var 2), (.lit (.int 3)), (.box (.op .add [(.var 5), (.lit (.int 5))]))]), (.op .tup [(.lit (.str [115, 105, 103, 110])), (.lit (.str [125])), (.lit (.int 3)), (.box (.op .add [(.var 5), (.lit (.int 9))]))])])])), .ite (.not (.ex (.call 7 [(.box (.call 11 [(.var 4), (.lit (.bl false))] [])), (.op .tup [(.lit (.str [116, 111, 108, 100])), (.op .tuple [(.var 6)])])] []))) [.ret (.lit (.bl false))] [], .for (.tup [(.name 7), (.name 8)]) (.seq (.op .lst [(.op .tup [(.box (.call 15 [(.var 0)] [])), (.lit (.str [115, 105, 103, 110]))]), (.op .tup [(.lit (.str [9])), (.lit (.str [115, 105, 103, 110]))]), (.op .tup [(.lit (.str [65])), (.lit (.str [115, 105, 103, 110]))]), (.op .tup [(.box (.op .add [(.lit (.str [48])), (.var 1)])), (.lit (.str [110, 117, 109, 98, 101, 114]))]), (.op .tup [(.box (.op .mul [(.var 2), (.lit (.int 4))])), (.lit (.str [108, 111, 110, 103]))]), (.op .tup [(.box (.op .mul [(.lit (.str [48])), (.lit (.int 14))])), (.lit (.str [108, 111, 110, 103]))])])) _law_known_l1 [7, 8], .for (.name 4) (.seq (.op .lst [(.lit (.str [])), (.lit (.str [32])), (.lit (.str [10])), (.lit (.str [35])), (.lit (.str [35, 32, 97, 10])), (.lit (.str [32, 10, 32, 35, 48, 55]))])) _law_known_l2 [4], .ret (.lit (.bl true))]⟩
def _law_long : Fn := ⟨1, 3, [.asg (.name 1) (.box (.op .add [(.call 18 [(.var 0), (.lit (.int 3))] []), (.call 6 [(.var 0), (.box (.op .lst [(.lit (.str [10])), (.lit (.str [32])), (.box (.op .mul [(.lit (.str [123, 125, 59, 58, 45])), (.lit (.int 20))]))]))] [])])), .asg (.name 2) (.box (.op .mul [(.var 1), (.op .fdiv [(.op .sub [(.lit (.int 19900)), (.lit (.int 60))]), (.op .len [(.var 1)])])])), .ret (.and (.call 12 [(.var 0), (.var 2)] []) (.call 12 [(.var 0), (.box (.op .add [(.op .add [(.op (.slice false true) [(.var 2), (.op .add [(.call 5 [(.var 0), (.op .len [(.var 2)])] []), (.lit (.int 1))])]), (.lit (.str [59]))]), (.call 17 [(.var 0)] [])]))] []))]⟩
def law_l1 : List St := [.ite (.not (.ex (.call 12 [(.var 1), (.box (.call 18 [(.var 1), (.box (.op .add [(.lit (.int 2)), (.call 5 [(.var 1), (.lit (.int 14))] [])]))] []))] []))) [.ret (.lit (.bl false))] [], .ite (.not (.ex (.call 12 [(.var 1), (.box (.call 19 [(.var 1), (.box (.op .add [(.lit (.int 1)), (.call 5 [(.var 1), (.lit (.int 30))] [])]))] []))] []))) [.ret (.lit (.bl false))] []]
def law : Fn := ⟨1, 4, [.asg (.name 1) (.box (.call 4 [(.var 0)] [])), .asg (.name 2) (.box (.call 5 [(.var 1), (.lit (.int 11))] [])), .for (.name 3) (.rng [(.lit (.int 5))]) law_l1 [3], .ite (.or (.not (.ex (.call 20 [(.var 1)] []))) (.not (.ex (.call 21 [(.var 1)] [])))) [.ret (.lit (.bl false))] [], .ret (.or (.and (.op .ne [(.var 2), (.lit (.int 5))]) (.op .ne [(.var 2), (.lit (.int 8))])) (.call 22 [(.var 1)] []))]⟩

def cs : Nat → D := fun k => match k with
  | 0 => (.int 12)
  | 1 => (.str [48, 49, 50, 51, 52, 53, 54, 55, 56, 57])
  | 2 => (.str [97, 98, 99, 100, 101, 102, 103, 104, 105, 106, 107, 108, 109, 110, 111, 112, 113, 114, 115, 116, 117, 118, 119, 120, 121, 122])
  | 3 => (.str [58, 59, 45, 123, 125])
  | _ => .non
def sub : Nat → Nat → Bool := fun c d => match c, d with
  | 0, 0 => true
  | 1, 0 => true
  | 1, 1 => true
  | 2, 0 => true
  | 2, 2 => true
  | 3, 0 => true
  | 3, 3 => true
  | 4, 0 => true
  | 4, 1 => true
  | 4, 4 => true
  | 5, 0 => true
  | 5, 1 => true
  | 5, 5 => true
  | 6, 0 => true
  | 6, 3 => true
  | 6, 6 => true
  | 7, 0 => true
  | 7, 3 => true
  | 7, 7 => true
  | 0, 1000 => true
  | 1, 1000 => true
  | 2, 1000 => true
  | 3, 1000 => true
  | 4, 1000 => true
  | 5, 1000 => true
  | 6, 1000 => true
  | 7, 1000 => true
  | _, _ => false
def fns : List Fn := [end_of, token_at, line_tokens, tokens_of, _law_ink, _law_drop, _law_pick, _law_same, _law_small, _law_figures, _law_tokens, _law_ask, _law_right, _law_word, _law_number, _law_odd, _law_piece, _law_fault, _law_pieces, _law_drawn, _law_spoilt_ok, _law_known, _law_long, law]
def Pr (w : Nat) : Pg := ⟨fns, cs, sub, w⟩
def gk (w n : Nat) : G := ⟨callF (Pr w) n, cs, sub, w⟩
@[simp] theorem gk_fn {w n : Nat} : (gk w n).fn = callF (Pr w) n := rfl
@[simp] theorem gk_w {w n : Nat} : (gk w n).w = w := rfl
@[simp] theorem gk_sub {w n : Nat} : (gk w n).sub = sub := rfl
@[simp] theorem gk_cs {w n : Nat} : (gk w n).cs = cs := rfl
theorem u0 {w n : Nat} {ds : List D} {h : Hh} : callF (Pr w) (n + 1) 0 ds h = runF (gk w n) end_of ds h := rfl
theorem u1 {w n : Nat} {ds : List D} {h : Hh} : callF (Pr w) (n + 1) 1 ds h = runF (gk w n) token_at ds h := rfl
theorem u2 {w n : Nat} {ds : List D} {h : Hh} : callF (Pr w) (n + 1) 2 ds h = runF (gk w n) line_tokens ds h := rfl
theorem u3 {w n : Nat} {ds : List D} {h : Hh} : callF (Pr w) (n + 1) 3 ds h = runF (gk w n) tokens_of ds h := rfl
theorem u4 {w n : Nat} {ds : List D} {h : Hh} : callF (Pr w) (n + 1) 4 ds h = runF (gk w n) _law_ink ds h := rfl
theorem u5 {w n : Nat} {ds : List D} {h : Hh} : callF (Pr w) (n + 1) 5 ds h = runF (gk w n) _law_drop ds h := rfl
theorem u6 {w n : Nat} {ds : List D} {h : Hh} : callF (Pr w) (n + 1) 6 ds h = runF (gk w n) _law_pick ds h := rfl
theorem u7 {w n : Nat} {ds : List D} {h : Hh} : callF (Pr w) (n + 1) 7 ds h = runF (gk w n) _law_same ds h := rfl
theorem u8 {w n : Nat} {ds : List D} {h : Hh} : callF (Pr w) (n + 1) 8 ds h = runF (gk w n) _law_small ds h := rfl
theorem u9 {w n : Nat} {ds : List D} {h : Hh} : callF (Pr w) (n + 1) 9 ds h = runF (gk w n) _law_figures ds h := rfl
theorem u10 {w n : Nat} {ds : List D} {h : Hh} : callF (Pr w) (n + 1) 10 ds h = runF (gk w n) _law_tokens ds h := rfl
theorem u11 {w n : Nat} {ds : List D} {h : Hh} : callF (Pr w) (n + 1) 11 ds h = runF (gk w n) _law_ask ds h := rfl
theorem u12 {w n : Nat} {ds : List D} {h : Hh} : callF (Pr w) (n + 1) 12 ds h = runF (gk w n) _law_right ds h := rfl
theorem u13 {w n : Nat} {ds : List D} {h : Hh} : callF (Pr w) (n + 1) 13 ds h = runF (gk w n) _law_word ds h := rfl
theorem u14 {w n : Nat} {ds : List D} {h : Hh} : callF (Pr w) (n + 1) 14 ds h = runF (gk w n) _law_number ds h := rfl
theorem u15 {w n : Nat} {ds : List D} {h : Hh} : callF (Pr w) (n + 1) 15 ds h = runF (gk w n) _law_odd ds h := rfl
theorem u16 {w n : Nat} {ds : List D} {h : Hh} : callF (Pr w) (n + 1) 16 ds h = runF (gk w n) _law_piece ds h := rfl
theorem u17 {w n : Nat} {ds : List D} {h : Hh} : callF (Pr w) (n + 1) 17 ds h = runF (gk w n) _law_fault ds h := rfl
theorem u18 {w n : Nat} {ds : List D} {h : Hh} : callF (Pr w) (n + 1) 18 ds h = runF (gk w n) _law_pieces ds h := rfl
theorem u19 {w n : Nat} {ds : List D} {h : Hh} : callF (Pr w) (n + 1) 19 ds h = runF (gk w n) _law_drawn ds h := rfl
theorem u20 {w n : Nat} {ds : List D} {h : Hh} : callF (Pr w) (n + 1) 20 ds h = runF (gk w n) _law_spoilt_ok ds h := rfl
theorem u21 {w n : Nat} {ds : List D} {h : Hh} : callF (Pr w) (n + 1) 21 ds h = runF (gk w n) _law_known ds h := rfl
theorem u22 {w n : Nat} {ds : List D} {h : Hh} : callF (Pr w) (n + 1) 22 ds h = runF (gk w n) _law_long ds h := rfl
theorem u23 {w n : Nat} {ds : List D} {h : Hh} : callF (Pr w) (n + 1) 23 ds h = runF (gk w n) law ds h := rfl
end Lk03

namespace Lk03
open Ivy
/-! ### plain: what the tokens are -/
def sm : Tx := [97, 98, 99, 100, 101, 102, 103, 104, 105, 106, 107, 108, 109, 110, 111, 112, 113, 114, 115, 116, 117, 118, 119, 120, 121, 122]
def fg : Tx := [48, 49, 50, 51, 52, 53, 54, 55, 56, 57]
def sg : Tx := [58, 59, 45, 123, 125]
theorem sm_len : sm.length = 26 := rfl
theorem fg_len : fg.length = 10 := rfl
abbrev wWord : Tx := [119, 111, 114, 100]
abbrev wNumber : Tx := [110, 117, 109, 98, 101, 114]
abbrev wSign : Tx := [115, 105, 103, 110]
abbrev wLong : Tx := [108, 111, 110, 103]
abbrev wLine : Tx := [108, 105, 110, 101]
abbrev wPlace : Tx := [112, 108, 97, 99, 101]
structure Tok where
  k : Tx
  w : Tx
  l : Int
  p : Int
structure Er where
  l : Int
  p : Int
  w : Tx
def tokD (t : Tok) : D := .tup [.str t.k, .str t.w, .int t.l, .int t.p]
def erF (e : Er) : List (Tx × D) := [(wLine, .int e.l), (wPlace, .int e.p), (wWord, .str e.w)]
abbrev Rz := Except Er (List Tok)
def many (y s : Tx) : Nat := (s.takeWhile fun c => decide (c ∈ y)).length
/-- the token that begins with the first sign -/
def tokR (l p : Int) : Tx → Except Er Tok
  | [] => .error ⟨0, 0, []⟩
  | c :: r => if c ∈ sm then (if 12 < many (sm ++ fg) (c :: r) then .error ⟨l, p + 1, wLong⟩ else .ok ⟨wWord, (c :: r).take (many (sm ++ fg) (c :: r)), l, p + 1⟩)
    else if c ∈ fg then (if 12 < many fg (c :: r) then .error ⟨l, p + 1, wLong⟩ else if 1 < many fg (c :: r) ∧ c = 48 then .error ⟨l, p + 1, wNumber⟩ else .ok ⟨wNumber, (c :: r).take (many fg (c :: r)), l, p + 1⟩)
    else if c ∈ sg then .ok ⟨wSign, [c], l, p + 1⟩ else .error ⟨l, p + 1, wSign⟩
theorem tokR_cons (l p : Int) (c : Nat) (r : Tx) : tokR l p (c :: r) = if c ∈ sm then (if 12 < many (sm ++ fg) (c :: r) then .error ⟨l, p + 1, wLong⟩ else .ok ⟨wWord, (c :: r).take (many (sm ++ fg) (c :: r)), l, p + 1⟩)
    else if c ∈ fg then (if 12 < many fg (c :: r) then .error ⟨l, p + 1, wLong⟩ else if 1 < many fg (c :: r) ∧ c = 48 then .error ⟨l, p + 1, wNumber⟩ else .ok ⟨wNumber, (c :: r).take (many fg (c :: r)), l, p + 1⟩)
    else if c ∈ sg then .ok ⟨wSign, [c], l, p + 1⟩ else .error ⟨l, p + 1, wSign⟩ := rfl
def lineR (l : Int) : Nat → Int → Tx → Rz
  | 0, _, _ => .ok []
  | _ + 1, _, [] => .ok []
  | k + 1, p, c :: r => if c = 35 then .ok [] else match tokR l p (c :: r) with
    | .error e => .error e
    | .ok t => match lineR l k (p + t.w.length + many [32] ((c :: r).drop t.w.length)) (((c :: r).drop t.w.length).drop (many [32] ((c :: r).drop t.w.length))) with
      | .error e => .error e
      | .ok ts => .ok (t :: ts)
theorem lineR_35 {l p : Int} {k c : Nat} {r : Tx} (h : c = 35) : lineR l (k + 1) p (c :: r) = .ok [] := by unfold lineR; rw [if_pos h]
theorem lineR_e {l p : Int} {k c : Nat} {r : Tx} {e : Er} (h : ¬ c = 35) (q : tokR l p (c :: r) = .error e) : lineR l (k + 1) p (c :: r) = .error e := by unfold lineR; rw [if_neg h, q]
theorem lineR_te {l p : Int} {k c : Nat} {r : Tx} {e : Er} {t : Tok} (h : ¬ c = 35) (q : tokR l p (c :: r) = .ok t) (q2 : lineR l k (p + t.w.length + many [32] ((c :: r).drop t.w.length)) (((c :: r).drop t.w.length).drop (many [32] ((c :: r).drop t.w.length))) = .error e) : lineR l (k + 1) p (c :: r) = .error e := by unfold lineR; rw [if_neg h, q]; simp only; rw [q2]
theorem lineR_tt {l p : Int} {k c : Nat} {r : Tx} {ts : List Tok} {t : Tok} (h : ¬ c = 35) (q : tokR l p (c :: r) = .ok t) (q2 : lineR l k (p + t.w.length + many [32] ((c :: r).drop t.w.length)) (((c :: r).drop t.w.length).drop (many [32] ((c :: r).drop t.w.length))) = .ok ts) : lineR l (k + 1) p (c :: r) = .ok (t :: ts) := by unfold lineR; rw [if_neg h, q]; simp only; rw [q2]
def lineT (l : Int) (L : Tx) : Rz := lineR l L.length (many [32] L) (L.drop (many [32] L))
def linesR : Int → List Tx → Rz
  | _, [] => .ok []
  | l, L :: Ls => match lineT l L with
    | .error e => .error e
    | .ok ts => match linesR (l + 1) Ls with
      | .error e => .error e
      | .ok us => .ok (ts ++ us)
theorem many_nil (y : Tx) : many y [] = 0 := rfl
theorem many_in {y : Tx} {c : Nat} {r : Tx} (h : c ∈ y) : many y (c :: r) = many y r + 1 := by simp [many, List.takeWhile_cons, h]
theorem many_out {y : Tx} {c : Nat} {r : Tx} (h : ¬ c ∈ y) : many y (c :: r) = 0 := by simp [many, List.takeWhile_cons, h]
theorem many_le (y s : Tx) : many y s ≤ s.length := tw_le _ s
/-! ### the walk: end_of, token_at -/
@[simp] theorem cs0 : cs 0 = .int 12 := rfl
@[simp] theorem cs1 : cs 1 = .str fg := rfl
@[simp] theorem cs2 : cs 2 = .str sm := rfl
@[simp] theorem cs3 : cs 3 = .str sg := rfl
theorem small_ok {w n : Nat} {h : Hh} : callF (Pr w) (n + 1) 8 [] h = .ok (.str sm) h := by
  rw [u8]; simp [runF, _law_small, startS, evSs, evS, evE, sm]
theorem figs_ok {w n : Nat} {h : Hh} : callF (Pr w) (n + 1) 9 [] h = .ok (.str fg) h := by
  rw [u9]; simp [runF, _law_figures, startS, evSs, evS, evE, fg]
theorem end_lp {w n : Nat} {h : Hh} {L y : Tx} (hl : L.length ≤ 16777216) : ∀ (s u : Tx) (f : Nat), u ++ s = L → s.length < f →
    lpW (evT (gk w n) (.and (.ex (.op .lt [(.var 1), (.op .len [(.var 0)])])) (.ex (.op .isIn [(.op .idx [(.var 0), (.var 1)]), (.var 2)])))) [] (evSs (gk w n) end_of_l1) f [some (.str L), some (.int u.length), some (.str y)] h = .nx [some (.str L), some (.int (u.length + many y s)), some (.str y)] h
  | [], u, f, e, hf => by
    obtain ⟨f, rfl⟩ : ∃ k, f = k + 1 := ⟨f - 1, by omega⟩
    have e2 : L.length = u.length := by rw [← e]; simp
    have hu : u.length ≤ 16777216 := by omega
    rw [lpW_end (h1 := h) (by simp [evT, evE, evEs, hu, e2])]
    simp [many_nil]
  | c :: s, u, f, e, hf => by
    obtain ⟨f, rfl⟩ : ∃ k, f = k + 1 := ⟨f - 1, by omega⟩
    have e2 : L.length = u.length + (s.length + 1) := by rw [← e]; simp
    have ea : atP L (u.length : Int) = some c := by rw [← e]; exact atP_app
    have lt : (u.length : Int) < (L.length : Int) := by omega
    by_cases m : c ∈ y
    · rw [lpW_go (h1 := h) (h2 := h) (δ2 := [some (.str L), some (.int (u.length + 1)), some (.str y)]) (by simp [evT, evE, evEs, hl, lt, ea, m]) (by simp [end_of_l1, evSs, evS, evE, evEs])]
      have ih := end_lp (w := w) (n := n) (h := h) (y := y) hl s (u ++ [c]) f (by simp [e]) (by simp at hf; omega)
      simp only [List.length_append, List.length_cons, List.length_nil] at ih
      rw [wipe0, many_in m]
      have a1 : ((u.length + (0 + 1) : Nat) : Int) = (u.length : Int) + 1 := by omega
      have a2 : (u.length : Int) + ((many y s + 1 : Nat) : Int) = (u.length : Int) + 1 + (many y s : Int) := by omega
      rw [a1] at ih
      rw [a2]
      exact ih
    · rw [lpW_end (h1 := h) (by simp [evT, evE, evEs, hl, lt, ea, m]), many_out m]
      simp
theorem end_ok {w n : Nat} {h : Hh} {y s u : Tx} (hl : (u ++ s).length ≤ 16777216) (hw : 16777217 ≤ w) : callF (Pr w) (n + 1) 0 [.str (u ++ s), .int u.length, .str y] h = .ok (.int (u.length + many y s)) h := by
  have lp := end_lp (w := w) (n := n) (h := h) (y := y) hl s u w rfl (by simp at hl; omega)
  rw [u0]
  simp [runF, end_of, startS, evSs, evS, evE, lp]
theorem token_ok {w n : Nat} {h : Hh} {c : Nat} {r u : Tx} {l : Int} (hl : (u ++ c :: r).length ≤ 16777216) (hw : 16777217 ≤ w) : callF (Pr w) (n + 2) 1 [.int l, .str (u ++ c :: r), .int u.length] h = match tokR l u.length (c :: r) with
    | .ok t => .ok (tokD t) h
    | .error e => .err 6 (erF e) h := by
  have ea : atP (u ++ c :: r) (u.length : Int) = some c := atP_app
  have e1 := end_ok (w := w) (n := n) (h := h) (y := sm ++ fg) hl hw
  have e2 := end_ok (w := w) (n := n) (h := h) (y := fg) hl hw
  have c1 := cut_app (w := u) (r := c :: r) (many (sm ++ fg) (c :: r)) (many_le _ _)
  have c2 := cut_app (w := u) (r := c :: r) (many fg (c :: r)) (many_le _ _)
  have c3 := cut_app (w := u) (r := c :: r) 1 (by simp)
  rw [show ((u.length : Int) + ((1 : Nat) : Int)) = (u.length : Int) + 1 from rfl] at c3
  have hl2 := hl
  simp only [List.length_append] at hl2
  generalize hL : u ++ c :: r = L at *
  generalize hp : (u.length : Int) = p at *
  have d1 : ∀ k : Int, p + k - p = k := fun k => by omega
  rw [u1, tokR_cons]
  by_cases m1 : c ∈ sm
  · rw [if_pos m1]
    generalize many (sm ++ fg) (c :: r) = m at *
    have t : ((12 : Int) < (m : Int)) ↔ 12 < m := by omega
    by_cases q : 12 < m
    · simp [runF, token_at, startS, evSs, evS, evE, evEs, evT, hl, ea, m1, sm_len, fg_len, e1, d1, t, q, erF]
    · simp [runF, token_at, startS, evSs, evS, evE, evEs, evT, hl, ea, m1, sm_len, fg_len, e1, d1, t, q, erF, ckR, c1, tokD]
  · rw [if_neg m1]
    by_cases m2 : c ∈ fg
    · rw [if_pos m2]
      generalize many fg (c :: r) = m at *
      have t : ((12 : Int) < (m : Int)) ↔ 12 < m := by omega
      have t1 : ((1 : Int) < (m : Int)) ↔ 1 < m := by omega
      by_cases q : 12 < m
      · simp [runF, token_at, startS, evSs, evS, evE, evEs, evT, hl, ea, m1, m2, sm_len, fg_len, e2, d1, t, q, erF]
      · by_cases q1 : 1 < m
        · by_cases q2 : c = 48
          · subst q2
            simp [runF, token_at, startS, evSs, evS, evE, evEs, evT, hl, ea, m1, m2, sm_len, fg_len, e2, d1, t, t1, q, q1, erF]
          · simp [runF, token_at, startS, evSs, evS, evE, evEs, evT, hl, ea, m1, m2, sm_len, fg_len, e2, d1, t, t1, q, q1, q2, erF, ckR, c2, tokD]
        · simp [runF, token_at, startS, evSs, evS, evE, evEs, evT, hl, ea, m1, m2, sm_len, fg_len, e2, d1, t, t1, q, q1, erF, ckR, c2, tokD]
    · rw [if_neg m2]
      by_cases m3 : c ∈ sg
      · simp [runF, token_at, startS, evSs, evS, evE, evEs, evT, hl, ea, m1, m2, m3, d1, ckR, c3, tokD]
      · simp [runF, token_at, startS, evSs, evS, evE, evEs, evT, hl, ea, m1, m2, m3, erF]
end Lk03

namespace Lk03
open Ivy
/-! ### line_tokens, tokens_of -/
theorem many_tw {y s : Tx} : s.take (many y s) = s.takeWhile fun c => decide (c ∈ y) := take_tw _ _
theorem tok_len {l p : Int} {c : Nat} {r : Tx} {t : Tok} (e : tokR l p (c :: r) = .ok t) : ∃ k, 1 ≤ k ∧ k ≤ (c :: r).length ∧ t.w = (c :: r).take k ∧ t.w.length = k := by
  rw [tokR_cons] at e
  by_cases m1 : c ∈ sm
  · rw [if_pos m1] at e
    by_cases q : 12 < many (sm ++ fg) (c :: r)
    · rw [if_pos q] at e; cases e
    · rw [if_neg q] at e
      cases e
      have := many_le (sm ++ fg) (c :: r)
      exact ⟨many (sm ++ fg) (c :: r), by rw [many_in (by simp [m1])]; omega, this, rfl, by rw [List.length_take]; omega⟩
  · rw [if_neg m1] at e
    by_cases m2 : c ∈ fg
    · rw [if_pos m2] at e
      by_cases q : 12 < many fg (c :: r)
      · rw [if_pos q] at e; cases e
      · rw [if_neg q] at e
        by_cases q1 : 1 < many fg (c :: r) ∧ c = 48
        · rw [if_pos q1] at e; cases e
        · rw [if_neg q1] at e
          cases e
          have := many_le fg (c :: r)
          exact ⟨many fg (c :: r), by rw [many_in m2]; omega, this, rfl, by rw [List.length_take]; omega⟩
    · rw [if_neg m2] at e
      by_cases m3 : c ∈ sg
      · rw [if_pos m3] at e
        cases e
        exact ⟨1, Nat.le_refl _, by simp, rfl, rfl⟩
      · rw [if_neg m3] at e; cases e
theorem line_lp {w n : Nat} {L : Tx} {l : Int} (hl : L.length ≤ 16777216) (hw : 16777217 ≤ w) {r : Nat} : ∀ (k : Nat) (s u : Tx) (f : Nat) (acc : List Tok) (h : Hh), u ++ s = L → s.length ≤ k → k < f → h[r]? = some (.lst (acc.map tokD)) → acc.length + s.length < 16777216 →
    (∀ ts, lineR l k u.length s = .ok ts → ts.length ≤ s.length ∧ ∃ p', lpW (evT (gk w (n + 2)) (.and (.ex (.op .lt [(.var 3), (.op .len [(.var 1)])])) (.ex (.op .ne [(.op .idx [(.var 1), (.var 3)]), (.lit (.str [35]))])))) [4] (evSs (gk w (n + 2)) line_tokens_l1) f [some (.int l), some (.str L), some (.ref r), some (.int u.length), none] h = .nx [some (.int l), some (.str L), some (.ref r), some (.int p'), none] (h.set r (.lst ((acc ++ ts).map tokD)))) ∧
    (∀ e, lineR l k u.length s = .error e → ∃ δ x, lpW (evT (gk w (n + 2)) (.and (.ex (.op .lt [(.var 3), (.op .len [(.var 1)])])) (.ex (.op .ne [(.op .idx [(.var 1), (.var 3)]), (.lit (.str [35]))])))) [4] (evSs (gk w (n + 2)) line_tokens_l1) f [some (.int l), some (.str L), some (.ref r), some (.int u.length), none] h = .err 6 (erF e) δ (h.set r x))
  | k, [], u, f, acc, h, e, hk, hf, hr, ha => by
    obtain ⟨f, rfl⟩ : ∃ k, f = k + 1 := ⟨f - 1, by omega⟩
    have e2 : L.length = u.length := by rw [← e]; simp
    have hu : u.length ≤ 16777216 := by omega
    have el : lineR l k u.length [] = .ok [] := by cases k <;> rfl
    have hs : h.set r (.lst (acc.map tokD)) = h := by
      obtain ⟨a, b⟩ := List.getElem?_eq_some_iff.mp hr
      rw [← b, List.set_getElem_self]
    rw [el]
    refine ⟨fun ts hts => ?_, fun e he => by cases he⟩
    cases hts
    refine ⟨Nat.zero_le _, u.length, ?_⟩
    rw [lpW_end (h1 := h) (by simp [evT, evE, evEs, hu, e2]), List.append_nil, hs]
    simp
  | 0, c :: s, u, f, acc, h, e, hk, hf, hr, ha => by simp at hk
  | k + 1, c :: s, u, f, acc, h, e, hk, hf, hr, ha => by
    obtain ⟨f, rfl⟩ : ∃ k, f = k + 1 := ⟨f - 1, by omega⟩
    have e2 : L.length = u.length + (s.length + 1) := by rw [← e]; simp
    have lt : (u.length : Int) < (L.length : Int) := by omega
    have ea : atP L (u.length : Int) = some c := by rw [← e]; exact atP_app
    have hs : h.set r (.lst (acc.map tokD)) = h := by
      obtain ⟨a, b⟩ := List.getElem?_eq_some_iff.mp hr
      rw [← b, List.set_getElem_self]
    have rl := (List.getElem?_eq_some_iff.mp hr).1
    by_cases c35 : c = 35
    · have el : lineR l (k + 1) u.length (c :: s) = .ok [] := lineR_35 c35
      rw [el]
      refine ⟨fun ts hts => ?_, fun e he => by cases he⟩
      cases hts
      refine ⟨Nat.zero_le _, u.length, ?_⟩
      rw [lpW_end (h1 := h) (by simp [evT, evE, evEs, hl, lt, ea, c35]), List.append_nil, hs]
      simp
    · have hT : evT (gk w (n + 2)) (.and (.ex (.op .lt [(.var 3), (.op .len [(.var 1)])])) (.ex (.op .ne [(.op .idx [(.var 1), (.var 3)]), (.lit (.str [35]))]))) [some (.int l), some (.str L), some (.ref r), some (.int u.length), none] h = .ok true h := by
        simp [evT, evE, evEs, hl, lt, ea, c35]
      have tk := token_ok (w := w) (n := n) (h := h) (c := c) (r := s) (u := u) (l := l) (by rw [e]; exact hl) hw
      rw [e] at tk
      cases q : tokR l u.length (c :: s) with
      | error er =>
        rw [q] at tk
        rw [lineR_e c35 q]
        refine ⟨fun ts hts => (by cases hts), fun e he => ?_⟩
        cases he
        exact ⟨[some (.int l), some (.str L), some (.ref r), some (.int u.length), none], .lst (acc.map tokD), by
          rw [lpW_err (h1 := h) hT (δ2 := [some (.int l), some (.str L), some (.ref r), some (.int u.length), none]) (h2 := h) (c := 6) (fs := erF er) (by simp at tk; simp [line_tokens_l1, evSs, evS, evE, evEs, tk]), hs]⟩
      | ok t =>
        rw [q] at tk
        obtain ⟨m, m1, m2, m3, m4⟩ := tok_len q
        have hd : u ++ (c :: s).take m ++ (c :: s).drop m = L := by rw [List.append_assoc, List.take_append_drop, e]
        have b := end_ok (w := w) (n := n + 1) (h := h.set r (.lst ((acc ++ [t]).map tokD))) (y := [32]) (s := (c :: s).drop m) (u := u ++ (c :: s).take m) (by rw [hd]; exact hl) hw
        rw [hd] at b
        have ul : ((u ++ (c :: s).take m).length : Int) = (u.length : Int) + (m : Int) := by rw [List.length_append, List.length_take]; omega
        rw [ul] at b
        have ml := many_le [32] ((c :: s).drop m)
        have hdl : ((c :: s).drop m).length = (c :: s).length - m := List.length_drop
        simp only [List.length_cons] at hk ha hdl m2
        -- the rest
        obtain ⟨ih1, ih2⟩ := line_lp (w := w) (n := n) (L := L) (l := l) hl hw (r := r) k (((c :: s).drop m).drop (many [32] ((c :: s).drop m))) (u ++ (c :: s).take m ++ ((c :: s).drop m).take (many [32] ((c :: s).drop m))) f (acc ++ [t]) (h.set r (.lst ((acc ++ [t]).map tokD)))
          (by rw [List.append_assoc, List.take_append_drop, hd]) (by rw [List.length_drop]; omega) (by omega) (by rw [List.getElem?_set_self rl]) (by rw [List.length_drop, List.length_append]; simp; omega)
        have ul2 : ((u ++ (c :: s).take m ++ ((c :: s).drop m).take (many [32] ((c :: s).drop m))).length : Int) = (u.length : Int) + (m : Int) + (many [32] ((c :: s).drop m) : Int) := by
          rw [List.length_append, List.length_take, Int.natCast_add, ul]; omega
        rw [ul2] at ih1 ih2
        have dl2 : (((c :: s).drop m).drop (many [32] ((c :: s).drop m))).length ≤ s.length := by rw [List.length_drop]; omega
        have ap := o_appendL (s := sub) (d := tokD t) hr
        have aw : (acc.map tokD).length < 16777216 := by rw [List.length_map]; omega
        have ca := ck_at hr
        have pt : D.pers (tokD t) = true := rfl
        have it : opApp sub .idx [tokD t, .int 1] (h.set r (.lst ((acc ++ [t]).map tokD))) = .ok (.str t.w) (h.set r (.lst ((acc ++ [t]).map tokD))) := by simp [tokD]
        have tl : t.w.length ≤ 16777216 := by rw [m4]; omega
        have hB : evSs (gk w (n + 2)) line_tokens_l1 [some (.int l), some (.str L), some (.ref r), some (.int u.length), none] h = .nx [some (.int l), some (.str L), some (.ref r), some (.int ((u.length : Int) + (m : Int) + (many [32] ((c :: s).drop m) : Int))), some (tokD t)] (h.set r (.lst ((acc ++ [t]).map tokD))) := by
          simp only [List.map_append, List.map_cons, List.map_nil] at it b ⊢
          have bt : boxR (tokD t) h = .ok (tokD t) h := rfl
          simp only [pt, aw, cells_n, decide_true, Bool.and_true, s_wt] at ap
          have lt1 : ∀ (g : Hh), opApp sub .len [.str t.w] g = .ok (.int (m : Int)) g := fun g => by rw [o_lenS, m4]; simp [show m ≤ 16777216 by omega]
          simp at tk
          simp [line_tokens_l1, evSs, evS, evE, evEs, tk, bt, pt, ca, ap, it, lt1, b, -o_lenS]
        rw [lpW_go (h1 := h) hT hB]
        simp only [wipe1, wipe0, List.set_cons_succ, List.set_cons_zero]
        cases q2 : lineR l k ((u.length : Int) + (m : Int) + (many [32] ((c :: s).drop m) : Int)) (((c :: s).drop m).drop (many [32] ((c :: s).drop m))) with
        | error er =>
          rw [lineR_te c35 q (by rw [m4]; exact q2)]
          refine ⟨fun ts hts => (by cases hts), fun e he => ?_⟩
          cases he
          obtain ⟨δ, x, hx⟩ := ih2 er q2
          exact ⟨δ, x, by rw [hx, List.set_set]⟩
        | ok ts =>
          rw [lineR_tt c35 q (by rw [m4]; exact q2)]
          refine ⟨fun us hts => ?_, fun e he => by cases he⟩
          cases hts
          obtain ⟨i1, p', i2⟩ := ih1 ts q2
          refine ⟨by simp; omega, p', ?_⟩
          rw [i2, List.set_set, List.append_assoc]
          rfl
theorem low_tok (n : Nat) (t : Tok) : D.low n (tokD t) = true := by simp [tokD, D.low, D.lowL]
theorem low_er (n : Nat) (e : Er) : D.lowF n (erF e) = true := by simp [erF, D.low, D.lowF]
theorem line_ok {w n : Nat} {L : Tx} {l : Int} {h : Hh} (hl : L.length < 16777216) (hw : 16777217 ≤ w) : (∀ ts, lineT l L = .ok ts → ts.length ≤ L.length) ∧ callF (Pr w) (n + 3) 2 [.int l, .str L] h = match lineT l L with
    | .ok ts => .ok (.lst (ts.map tokD)) h
    | .error e => .err 6 (erF e) h := by
  have b := end_ok (w := w) (n := n + 1) (h := h ++ [.lst []]) (y := [32]) (s := L) (u := []) (by simpa using Nat.le_of_lt hl) hw
  have ml := many_le [32] L
  have hr : (h ++ [C.lst []])[h.length]? = some (.lst (([] : List Tok).map tokD)) := by simp
  obtain ⟨i1, i2⟩ := line_lp (w := w) (n := n) (L := L) (l := l) (Nat.le_of_lt hl) hw (r := h.length) L.length (L.drop (many [32] L)) (L.take (many [32] L)) w [] (h ++ [.lst []]) (List.take_append_drop ..) (by rw [List.length_drop]; omega) (by omega) hr (by rw [List.length_drop]; simp; omega)
  have ul : ((L.take (many [32] L)).length : Int) = (many [32] L : Int) := by rw [List.length_take]; omega
  rw [ul] at i1 i2
  simp only [List.nil_append, List.length_nil, Int.ofNat_zero, Int.zero_add] at b
  have b' : callF (Pr w) (n + 2) 0 [.str L, .int 0, .str [32]] (h ++ [.lst []]) = .ok (.int (many [32] L)) (h ++ [.lst []]) := by simpa using b
  refine ⟨fun ts hts => ?_, ?_⟩
  · have := (i1 ts hts).1
    rw [List.length_drop] at this
    omega
  · rw [u2]
    unfold lineT
    cases q : lineR l L.length (many [32] L) (L.drop (many [32] L)) with
    | error e =>
      obtain ⟨δ, x, hx⟩ := i2 e q
      have gr : Grow h ((h ++ [C.lst []]).set h.length x) := (Grow.app [C.lst []]).set (Nat.le_refl _)
      have fx := finX_grow (c := 6) gr (low_er h.length e)
      simp [runF, line_tokens, startS, evSs, evS, evE, evEs, b', hx, endF]
      simpa using fx
    | ok ts =>
      obtain ⟨_, p', hx⟩ := i1 ts q
      have gr : Grow h ((h ++ [C.lst []]).set h.length (.lst (ts.map tokD))) := (Grow.app [C.lst []]).set (Nat.le_refl _)
      have fx := fin_list gr (Nat.le_refl h.length) (xs := ts.map tokD) (by simp) (low_map _ (low_tok _) ts)
      simp [runF, line_tokens, startS, evSs, evS, evE, evEs, b', hx, endF]
      simpa using fx
end Lk03

namespace Lk03
open Ivy
/-! ### tokens_of -/
theorem lines_lp {w n : Nat} {text : Tx} {h0 : Hh} (hw : 16777217 ≤ w) : ∀ (Ls : List Tx) (k : Nat) (acc : List Tok) (h : Hh) (r : Nat), Grow h0 h → h[r]? = some (.lst (acc.map tokD)) → (∀ L ∈ Ls, L.length < 16777216) → acc.length + (Ls.map List.length).sum ≤ 16777216 →
    (∀ ts, linesR ((k : Int) + 1) Ls = .ok ts → ∃ r' h', lpF [] (.tup [.name 2, .name 3]) [2, 3] (evSs (gk w (n + 3)) tokens_of_l1) (enumL k (Ls.map .str)) [some (.str text), some (.ref r), none, none] h = .nx [some (.str text), some (.ref r'), none, none] h' ∧ Grow h0 h' ∧ h'[r']? = some (.lst ((acc ++ ts).map tokD))) ∧
    (∀ e, linesR ((k : Int) + 1) Ls = .error e → ∃ δ h', lpF [] (.tup [.name 2, .name 3]) [2, 3] (evSs (gk w (n + 3)) tokens_of_l1) (enumL k (Ls.map .str)) [some (.str text), some (.ref r), none, none] h = .err 6 (erF e) δ h' ∧ Grow h0 h')
  | [], k, acc, h, r, gr, hr, hl, ha => by
    refine ⟨fun ts hts => ?_, fun e he => by cases he⟩
    cases hts
    exact ⟨r, h, by simp [enumL, lpF_nil], gr, by simpa using hr⟩
  | L :: Ls, k, acc, h, r, gr, hr, hl, ha => by
    obtain ⟨ln, lo⟩ := line_ok (w := w) (n := n) (L := L) (l := (k : Int) + 1) (h := h) (hl L (List.mem_cons_self ..)) hw
    have hp : putT (.tup [.name 2, .name 3]) (.tup [.int (k : Int), .str L]) [some (.str text), some (.ref r), none, none] = some [some (.str text), some (.ref r), some (.int k), some (.str L)] := by simp
    simp only [List.map_cons, enumL]
    have eqL : linesR ((k : Int) + 1) (L :: Ls) = match lineT ((k : Int) + 1) L with
      | .error e => .error e
      | .ok ts => match linesR ((k : Int) + 1 + 1) Ls with
        | .error e => .error e
        | .ok us => .ok (ts ++ us) := by rfl
    cases q : lineT ((k : Int) + 1) L with
    | error er =>
      rw [q] at eqL lo
      simp only at eqL lo
      rw [eqL]
      refine ⟨fun ts hts => (by cases hts), fun e he => ?_⟩
      cases he
      refine ⟨[some (.str text), some (.ref r), some (.int k), some (.str L)], h, lpG_err gd_nil hp ?_, gr⟩
      simp [tokens_of_l1, evSs, evS, evE, evEs, lo]
    | ok ts =>
      rw [q] at eqL lo
      simp only at eqL lo
      have tl := ln ts q
      simp only [List.map_cons, List.sum_cons] at ha
      have hg : (h ++ [C.lst ((acc ++ ts).map tokD)])[h.length]? = some (.lst ((acc ++ ts).map tokD)) := by simp
      obtain ⟨i1, i2⟩ := lines_lp (w := w) (n := n) (text := text) (h0 := h0) hw Ls (k + 1) (acc ++ ts) (h ++ [C.lst ((acc ++ ts).map tokD)]) h.length (gr.trans (Grow.app [C.lst ((acc ++ ts).map tokD)])) hg (fun L m => hl L (List.mem_cons_of_mem _ m)) (by simp; omega)
      have hB : evSs (gk w (n + 3)) tokens_of_l1 [some (.str text), some (.ref r), some (.int k), some (.str L)] h = .nx [some (.str text), some (.ref h.length), some (.int k), some (.str L)] (h ++ [.lst ((acc ++ ts).map tokD)]) := by
        have ad : opApp sub .add [.ref r, .lst (ts.map tokD)] h = .ok (.lst ((acc ++ ts).map tokD)) h := by
          show (match lmD h (D.ref r), lmD h (D.lst (ts.map tokD)) with
            | some x, some y => whenR (decide (x.length + y.length ≤ cells)) (R.ok (D.lst (x ++ y)) h)
            | _, _ => R.no) = _
          simp only [lmD, hr]
          rw [List.length_map, List.length_map, decide_eq_true (by simp; omega), List.map_append]; rfl
        simp [tokens_of_l1, evSs, evS, evE, evEs, lo, ad]
      rw [lpF_go hp hB, eqL]
      simp only [wipe1, wipe0, List.set_cons_succ, List.set_cons_zero]
      rw [show (((k + 1 : Nat) : Int) + 1) = (k : Int) + 1 + 1 by omega] at i1 i2
      cases q2 : linesR ((k : Int) + 1 + 1) Ls with
      | error er =>
        simp only
        refine ⟨fun ts hts => (by cases hts), fun e he => ?_⟩
        cases he
        exact i2 er q2
      | ok us =>
        simp only
        refine ⟨fun vs hvs => ?_, fun e he => by cases he⟩
        cases hvs
        obtain ⟨r', h', x1, x2, x3⟩ := i1 us q2
        exact ⟨r', h', x1, x2, by rw [x3, List.append_assoc]⟩
/-- lines and signs -/
theorem spl_sum (c : Nat) : ∀ x : Tx, ((splL c x).map List.length).sum ≤ x.length ∧ (∀ L ∈ splL c x, L.length ≤ x.length ∧ c ∉ L)
  | [] => by simp [splL]
  | a :: x => by
    obtain ⟨i1, i2⟩ := spl_sum c x
    unfold splL
    by_cases e : a = c
    · rw [if_pos e]
      refine ⟨by simp; omega, fun L m => ?_⟩
      rcases List.mem_cons.mp m with rfl | m
      · simp
      · have := i2 L m; exact ⟨by simp; omega, this.2⟩
    · rw [if_neg e]
      cases q : splL c x with
      | nil =>
        simp
        exact fun z => e z.symm
      | cons w ws =>
        rw [q] at i1 i2
        simp only [List.map_cons, List.sum_cons] at i1 ⊢
        refine ⟨by simp; omega, fun L m => ?_⟩
        rcases List.mem_cons.mp m with rfl | m
        · have := i2 w (List.mem_cons_self ..)
          refine ⟨by simp; omega, ?_⟩
          simp only [List.mem_cons, not_or]
          exact ⟨fun z => e z.symm, this.2⟩
        · have := i2 L (List.mem_cons_of_mem _ m)
          exact ⟨by simp; omega, this.2⟩
def textR (text : Tx) : Rz := linesR 1 (splL 10 text)
def toksD (ts : List Tok) : D := .tup (ts.map tokD)
theorem tokens_ok {w n : Nat} {text : Tx} {h : Hh} (ht : text.length + 2 ≤ 16777216) (hw : 16777217 ≤ w) : callF (Pr w) (n + 4) 3 [.str text] h = match textR text with
    | .ok ts => .ok (toksD ts) h
    | .error e => .err 6 (erF e) h := by
  obtain ⟨s1, s2⟩ := spl_sum 10 text
  obtain ⟨i1, i2⟩ := lines_lp (w := w) (n := n) (text := text) (h0 := h) hw (splL 10 text) 0 [] (h ++ [.lst []]) h.length (Grow.app [C.lst []]) (by simp) (fun L m => by have := (s2 L m).1; omega) (by simp; omega)
  rw [show (((0 : Nat) : Int) + 1) = 1 from rfl] at i1 i2
  rw [u3]
  unfold textR
  cases q : linesR 1 (splL 10 text) with
  | error e =>
    obtain ⟨δ, h', hx, gr⟩ := i2 e q
    have fx := finX_grow (c := 6) gr (low_er h.length e)
    simp [runF, tokens_of, startS, evSs, evS, evE, evEs, evI, ckR, ht, srcT_lst, hx, endF, fx]
  | ok ts =>
    obtain ⟨r', h', hx, gr, hr⟩ := i1 ts q
    have ta := o_tupAt (s := sub) hr
    have fx := fin_grow (d := toksD ts) gr (by simp only [toksD, D.low]; exact low_map _ (low_tok _) ts) rfl
    unfold toksD at fx ⊢
    simp only [List.nil_append] at ta
    simp [runF, tokens_of, startS, evSs, evS, evE, evEs, evI, ckR, ht, srcT_lst, hx, ta, endF, fx]
end Lk03

namespace Lk03
open Ivy
/-! ### the law's own reading -/
inductive Kd where
  | no | wd | nb
def part : Kd → Nat → Bool
  | .no, _ => false
  | .wd, c => decide (c ∈ sm ∨ c ∈ fg)
  | .nb, c => decide (c ∈ fg)
def kx : Kd → Tx
  | .no => []
  | .wd => wWord
  | .nb => wNumber
def flush : Kd → Tx → Int → Int → Rz
  | .no, _, _, _ => .ok []
  | .wd, b, fl, fp => if 12 < b.length then .error ⟨fl, fp, wLong⟩ else .ok [⟨wWord, b, fl, fp⟩]
  | .nb, b, fl, fp => if 12 < b.length then .error ⟨fl, fp, wLong⟩ else if 1 < b.length ∧ b[0]? = some 48 then .error ⟨fl, fp, wNumber⟩ else .ok [⟨wNumber, b, fl, fp⟩]
theorem flush_wd (b : Tx) (fl fp : Int) : flush .wd b fl fp = if 12 < b.length then .error ⟨fl, fp, wLong⟩ else .ok [⟨wWord, b, fl, fp⟩] := rfl
theorem flush_nb (b : Tx) (fl fp : Int) : flush .nb b fl fp = if 12 < b.length then .error ⟨fl, fp, wLong⟩ else if 1 < b.length ∧ b[0]? = some 48 then .error ⟨fl, fp, wNumber⟩ else .ok [⟨wNumber, b, fl, fp⟩] := rfl
def pre (ts : List Tok) : Rz → Rz
  | .error e => .error e
  | .ok us => .ok (ts ++ us)
theorem pre_nil (x : Rz) : pre [] x = x := by cases x <;> rfl
theorem pre_pre (a b : List Tok) (x : Rz) : pre a (pre b x) = pre (a ++ b) x := by cases x <;> simp [pre]
def auto : Tx → Kd → Tx → Int → Int → Int → Int → Bool → Rz
  | [], _, _, _, _, _, _, _ => .ok []
  | c :: s, k, b, fl, fp, l, p, rm => if part k c = true then auto s k (b ++ [c]) fl fp l (p + 1) rm else
    match flush k b fl fp with
    | .error e => .error e
    | .ok ts => pre ts (if c = 10 then auto s .no b fl fp (l + 1) 0 false else if rm = true ∨ c = 32 then auto s .no b fl fp l (p + 1) rm
      else if c = 35 then auto s .no b fl fp l (p + 1) true else if c ∈ sg then pre [⟨wSign, [c], l, p + 1⟩] (auto s .no b fl fp l (p + 1) rm)
      else if c ∈ sm then auto s .wd [c] l (p + 1) l (p + 1) rm else if c ∈ fg then auto s .nb [c] l (p + 1) l (p + 1) rm else .error ⟨l, p + 1, wSign⟩)
/-! ### the walk of the law's reading -/
abbrev wRaised : Tx := [114, 97, 105, 115, 101, 100]
abbrev wTold : Tx := [116, 111, 108, 100]
def erD (e : Er) : D := .tup [.str wRaised, .bl true, .int e.l, .int e.p, .str e.w]
@[simp] theorem o_inSg {s : Nat → Nat → Bool} {c : Nat} {h : Hh} : opApp s .isIn [.str [c], .str [58, 59, 45, 123, 125]] h = .ok (.bl (decide (c ∈ sg))) h := rfl
def sl (text : Tx) (r : Nat) (b : Tx) (k : Tx) (l p fl fp : Int) (rm : Bool) (x y : Option D) : Sl := [some (.str text), some (.ref r), some (.str b), some (.str k), some (.int l), some (.int p), some (.tup [.int fl, .int fp]), some (.bl rm), x, y]
theorem lt1_eq : _law_tokens_l1 = _law_tokens_l1.take 3 ++ ((_law_tokens_l1.drop 3).take 1 ++ _law_tokens_l1.drop 4) := rfl
section
variable {w n : Nat} {h : Hh} {text : Tx} {r : Nat} {b : Tx} {l p fl fp : Int} {rm : Bool} {c : Nat} {k : Kd}
theorem turn_part (e : part k c = true) (hb : b.length < 16777216) : evSs (gk w (n + 1)) _law_tokens_l1 (sl text r b (kx k) l p fl fp rm (some (.str [c])) none) h = .cont (sl text r (b ++ [c]) (kx k) l (p + 1) fl fp rm (some (.str [c])) (some (.bl true))) h := by
  cases k with
  | no => cases e
  | wd =>
    have e' : c ∈ sm ∨ c ∈ fg := by simpa [part] using e
    have hb2 : b.length + 1 ≤ 16777216 := hb
    simp [_law_tokens_l1, sl, kx, evSs, evS, evE, evEs, evT, small_ok, figs_ok, sm_len, fg_len, e', hb2]
  | nb =>
    have e' : c ∈ fg := by simpa [part] using e
    have hb2 : b.length + 1 ≤ 16777216 := hb
    simp [_law_tokens_l1, sl, kx, evSs, evS, evE, evEs, evT, small_ok, figs_ok, sm_len, fg_len, e', hb2]
theorem turn_head (e : ¬ part k c = true) : evSs (gk w (n + 1)) (_law_tokens_l1.take 3) (sl text r b (kx k) l p fl fp rm (some (.str [c])) none) h = .nx (sl text r b (kx k) l (p + 1) fl fp rm (some (.str [c])) (some (.bl false))) h := by
  cases k with
  | no => simp [_law_tokens_l1, sl, kx, evSs, evS, evE, evEs, evT, small_ok, figs_ok, sm_len, fg_len]
  | wd =>
    have e' : ¬ c ∈ sm ∧ ¬ c ∈ fg := by simpa [part] using e
    simp [_law_tokens_l1, sl, kx, evSs, evS, evE, evEs, evT, small_ok, figs_ok, sm_len, fg_len, e'.1, e'.2]
  | nb =>
    have e' : ¬ c ∈ fg := by simpa [part] using e
    simp [_law_tokens_l1, sl, kx, evSs, evS, evE, evEs, evT, small_ok, figs_ok, sm_len, fg_len, e']
theorem turn_flush {acc : List Tok} (hr : h[r]? = some (.lst (acc.map tokD))) (ha : acc.length < 16777216) (hb : b.length ≤ 16777216) (hk : k = .no ∨ b ≠ []) {x y : Option D} :
    evSs (gk w (n + 1)) ((_law_tokens_l1.drop 3).take 1) (sl text r b (kx k) l p fl fp rm x y) h = match flush k b fl fp with
      | .error e => .ret (erD e) h
      | .ok ts => .nx (sl text r b [] l p fl fp rm x y) (h.set r (.lst ((acc ++ ts).map tokD))) := by
  have ca := ck_at hr
  have hs : h.set r (.lst (acc.map tokD)) = h := by
    obtain ⟨a, b⟩ := List.getElem?_eq_some_iff.mp hr
    rw [← b, List.set_getElem_self]
  have ap := fun d => o_appendL (s := sub) (d := d) hr
  have t : ((12 : Int) < (b.length : Int)) ↔ 12 < b.length := by omega
  have t1 : ((1 : Int) < (b.length : Int)) ↔ 1 < b.length := by omega
  cases k with
  | no => simp [_law_tokens_l1, sl, kx, evSs, evS, evE, evEs, evT, flush, hs]
  | wd =>
    rw [flush_wd]
    by_cases q : 12 < b.length
    · rw [if_pos q]
      simp [_law_tokens_l1, sl, kx, evSs, evS, evE, evEs, evT, hb, t, q, o_addT, erD]
    · rw [if_neg q]
      simp [_law_tokens_l1, sl, kx, evSs, evS, evE, evEs, evT, hb, t, q, o_addT, ca, ap, ha, tokD]
  | nb =>
    have hb0 : b ≠ [] := by rcases hk with z | z; cases z; exact z
    cases b with
    | nil => cases hb0 rfl
    | cons a b =>
      have hb' : b.length + 1 ≤ 16777216 := by simpa using hb
      rw [flush_nb]
      by_cases q : 12 < (a :: b).length
      · rw [if_pos q]
        simp at t q
        simp [_law_tokens_l1, sl, kx, evSs, evS, evE, evEs, evT, hb', t, q, o_addT, erD]
      · rw [if_neg q]
        simp at t t1
        have q : ¬ 12 < b.length + 1 := by simpa using q
        by_cases q1 : 0 < b.length
        · by_cases q2 : a = 48
          · rw [if_pos (by simp; exact ⟨q1, q2⟩)]
            simp [_law_tokens_l1, sl, kx, evSs, evS, evE, evEs, evT, hb', t, t1, q, q1, q2, o_addT, erD]
          · rw [if_neg (by simp; intro _; exact q2)]
            simp [_law_tokens_l1, sl, kx, evSs, evS, evE, evEs, evT, hb', t, t1, q, q1, q2, o_addT, ca, ap, ha, tokD]
        · rw [if_neg (by simp; intro z; exact absurd z q1)]
          simp [_law_tokens_l1, sl, kx, evSs, evS, evE, evEs, evT, hb', t, t1, q, q1, o_addT, ca, ap, ha, tokD]
/-- behind the flush -/
theorem turn_tail {acc : List Tok} (hr : h[r]? = some (.lst (acc.map tokD))) (ha : acc.length < 16777216) {y : Option D} :
    evSs (gk w (n + 1)) (_law_tokens_l1.drop 4) (sl text r b [] l (p + 1) fl fp rm (some (.str [c])) y) h =
      (if c = 10 then .nx (sl text r b (kx .no) (l + 1) 0 fl fp false (some (.str [c])) y) h else if rm = true ∨ c = 32 then .cont (sl text r b (kx .no) l (p + 1) fl fp rm (some (.str [c])) y) h
      else if c = 35 then .nx (sl text r b (kx .no) l (p + 1) fl fp true (some (.str [c])) y) h else if c ∈ sg then .nx (sl text r b (kx .no) l (p + 1) fl fp rm (some (.str [c])) y) (h.set r (.lst ((acc ++ [(⟨wSign, [c], l, p + 1⟩ : Tok)]).map tokD)))
      else if c ∈ sm then .nx (sl text r [c] (kx .wd) l (p + 1) l (p + 1) rm (some (.str [c])) y) h else if c ∈ fg then .nx (sl text r [c] (kx .nb) l (p + 1) l (p + 1) rm (some (.str [c])) y) h else .ret (erD ⟨l, p + 1, wSign⟩) h) := by
  have ca := ck_at hr
  have ap := fun d => o_appendL (s := sub) (d := d) hr
  by_cases c10 : c = 10
  · rw [if_pos c10]
    simp [_law_tokens_l1, sl, kx, evSs, evS, evE, evEs, evT, c10]
  rw [if_neg c10]
  by_cases cr : rm = true ∨ c = 32
  · rw [if_pos cr]
    cases rm with
    | true => simp [_law_tokens_l1, sl, kx, evSs, evS, evE, evEs, evT, c10]
    | false =>
      have c32 : c = 32 := by simpa using cr
      simp [_law_tokens_l1, sl, kx, evSs, evS, evE, evEs, evT, c10, c32]
  rw [if_neg cr]
  simp only [not_or] at cr
  have rmf : rm = false := by simpa using cr.1
  subst rmf
  have c32 := cr.2
  by_cases c35 : c = 35
  · rw [if_pos c35]
    simp [_law_tokens_l1, sl, kx, evSs, evS, evE, evEs, evT, c10, c32, c35]
  rw [if_neg c35]
  by_cases g : c ∈ sg
  · rw [if_pos g]
    have g : c = 58 ∨ c = 59 ∨ c = 45 ∨ c = 123 ∨ c = 125 := by simpa [sg] using g
    simp [_law_tokens_l1, sl, kx, evSs, evS, evE, evEs, evT, c10, c32, c35, g, ca, ap, ha, tokD]
  rw [if_neg g]
  have g : ¬ (c = 58 ∨ c = 59 ∨ c = 45 ∨ c = 123 ∨ c = 125) := by simpa [sg] using g
  by_cases m : c ∈ sm
  · rw [if_pos m]
    simp [_law_tokens_l1, sl, kx, evSs, evS, evE, evEs, evT, c10, c32, c35, g, small_ok, m]
  rw [if_neg m]
  by_cases f : c ∈ fg
  · rw [if_pos f]
    simp [_law_tokens_l1, sl, kx, evSs, evS, evE, evEs, evT, c10, c32, c35, g, small_ok, m, figs_ok, f]
  rw [if_neg f]
  simp [_law_tokens_l1, sl, kx, evSs, evS, evE, evEs, evT, c10, c32, c35, g, small_ok, m, figs_ok, f, erD]
end
end Lk03

namespace Lk03
open Ivy
theorem evSs_app_ret {g : G} {d : D} : ∀ {ss ts : List St} {δ : Sl} {h h2 : Hh}, evSs g ss δ h = .ret d h2 → evSs g (ss ++ ts) δ h = .ret d h2
  | [], ts, δ, h, h2, e => by simp only [evSs] at e; cases e
  | s :: ss, ts, δ, h, h2, e => by
    simp only [evSs] at e
    cases q : evS g s δ h with
    | nx δ3 h3 =>
      rw [q] at e
      simp only at e
      rw [List.cons_append, evSs_cons q]
      exact evSs_app_ret e
    | ret d3 h3 =>
      rw [q] at e
      simp only at e
      cases e
      rw [List.cons_append, evSs_ret q]
    | brk δ3 h3 => rw [q] at e; cases e
    | cont δ3 h3 => rw [q] at e; cases e
    | err c fs δ3 h3 => rw [q] at e; cases e
    | no => rw [q] at e; cases e
/-! ### the law's loop over the signs -/
theorem auto_part {c : Nat} {s : Tx} {k : Kd} {b : Tx} {fl fp l p : Int} {rm : Bool} (e : part k c = true) : auto (c :: s) k b fl fp l p rm = auto s k (b ++ [c]) fl fp l (p + 1) rm := by
  conv => lhs; unfold auto
  rw [if_pos e]
/-- what comes behind a flush -/
def rest (c : Nat) (s : Tx) (b : Tx) (fl fp l p : Int) (rm : Bool) : Rz := if c = 10 then auto s .no b fl fp (l + 1) 0 false else if rm = true ∨ c = 32 then auto s .no b fl fp l (p + 1) rm
      else if c = 35 then auto s .no b fl fp l (p + 1) true else if c ∈ sg then pre [⟨wSign, [c], l, p + 1⟩] (auto s .no b fl fp l (p + 1) rm)
      else if c ∈ sm then auto s .wd [c] l (p + 1) l (p + 1) rm else if c ∈ fg then auto s .nb [c] l (p + 1) l (p + 1) rm else .error ⟨l, p + 1, wSign⟩
theorem auto_err {c : Nat} {s : Tx} {k : Kd} {b : Tx} {fl fp l p : Int} {rm : Bool} {er : Er} (e : ¬ part k c = true) (f : flush k b fl fp = .error er) : auto (c :: s) k b fl fp l p rm = .error er := by
  conv => lhs; unfold auto
  rw [if_neg e, f]
theorem auto_ok {c : Nat} {s : Tx} {k : Kd} {b : Tx} {fl fp l p : Int} {rm : Bool} {ts : List Tok} (e : ¬ part k c = true) (f : flush k b fl fp = .ok ts) : auto (c :: s) k b fl fp l p rm = pre ts (rest c s b fl fp l p rm) := by
  conv => lhs; unfold auto
  rw [if_neg e, f]
  rfl
theorem flush_len {k : Kd} {b : Tx} {fl fp : Int} {ts : List Tok} (f : flush k b fl fp = .ok ts) : ts.length ≤ 1 := by
  cases k with
  | no => cases f; exact Nat.zero_le _
  | wd =>
    rw [flush_wd] at f
    by_cases q : 12 < b.length
    · rw [if_pos q] at f; cases f
    · rw [if_neg q] at f; cases f; exact Nat.le_refl _
  | nb =>
    rw [flush_nb] at f
    by_cases q : 12 < b.length
    · rw [if_pos q] at f; cases f
    · rw [if_neg q] at f
      by_cases q1 : 1 < b.length ∧ b[0]? = some 48
      · rw [if_pos q1] at f; cases f
      · rw [if_neg q1] at f; cases f; exact Nat.le_refl _
/-- what the loop is to leave -/
def LpOk (w n : Nat) (text : Tx) (r : Nat) (acc : List Tok) (s : Tx) (δ : Sl) (h : Hh) (z : Rz) : Prop :=
  (∀ ts, z = .ok ts → ∃ b k l p fl fp rm, lpF [] (.name 8) [8, 9] (evSs (gk w (n + 1)) _law_tokens_l1) (s.map fun c => .str [c]) δ h = .nx (sl text r b k l p fl fp rm none none) (h.set r (.lst ((acc ++ ts).map tokD)))) ∧
  (∀ e, z = .error e → ∃ x, lpF [] (.name 8) [8, 9] (evSs (gk w (n + 1)) _law_tokens_l1) (s.map fun c => .str [c]) δ h = .ret (erD e) (h.set r x))
/-- one turn, then the rest -/
theorem LpOk.go {w n : Nat} {text : Tx} {r : Nat} {acc ts : List Tok} {s : Tx} {c : Nat} {δ δ2 : Sl} {h : Hh} {z : Rz}
    (e : lpF [] (.name 8) [8, 9] (evSs (gk w (n + 1)) _law_tokens_l1) ((c :: s).map fun c => .str [c]) δ h = lpF [] (.name 8) [8, 9] (evSs (gk w (n + 1)) _law_tokens_l1) (s.map fun c => .str [c]) δ2 (h.set r (.lst ((acc ++ ts).map tokD))))
    (x : LpOk w n text r (acc ++ ts) s δ2 (h.set r (.lst ((acc ++ ts).map tokD))) z) : LpOk w n text r acc (c :: s) δ h (pre ts z) := by
  obtain ⟨x1, x2⟩ := x
  unfold LpOk
  rw [e]
  cases z with
  | error er =>
    refine ⟨fun us hu => (by cases hu), fun e' he => ?_⟩
    cases he
    obtain ⟨y, hy⟩ := x2 er rfl
    exact ⟨y, by rw [hy, List.set_set]⟩
  | ok us =>
    refine ⟨fun vs hv => ?_, fun e' he => by cases he⟩
    cases hv
    obtain ⟨b, k, l, p, fl, fp, rm, hy⟩ := x1 us rfl
    exact ⟨b, k, l, p, fl, fp, rm, by rw [hy, List.set_set, List.append_assoc]⟩
theorem tk_lp {w n : Nat} {text : Tx} {r : Nat} : ∀ (s : Tx) (k : Kd) (b : Tx) (fl fp l p : Int) (rm : Bool) (acc : List Tok) (h : Hh), h[r]? = some (.lst (acc.map tokD)) → acc.length + 2 * s.length < 16777216 → b.length + s.length < 16777216 → (k = .no ∨ b ≠ []) →
    LpOk w n text r acc s (sl text r b (kx k) l p fl fp rm none none) h (auto s k b fl fp l p rm)
  | [], k, b, fl, fp, l, p, rm, acc, h, hr, ha, hb, hk => by
    have hs : h.set r (.lst (acc.map tokD)) = h := by
      obtain ⟨a, b⟩ := List.getElem?_eq_some_iff.mp hr
      rw [← b, List.set_getElem_self]
    refine ⟨fun ts hts => ?_, fun e he => by cases he⟩
    cases hts
    refine ⟨b, kx k, l, p, fl, fp, rm, ?_⟩
    rw [List.map_nil, lpF_nil, List.append_nil, hs]
    rfl
  | c :: s, k, b, fl, fp, l, p, rm, acc, h, hr, ha, hb, hk => by
    have hs : h.set r (.lst (acc.map tokD)) = h := by
      obtain ⟨a, b⟩ := List.getElem?_eq_some_iff.mp hr
      rw [← b, List.set_getElem_self]
    have rl := (List.getElem?_eq_some_iff.mp hr).1
    simp only [List.length_cons] at ha hb
    have hp : putT (.name 8) (.str [c]) (sl text r b (kx k) l p fl fp rm none none) = some (sl text r b (kx k) l p fl fp rm (some (.str [c])) none) := by simp [sl]
    by_cases e : part k c = true
    · rw [auto_part e]
      have hg : ((h.set r (.lst ((acc ++ ([] : List Tok)).map tokD)))) = h := by rw [List.append_nil, hs]
      have ih := tk_lp (w := w) (n := n) (text := text) (r := r) s k (b ++ [c]) fl fp l (p + 1) rm acc h hr (by omega) (by simp; omega) (.inr (by simp))
      have := LpOk.go (w := w) (n := n) (text := text) (r := r) (acc := acc) (ts := []) (s := s) (c := c) (δ := sl text r b (kx k) l p fl fp rm none none) (δ2 := sl text r (b ++ [c]) (kx k) l (p + 1) fl fp rm none none) (h := h) (z := auto s k (b ++ [c]) fl fp l (p + 1) rm) (by
        rw [hg, List.map_cons, lpG_cont gd_nil hp (turn_part e (by omega))]
        rfl) (by rw [hg, List.append_nil]; exact ih)
      rw [pre_nil] at this
      exact this
    · have th := turn_head (w := w) (n := n) (h := h) (text := text) (r := r) (b := b) (l := l) (p := p) (fl := fl) (fp := fp) (rm := rm) e
      have tf := turn_flush (w := w) (n := n) (text := text) (b := b) (l := l) (p := p + 1) (fl := fl) (fp := fp) (rm := rm) (k := k) hr (by omega) (by omega) hk (x := some (.str [c])) (y := some (.bl false))
      cases q : flush k b fl fp with
      | error er =>
        rw [q] at tf
        rw [auto_err e q]
        refine ⟨fun us hu => (by cases hu), fun e' he => ?_⟩
        cases he
        refine ⟨.lst (acc.map tokD), ?_⟩
        rw [hs, List.map_cons, lpG_ret gd_nil hp]
        rw [lt1_eq, evSs_app th]
        exact evSs_app_ret tf
      | ok ts =>
        rw [q] at tf
        simp only at tf
        rw [auto_ok e q]
        have tl := flush_len q
        have hr2 : (h.set r (.lst ((acc ++ ts).map tokD)))[r]? = some (.lst ((acc ++ ts).map tokD)) := by rw [List.getElem?_set_self rl]
        have tt := turn_tail (w := w) (n := n) (text := text) (b := b) (l := l) (p := p) (fl := fl) (fp := fp) (rm := rm) (c := c) hr2 (by simp; omega) (y := some (.bl false))
        have hB : evSs (gk w (n + 1)) _law_tokens_l1 (sl text r b (kx k) l p fl fp rm (some (.str [c])) none) h = evSs (gk w (n + 1)) (_law_tokens_l1.drop 4) (sl text r b [] l (p + 1) fl fp rm (some (.str [c])) (some (.bl false))) (h.set r (.lst ((acc ++ ts).map tokD))) := by
          conv => lhs; rw [lt1_eq, evSs_app th, evSs_app tf]
        have hb1 : b.length + s.length < 16777216 := by omega
        have ha1 : (acc ++ ts).length + 2 * s.length < 16777216 := by simp; omega
        unfold rest
        by_cases c10 : c = 10
        · rw [if_pos c10] at tt ⊢
          refine LpOk.go (δ2 := sl text r b (kx .no) (l + 1) 0 fl fp false none none) ?_ (tk_lp s .no b fl fp (l + 1) 0 false (acc ++ ts) _ hr2 ha1 hb1 (.inl rfl))
          rw [List.map_cons, lpG_go gd_nil hp (hB.trans tt)]
          rfl
        rw [if_neg c10] at tt ⊢
        by_cases c32 : rm = true ∨ c = 32
        · rw [if_pos c32] at tt ⊢
          refine LpOk.go (δ2 := sl text r b (kx .no) l (p + 1) fl fp rm none none) ?_ (tk_lp s .no b fl fp l (p + 1) rm (acc ++ ts) _ hr2 ha1 hb1 (.inl rfl))
          rw [List.map_cons, lpG_cont gd_nil hp (hB.trans tt)]
          rfl
        rw [if_neg c32] at tt ⊢
        by_cases c35 : c = 35
        · rw [if_pos c35] at tt ⊢
          refine LpOk.go (δ2 := sl text r b (kx .no) l (p + 1) fl fp true none none) ?_ (tk_lp s .no b fl fp l (p + 1) true (acc ++ ts) _ hr2 ha1 hb1 (.inl rfl))
          rw [List.map_cons, lpG_go gd_nil hp (hB.trans tt)]
          rfl
        rw [if_neg c35] at tt ⊢
        by_cases g : c ∈ sg
        · rw [if_pos g] at tt ⊢
          rw [List.set_set] at tt
          rw [pre_pre]
          have hr3 : (h.set r (.lst ((acc ++ (ts ++ [(⟨wSign, [c], l, p + 1⟩ : Tok)])).map tokD)))[r]? = some (.lst ((acc ++ (ts ++ [(⟨wSign, [c], l, p + 1⟩ : Tok)])).map tokD)) := by rw [List.getElem?_set_self rl]
          refine LpOk.go (δ2 := sl text r b (kx .no) l (p + 1) fl fp rm none none) ?_ (tk_lp s .no b fl fp l (p + 1) rm (acc ++ (ts ++ [⟨wSign, [c], l, p + 1⟩])) _ hr3 (by simp; omega) hb1 (.inl rfl))
          rw [List.map_cons, lpG_go gd_nil hp (hB.trans tt), List.append_assoc]
          rfl
        rw [if_neg g] at tt ⊢
        by_cases m : c ∈ sm
        · rw [if_pos m] at tt ⊢
          refine LpOk.go (δ2 := sl text r [c] (kx .wd) l (p + 1) l (p + 1) rm none none) ?_ (tk_lp s .wd [c] l (p + 1) l (p + 1) rm (acc ++ ts) _ hr2 ha1 (by simp; omega) (.inr (by simp)))
          rw [List.map_cons, lpG_go gd_nil hp (hB.trans tt)]
          rfl
        rw [if_neg m] at tt ⊢
        by_cases f : c ∈ fg
        · rw [if_pos f] at tt ⊢
          refine LpOk.go (δ2 := sl text r [c] (kx .nb) l (p + 1) l (p + 1) rm none none) ?_ (tk_lp s .nb [c] l (p + 1) l (p + 1) rm (acc ++ ts) _ hr2 ha1 (by simp; omega) (.inr (by simp)))
          rw [List.map_cons, lpG_go gd_nil hp (hB.trans tt)]
          rfl
        rw [if_neg f] at tt ⊢
        refine ⟨fun us hu => (by cases hu), fun e' he => ?_⟩
        cases he
        refine ⟨.lst ((acc ++ ts).map tokD), ?_⟩
        rw [List.map_cons, lpG_ret gd_nil hp (hB.trans tt)]
def auto0 (s : Tx) (l p : Int) (rm : Bool) : Rz := auto s .no [] 1 1 l p rm
def resD : Rz → D
  | .ok ts => .tup [.str wTold, toksD ts]
  | .error e => erD e
theorem law_tokens_ok {w n : Nat} {text : Tx} {h : Hh} (ht : 2 * text.length + 2 < 16777216) : callF (Pr w) (n + 2) 10 [.str text] h = .ok (resD (auto0 (text ++ [10]) 1 0 false)) h := by
  have lp := tk_lp (w := w) (n := n) (text := text) (r := h.length) (text ++ [10]) .no [] 1 1 1 0 false [] (h ++ [.lst []]) (by simp) (by simp; omega) (by simp; omega) (.inl rfl)
  unfold auto0
  have tl : text.length + 1 ≤ 16777216 := by omega
  unfold LpOk sl kx at lp
  rw [u10]
  cases q : auto (text ++ [10]) .no [] 1 1 1 0 false with
  | error e =>
    obtain ⟨x, hx⟩ := lp.2 e q
    have gr : Grow h ((h ++ [C.lst []]).set h.length x) := (Grow.app [C.lst []]).set (Nat.le_refl _)
    have fx := fin_grow (d := erD e) gr (by simp [erD, D.low, D.lowL]) rfl
    have sc : srcD (h ++ [C.lst []]) (.str (text ++ [10])) = some ⟨(text ++ [10]).map fun c => .str [c], []⟩ := rfl
    simp only [List.map_append, List.map_cons, List.map_nil] at sc hx
    simp [runF, _law_tokens, startS, evSs, evS, evE, evEs, evI, tl, sc, hx, endF, resD]
    simpa using fx
  | ok ts =>
    obtain ⟨b, k, l, p, fl, fp, rm, hx⟩ := lp.1 ts q
    have gr : Grow h ((h ++ [C.lst []]).set h.length (.lst (ts.map tokD))) := (Grow.app [C.lst []]).set (Nat.le_refl _)
    have fx := fin_grow (d := resD (.ok ts)) gr (by simp [resD, toksD, D.low, D.lowL, low_map _ (low_tok _)]) rfl
    have sc : srcD (h ++ [C.lst []]) (.str (text ++ [10])) = some ⟨(text ++ [10]).map fun c => .str [c], []⟩ := rfl
    have ta := o_tupAt (s := sub) (h := (h ++ [C.lst []]).set h.length (.lst (ts.map tokD))) (n := h.length) (xs := ts.map tokD) (by simp)
    simp only [List.map_append, List.map_cons, List.map_nil, List.nil_append] at sc hx
    simp at ta hx fx
    simp [runF, _law_tokens, startS, evSs, evS, evE, evEs, evI, tl, sc, hx, ta, endF]
    exact fx
end Lk03

namespace Lk03
open Ivy
/-! ### plain: both readings are the same -/
theorem auto_no : ∀ (s : Tx) (b b' : Tx) (fl fp fl' fp' l p : Int) (rm : Bool), auto s .no b fl fp l p rm = auto s .no b' fl' fp' l p rm
  | [], _, _, _, _, _, _, _, _, _ => rfl
  | c :: s, b, b', fl, fp, fl', fp', l, p, rm => by
    rw [auto_ok (k := .no) (ts := []) (by simp [part]) rfl, auto_ok (k := .no) (ts := []) (by simp [part]) rfl]
    unfold rest
    rw [auto_no s b b' fl fp fl' fp' (l + 1) 0 false, auto_no s b b' fl fp fl' fp' l (p + 1) rm, auto_no s b b' fl fp fl' fp' l (p + 1) true]
theorem auto0_of (s b : Tx) (fl fp l p : Int) (rm : Bool) : auto s .no b fl fp l p rm = auto0 s l p rm := auto_no ..
theorem auto0_cons (c : Nat) (s : Tx) (l p : Int) (rm : Bool) : auto0 (c :: s) l p rm = if c = 10 then auto0 s (l + 1) 0 false else if rm = true ∨ c = 32 then auto0 s l (p + 1) rm
      else if c = 35 then auto0 s l (p + 1) true else if c ∈ sg then pre [⟨wSign, [c], l, p + 1⟩] (auto0 s l (p + 1) rm)
      else if c ∈ sm then auto s .wd [c] l (p + 1) l (p + 1) rm else if c ∈ fg then auto s .nb [c] l (p + 1) l (p + 1) rm else .error ⟨l, p + 1, wSign⟩ := by
  unfold auto0
  rw [auto_ok (k := .no) (ts := []) (by simp [part]) rfl, pre_nil]
  rfl
theorem rest0 (c : Nat) (s b : Tx) (fl fp l p : Int) (rm : Bool) : rest c s b fl fp l p rm = auto0 (c :: s) l p rm := by
  unfold auto0
  rw [auto_ok (k := .no) (ts := []) (by simp [part]) rfl, pre_nil]
  unfold rest
  rw [auto_no s b [] fl fp 1 1 (l + 1) 0 false, auto_no s b [] fl fp 1 1 l (p + 1) rm, auto_no s b [] fl fp 1 1 l (p + 1) true]
def bind0 (x : Rz) (f : List Tok → Rz) : Rz := match x with
  | .error e => .error e
  | .ok ts => f ts
theorem auto_run (k : Kd) (fl fp l : Int) (s : Tx) (rst : Tx) : ∀ (b : Tx) (p : Int), (∀ c ∈ s, part k c = true) → (∀ c ∈ rst.head?, part k c = false) → rst ≠ [] → auto (s ++ rst) k b fl fp l p false = bind0 (flush k (b ++ s) fl fp) fun ts => pre ts (auto0 rst l (p + s.length) false) := by
  induction s with
  | nil =>
    intro b p h1 h2 h3
    cases rst with
    | nil => exact absurd rfl h3
    | cons c r =>
      have h4 : ¬ part k c = true := by rw [h2 c (by simp)]; exact Bool.false_ne_true
      cases q : flush k b fl fp with
      | error e => simp only [List.nil_append, List.append_nil, q, bind0]; rw [auto_err h4 q]
      | ok ts => simp only [List.nil_append, List.append_nil, q, bind0]; rw [auto_ok h4 q, rest0]; simp
  | cons c s ih =>
    intro b p h1 h2 h3
    rw [List.cons_append, auto_part (h1 c (List.mem_cons_self ..)), ih (b ++ [c]) (p + 1) (fun d hd => h1 d (List.mem_cons_of_mem _ hd)) h2 h3]
    rw [List.append_assoc]
    simp only [List.singleton_append, List.length_cons]
    rw [show p + 1 + (s.length : Int) = p + ((s.length + 1 : Nat) : Int) by omega]
theorem auto0_rem (l : Int) (r : Tx) : ∀ (s : Tx) (p : Int), 10 ∉ s → auto0 (s ++ 10 :: r) l p true = auto0 r (l + 1) 0 false
  | [], p, h => by rw [List.nil_append, auto0_cons, if_pos rfl]
  | c :: s, p, h => by
    have h1 : ¬ c = 10 := fun z => h (by simp [z])
    rw [List.cons_append, auto0_cons, if_neg h1, if_pos (.inl rfl)]
    exact auto0_rem l r s _ fun z => h (List.mem_cons_of_mem _ z)
theorem auto0_blank (l : Int) (r : Tx) : ∀ (s : Tx) (p : Int), auto0 (s ++ 10 :: r) l p false = auto0 (s.drop (many [32] s) ++ 10 :: r) l (p + many [32] s) false
  | [], p => by rw [many_nil]; simp
  | c :: s, p => by
    by_cases h : c = 32
    · subst h
      rw [List.cons_append, auto0_cons, if_neg (by decide), if_pos (.inr rfl), many_in (by simp), List.drop_succ_cons, auto0_blank l r s (p + 1)]
      rw [show p + 1 + (many [32] s : Int) = p + ((many [32] s + 1 : Nat) : Int) by omega]
    · rw [many_out (by simpa using h)]; simp
theorem many_split (y s : Tx) : (∀ c ∈ s.take (many y s), c ∈ y) ∧ (∀ c ∈ (s.drop (many y s)).head?, ¬ c ∈ y) := by
  induction s with
  | nil => simp [many_nil]
  | cons c s ih =>
    by_cases h : c ∈ y
    · rw [many_in h]
      simp only [List.take_succ_cons, List.drop_succ_cons]
      refine ⟨fun d m => ?_, ih.2⟩
      rcases List.mem_cons.mp m with rfl | m
      · exact h
      · exact ih.1 d m
    · rw [many_out h]
      simp [h]
theorem not10 : ¬ 10 ∈ sm ∧ ¬ 10 ∈ fg ∧ ¬ 10 ∈ sg := by decide
theorem not32 : ¬ 32 ∈ sm ∧ ¬ 32 ∈ fg ∧ ¬ 32 ∈ sg := by decide
theorem not35 : ¬ 35 ∈ sm ∧ ¬ 35 ∈ fg ∧ ¬ 35 ∈ sg := by decide
theorem sm_no : ∀ c ∈ sm, ¬ c ∈ fg ∧ ¬ c ∈ sg := by decide
theorem fg_no : ∀ c ∈ fg, ¬ c ∈ sg := by decide
/-- one token of the law -/
theorem auto0_tok (l p : Int) (c : Nat) (s r : Tx) (c10 : ¬ c = 10) (c32 : ¬ c = 32) (c35 : ¬ c = 35) : auto0 (c :: s ++ 10 :: r) l p false = match tokR l p (c :: s) with
    | .error e => .error e
    | .ok t => pre [t] (auto0 ((c :: s).drop t.w.length ++ 10 :: r) l (p + t.w.length) false) := by
  rw [List.cons_append, auto0_cons, if_neg c10, if_neg (by simpa using c32), if_neg c35, tokR_cons]
  by_cases m : c ∈ sm
  · rw [if_neg (sm_no c m).2, if_pos m, if_pos m]
    have mi : many (sm ++ fg) (c :: s) = many (sm ++ fg) s + 1 := many_in (by simp [m])
    obtain ⟨s1, s2⟩ := many_split (sm ++ fg) s
    have ml := many_le (sm ++ fg) s
    have ru := auto_run .wd l (p + 1) l (s.take (many (sm ++ fg) s)) (s.drop (many (sm ++ fg) s) ++ 10 :: r) [c] (p + 1) (fun d hd => by simpa [part] using s1 d hd) (fun d hd => by
      cases q : s.drop (many (sm ++ fg) s) with
      | nil =>
        rw [q] at hd
        simp at hd
        subst hd
        simp [part, not10]
      | cons x xs =>
        rw [q] at hd s2
        simp at hd s2
        subst hd
        simp [part, s2]) (by simp)
    rw [← List.append_assoc, List.take_append_drop] at ru
    rw [ru, mi, flush_wd]
    have tl : (s.take (many (sm ++ fg) s)).length = many (sm ++ fg) s := by rw [List.length_take]; omega
    have bl : ([c] ++ s.take (many (sm ++ fg) s)).length = many (sm ++ fg) s + 1 := by simp; omega
    rw [bl, tl]
    by_cases q : 12 < many (sm ++ fg) s + 1
    · rw [if_pos q, if_pos q]; rfl
    · rw [if_neg q, if_neg q]
      simp only [bind0, List.take_succ_cons, List.length_cons, tl, List.drop_succ_cons, List.singleton_append]
      rw [show p + 1 + (many (sm ++ fg) s : Int) = p + ((many (sm ++ fg) s + 1 : Nat) : Int) by omega]
  rw [if_neg m, if_neg m]
  by_cases f : c ∈ fg
  · rw [if_neg (fg_no c f), if_pos f, if_pos f]
    have mi : many fg (c :: s) = many fg s + 1 := many_in f
    obtain ⟨s1, s2⟩ := many_split fg s
    have ml := many_le fg s
    have ru := auto_run .nb l (p + 1) l (s.take (many fg s)) (s.drop (many fg s) ++ 10 :: r) [c] (p + 1) (fun d hd => by simpa [part] using s1 d hd) (fun d hd => by
      cases q : s.drop (many fg s) with
      | nil =>
        rw [q] at hd
        simp at hd
        subst hd
        simp [part, not10]
      | cons x xs =>
        rw [q] at hd s2
        simp at hd s2
        subst hd
        simp [part, s2]) (by simp)
    rw [← List.append_assoc, List.take_append_drop] at ru
    rw [ru, mi, flush_nb]
    have tl : (s.take (many fg s)).length = many fg s := by rw [List.length_take]; omega
    have bl : ([c] ++ s.take (many fg s)).length = many fg s + 1 := by simp; omega
    have hd : ([c] ++ s.take (many fg s))[0]? = some c := rfl
    rw [bl, tl, hd]
    by_cases q : 12 < many fg s + 1
    · rw [if_pos q, if_pos q]; rfl
    · rw [if_neg q, if_neg q]
      by_cases q1 : 1 < many fg s + 1 ∧ c = 48
      · rw [if_pos q1, if_pos ⟨q1.1, by rw [q1.2]⟩]; rfl
      · rw [if_neg q1, if_neg (by intro z; exact q1 ⟨z.1, by simpa using z.2⟩)]
        simp only [bind0, List.take_succ_cons, List.length_cons, tl, List.drop_succ_cons, List.singleton_append]
        rw [show p + 1 + (many fg s : Int) = p + ((many fg s + 1 : Nat) : Int) by omega]
  rw [if_neg f, if_neg f]
  by_cases g : c ∈ sg
  · rw [if_pos g, if_pos g]; rfl
  · rw [if_neg g, if_neg g]
theorem auto0_line (l : Int) (r : Tx) : ∀ (k : Nat) (s : Tx) (p : Int), s.length ≤ k → 10 ∉ s → (∀ c ∈ s.head?, ¬ c = 32) → auto0 (s ++ 10 :: r) l p false = bind0 (lineR l k p s) fun ts => pre ts (auto0 r (l + 1) 0 false)
  | k, [], p, hk, h, h0 => by
    have : lineR l k p [] = .ok [] := by cases k <;> rfl
    rw [this, List.nil_append, auto0_cons, if_pos rfl]
    simp only [bind0]
    rw [pre_nil]
  | 0, c :: s, p, hk, h, h0 => by simp at hk
  | k + 1, c :: s, p, hk, h, h0 => by
    have c10 : ¬ c = 10 := fun z => h (by simp [z])
    have c32 : ¬ c = 32 := h0 c (by simp)
    by_cases c35 : c = 35
    · rw [lineR_35 c35, List.cons_append, auto0_cons, if_neg c10, if_neg (by simpa using c32), if_pos c35, auto0_rem l r s _ fun z => h (List.mem_cons_of_mem _ z)]
      simp only [bind0]
      rw [pre_nil]
    · rw [auto0_tok l p c s r c10 c32 c35]
      cases q : tokR l p (c :: s) with
      | error e => rw [lineR_e c35 q]; rfl
      | ok t =>
        obtain ⟨m, m1, m2, m3, m4⟩ := tok_len q
        simp only
        rw [m4]
        have hd10 : 10 ∉ (c :: s).drop m := fun z => h (List.mem_of_mem_drop z)
        rw [auto0_blank]
        obtain ⟨s1, s2⟩ := many_split [32] ((c :: s).drop m)
        have hl : (((c :: s).drop m).drop (many [32] ((c :: s).drop m))).length ≤ k := by
          rw [List.length_drop, List.length_drop]
          simp only [List.length_cons] at hk m2 ⊢
          omega
        rw [auto0_line l r k (((c :: s).drop m).drop (many [32] ((c :: s).drop m))) (p + m + many [32] ((c :: s).drop m)) hl (fun z => hd10 (List.mem_of_mem_drop z)) (fun d hd => by simpa using s2 d hd)]
        cases q2 : lineR l k (p + m + many [32] ((c :: s).drop m)) (((c :: s).drop m).drop (many [32] ((c :: s).drop m))) with
        | error e => rw [lineR_te c35 q (by rw [m4]; exact q2)]; rfl
        | ok ts =>
          rw [lineR_tt c35 q (by rw [m4]; exact q2)]
          simp only [bind0]
          rw [pre_pre]
          rfl
theorem auto0_lineT (l : Int) (r L : Tx) (h : 10 ∉ L) : auto0 (L ++ 10 :: r) l 0 false = bind0 (lineT l L) fun ts => pre ts (auto0 r (l + 1) 0 false) := by
  obtain ⟨s1, s2⟩ := many_split [32] L
  rw [auto0_blank, auto0_line l r L.length _ _ (by rw [List.length_drop]; omega) (fun z => h (List.mem_of_mem_drop z)) (fun d hd => by simpa using s2 d hd)]
  unfold lineT
  rw [Int.zero_add]
theorem linesR_cons (l : Int) (L : Tx) (Ls : List Tx) : linesR l (L :: Ls) = bind0 (lineT l L) fun ts => pre ts (linesR (l + 1) Ls) := by
  have : linesR l (L :: Ls) = match lineT l L with
    | .error e => .error e
    | .ok ts => match linesR (l + 1) Ls with
      | .error e => .error e
      | .ok us => .ok (ts ++ us) := rfl
  rw [this]
  cases lineT l L with
  | error e => rfl
  | ok ts =>
    simp only [bind0]
    cases linesR (l + 1) Ls <;> rfl
theorem split10 : ∀ text : Tx, 10 ∈ text → ∃ L r, text = L ++ 10 :: r ∧ 10 ∉ L
  | [], m => by cases m
  | c :: s, m => by
    by_cases h : c = 10
    · exact ⟨[], s, by rw [h]; rfl, by simp⟩
    · obtain ⟨L, r, e, hL⟩ := split10 s (by rcases List.mem_cons.mp m with z | z; exact absurd z.symm h; exact z)
      exact ⟨c :: L, r, by rw [e]; rfl, by simp only [List.mem_cons, not_or]; exact ⟨fun z => h z.symm, hL⟩⟩
theorem auto_text : ∀ (k : Nat) (text : Tx) (l : Int), text.length ≤ k → auto0 (text ++ [10]) l 0 false = linesR l (splL 10 text) := by
  intro k
  induction k with
  | zero =>
    intro text l hk
    have : text = [] := List.length_eq_zero_iff.mp (by omega)
    subst this
    rw [auto0_lineT l [] [] (by simp)]
    show _ = linesR l [[]]
    rw [linesR_cons]
    rfl
  | succ k ih =>
    intro text l hk
    by_cases m : 10 ∈ text
    · obtain ⟨L, r, e, hL⟩ := split10 text m
      subst e
      rw [spl_app 10 L r hL, linesR_cons, List.append_assoc, List.cons_append, auto0_lineT l (r ++ [10]) L hL]
      rw [ih r (l + 1) (by simp at hk; omega)]
    · rw [spl_free 10 text m, linesR_cons, auto0_lineT l [] text m]
      rfl
theorem both (text : Tx) : auto0 (text ++ [10]) 1 0 false = textR text := auto_text text.length text 1 (Nat.le_refl _)
end Lk03

namespace Lk03
open Ivy
theorem ediv_le {c m : Int} (h : 0 ≤ c) (hm : 0 < m) : c / m ≤ c := Int.ediv_le_self m h
/-! ### the ink: cells 0 and 1 of the heap; N drops are left -/
structure SprD (h : Hh) (cs : List Int) (k s : Int) : Prop where
  c : h[0]? = some (.lst (cs.map .int))
  s1 : h[1]? = some (.lst [.ref 0, .int k, .int s])
  pos : ∀ c ∈ cs, 0 ≤ c ∧ c < 2 ^ 2000
  len : cs.length ≤ 63
  k0 : 0 ≤ k
  s0 : 0 ≤ s
  sl : s < 2305843009213693951
def Spr (N : Nat) (h : Hh) : Prop := ∃ cs k s, SprD h cs k s ∧ k + N ≤ 1099511627776
theorem Spr.le {N M : Nat} {h : Hh} (x : Spr N h) (e : M ≤ N) : Spr M h := by
  obtain ⟨cs, k, s, x, y⟩ := x
  exact ⟨cs, k, s, x, by omega⟩
/-- what stays: all but the two cells -/
structure Sp (N : Nat) (h h' : Hh) : Prop where
  len : h'.length = h.length
  off : ∀ i, 2 ≤ i → h'[i]? = h[i]?
  spr : Spr N h'
theorem Sp.trans {N M : Nat} {a b c : Hh} (x : Sp N a b) (y : Sp M b c) : Sp M a c := ⟨y.len.trans x.len, fun i hi => (y.off i hi).trans (x.off i hi), y.spr⟩
theorem Sp.le {N M : Nat} {h h' : Hh} (x : Sp N h h') (e : M ≤ N) : Sp M h h' := ⟨x.len, x.off, x.spr.le e⟩
theorem Spr.refl {N : Nat} {h : Hh} (x : Spr N h) : Sp N h h := ⟨rfl, fun _ _ => rfl, x⟩
theorem set0 {h : Hh} {c : C} {i : Nat} (hi : i ≠ 0) : (h.set 0 c)[i]? = h[i]? := List.getElem?_set_ne (Ne.symm hi)
theorem set1 {h : Hh} {c : C} {i : Nat} (hi : i ≠ 1) : (h.set 1 c)[i]? = h[i]? := List.getElem?_set_ne (Ne.symm hi)
theorem SprD.bump {N : Nat} {h : Hh} {cs cs' : List Int} {k s k' s' : Int} (x : SprD h cs k s) (hp : ∀ c ∈ cs', 0 ≤ c ∧ c < 2 ^ 2000) (hl : cs'.length ≤ 63) (hk : 0 ≤ k') (h0 : 0 ≤ s') (h1 : s' < 2305843009213693951) (hN : k' + N ≤ 1099511627776) {h' : Hh}
    (e : ∀ i, h'[i]? = if i = 0 then some (.lst (cs'.map .int)) else if i = 1 then some (.lst [.ref 0, .int k', .int s']) else h[i]?) (el : h'.length = h.length) : Sp N h h' :=
  ⟨el, fun i hi => by rw [e, if_neg (by omega), if_neg (by omega)], cs', k', s', ⟨by rw [e, if_pos rfl], by rw [e, if_neg (by omega), if_pos rfl], hp, hl, hk, h0, h1⟩, hN⟩
theorem drop_ok {w N : Nat} (n : Nat) (h : Hh) (m : Int) (hs : Spr (N + 1) h) (hm : 0 < m) (hz : m < 1099511627776) : ∃ t h', callF (Pr w) (n + 1) 5 [.ref 1, .int m] h = .ok (.int t) h' ∧ 0 ≤ t ∧ t < m ∧ Sp N h h' := by
  obtain ⟨cs, k, s, x, hk⟩ := hs
  have x0 := x.c; have x1 := x.s1; have k0 := x.k0; have s0 := x.s0; have sl := x.sl
  have l1 : 1 < h.length := (List.getElem?_eq_some_iff.mp x1).1
  have m0 : m ≠ 0 := by omega
  have mb : m.natAbs < bigD := small_bigD (by omega)
  have e1 : opApp sub .idx [.ref 1, .int 1] h = .ok (.int k) h := by rw [o_idxL x1]; simp
  have e2 : opApp sub .setItem [.int (k + 1), .ref 1, .int 1] h = .ok .non (h.set 1 (.lst [.ref 0, .int (k + 1), .int s])) := by
    rw [o_setL x1]; simp [ixP]
  generalize hh1 : h.set 1 (.lst [.ref 0, .int (k + 1), .int s]) = h1 at *
  have y0 : h1[0]? = some (.lst (cs.map .int)) := by rw [← hh1, set1 (by omega)]; exact x0
  have y1 : h1[1]? = some (.lst [.ref 0, .int (k + 1), .int s]) := by rw [← hh1, List.getElem?_set_self l1]
  have l1' : 1 < h1.length := by rw [← hh1]; simpa using l1
  have e3 : opApp sub .idx [.ref 1, .int 0] h1 = .ok (.ref 0) h1 := by rw [o_idxL y1]; simp
  have e5 : opApp sub .idx [.ref 1, .int 1] h1 = .ok (.int (k + 1)) h1 := by rw [o_idxL y1]; simp
  have e6 : opApp sub .idx [.ref 1, .int 2] h1 = .ok (.int s) h1 := by rw [o_idxL y1]; simp
  have g1 : opApp sub .len [.ref 0] h1 = .ok (.int cs.length) h1 := by rw [o_lenL y0]; simp
  have p1 : (2305843009213693951 : Int) ≠ 0 := by decide
  have p2 : (0 : Int) < 2305843009213693951 := by decide
  have p3 : (16381 : Nat) < bigD := small_bigD (x := 16381) (by decide)
  have p4 : (1073741824 : Nat) < bigD := small_bigD (x := 1073741824) (by decide)
  have p5 : (2 : Nat) < bigD := small_bigD (x := 2) (by decide)
  have p6 : (0 : Int) < 16381 := by decide
  have p7 : (0 : Int) < 1073741824 := by decide
  have p8 : (0 : Int) < 2 := by decide
  have k2 : mulOk (k + 1) 99991 = true := mul_small (.inr (by decide))
  -- the end, from any mix
  have last : ∀ mix : Int, 0 ≤ mix → mix < 9223372036854775808000 → ∃ v h2, mulOk mix (mix / 16381 + 3935559000370003845) = true ∧ (mix * (mix / 16381 + 3935559000370003845)) % 2305843009213693951 = v ∧
      opApp sub .setItem [.int v, .ref 1, .int 2] h1 = .ok .non h2 ∧ opApp sub .idx [.ref 1, .int 2] h2 = .ok (.int v) h2 ∧ h2.length = h.length ∧ Sp N h h2 := fun mix m0 m1 => by
    have vb := Int.emod_nonneg (mix * (mix / 16381 + 3935559000370003845)) p1
    have vl := Int.emod_lt_of_pos (mix * (mix / 16381 + 3935559000370003845)) p2
    generalize hv : (mix * (mix / 16381 + 3935559000370003845)) % 2305843009213693951 = v at *
    have z1 : (h1.set 1 (.lst [.ref 0, .int (k + 1), .int v]))[1]? = some (.lst [.ref 0, .int (k + 1), .int v]) := by rw [List.getElem?_set_self l1']
    have el : (h1.set 1 (.lst [.ref 0, .int (k + 1), .int v])).length = h.length := by rw [← hh1]; simp
    refine ⟨v, h1.set 1 (.lst [.ref 0, .int (k + 1), .int v]), mul_small (.inr (by omega)), rfl, by rw [o_setL y1]; simp [ixP], by rw [o_idxL z1]; simp, el, ?_⟩
    refine x.bump (cs' := cs) (k' := k + 1) (s' := v) x.pos x.len (by omega) vb vl (by omega) (fun i => ?_) el
    by_cases i0 : i = 0
    · subst i0; rw [if_pos rfl, set1 (by omega), y0]
    · by_cases i1 : i = 1
      · subst i1; rw [if_neg i0, if_pos rfl, z1]
      · rw [if_neg i0, if_neg i1, set1 i1, ← hh1, set1 i1]
  have res : ∀ v : Int, 0 ≤ v / 1073741824 % m ∧ v / 1073741824 % m < m := fun v => ⟨Int.emod_nonneg _ m0, Int.emod_lt_of_pos _ hm⟩
  by_cases L0 : cs.length = 0
  · have ce : (cs.length : Int) = 0 := by omega
    rw [ce] at g1
    obtain ⟨v, h2, q1, q3, q4, q5, q7, q8⟩ := last (s + (k + 1) * 99991) (by omega) (by omega)
    refine ⟨_, h2, ?_, (res v).1, (res v).2, q8⟩
    rw [u5]
    simp [runF, _law_drop, startS, evSs, evS, evE, evEs, evT, e1, e2, e3, e5, e6, g1, k2, fdiv_pos p6, q1, fmod_pos p2, q3, q4, q5, fdiv_pos p7, fmod_pos hm, m0, p3, p4, endF, fin_len q7]
  · have Lp : (0 : Int) < (cs.length : Int) := by omega
    have Ln : ¬ (cs.length : Int) = 0 := by omega
    have Lz : ¬ cs = [] := fun z => L0 (by rw [z]; rfl)
    obtain ⟨j, jl, jp⟩ : ∃ j : Nat, j < cs.length ∧ ((k + 1) / 2 + (k + 1)) % (cs.length : Int) = (j : Int) := by
      have a0 := Int.emod_nonneg ((k + 1) / 2 + (k + 1)) Ln
      have a1 := Int.emod_lt_of_pos ((k + 1) / 2 + (k + 1)) Lp
      exact ⟨(((k + 1) / 2 + (k + 1)) % (cs.length : Int)).toNat, by omega, by omega⟩
    have jl2 : j < (cs.map D.int).length := by simpa using jl
    have g2 : opApp sub .idx [.ref 0, .int (j : Int)] h1 = .ok (.int cs[j]) h1 := by rw [o_idxL y0, atP_nat jl2]; simp
    have cb := x.pos cs[j] (List.getElem_mem ..)
    generalize hc : cs[j] = c at *
    generalize hL : (cs.length : Int) = L at *
    by_cases big18 : 1000000000000000000 ≤ c
    · have g3 : opApp sub .setItem [.int (c / m), .ref 0, .int (j : Int)] h1 = .ok .non (h1.set 0 (.lst ((cs.set j (c / m)).map .int))) := by
        rw [o_setL y0]
        have : ixP (cs.map D.int).length (j : Int) = some j := by
          unfold ixP
          rw [if_pos (by omega), if_pos (by omega)]
          simp
        rw [this]
        simp [List.map_set]
      generalize hh2 : h1.set 0 (.lst ((cs.set j (c / m)).map .int)) = h2 at *
      have el : h2.length = h.length := by rw [← hh2, ← hh1]; simp
      have q0 := Int.ediv_nonneg cb.1 (show 0 ≤ m by omega)
      have q1 := ediv_le cb.1 hm
      refine ⟨c % m, h2, ?_, Int.emod_nonneg _ m0, Int.emod_lt_of_pos _ hm, x.bump (cs' := cs.set j (c / m)) (k' := k + 1) (s' := s) (fun y hy => ?_) (by rw [List.length_set]; exact x.len) (by omega) s0 sl (by omega) (fun i => ?_) el⟩
      · rw [u5]
        simp [runF, _law_drop, startS, evSs, evS, evE, evEs, evT, e1, e2, e3, e5, e6, k2, g1, Lp, Ln, fdiv_pos p8, p5, fmod_pos Lp, jp, g2, big18, fdiv_pos hm, fmod_pos hm, m0, mb, g3, endF, fin_len el]
      · rcases List.mem_or_eq_of_mem_set hy with z | z
        · exact x.pos y z
        · subst z; omega
      · rw [← hh2, ← hh1]
        by_cases i0 : i = 0
        · subst i0
          rw [if_pos rfl, List.getElem?_set_self (by simp; omega)]
        · by_cases i1 : i = 1
          · subst i1
            rw [if_neg i0, if_pos rfl, set0 i0, List.getElem?_set_self l1]
          · rw [if_neg i0, if_neg i1, set0 i0, set1 i1]
    · obtain ⟨v, h2, q1, q3, q4, q5, q7, q8⟩ := last (s + (k + 1) * 99991 + c * 3) (by omega) (by omega)
      have c3 : mulOk c 3 = true := mul_small (.inr (by decide))
      refine ⟨_, h2, ?_, (res v).1, (res v).2, q8⟩
      rw [u5]
      simp [runF, _law_drop, startS, evSs, evS, evE, evEs, evT, e1, e2, e3, e5, e6, k2, c3, g1, Lp, Ln, fdiv_pos p8, p5, fmod_pos Lp, jp, g2, big18, fdiv_pos p6, q1, fmod_pos p2, q3, q4, q5, fdiv_pos p7, fmod_pos hm, m0, p3, p4, endF, fin_len q7]
/-! ### the heap within a def's body -/
def isRef : D → Bool
  | .ref _ => true
  | _ => false
structure Spx (N : Nat) (h g : Hh) : Prop where
  len : h.length ≤ g.length
  off : ∀ i, 2 ≤ i → i < h.length → g[i]? = h[i]?
  spr : Spr N g
theorem Spx.refl {N : Nat} {h : Hh} (x : Spr N h) : Spx N h h := ⟨Nat.le_refl _, fun _ _ _ => rfl, x⟩
theorem Spx.go {N M : Nat} {h g g' : Hh} (x : Spx N h g) (y : Sp M g g') : Spx M h g' := ⟨by rw [y.len]; exact x.len, fun i h2 hi => (y.off i h2).trans (x.off i h2 hi), y.spr⟩
theorem Spx.trans {N M : Nat} {h g g' : Hh} (x : Spx N h g) (y : Spx M g g') : Spx M h g' := ⟨Nat.le_trans x.len y.len, fun i h2 hi => (y.off i h2 (Nat.lt_of_lt_of_le hi x.len)).trans (x.off i h2 hi), y.spr⟩
theorem Spx.le {N M : Nat} {h g : Hh} (x : Spx N h g) (e : M ≤ N) : Spx M h g := ⟨x.len, x.off, x.spr.le e⟩
theorem Spr.app {N : Nat} {h : Hh} {c : C} (x : Spr N h) : Spr N (h ++ [c]) := by
  obtain ⟨cs, k, s, x, y⟩ := x
  have l1 := (List.getElem?_eq_some_iff.mp x.s1).1
  exact ⟨cs, k, s, ⟨by rw [List.getElem?_append_left (by omega)]; exact x.c, by rw [List.getElem?_append_left l1]; exact x.s1, x.pos, x.len, x.k0, x.s0, x.sl⟩, y⟩
theorem Spx.app {N : Nat} {h g : Hh} {c : C} (x : Spx N h g) : Spx N h (g ++ [c]) := ⟨by have := x.len; simp; omega, fun i h2 hi => by
  rw [List.getElem?_append_left (by have := x.len; omega)]; exact x.off i h2 hi, x.spr.app⟩
theorem Spr.len {N : Nat} {h : Hh} (x : Spr N h) : 2 ≤ h.length := by
  obtain ⟨cs, k, s, x, y⟩ := x
  have l1 := (List.getElem?_eq_some_iff.mp x.s1).1
  omega
theorem low_ints (n : Nat) : ∀ cs : List Int, D.lowL n (cs.map .int) = true
  | [] => by simp [D.lowL]
  | c :: cs => by simp [D.lowL, D.low, low_ints n cs]
theorem trim_of {n : Nat} : ∀ (h g : Hh), h.length ≤ g.length → (∀ (i : Nat) (c c' : C), h[i]? = some c → g[i]? = some c' → c = c' ∨ C.low n c' = true) → trimOk n h g = true
  | [], _, _, _ => rfl
  | c :: h, [], hl, _ => by simp at hl
  | c :: h, c' :: g, hl, k => by
    show ((C.beq c c' || C.low n c') && trimOk n h g) = true
    rw [Bool.and_eq_true]
    refine ⟨?_, trim_of h g (by simpa using hl) fun i a b ha hb => k (i + 1) a b (by simpa using ha) (by simpa using hb)⟩
    rcases k 0 c c' rfl rfl with e | e
    · rw [e, cbeq_refl]; rfl
    · rw [e, Bool.or_true]
theorem fin_ok {N M : Nat} {h g : Hh} {d : D} (h0 : Spr M h) (x : Spx N h g) (hd : D.low h.length d = true) (hr : isRef d = false) : ∃ h', finish h d g = .ok d h' ∧ Sp N h h' := by
  by_cases e : g.length = h.length
  · exact ⟨g, fin_len e, e, fun i h2 => by
      by_cases hi : i < h.length
      · exact x.off i h2 hi
      · rw [List.getElem?_eq_none (by omega), List.getElem?_eq_none (by omega)], x.spr⟩
  · have el : lift h.length g d = d := by cases d <;> first | rfl | cases hr
    have h2 := h0.len
    have tr : trimOk h.length h g = true := by
      refine trim_of h g x.len fun i c c' hc hc' => ?_
      have hi := (List.getElem?_eq_some_iff.mp hc).1
      obtain ⟨cs, k, s, y, _⟩ := x.spr
      by_cases i0 : i = 0
      · subst i0
        rw [y.c] at hc'
        cases hc'
        exact .inr (by simp [C.low, low_ints])
      · by_cases i1 : i = 1
        · subst i1
          rw [y.s1] at hc'
          cases hc'
          refine .inr ?_
          simp [C.low, D.lowL, D.low]
          omega
        · rw [x.off i (by omega) hi, hc] at hc'
          exact .inl (Option.some.inj hc')
    refine ⟨g.take h.length, ?_, ?_, ?_, ?_⟩
    · unfold finish
      rw [if_neg e, el, hd, tr]
      rfl
    · rw [List.length_take]; have := x.len; omega
    · intro i h2
      by_cases hi : i < h.length
      · rw [List.getElem?_take_of_lt hi]; exact x.off i h2 hi
      · rw [List.getElem?_eq_none (by rw [List.length_take]; omega), List.getElem?_eq_none (by omega)]
    · obtain ⟨cs, k, s, y, z⟩ := x.spr
      exact ⟨cs, k, s, ⟨by rw [List.getElem?_take_of_lt (by omega)]; exact y.c, by rw [List.getElem?_take_of_lt (by omega)]; exact y.s1, y.pos, y.len, y.k0, y.s0, y.sl⟩, z⟩
/-- a new list, and one thing out of it -/
theorem pickL_ok {w N : Nat} (n : Nat) (h : Hh) (ds : List D) (hs : Spr (N + 1) h) (hn : ds ≠ []) (hz : ds.length < 1000) (hp : ∀ d ∈ ds, D.low (h.length + 1) d = true ∧ isRef d = false) :
    ∃ d h', callF (Pr w) (n + 2) 6 [.ref 1, .ref h.length] (h ++ [.lst ds]) = .ok d h' ∧ d ∈ ds ∧ Spx N h h' := by
  have dl : 0 < ds.length := List.length_pos_iff.mpr hn
  have hr : (h ++ [C.lst ds])[h.length]? = some (.lst ds) := by simp
  obtain ⟨t, h1, e1, t0, t1, sp⟩ := drop_ok (w := w) n (h ++ [.lst ds]) (ds.length : Int) hs.app (by omega) (by omega)
  have e2 : opApp sub .len [.ref h.length] (h ++ [.lst ds]) = .ok (.int ds.length) (h ++ [.lst ds]) := o_lenL hr
  have hr1 : h1[h.length]? = some (.lst ds) := by rw [sp.off _ hs.len]; exact hr
  obtain ⟨j, rfl⟩ : ∃ j : Nat, t = j := ⟨t.toNat, by omega⟩
  have jl : j < ds.length := by omega
  have e3 : opApp sub .idx [.ref h.length, .int (j : Int)] h1 = .ok ds[j] h1 := by rw [o_idxL hr1, atP_nat jl]
  have m := List.getElem_mem jl
  obtain ⟨h', f1, f2⟩ := fin_ok (d := ds[j]) hs.app ((Spx.refl hs.app).go sp) (by simpa using (hp _ m).1) (hp _ m).2
  refine ⟨ds[j], h', ?_, m, ((Spx.refl hs).app).go f2⟩
  rw [u6]
  simp [runF, _law_pick, startS, evSs, evS, evE, evEs, evT, e2, e1, e3, endF, f1]
/-- one sign out of a text -/
theorem pickS_ok {w N : Nat} (n : Nat) (h : Hh) (x : Tx) (hs : Spr (N + 1) h) (hn : x ≠ []) (hz : x.length < 1000) :
    ∃ c h', callF (Pr w) (n + 2) 6 [.ref 1, .str x] h = .ok (.str [c]) h' ∧ c ∈ x ∧ Sp N h h' := by
  have dl : 0 < x.length := List.length_pos_iff.mpr hn
  obtain ⟨t, h1, e1, t0, t1, sp⟩ := drop_ok (w := w) n h (x.length : Int) hs (by omega) (by omega)
  obtain ⟨j, rfl⟩ : ∃ j : Nat, t = j := ⟨t.toNat, by omega⟩
  have jl : j < x.length := by omega
  have e2 : atP x (j : Int) = some x[j] := atP_nat jl
  have xl : x.length ≤ 16777216 := by omega
  refine ⟨x[j], h1, ?_, List.getElem_mem jl, sp⟩
  rw [u6]
  simp [runF, _law_pick, startS, evSs, evS, evE, evEs, evT, xl, e1, e2, endF, fin_len sp.len]
end Lk03

namespace Lk03
open Ivy
/-! ### drawn texts -/
theorem pickT_ok {w N : Nat} (n : Nat) (h : Hh) (xs : List Tx) (hs : Spr (N + 1) h) (hn : xs ≠ []) (hz : xs.length < 1000) :
    ∃ x h', callF (Pr w) (n + 2) 6 [.ref 1, .ref h.length] (h ++ [.lst (xs.map .str)]) = .ok (.str x) h' ∧ x ∈ xs ∧ Spx N h h' := by
  obtain ⟨d, h', e, m, x⟩ := pickL_ok (w := w) n h (xs.map .str) hs (by simpa using hn) (by simpa using hz) (fun d hd => by
    obtain ⟨y, _, rfl⟩ := List.mem_map.mp hd
    exact ⟨by simp [D.low], rfl⟩)
  obtain ⟨y, hy, rfl⟩ := List.mem_map.mp m
  exact ⟨y, h', e, hy, x⟩
theorem pickI_ok {w N : Nat} (n : Nat) (h : Hh) (xs : List Int) (hs : Spr (N + 1) h) (hn : xs ≠ []) (hz : xs.length < 1000) :
    ∃ x h', callF (Pr w) (n + 2) 6 [.ref 1, .ref h.length] (h ++ [.lst (xs.map .int)]) = .ok (.int x) h' ∧ x ∈ xs ∧ Spx N h h' := by
  obtain ⟨d, h', e, m, x⟩ := pickL_ok (w := w) n h (xs.map .int) hs (by simpa using hn) (by simpa using hz) (fun d hd => by
    obtain ⟨y, _, rfl⟩ := List.mem_map.mp hd
    exact ⟨by simp [D.low], rfl⟩)
  obtain ⟨y, hy, rfl⟩ := List.mem_map.mp m
  exact ⟨y, h', e, hy, x⟩
theorem sm_ne : sm ≠ [] := by decide
theorem word_lp {w N n : Nat} {z : D} : ∀ (xs : List D) (x : Tx) (h : Hh), (∀ d ∈ xs, D.pers d = true) → Spr (N + xs.length) h → x.length + xs.length < 1000 →
    ∃ x' h', lpF [] (.name 3) [3] (evSs (gk w (n + 2)) _law_word_l1) xs [some (.ref 1), some z, some (.str x), none] h = .nx [some (.ref 1), some z, some (.str x'), none] h' ∧ x'.length = x.length + xs.length ∧ Sp N h h' ∧ ∃ u, x' = x ++ u ∧ ∀ c ∈ u, c ∈ sm ++ fg
  | [], x, h, hp, hs, hl => ⟨x, h, by simp [lpF_nil], rfl, hs.refl, [], by simp, by simp⟩
  | d :: xs, x, h, hp, hs, hl => by
    simp only [List.length_cons] at hl
    obtain ⟨c, h1, e1, m1, s1⟩ := pickS_ok (w := w) (N := N + xs.length) n h (sm ++ fg) hs (by decide) (by decide)
    obtain ⟨x', h', e2, l2, s2, u, hu, hu2⟩ := word_lp (w := w) (N := N) (n := n) (z := z) xs (x ++ [c]) h1 (fun d m => hp d (List.mem_cons_of_mem _ m)) s1.spr (by simp; omega)
    refine ⟨x', h', ?_, by rw [l2]; simp; omega, s1.trans s2, c :: u, by rw [hu]; simp, fun y hy => by
      rcases List.mem_cons.mp hy with rfl | hy
      · exact m1
      · exact hu2 y hy⟩
    have xl : x.length + 1 ≤ 16777216 := by omega
    rw [lpF_go (δ1 := [some (.ref 1), some z, some (.str x), some d]) (h2 := h1) (δ2 := [some (.ref 1), some z, some (.str (x ++ [c])), some d]) (by simp [hp d (List.mem_cons_self ..)]) (by
      simp [_law_word_l1, evSs, evS, evE, evEs, evT, small_ok, figs_ok, sm_len, fg_len, e1, xl])]
    simp only [wipe1, wipe0, List.set_cons_succ, List.set_cons_zero]
    exact e2
theorem word_ok {w N : Nat} (n m : Nat) (h : Hh) (hs : Spr (N + (m + 1)) h) (hm : m < 900) : ∃ c u h', callF (Pr w) (n + 3) 13 [.ref 1, .int ((m + 1 : Nat) : Int)] h = .ok (.str (c :: u)) h' ∧ u.length = m ∧ Sp N h h' ∧ c ∈ sm ∧ ∀ d ∈ u, d ∈ sm ++ fg := by
  obtain ⟨c, h1, e1, m1, s1⟩ := pickS_ok (w := w) (N := N + m) n h sm hs sm_ne (by decide)
  have rl : ∀ k : Int, (k = (m : Int)) → (rangeL 0 (rangeN 0 k 1) 1).length = m := fun k e => by subst e; rw [range_nat]; simp
  obtain ⟨x, h', e2, l2, s2, u, hu, hu2⟩ := word_lp (w := w) (N := N) (n := n) (z := .int ((m + 1 : Nat) : Int)) (rangeL 0 (rangeN 0 (((m + 1 : Nat) : Int) - 1) 1) 1) [c] h1 rangeL_pers (by rw [rl _ (by omega)]; exact s1.spr) (by rw [rl _ (by omega)]; simp; omega)
  rw [rl _ (by omega)] at l2
  subst hu
  refine ⟨c, u, h', ?_, by simp at l2; omega, s1.trans s2, m1, hu2⟩
  rw [u13]
  have fl := (s1.trans s2).len
  simp only [List.singleton_append] at e2
  generalize ((m + 1 : Nat) : Int) = z at *
  simp [runF, _law_word, startS, evSs, evS, evE, evEs, evT, evI, small_ok, e1, rng1, e2, endF, fin_len fl]
abbrev nine : Tx := [49, 50, 51, 52, 53, 54, 55, 56, 57]
theorem number_lp {w N n : Nat} {z : D} : ∀ (xs : List D) (x : Tx) (h : Hh), (∀ d ∈ xs, D.pers d = true) → Spr (N + xs.length) h → x.length + xs.length < 1000 →
    ∃ x' h', lpF [] (.name 3) [3] (evSs (gk w (n + 2)) _law_number_l1) xs [some (.ref 1), some z, some (.str x), none] h = .nx [some (.ref 1), some z, some (.str x'), none] h' ∧ x'.length = x.length + xs.length ∧ Sp N h h' ∧ ∃ u, x' = x ++ u ∧ ∀ c ∈ u, c ∈ fg
  | [], x, h, hp, hs, hl => ⟨x, h, by simp [lpF_nil], rfl, hs.refl, [], by simp, by simp⟩
  | d :: xs, x, h, hp, hs, hl => by
    simp only [List.length_cons] at hl
    obtain ⟨c, h1, e1, m1, s1⟩ := pickS_ok (w := w) (N := N + xs.length) n h fg hs (by decide) (by decide)
    obtain ⟨x', h', e2, l2, s2, u, hu, hu2⟩ := number_lp (w := w) (N := N) (n := n) (z := z) xs (x ++ [c]) h1 (fun d m => hp d (List.mem_cons_of_mem _ m)) s1.spr (by simp; omega)
    refine ⟨x', h', ?_, by rw [l2]; simp; omega, s1.trans s2, c :: u, by rw [hu]; simp, fun y hy => by
      rcases List.mem_cons.mp hy with rfl | hy
      · exact m1
      · exact hu2 y hy⟩
    have xl : x.length + 1 ≤ 16777216 := by omega
    rw [lpF_go (δ1 := [some (.ref 1), some z, some (.str x), some d]) (h2 := h1) (δ2 := [some (.ref 1), some z, some (.str (x ++ [c])), some d]) (by simp [hp d (List.mem_cons_self ..)]) (by
      simp [_law_number_l1, evSs, evS, evE, evEs, evT, small_ok, figs_ok, sm_len, fg_len, e1, xl])]
    simp only [wipe1, wipe0, List.set_cons_succ, List.set_cons_zero]
    exact e2
/-- a number: a figure from 1 to 9, then any -/
theorem number_ok {w N : Nat} (n m : Nat) (h : Hh) (hs : Spr (N + (m + 1)) h) (hm : m < 900) : ∃ c u h', callF (Pr w) (n + 3) 14 [.ref 1, .int ((m + 1 : Nat) : Int)] h = .ok (.str (c :: u)) h' ∧ u.length = m ∧ Sp N h h' ∧ c ∈ nine ∧ ∀ d ∈ u, d ∈ fg := by
  obtain ⟨c, h1, e1, m1, s1⟩ := pickS_ok (w := w) (N := N + m) n h nine hs (by decide) (by decide)
  have rl : ∀ k : Int, (k = (m : Int)) → (rangeL 0 (rangeN 0 k 1) 1).length = m := fun k e => by subst e; rw [range_nat]; simp
  obtain ⟨x, h', e2, l2, s2, u, hu, hu2⟩ := number_lp (w := w) (N := N) (n := n) (z := .int ((m + 1 : Nat) : Int)) (rangeL 0 (rangeN 0 (((m + 1 : Nat) : Int) - 1) 1) 1) [c] h1 rangeL_pers (by rw [rl _ (by omega)]; exact s1.spr) (by rw [rl _ (by omega)]; simp; omega)
  rw [rl _ (by omega)] at l2
  subst hu
  refine ⟨c, u, h', ?_, by simp at l2; omega, s1.trans s2, m1, hu2⟩
  rw [u14]
  have fl := (s1.trans s2).len
  simp only [List.singleton_append] at e2
  generalize ((m + 1 : Nat) : Int) = z at *
  simp [runF, _law_number, startS, evSs, evS, evE, evEs, evT, evI, small_ok, e1, rng1, e2, endF, fin_len fl]
abbrev odds : Tx := [65, 66, 67, 68, 69, 70, 71, 72, 73, 74, 75, 76, 77, 78, 79, 80, 81, 82, 83, 84, 85, 86, 87, 88, 89, 90, 95, 33, 36, 38, 39, 40, 41, 42, 43, 44, 46, 47, 60, 61, 62, 63, 64, 91, 93, 94, 124, 126, 96, 34, 92, 9]
theorem odd_ok {w N : Nat} (n : Nat) (h : Hh) (hs : Spr (N + 1) h) : ∃ c h', callF (Pr w) (n + 3) 15 [.ref 1] h = .ok (.str [c]) h' ∧ c ∈ odds ∧ Sp N h h' := by
  obtain ⟨c, h1, e1, m1, s1⟩ := pickS_ok (w := w) (N := N) n h odds hs (by decide) (by decide)
  refine ⟨c, h1, ?_, m1, s1⟩
  rw [u15]
  simp [runF, _law_odd, startS, evSs, evS, evE, evEs, evT, evI, e1, endF, fin_len s1.len]
end Lk03

namespace Lk03
open Ivy
theorem low_str (n : Nat) (x : Tx) : D.low n (.str x) = true := by simp [D.low]
/-- a size out of a list of sizes -/
theorem size_of {xs : List Int} {x : Int} {M : Nat} (hx : x ∈ xs) (hM : ∀ y ∈ xs, 1 ≤ y ∧ y ≤ M) : ∃ m : Nat, x = ((m + 1 : Nat) : Int) ∧ m + 1 ≤ M := by
  have := hM x hx
  exact ⟨(x - 1).toNat, by omega, by omega⟩
abbrev kept : List Tx := [[100, 101, 101, 100], [98, 121], [116, 111], [119, 111, 114, 100], [101, 105, 116, 104, 101, 114], [111, 114], [108, 111, 111, 112], [114, 101, 112, 101, 97, 116], [98, 97, 99, 107], [109, 97, 105, 110], [48]]
theorem piece_ok {w N : Nat} (n : Nat) (h : Hh) (hs : Spr (N + 20) h) : ∃ x h', callF (Pr w) (n + 4) 16 [.ref 1] h = .ok (.str x) h' ∧ 1 ≤ x.length ∧ x.length ≤ 12 ∧ Sp N h h' := by
  obtain ⟨t, h1, e1, t0, t1, s1⟩ := drop_ok (w := w) (N := N + 19) (n + 2) h 12 hs (by decide) (by decide)
  have X1 := (Spx.refl hs).go s1
  by_cases c1 : t < 3
  · obtain ⟨z, h2, e2, m2, s2⟩ := pickI_ok (w := w) (N := N + 18) (n + 1) h1 [1, 1, 2, 5, 11, 12] s1.spr (by decide) (by decide)
    obtain ⟨m, rfl, mM⟩ := size_of (M := 12) m2 (by decide)
    obtain ⟨c, u, h3, e3, l3, s3, _, _⟩ := word_ok (w := w) (N := N) n m h2 (s2.spr.le (by omega)) (by omega)
    obtain ⟨h', q1, q2⟩ := fin_ok (d := .str (c :: u)) hs ((X1.trans s2).go s3) (low_str _ _) rfl
    refine ⟨c :: u, h', ?_, by simp, by simp; omega, q2⟩
    rw [u16]
    simp only [List.map_cons, List.map_nil] at e2
    generalize ((m + 1 : Nat) : Int) = z at *
    simp [runF, _law_piece, startS, evSs, evS, evE, evEs, evT, e1, c1, e2, e3, endF, q1]
  by_cases c2 : t = 3
  · obtain ⟨z, h2, e2, m2, s2⟩ := pickI_ok (w := w) (N := N + 18) (n + 1) h1 [1, 1, 2, 6, 12] s1.spr (by decide) (by decide)
    obtain ⟨m, rfl, mM⟩ := size_of (M := 12) m2 (by decide)
    obtain ⟨c, u, h3, e3, l3, s3, _, _⟩ := number_ok (w := w) (N := N) n m h2 (s2.spr.le (by omega)) (by omega)
    obtain ⟨h', q1, q2⟩ := fin_ok (d := .str (c :: u)) hs ((X1.trans s2).go s3) (low_str _ _) rfl
    refine ⟨c :: u, h', ?_, by simp, by simp; omega, q2⟩
    rw [u16]
    simp only [List.map_cons, List.map_nil] at e2
    generalize ((m + 1 : Nat) : Int) = z at *
    simp [runF, _law_piece, startS, evSs, evS, evE, evEs, evT, e1, c1, c2, e2, e3, endF, q1]
  by_cases c3 : t = 4
  · obtain ⟨x, h2, e2, m2, s2⟩ := pickT_ok (w := w) (N := N) (n + 1) h1 kept (s1.spr.le (by omega)) (by decide) (by decide)
    obtain ⟨h', q1, q2⟩ := fin_ok (d := .str x) hs (X1.trans s2) (low_str _ _) rfl
    have lx : ∀ y ∈ kept, 1 ≤ y.length ∧ y.length ≤ 12 := by decide
    refine ⟨x, h', ?_, (lx x m2).1, (lx x m2).2, q2⟩
    rw [u16]
    simp only [List.map_cons, List.map_nil] at e2
    simp [runF, _law_piece, startS, evSs, evS, evE, evEs, evT, e1, c1, c2, c3, e2, endF, q1]
  by_cases c4 : t < 7
  · obtain ⟨c, h2, e2, m2, s2⟩ := pickS_ok (w := w) (N := N) (n + 1) h1 sg (s1.spr.le (by omega)) (by decide) (by decide)
    obtain ⟨h', q1, q2⟩ := fin_ok (d := .str [c]) hs (X1.go s2) (low_str _ _) rfl
    refine ⟨[c], h', ?_, by simp, by simp, q2⟩
    rw [u16]
    unfold sg at e2
    simp [runF, _law_piece, startS, evSs, evS, evE, evEs, evT, e1, c1, c2, c3, c4, e2, endF, q1]
  by_cases c5 : t = 7
  · obtain ⟨x, h2, e2, m2, s2⟩ := pickT_ok (w := w) (N := N) (n + 1) h1 [[10], [10, 10], [32, 10], [10, 32, 32]] (s1.spr.le (by omega)) (by decide) (by decide)
    obtain ⟨h', q1, q2⟩ := fin_ok (d := .str x) hs (X1.trans s2) (low_str _ _) rfl
    have lx : ∀ y ∈ ([[10], [10, 10], [32, 10], [10, 32, 32]] : List Tx), 1 ≤ y.length ∧ y.length ≤ 12 := by decide
    refine ⟨x, h', ?_, (lx x m2).1, (lx x m2).2, q2⟩
    rw [u16]
    simp only [List.map_cons, List.map_nil] at e2
    simp [runF, _law_piece, startS, evSs, evS, evE, evEs, evT, e1, c1, c2, c3, c4, c5, e2, endF, q1]
  by_cases c6 : t = 8
  · obtain ⟨o, h2, e2, m2, s2⟩ := odd_ok (w := w) (N := N + 18) n h1 s1.spr
    obtain ⟨x, h3, e3, m3, s3⟩ := pickT_ok (w := w) (N := N) (n + 1) h2 [[], [32], [48, 55, 32, 65], [123, 32, 35, 32, 125], [o]] (s2.spr.le (by omega)) (by simp) (by simp)
    have xl : x.length ≤ 5 := by
      simp only [List.mem_cons, List.not_mem_nil, or_false] at m3
      rcases m3 with rfl | rfl | rfl | rfl | rfl <;> simp
    obtain ⟨h', q1, q2⟩ := fin_ok (d := .str (35 :: (x ++ [10]))) hs ((X1.go s2).trans s3) (low_str _ _) rfl
    refine ⟨35 :: (x ++ [10]), h', ?_, by simp, by simp; omega, q2⟩
    rw [u16]
    simp only [List.map_cons, List.map_nil] at e3
    have x1 : 1 + x.length ≤ 16777216 := by omega
    have x2 : x.length + 1 + 1 ≤ 16777216 := by omega
    have x3 : x.length + 1 ≤ 16777216 := by omega
    simp [runF, _law_piece, startS, evSs, evS, evE, evEs, evT, e1, c1, c2, c3, c4, c5, c6, e2, e3, x1, x2, x3, endF, q1]
  · obtain ⟨x, h2, e2, m2, s2⟩ := pickT_ok (w := w) (N := N) (n + 1) h1 [[32], [32], [32, 32], [32, 32, 32, 32, 32]] (s1.spr.le (by omega)) (by decide) (by decide)
    obtain ⟨h', q1, q2⟩ := fin_ok (d := .str x) hs (X1.trans s2) (low_str _ _) rfl
    have lx : ∀ y ∈ ([[32], [32], [32, 32], [32, 32, 32, 32, 32]] : List Tx), 1 ≤ y.length ∧ y.length ≤ 12 := by decide
    refine ⟨x, h', ?_, (lx x m2).1, (lx x m2).2, q2⟩
    rw [u16]
    simp only [List.map_cons, List.map_nil] at e2
    simp [runF, _law_piece, startS, evSs, evS, evE, evEs, evT, e1, c1, c2, c3, c4, c5, c6, e2, endF, q1]
theorem fault_ok {w N : Nat} (n : Nat) (h : Hh) (hs : Spr (N + 40) h) : ∃ x h', callF (Pr w) (n + 4) 17 [.ref 1] h = .ok (.str x) h' ∧ 1 ≤ x.length ∧ x.length ≤ 30 ∧ Sp N h h' := by
  obtain ⟨t, h1, e1, t0, t1, s1⟩ := drop_ok (w := w) (N := N + 39) (n + 2) h 6 hs (by decide) (by decide)
  have X1 := (Spx.refl hs).go s1
  by_cases c1 : t < 2
  · obtain ⟨o, h2, e2, m2, s2⟩ := odd_ok (w := w) (N := N) n h1 (s1.spr.le (by omega))
    obtain ⟨h', q1, q2⟩ := fin_ok (d := .str [o]) hs (X1.go s2) (low_str _ _) rfl
    refine ⟨[o], h', ?_, by simp, by simp, q2⟩
    rw [u17]
    simp [runF, _law_fault, startS, evSs, evS, evE, evEs, evT, e1, c1, e2, endF, q1]
  by_cases c2 : t = 2
  · obtain ⟨z, h2, e2, m2, s2⟩ := pickI_ok (w := w) (N := N + 38) (n + 1) h1 [13, 13, 14, 30] s1.spr (by decide) (by decide)
    obtain ⟨m, rfl, mM⟩ := size_of (M := 30) m2 (by decide)
    obtain ⟨c, u, h3, e3, l3, s3, _, _⟩ := word_ok (w := w) (N := N) n m h2 (s2.spr.le (by omega)) (by omega)
    obtain ⟨h', q1, q2⟩ := fin_ok (d := .str (c :: u)) hs ((X1.trans s2).go s3) (low_str _ _) rfl
    refine ⟨c :: u, h', ?_, by simp, by simp; omega, q2⟩
    rw [u17]
    simp only [List.map_cons, List.map_nil] at e2
    generalize ((m + 1 : Nat) : Int) = z at *
    simp [runF, _law_fault, startS, evSs, evS, evE, evEs, evT, e1, c1, c2, e2, e3, endF, q1]
  by_cases c3 : t = 3
  · obtain ⟨o, h0, e0, m0, s0⟩ := pickS_ok (w := w) (N := N + 38) (n + 1) h1 fg s1.spr (by decide) (by decide)
    obtain ⟨z, h2, e2, m2, s2⟩ := pickI_ok (w := w) (N := N + 37) (n + 1) h0 [12, 12, 13, 25] s0.spr (by decide) (by decide)
    obtain ⟨m, rfl, mM⟩ := size_of (M := 25) m2 (by decide)
    obtain ⟨c, u, h3, e3, l3, s3, _, _⟩ := number_ok (w := w) (N := N) n m h2 (s2.spr.le (by omega)) (by omega)
    obtain ⟨h', q1, q2⟩ := fin_ok (d := .str (o :: c :: u)) hs (((X1.go s0).trans s2).go s3) (low_str _ _) rfl
    refine ⟨o :: c :: u, h', ?_, by simp, by simp; omega, q2⟩
    rw [u17]
    simp only [List.map_cons, List.map_nil] at e2
    generalize ((m + 1 : Nat) : Int) = z at *
    unfold fg at e0
    have x1 : 1 + (u.length + 1) ≤ 16777216 := by omega
    simp [runF, _law_fault, startS, evSs, evS, evE, evEs, evT, e1, c1, c2, c3, e0, e2, e3, x1, endF, q1]
  · obtain ⟨x, h2, e2, m2, s2⟩ := pickT_ok (w := w) (N := N) (n + 1) h1 [[48], [55], [48, 48], [49, 50, 51, 52, 53, 54, 55, 56, 57, 48, 49], [48, 97], [49, 98], [49, 50, 51, 52, 53, 54, 55, 56, 57, 48, 49, 50]] (s1.spr.le (by omega)) (by decide) (by decide)
    have lx : ∀ y ∈ ([[48], [55], [48, 48], [49, 50, 51, 52, 53, 54, 55, 56, 57, 48, 49], [48, 97], [49, 98], [49, 50, 51, 52, 53, 54, 55, 56, 57, 48, 49, 50]] : List Tx), y.length ≤ 12 := by decide
    have xl := lx x m2
    obtain ⟨h', q1, q2⟩ := fin_ok (d := .str (48 :: x)) hs (X1.trans s2) (low_str _ _) rfl
    refine ⟨48 :: x, h', ?_, by simp, by simp; omega, q2⟩
    rw [u17]
    simp only [List.map_cons, List.map_nil] at e2
    have x1 : 1 + x.length ≤ 16777216 := by omega
    simp [runF, _law_fault, startS, evSs, evS, evE, evEs, evT, e1, c1, c2, c3, e2, x1, endF, q1]
theorem pieces_lp {w N n : Nat} {z : D} : ∀ (xs : List D) (x : Tx) (g : Hh), (∀ d ∈ xs, D.pers d = true) → Spr (N + 21 * xs.length) g → x.length + 13 * xs.length < 1000000 →
    ∃ x' g', lpF [] (.name 3) [3] (evSs (gk w (n + 4)) _law_pieces_l1) xs [some (.ref 1), some z, some (.str x), none] g = .nx [some (.ref 1), some z, some (.str x'), none] g' ∧ x.length + xs.length ≤ x'.length ∧ x'.length ≤ x.length + 13 * xs.length ∧ Spx N g g'
  | [], x, g, hp, hs, hl => ⟨x, g, by simp [lpF_nil], by simp, by simp, Spx.refl hs⟩
  | d :: xs, x, g, hp, hs, hl => by
    simp only [List.length_cons] at hl hs
    obtain ⟨p, g1, e1, l0, l1, s1⟩ := piece_ok (w := w) (N := N + 21 * xs.length + 1) n g (hs.le (by omega))
    obtain ⟨q, g2, e2, m2, s2⟩ := pickT_ok (w := w) (N := N + 21 * xs.length) (n + 2) g1 [[], [], [32], [10]] s1.spr (by decide) (by decide)
    have ql : q.length ≤ 1 := by
      simp only [List.mem_cons, List.not_mem_nil, or_false] at m2
      rcases m2 with rfl | rfl | rfl | rfl <;> simp
    obtain ⟨x', g', e3, l2, l3, s3⟩ := pieces_lp (w := w) (N := N) (n := n) (z := z) xs (x ++ p ++ q) g2 (fun d m => hp d (List.mem_cons_of_mem _ m)) s2.spr (by simp; omega)
    simp only [List.length_append] at l2 l3
    refine ⟨x', g', ?_, by simp only [List.length_cons]; omega, by simp only [List.length_cons]; omega, (((Spx.refl hs).go s1).trans s2).trans s3⟩
    have xl : x.length + p.length ≤ 16777216 := by omega
    have xl2 : x.length + (p.length + q.length) ≤ 16777216 := by omega
    have xl3 : x.length + p.length + q.length ≤ 16777216 := by omega
    simp only [List.map_cons, List.map_nil] at e2
    rw [lpF_go (δ1 := [some (.ref 1), some z, some (.str x), some d]) (h2 := g2) (δ2 := [some (.ref 1), some z, some (.str (x ++ p ++ q)), some d]) (by simp [hp d (List.mem_cons_self ..)]) (by
      simp [_law_pieces_l1, evSs, evS, evE, evEs, evT, e1, e2, xl, xl2, xl3])]
    simp only [wipe1, wipe0, List.set_cons_succ, List.set_cons_zero]
    exact e3
theorem pieces_ok {w N : Nat} (n m : Nat) (h : Hh) (hs : Spr (N + 21 * m) h) (hm : m < 1000) : ∃ x h', callF (Pr w) (n + 5) 18 [.ref 1, .int (m : Int)] h = .ok (.str x) h' ∧ m ≤ x.length ∧ x.length ≤ 13 * m ∧ Sp N h h' := by
  have rl : (rangeL 0 (rangeN 0 (m : Int) 1) 1).length = m := by rw [range_nat]; simp
  obtain ⟨x, g, e1, l1, l2, s1⟩ := pieces_lp (w := w) (N := N) (n := n) (z := .int (m : Int)) (rangeL 0 (rangeN 0 (m : Int) 1) 1) [] h rangeL_pers (by rw [rl]; exact hs) (by rw [rl]; simp; omega)
  rw [rl] at l1 l2
  simp only [List.length_nil, Nat.zero_add] at l1 l2
  obtain ⟨h', q1, q2⟩ := fin_ok (d := .str x) hs s1 (low_str _ _) rfl
  refine ⟨x, h', ?_, l1, l2, q2⟩
  rw [u18]
  simp [runF, _law_pieces, startS, evSs, evS, evE, evEs, evT, evI, rng1, e1, endF, q1]
end Lk03

namespace Lk03
open Ivy
theorem comp_eq (G : G) (ks : List Nat) (t : Tg) (b : Ex) (it : Ivy.It) (δ : Sl) (h : Hh) : evE G (.comp ks t it [] b) δ h = (evI G it δ h).bind fun src h => (lpC src.gd (fun x h => match putT t x (wipeS δ ks) with
            | some δ' => (evTs G [] δ' h).bind fun k h => if k = true then (evE G b δ' h).bind fun y h => whenR (D.pers y) (.ok (some y) h) else .ok none h
            | none => .no) src.ds h).bind fun ys h => whenR (decide (ys.length ≤ cells)) (.ok (.lst ys) h) := by simp only [evE] <;> rfl
theorem ret_ok {G : G} {e : Ex} {δ : Sl} {h h' : Hh} {d : D} (he : evE G e δ h = .ok d h') : evS G (.ret e) δ h = .ret d h' := by
  simp only [evS, he]; rfl
theorem op2_ok {G : G} {a b : Ex} {o : Op} {δ : Sl} {h h1 h2 : Hh} {x y : D} (ha : evE G a δ h = .ok x h1) (hb : evE G b δ h1 = .ok y h2) : evE G (.op o [a, b]) δ h = opApp G.sub o [x, y] h2 := by
  simp only [evE, evEs, ha, hb, s_okb]
theorem asg_ok {G : G} {i : Nat} {e : Ex} {δ δ' : Sl} {h h' : Hh} {d : D} (he : evE G e δ h = .ok d h') (hp : putT (.name i) d δ = some δ') : evS G (.asg (.name i) e) δ h = .nx δ' h' := by
  simp only [evS, he, s_go, hp]
def st1 (c : Nat) : D := .str [c]
theorem strs_st : ∀ ys : Tx, strsL (ys.map st1) = some (ys.map fun c => [c])
  | [] => rfl
  | c :: ys => by
    show (strsL (ys.map st1)).map ([c] :: ·) = _
    rw [strs_st ys]; rfl
theorem join_st : ∀ ys : Tx, joinT [] (ys.map fun c => [c]) = ys
  | [] => rfl
  | [c] => rfl
  | c :: d :: ys => by
    show [c] ++ ([] ++ joinT [] ((d :: ys).map fun c => [c])) = _
    rw [join_st (d :: ys)]; rfl
theorem len_st : ∀ ys : Tx, ((ys.map fun c => [c]).map List.length).sum = ys.length
  | [] => rfl
  | c :: ys => by
    simp only [List.map_cons, List.sum_cons, List.length_cons, List.length_nil]
    rw [len_st ys]; omega
theorem lp_drawn {w N n : Nat} {x : Tx} (hn : x ≠ []) (hz : x.length < 1000) {step : D → Hh → R (Option D)} (hst : ∀ (d : D) h, D.pers d = true → step d h = ((callF (Pr w) (n + 2) 6 [.ref 1, .str x] h).bind fun d h => boxR d h).bind fun y h => whenR (D.pers y) (.ok (some y) h)) :
    ∀ (xs : List D) (h : Hh), (∀ d ∈ xs, D.pers d = true) → Spr (N + xs.length) h → ∃ (ys : Tx) (h' : Hh), ys.length = xs.length ∧ Sp N h h' ∧ lpC [] step xs h = .ok (ys.map st1) h'
  | [], h, hp, hs => ⟨[], h, rfl, hs.refl, rfl⟩
  | d :: xs, h, hp, hs => by
    obtain ⟨c, h1, e1, m1, s1⟩ := pickS_ok (w := w) (N := N + xs.length) n h x hs hn hz
    obtain ⟨ys, h2, l2, s2, e2⟩ := lp_drawn (w := w) (N := N) hn hz hst xs h1 (fun d m => hp d (List.mem_cons_of_mem _ m)) s1.spr
    refine ⟨c :: ys, h2, by simp [l2], s1.trans s2, ?_⟩
    rw [lpC_eq, hst d h (hp d (List.mem_cons_self ..)), e1]
    simp [gdOk, e2, st1]
abbrev thirteen : Tx := [97, 98, 122, 48, 57, 32, 10, 35, 58, 59, 45, 123, 125]
theorem drawn_ok {w N : Nat} (n m : Nat) (h : Hh) (hs : Spr (N + (m + 1)) h) (hm : m < 1000) : ∃ x h', callF (Pr w) (n + 4) 19 [.ref 1, .int (m : Int)] h = .ok (.str x) h' ∧ x.length = m ∧ Sp N h h' := by
  obtain ⟨q, h1, e1, m1, s1⟩ := pickT_ok (w := w) (N := N + m) (n + 1) h [[], [], [65], [48], [48, 48, 32, 32], [10, 10]] hs (by decide) (by decide)
  have ql : ∀ y ∈ ([[], [], [65], [48], [48, 48, 32, 32], [10, 10]] : List Tx), y.length ≤ 4 := by decide
  have ql := ql q m1
  have rl : (rangeL 0 (rangeN 0 (m : Int) 1) 1).length = m := by rw [range_nat]; simp
  have y1 : 13 + q.length ≤ 16777216 := by omega
  have ea : evE (gk w (n + 3)) (.box (.op .add [(.lit (.str [97, 98, 122, 48, 57, 32, 10, 35, 58, 59, 45, 123, 125])), (.call 6 [(.var 0), (.box (.op .lst [(.lit (.str [])), (.lit (.str [])), (.lit (.str [65])), (.lit (.str [48])), (.lit (.str [48, 48, 32, 32])), (.lit (.str [10, 10]))]))] [])])) [some (.ref 1), some (.int (m : Int)), none, none] h = .ok (.str (thirteen ++ q)) h1 := by
    simp only [List.map_cons, List.map_nil] at e1
    simp [evE, evEs, e1, y1]
  have tl : (thirteen ++ q).length < 1000 := by simp; omega
  have tn : thirteen ++ q ≠ [] := by simp
  obtain ⟨ys, h2, l2, s2, e2⟩ := lp_drawn (w := w) (N := N) (n := n + 1) tn tl (step := fun x h => match putT (.name 3) x (wipeS [some (.ref 1), some (.int (m : Int)), some (.str (thirteen ++ q)), none] [3]) with
            | some δ' => (evTs (gk w (n + 3)) [] δ' h).bind fun k h => if k = true then (evE (gk w (n + 3)) (.box (.call 6 [(.var 0), (.var 2)] [])) δ' h).bind fun y h => whenR (D.pers y) (.ok (some y) h) else .ok none h
            | none => .no) (fun d h hd => by
      simp [hd, evTs, evE, evEs]) (rangeL 0 (rangeN 0 (m : Int) 1) 1) h1 rangeL_pers (by rw [rl]; exact s1.spr)
  rw [rl] at l2
  have ei : evI (gk w (n + 3)) (.rng [(.var 1)]) [some (.ref 1), some (.int (m : Int)), some (.str (thirteen ++ q)), none] h1 = .ok ⟨rangeL 0 (rangeN 0 (m : Int) 1) 1, []⟩ h1 := by
    simp [evI, evEs, evE, rng1]
  have c1 : evE (gk w (n + 3)) (.comp [3] (.name 3) (.rng [(.var 1)]) [] (.box (.call 6 [(.var 0), (.var 2)] []))) [some (.ref 1), some (.int (m : Int)), some (.str (thirteen ++ q)), none] h1 = .ok (.lst (ys.map st1)) h2 := by
    rw [comp_eq, ei]
    simp only [s_okb]
    rw [e2]
    simp [l2, show m ≤ 16777216 by omega]
  have ck : evE (gk w (n + 3)) (.ck 3 (.lit (.str []))) [some (.ref 1), some (.int (m : Int)), some (.str (thirteen ++ q)), none] h1 = .ok (.str []) h1 := by simp [evE, ckR]
  have j1 : opApp sub .join [.str [], .lst (ys.map st1)] h2 = .ok (.str ys) h2 := by
    show (match (sqD h2 (.lst (ys.map st1))).bind strsL with
      | some ys => whenR (decide ((ys.map List.length).sum + ys.length * ([] : Tx).length ≤ cells)) (R.ok (D.str (joinT [] ys)) h2)
      | none => R.no) = _
    have : (sqD h2 (.lst (ys.map st1))).bind strsL = some (ys.map fun c => [c]) := strs_st ys
    rw [this]
    simp only
    rw [join_st, len_st, decide_eq_true (by simp; omega)]
    rfl
  obtain ⟨h', q1, q2⟩ := fin_ok (d := .str ys) hs (s1.go s2) (low_str _ _) rfl
  refine ⟨ys, h', ?_, l2, q2⟩
  rw [u19]
  refine (if_pos (show [D.ref 1, D.int (m : Int)].length = _law_drawn.np from rfl)).trans ?_
  show endF h (evSs (gk w (n + 3)) _law_drawn.body [some (.ref 1), some (.int (m : Int)), none, none] h) = _
  unfold _law_drawn
  simp only
  rw [evSs_cons (δ2 := [some (.ref 1), some (.int (m : Int)), some (.str (thirteen ++ q)), none]) (h2 := h1) (asg_ok ea rfl), evSs_ret (ret_ok ((op2_ok ck c1).trans j1))]
  exact q1
/-! ### the same -/
def Lik (w k : Nat) (d : D) : Prop := D.pers d = true ∧ ∀ (n : Nat) (h : Hh), callF (Pr w) (n + k) 7 [d, d] h = .ok (.bl true) h
theorem Lik.up {w k : Nat} {d : D} (x : Lik w k d) : Lik w (k + 1) d := ⟨x.1, fun n h => by
  have := x.2 (n + 1) h
  rw [show n + 1 + k = n + (k + 1) by omega] at this
  exact this⟩
theorem Lik.to {w k l : Nat} {d : D} (x : Lik w k d) (h : k ≤ l) : Lik w l d := by
  induction l with
  | zero => have : k = 0 := by omega
            subst this; exact x
  | succ l ih =>
    by_cases c : k = l + 1
    · subst c; exact x
    · exact (ih (by omega)).up
theorem lik_bl {w : Nat} (b : Bool) : Lik w 1 (.bl b) := ⟨rfl, fun n h => by
  rw [u7]; simp [runF, _law_same, startS, evSs, evS, evE, evEs, evT, tyIs, isB]⟩
theorem lik_int {w : Nat} (b : Int) : Lik w 1 (.int b) := ⟨rfl, fun n h => by
  rw [u7]; simp [runF, _law_same, startS, evSs, evS, evE, evEs, evT, tyIs, isB]⟩
theorem lik_str {w : Nat} (b : Tx) : Lik w 1 (.str b) := ⟨rfl, fun n h => by
  rw [u7]; simp [runF, _law_same, startS, evSs, evS, evE, evEs, evT, tyIs, isB]⟩
theorem same_loop {w n : Nat} {h : Hh} {ds : List D} (hd : ∀ d ∈ ds, D.pers d = true ∧ callF (Pr w) n 7 [d, d] h = .ok (.bl true) h) : ∀ (xs : List Nat), (∀ j ∈ xs, j < ds.length) →
    lpF [] (.name 2) [2] (evSs (gk w n) _law_same_l1) (xs.map fun (j : Nat) => D.int (j : Int)) [some (.tup ds), some (.tup ds), none] h = .nx [some (.tup ds), some (.tup ds), none] h
  | [], _ => by rw [List.map_nil, lpF_nil]; simp
  | j :: xs, hx => by
    have jl := hx j (List.mem_cons_self ..)
    obtain ⟨p, e⟩ := hd ds[j] (List.getElem_mem jl)
    have a := atP_nat jl
    rw [List.map_cons, lpF_go (δ1 := [some (.tup ds), some (.tup ds), some (.int (j : Int))]) (h2 := h) (δ2 := [some (.tup ds), some (.tup ds), some (.int (j : Int))]) (by simp) (by
      simp [_law_same_l1, evSs, evS, evE, evEs, evT, a, p, e])]
    simp only [wipe1, wipe0, List.set_cons_succ, List.set_cons_zero]
    exact same_loop hd xs fun i hi => hx i (List.mem_cons_of_mem _ hi)
theorem lik_tup {w k : Nat} {ds : List D} (hd : ∀ d ∈ ds, Lik w k d) : Lik w (k + 1) (.tup ds) := ⟨rfl, fun n h => by
  have lp := same_loop (w := w) (n := n + k) (h := h) (ds := ds) (fun d m => ⟨(hd d m).1, (hd d m).2 n h⟩) (List.range ds.length) fun j hj => List.mem_range.mp hj
  rw [← range_nat] at lp
  rw [show n + (k + 1) = n + k + 1 by omega, u7]
  simp [runF, _law_same, startS, evSs, evS, evE, evEs, evT, evI, tyIs, isB, rng1, lp]⟩
theorem lik_er {w : Nat} (e : Er) : Lik w 2 (erD e) := lik_tup fun d m => by
  simp only [List.mem_cons, List.not_mem_nil, or_false] at m
  rcases m with rfl | rfl | rfl | rfl | rfl
  · exact lik_str _
  · exact lik_bl _
  · exact lik_int _
  · exact lik_int _
  · exact lik_str _
theorem lik_tok {w : Nat} (t : Tok) : Lik w 2 (tokD t) := lik_tup fun d m => by
  simp only [List.mem_cons, List.not_mem_nil, or_false] at m
  rcases m with rfl | rfl | rfl | rfl
  · exact lik_str _
  · exact lik_str _
  · exact lik_int _
  · exact lik_int _
theorem lik_res {w : Nat} (z : Rz) : Lik w 4 (resD z) := by
  cases z with
  | error e => exact (lik_er e).to (by omega)
  | ok ts =>
    have lt : Lik w 3 (toksD ts) := lik_tup fun d m => by
      obtain ⟨t, _, rfl⟩ := List.mem_map.mp m
      exact lik_tok t
    refine lik_tup fun d m => ?_
    simp only [List.mem_cons, List.not_mem_nil, or_false] at m
    rcases m with rfl | rfl
    · exact (lik_str _).to (by omega)
    · exact lt
/-! ### ask, right -/
theorem ask_ok {w n : Nat} {text : Tx} {nm : Bool} {h : Hh} (ht : text.length + 2 ≤ 16777216) (hw : 16777217 ≤ w) : callF (Pr w) (n + 5) 11 [.str text, .bl nm] h = .ok (resD (textR text)) h := by
  have tk := tokens_ok (w := w) (n := n) (h := h) ht hw
  rw [u11]
  cases q : textR text with
  | error e =>
    rw [q] at tk
    simp only at tk
    cases nm <;> simp [runF, _law_ask, startS, evSs, evS, evE, evEs, evT, pick, tk, evH, sub, tyIs, resD, erD, erF]
  | ok ts =>
    rw [q] at tk
    simp only at tk
    have bt : ∀ g : Hh, boxR (toksD ts) g = .ok (toksD ts) g := fun _ => rfl
    have pt : D.pers (toksD ts) = true := rfl
    cases nm <;> simp [runF, _law_ask, startS, evSs, evS, evE, evEs, evT, pick, tk, resD, bt, pt]
theorem right_ok {w N : Nat} (n : Nat) (h : Hh) (text : Tx) (hs : Spr (N + 1) h) (ht : text.length < 30000) (hw : 16777217 ≤ w) : ∃ h', callF (Pr w) (n + 6) 12 [.ref 1, .str text] h = .ok (.bl true) h' ∧ Sp N h h' := by
  obtain ⟨t, h1, e1, t0, t1, s1⟩ := drop_ok (w := w) (N := N) (n + 4) h 4 hs (by decide) (by decide)
  have e2 := ask_ok (w := w) (n := n) (text := text) (nm := decide (t = 0)) (h := h1) (by omega) hw
  have e3 := law_tokens_ok (w := w) (n := n + 3) (text := text) (h := h1) (by omega)
  rw [both] at e3
  have e4 := (lik_res (w := w) (textR text)).2 (n + 1) h1
  have pr := (lik_res (w := w) (textR text)).1
  have bt : ∀ g : Hh, boxR (resD (textR text)) g = .ok (resD (textR text)) g := fun g => by cases textR text <;> rfl
  refine ⟨h1, ?_, s1⟩
  rw [u12]
  simp [runF, _law_right, startS, evSs, evS, evE, evEs, evT, e1, e2, e3, e4, pr, bt, endF, fin_len s1.len]
end Lk03

namespace Lk03
open Ivy
/-! ### plain: the text that the law knows -/
theorem many_app {y W r : Tx} (h1 : ∀ c ∈ W, c ∈ y) (h2 : ∀ c ∈ r.head?, ¬ c ∈ y) : many y (W ++ r) = W.length := by
  induction W with
  | nil =>
    cases r with
    | nil => rfl
    | cons c r => exact many_out (h2 c (by simp))
  | cons c W ih =>
    rw [List.cons_append, many_in (h1 c (List.mem_cons_self ..)), ih fun d m => h1 d (List.mem_cons_of_mem _ m)]
    rfl
structure IsW (W : Tx) : Prop where
  ex : ∃ c u, W = c :: u ∧ c ∈ sm ∧ ∀ d ∈ u, d ∈ sm ++ fg
structure IsN (W : Tx) : Prop where
  ex : ∃ c u, W = c :: u ∧ c ∈ nine ∧ ∀ d ∈ u, d ∈ fg
theorem nine_fg : ∀ c ∈ nine, c ∈ fg ∧ ¬ c ∈ sm ∧ ¬ c = 48 ∧ ¬ c = 35 := by decide
theorem sm_35 : ∀ c ∈ sm, ¬ c = 35 ∧ ¬ c = 32 ∧ ¬ c = 10 := by decide
theorem fg_35 : ∀ c ∈ fg, ¬ c = 35 ∧ ¬ c = 32 ∧ ¬ c = 10 ∧ ¬ c ∈ sm := by decide
theorem IsW.all {W : Tx} (h : IsW W) : ∀ c ∈ W, c ∈ sm ++ fg := by
  obtain ⟨c, u, rfl, h1, h2⟩ := h.ex
  intro d m
  rcases List.mem_cons.mp m with rfl | m
  · simp [h1]
  · exact h2 d m
theorem IsW.no10 {W : Tx} (h : IsW W) : 10 ∉ W := fun z => by
  have := h.all 10 z
  revert this
  decide
theorem IsN.all {W : Tx} (h : IsN W) : ∀ c ∈ W, c ∈ fg := by
  obtain ⟨c, u, rfl, h1, h2⟩ := h.ex
  intro d m
  rcases List.mem_cons.mp m with rfl | m
  · exact (nine_fg d h1).1
  · exact h2 d m
theorem IsN.no10 {W : Tx} (h : IsN W) : 10 ∉ W := fun z => by
  have := h.all 10 z
  revert this
  decide
theorem tok_word {W r : Tx} {l p : Int} (h : IsW W) (hl : W.length ≤ 12) (hr : ∀ c ∈ r.head?, ¬ c ∈ sm ++ fg) : tokR l p (W ++ r) = .ok ⟨wWord, W, l, p + 1⟩ := by
  have m := many_app h.all hr
  obtain ⟨c, u, rfl, h1, h2⟩ := h.ex
  rw [List.cons_append] at m ⊢
  rw [tokR_cons, if_pos h1, m, if_neg (by omega)]
  rw [← List.cons_append, List.take_left]
theorem tok_number {W r : Tx} {l p : Int} (h : IsN W) (hl : W.length ≤ 12) (hr : ∀ c ∈ r.head?, ¬ c ∈ fg) : tokR l p (W ++ r) = .ok ⟨wNumber, W, l, p + 1⟩ := by
  have m := many_app h.all hr
  obtain ⟨c, u, rfl, h1, h2⟩ := h.ex
  rw [List.cons_append] at m ⊢
  have q := nine_fg c h1
  rw [tokR_cons, if_neg q.2.1, if_pos q.1, m, if_neg (by omega), if_neg (fun z => q.2.2.1 z.2)]
  rw [← List.cons_append, List.take_left]
theorem sg_no : ∀ c ∈ sg, ¬ c ∈ sm ∧ ¬ c ∈ fg ∧ ¬ c = 35 ∧ ¬ c = 32 := by decide
theorem tok_sign {c : Nat} {r : Tx} {l p : Int} (h : c ∈ sg) : tokR l p (c :: r) = .ok ⟨wSign, [c], l, p + 1⟩ := by
  have q := sg_no c h
  rw [tokR_cons, if_neg q.1, if_neg q.2.1, if_pos h]
/-- one token, and no blank behind it -/
theorem lineR_go {l p : Int} {k : Nat} {T r : Tx} {kd : Tx} (hT : T ≠ []) (h0 : ∀ c ∈ T.head?, ¬ c = 35) (hr : ∀ c ∈ r.head?, ¬ c = 32) (q : tokR l p (T ++ r) = .ok ⟨kd, T, l, p + 1⟩) {ts : List Tok} (e : lineR l k (p + T.length) r = .ok ts) :
    lineR l (k + 1) p (T ++ r) = .ok (⟨kd, T, l, p + 1⟩ :: ts) := by
  cases T with
  | nil => exact absurd rfl hT
  | cons c u =>
    rw [List.cons_append] at q ⊢
    have b0 : many [32] r = 0 := by
      cases r with
      | nil => rfl
      | cons d r => exact many_out (by simpa using hr d (by simp))
    have dr : (c :: (u ++ r)).drop (c :: u).length = r := by rw [← List.cons_append, List.drop_left]
    refine lineR_tt (h0 c (by simp)) q ?_
    show lineR l k (p + (c :: u).length + many [32] ((c :: (u ++ r)).drop (c :: u).length)) (((c :: (u ++ r)).drop (c :: u).length).drop (many [32] ((c :: (u ++ r)).drop (c :: u).length))) = _
    rw [dr, b0]
    simpa using e
theorem lineT_blank {l : Int} {b : Nat} {r : Tx} (hr : ∀ c ∈ r.head?, ¬ c = 32) : lineT l (List.replicate b 32 ++ r) = lineR l (b + r.length) b r := by
  have m : many [32] (List.replicate b 32 ++ r) = b := by
    have := many_app (y := [32]) (W := List.replicate b 32) (r := r) (fun c m => by simp [List.mem_replicate] at m; simp [m.2]) (fun c m => by simpa using hr c m)
    simpa using this
  unfold lineT
  rw [m]
  have : (List.replicate b 32 ++ r).drop b = r := by
    have := List.drop_left (l₁ := List.replicate b 32) (l₂ := r)
    simpa using this
  rw [this]
  simp
def due (b : Nat) (W M : Tx) : List Tok := [⟨wWord, W, 1, b + 1⟩, ⟨wSign, [58], 1, b + 5⟩, ⟨wSign, [45], 1, b + 6⟩, ⟨wNumber, M, 1, b + 7⟩, ⟨wSign, [123], 3, b + 1⟩, ⟨wNumber, M, 3, b + 2⟩, ⟨wWord, W, 3, b + 5⟩, ⟨wSign, [125], 3, b + 9⟩]
def line1 (b : Nat) (W M : Tx) : Tx := List.replicate b 32 ++ (W ++ ([58] ++ ([45] ++ (M ++ (35 :: 32 :: W)))))
def line3 (b : Nat) (W M : Tx) : Tx := List.replicate b 32 ++ ([123] ++ (M ++ (W ++ ([125] ++ []))))
section
variable {b : Nat} {W M : Tx}
theorem line1_ok (hW : IsW W) (lW : W.length = 4) (hM : IsN M) (lM : M.length = 3) : lineT 1 (line1 b W M) = .ok ((due b W M).take 4) := by
  obtain ⟨c, u, eW, h1, h2⟩ := hW.ex
  obtain ⟨d, v, eM, g1, g2⟩ := hM.ex
  unfold line1
  rw [lineT_blank (fun x hx => by rw [eW] at hx; simp at hx; subst hx; exact (sm_35 _ h1).2.1)]
  have fl : b + (W ++ ([58] ++ ([45] ++ (M ++ (35 :: 32 :: W))))).length = (b + 10) + 1 + 1 + 1 + 1 + 1 := by simp [lW, lM]
  rw [fl]
  have hr0 : ∀ c ∈ W.head?, ¬ c = 35 := fun x hx => by rw [eW] at hx; simp at hx; subst hx; exact (sm_35 _ h1).1
  have hm0 : ∀ c ∈ M.head?, ¬ c = 35 := fun x hx => by rw [eM] at hx; simp at hx; subst hx; exact (nine_fg _ g1).2.2.2
  have hm32 : ∀ c ∈ (M ++ (35 :: 32 :: W)).head?, ¬ c = 32 := fun x hx => by rw [eM] at hx; simp at hx; subst hx; exact (fg_35 _ (nine_fg _ g1).1).2.1
  refine lineR_go (by rw [eW]; simp) hr0 (by simp) (tok_word hW (by omega) (by simp; decide)) ?_
  refine (lineR_go (by simp) (by simp) (by simp) (tok_sign (by decide)) (ts := [⟨wSign, [45], 1, b + 6⟩, ⟨wNumber, M, 1, b + 7⟩]) ?_).trans ?_
  · refine (lineR_go (by simp) (by simp) hm32 (tok_sign (by decide)) (ts := [⟨wNumber, M, 1, b + 7⟩]) ?_).trans ?_
    · refine (lineR_go (by rw [eM]; simp) hm0 (by simp) (tok_number hM (by omega) (by simp; decide)) (ts := []) ?_).trans ?_
      · exact lineR_35 rfl
      · simp [lW]; omega
    · simp [lW]; omega
  · simp [lW]; omega
theorem line3_ok (hW : IsW W) (lW : W.length = 4) (hM : IsN M) (lM : M.length = 3) : lineT 3 (line3 b W M) = .ok ((due b W M).drop 4) := by
  obtain ⟨c, u, eW, h1, h2⟩ := hW.ex
  obtain ⟨d, v, eM, g1, g2⟩ := hM.ex
  unfold line3
  rw [lineT_blank (by simp)]
  have fl : b + ([123] ++ (M ++ (W ++ ([125] ++ [])))).length = (b + 4) + 1 + 1 + 1 + 1 + 1 := by simp [lW, lM]
  rw [fl]
  have hr0 : ∀ c ∈ W.head?, ¬ c = 35 := fun x hx => by rw [eW] at hx; simp at hx; subst hx; exact (sm_35 _ h1).1
  have hm0 : ∀ c ∈ M.head?, ¬ c = 35 := fun x hx => by rw [eM] at hx; simp at hx; subst hx; exact (nine_fg _ g1).2.2.2
  have hm32 : ∀ c ∈ (M ++ (W ++ ([125] ++ []))).head?, ¬ c = 32 := fun x hx => by rw [eM] at hx; simp at hx; subst hx; exact (fg_35 _ (nine_fg _ g1).1).2.1
  have hw32 : ∀ c ∈ (W ++ ([125] ++ [])).head?, ¬ c = 32 := fun x hx => by rw [eW] at hx; simp at hx; subst hx; exact (sm_35 _ h1).2.1
  have hwf : ∀ c ∈ (W ++ ([125] ++ [])).head?, ¬ c ∈ fg := fun x hx => by rw [eW] at hx; simp at hx; subst hx; exact (sm_no _ h1).1
  refine lineR_go (by simp) (by simp) hm32 (tok_sign (by decide)) ?_
  refine (lineR_go (by rw [eM]; simp) hm0 hw32 (tok_number hM (by omega) hwf) (ts := [⟨wWord, W, 3, b + 5⟩, ⟨wSign, [125], 3, b + 9⟩]) ?_).trans ?_
  · refine (lineR_go (by rw [eW]; simp) hr0 (by simp) (tok_word hW (by omega) (by simp; decide)) (ts := [⟨wSign, [125], 3, b + 9⟩]) ?_).trans ?_
    · refine (lineR_go (by simp) (by simp) (by simp) (tok_sign (by decide)) (ts := []) rfl).trans ?_
      simp [lW, lM]; omega
    · simp [lM]; omega
  · simp; omega
theorem no10_1 (hW : IsW W) (hM : IsN M) : 10 ∉ line1 b W M := by
  have := hW.no10; have := hM.no10
  simp [line1, List.mem_replicate, *]
theorem no10_3 (hW : IsW W) (hM : IsN M) : 10 ∉ line3 b W M := by
  have := hW.no10; have := hM.no10
  simp [line3, List.mem_replicate, *]
def known (b : Nat) (W M : Tx) : Tx := line1 b W M ++ 10 :: ([] ++ 10 :: line3 b W M)
theorem known_spl (hW : IsW W) (hM : IsN M) : splL 10 (known b W M) = [line1 b W M, [], line3 b W M] := by
  unfold known
  rw [spl_app 10 _ _ (no10_1 hW hM), spl_app 10 _ _ (by simp), spl_free 10 _ (no10_3 hW hM)]
theorem known_spl4 (hW : IsW W) (hM : IsN M) {f : Tx} (hf : 10 ∉ f) : splL 10 (known b W M ++ 10 :: f) = [line1 b W M, [], line3 b W M, f] := by
  unfold known
  rw [List.append_assoc, List.cons_append, spl_app 10 _ _ (no10_1 hW hM), List.append_assoc, List.cons_append, spl_app 10 _ _ (by simp), spl_app 10 _ _ (no10_3 hW hM), spl_free 10 f hf]
theorem lineT_nil (l : Int) : lineT l [] = .ok [] := rfl
theorem linesR_ok {l : Int} {L : Tx} {Ls : List Tx} {ts us : List Tok} (h1 : lineT l L = .ok ts) (h2 : linesR (l + 1) Ls = .ok us) : linesR l (L :: Ls) = .ok (ts ++ us) := by
  rw [linesR_cons, h1]; simp only [bind0]; rw [h2]; rfl
theorem linesR_er {l : Int} {L : Tx} {Ls : List Tx} {ts : List Tok} {e : Er} (h1 : lineT l L = .ok ts) (h2 : linesR (l + 1) Ls = .error e) : linesR l (L :: Ls) = .error e := by
  rw [linesR_cons, h1]; simp only [bind0]; rw [h2]; rfl
theorem linesR_one {l : Int} {L : Tx} {ts : List Tok} (h1 : lineT l L = .ok ts) : linesR l [L] = .ok ts := by
  rw [linesR_ok (us := []) h1 rfl, List.append_nil]
theorem linesR_oneE {l : Int} {L : Tx} {e : Er} (h1 : lineT l L = .error e) : linesR l [L] = .error e := by
  rw [linesR_cons, h1]; rfl
theorem known_ok (hW : IsW W) (lW : W.length = 4) (hM : IsN M) (lM : M.length = 3) : textR (known b W M) = .ok (due b W M) := by
  unfold textR
  rw [known_spl hW hM, linesR_ok (line1_ok hW lW hM lM) (linesR_ok (lineT_nil _) (linesR_one (line3_ok hW lW hM lM)))]
  rfl
theorem known_fine (hW : IsW W) (lW : W.length = 4) (hM : IsN M) (lM : M.length = 3) {f : Tx} (hf : 10 ∉ f) : textR (known b W M ++ 10 :: 32 :: 35 :: f) = .ok (due b W M) := by
  unfold textR
  have e4 : lineT 4 (32 :: 35 :: f) = .ok [] := by
    have := lineT_blank (l := 4) (b := 1) (r := 35 :: f) (by simp)
    simp only [List.replicate_one, List.singleton_append] at this
    rw [this, show 1 + (35 :: f).length = (1 + f.length) + 1 by simp; omega, lineR_35 rfl]
  rw [known_spl4 hW hM (f := 32 :: 35 :: f) (by simp [hf]), linesR_ok (line1_ok hW lW hM lM) (linesR_ok (lineT_nil _) (linesR_ok (line3_ok hW lW hM lM) (linesR_one e4)))]
  rfl
theorem known_bad (hW : IsW W) (lW : W.length = 4) (hM : IsN M) (lM : M.length = 3) {f what : Tx} (hf : 10 ∉ f) (h0 : f ≠ []) (h1 : ∀ c ∈ f.head?, ¬ c = 35 ∧ ¬ c = 32) (e : tokR 4 1 f = .error ⟨4, 2, what⟩) : textR (known b W M ++ 10 :: 32 :: f) = .error ⟨4, 2, what⟩ := by
  unfold textR
  have e4 : lineT 4 (32 :: f) = .error ⟨4, 2, what⟩ := by
    have := lineT_blank (l := 4) (b := 1) (r := f) (fun c m => (h1 c m).2)
    simp only [List.replicate_one, List.singleton_append] at this
    rw [this]
    cases f with
    | nil => exact absurd rfl h0
    | cons c f =>
      rw [show 1 + (c :: f).length = (1 + f.length) + 1 by simp; omega]
      exact lineR_e (h1 c (by simp)).1 e
  rw [known_spl4 hW hM (f := 32 :: f) (by simp [hf]), linesR_er (line1_ok hW lW hM lM) (linesR_er (lineT_nil _) (linesR_er (line3_ok hW lW hM lM) (linesR_oneE e4)))]
end
/-! ### its faults -/
theorem odds_no : ∀ o ∈ odds, ¬ o ∈ sm ∧ ¬ o ∈ fg ∧ ¬ o ∈ sg ∧ ¬ o = 35 ∧ ¬ o = 32 ∧ ¬ o = 10 := by decide
structure Flt (f what : Tx) : Prop where
  no10 : 10 ∉ f
  ne : f ≠ []
  hd : ∀ c ∈ f.head?, ¬ c = 35 ∧ ¬ c = 32
  er : tokR 4 1 f = .error ⟨4, 2, what⟩
  len : f.length ≤ 100
theorem flt_odd {o : Nat} (h : o ∈ odds) : Flt [o] wSign := by
  obtain ⟨a, b, c, d, e, f⟩ := odds_no o h
  refine ⟨by simp; exact fun z => f z.symm, by simp, by simp [d, e], ?_, by simp⟩
  rw [tokR_cons, if_neg a, if_neg b, if_neg c]; rfl
theorem flt_number {M : Tx} (hM : IsN M) (lM : M.length = 3) : Flt (48 :: M) wNumber := by
  refine ⟨by simp; exact hM.no10, by simp, by simp, ?_, by simp [lM]⟩
  have m : many fg (48 :: M) = 4 := by
    have := many_app (y := fg) (W := 48 :: M) (r := []) (fun c m => by
      rcases List.mem_cons.mp m with rfl | m
      · decide
      · exact hM.all c m) (by simp)
    rw [List.append_nil] at this
    rw [this]; simp [lM]
  rw [tokR_cons, if_neg (by decide), if_pos (by decide), m, if_neg (by decide), if_pos ⟨by decide, rfl⟩]; rfl
theorem flt_word {W : Tx} (hW : IsW W) (lW : W.length = 4) : Flt (W ++ (W ++ (W ++ (W ++ [])))) wLong := by
  obtain ⟨c, u, eW, h1, h2⟩ := hW.ex
  have al : ∀ c ∈ W ++ (W ++ (W ++ (W ++ []))), c ∈ sm ++ fg := fun c m => by
    have := hW.all c
    simp only [List.mem_append, List.not_mem_nil, or_false] at m
    simp only [List.mem_append] at this
    simp only [List.mem_append]
    rcases m with m | m | m | m <;> exact this m
  have hd : ∀ d ∈ (W ++ (W ++ (W ++ (W ++ [])))).head?, d ∈ sm := fun d m => by
    rw [eW] at m; simp at m; subst m; exact h1
  refine ⟨fun z => by have := al 10 z; revert this; decide, by rw [eW]; simp, fun d m => ⟨(sm_35 d (hd d m)).1, (sm_35 d (hd d m)).2.1⟩, ?_, by simp [lW]⟩
  have m := many_app (y := sm ++ fg) (W := W ++ (W ++ (W ++ (W ++ [])))) (r := []) al (by simp)
  rw [List.append_nil] at m
  have l16 : (W ++ (W ++ (W ++ (W ++ [])))).length = 16 := by simp [lW]
  rw [l16] at m
  generalize W ++ (W ++ (W ++ (W ++ []))) = f at *
  cases f with
  | nil => simp at l16
  | cons d f => rw [tokR_cons, if_pos (hd d (by simp)), m, if_pos (by decide)]; rfl
abbrev z14 : Tx := [48, 48, 48, 48, 48, 48, 48, 48, 48, 48, 48, 48, 48, 48]
theorem flt_noughts : Flt z14 wLong := ⟨by decide, by decide, by decide, rfl, by decide⟩
end Lk03

namespace Lk03
open Ivy
theorem drop_nat {w N : Nat} (n : Nat) (h : Hh) (m : Nat) (hs : Spr (N + 1) h) (hm : 0 < m) (hz : m < 1099511627776) : ∃ (t : Nat) (h' : Hh), callF (Pr w) (n + 1) 5 [.ref 1, .int (m : Int)] h = .ok (.int (t : Int)) h' ∧ t < m ∧ Sp N h h' := by
  obtain ⟨t, h', e, t0, t1, s⟩ := drop_ok (w := w) n h (m : Int) hs (by omega) (by omega)
  obtain ⟨j, rfl⟩ : ∃ j : Nat, t = j := ⟨t.toNat, by omega⟩
  exact ⟨j, h', e, by omega, s⟩
theorem mul_S {s : Nat → Nat → Bool} {h : Hh} {x : Tx} {k : Nat} (hk : x.length * k ≤ 16777216) (hk2 : k < 1000000) : opApp s .mul [.str x, .int (k : Int)] h = .ok (.str (List.replicate k x).flatten) h := by
  show whenR (decide (-9223372036854775808 ≤ (k : Int)) && decide ((k : Int) < 9223372036854775808) && decide (x.length * (k : Int).toNat ≤ cells)) (R.ok (D.str (List.replicate (k : Int).toNat x).flatten) h) = _
  rw [Int.toNat_natCast, decide_eq_true (by omega), decide_eq_true (by omega), decide_eq_true (by exact hk)]
  rfl
theorem cut_le {α : Type} (xs : List α) (lo hi : Option Int) : (cut xs lo hi).length ≤ xs.length := by
  unfold cut
  rw [List.length_take, List.length_drop]
  omega
theorem one_of {x : Tx} {xs : List Tx} {M : Nat} (h : x ∈ xs) (hM : ∀ y ∈ xs, y.length ≤ M) : x.length ≤ M := hM x h
theorem spoilt_lp1 {w N n : Nat} {a b : Tx} {v3 v4 : Option D} {r : Nat} {zs : List D} (hab : a.length + b.length < 1000) (hw : 16777217 ≤ w) (r2 : 2 ≤ r) : ∀ (xs : List Tx) (g : Hh), (∀ x ∈ xs, x.length ≤ 100) → Spr (N + xs.length) g → g[r]? = some (.lst zs) →
    ∃ g', lpF [(r, .lst zs)] (.name 6) [6] (evSs (gk w (n + 6)) _law_spoilt_ok_l1) (xs.map .str) [some (.ref 1), some (.str a), some (.str b), v3, v4, some (.ref r), none, none] g = .nx [some (.ref 1), some (.str a), some (.str b), v3, v4, some (.ref r), none, none] g' ∧ Sp N g g'
  | [], g, hx, hs, hr => ⟨g, by rw [List.map_nil, lpG_nil (gd_one hr)]; rfl, hs.refl⟩
  | x :: xs, g, hx, hs, hr => by
    have xl := hx x (List.mem_cons_self ..)
    obtain ⟨g1, e1, s1⟩ := right_ok (w := w) (N := N + xs.length) n g (a ++ x ++ b) hs (by simp; omega) hw
    obtain ⟨g', e2, s2⟩ := spoilt_lp1 (w := w) (N := N) (n := n) (v3 := v3) (v4 := v4) (zs := zs) hab hw r2 xs g1 (fun x m => hx x (List.mem_cons_of_mem _ m)) s1.spr (by rw [s1.off r r2]; exact hr)
    refine ⟨g', ?_, s1.trans s2⟩
    have y1 : a.length + x.length ≤ 16777216 := by omega
    have y2 : a.length + (x.length + b.length) ≤ 16777216 := by omega
    have y3 : a.length + x.length + b.length ≤ 16777216 := by omega
    simp only [List.append_assoc] at e1
    rw [List.map_cons, lpG_go (gd_one hr) (δ1 := [some (.ref 1), some (.str a), some (.str b), v3, v4, some (.ref r), some (.str x), none]) (h2 := g1) (δ2 := [some (.ref 1), some (.str a), some (.str b), v3, v4, some (.ref r), some (.str x), none]) (by simp) (by
      simp [_law_spoilt_ok_l1, evSs, evS, evE, evEs, evT, y1, y2, y3, e1])]
    simp only [wipe1, wipe0, List.set_cons_succ, List.set_cons_zero]
    exact e2
theorem spoilt_lp2 {w N n : Nat} {a b : Tx} {v3 v4 v5 : Option D} (hab : a.length + b.length < 1000) (hw : 16777217 ≤ w) : ∀ (xs : List Tx) (g : Hh), (∀ x ∈ xs, x.length ≤ 100) → Spr (N + xs.length) g →
    ∃ g', lpF [] (.name 7) [7] (evSs (gk w (n + 6)) _law_spoilt_ok_l2) (xs.map .str) [some (.ref 1), some (.str a), some (.str b), v3, v4, v5, none, none] g = .nx [some (.ref 1), some (.str a), some (.str b), v3, v4, v5, none, none] g' ∧ Sp N g g'
  | [], g, hx, hs => ⟨g, by rw [List.map_nil, lpF_nil]; rfl, hs.refl⟩
  | x :: xs, g, hx, hs => by
    have xl := hx x (List.mem_cons_self ..)
    obtain ⟨g1, e1, s1⟩ := right_ok (w := w) (N := N + xs.length) n g (a ++ x ++ b) hs (by simp; omega) hw
    obtain ⟨g', e2, s2⟩ := spoilt_lp2 (w := w) (N := N) (n := n) (v3 := v3) (v4 := v4) (v5 := v5) hab hw xs g1 (fun x m => hx x (List.mem_cons_of_mem _ m)) s1.spr
    refine ⟨g', ?_, s1.trans s2⟩
    have y1 : a.length + x.length ≤ 16777216 := by omega
    have y2 : a.length + (x.length + b.length) ≤ 16777216 := by omega
    have y3 : a.length + x.length + b.length ≤ 16777216 := by omega
    simp only [List.append_assoc] at e1
    rw [List.map_cons, lpF_go (δ1 := [some (.ref 1), some (.str a), some (.str b), v3, v4, v5, none, some (.str x)]) (h2 := g1) (δ2 := [some (.ref 1), some (.str a), some (.str b), v3, v4, v5, none, some (.str x)]) (by simp) (by
      simp [_law_spoilt_ok_l2, evSs, evS, evE, evEs, evT, y1, y2, y3, e1])]
    simp only [wipe1, wipe0, List.set_cons_succ, List.set_cons_zero]
    exact e2
abbrev z13 : Tx := [48, 48, 48, 48, 48, 48, 48, 48, 48, 48, 48, 48, 48]
theorem mul13 {s : Nat → Nat → Bool} {h : Hh} : opApp s .mul [.str [48], .int 13] h = .ok (.str z13) h := rfl
abbrev three : List Tx := [[32], [10], [59]]
theorem spoilt_ok {w N : Nat} (n : Nat) (h : Hh) (hs : Spr (N + 400) h) (hw : 16777217 ≤ w) : ∃ h', callF (Pr w) (n + 7) 20 [.ref 1] h = .ok (.bl true) h' ∧ Sp N h h' := by
  have lx : ∀ y ∈ three, y.length ≤ 1 := by decide
  obtain ⟨t1, h1, e1, b1, s1⟩ := drop_nat (w := w) (N := N + 399) (n + 5) h 6 hs (by decide) (by decide)
  obtain ⟨x1, h2, e2, _, l2, s2⟩ := pieces_ok (w := w) (N := N + 290) (n + 1) t1 h1 (s1.spr.le (by omega)) (by omega)
  obtain ⟨a1, h3, e3, m3, s3⟩ := pickT_ok (w := w) (N := N + 289) (n + 4) h2 three s2.spr (by decide) (by decide)
  have la := lx a1 m3
  obtain ⟨a2, h4, e4, m4, s4⟩ := pickT_ok (w := w) (N := N + 288) (n + 4) h3 three s3.spr (by decide) (by decide)
  have lb := lx a2 m4
  obtain ⟨t2, h5, e5, b5, s5⟩ := drop_nat (w := w) (N := N + 287) (n + 5) h4 4 s4.spr (by decide) (by decide)
  obtain ⟨x2, h6, e6, _, l6, s6⟩ := pieces_ok (w := w) (N := N + 200) (n + 1) t2 h5 (s5.spr.le (by omega)) (by omega)
  obtain ⟨c1, u1, h7, e7, l7, s7, _, _⟩ := word_ok (w := w) (N := N + 180) (n + 3) 12 h6 (s6.spr.le (by omega)) (by omega)
  obtain ⟨c2, u2, h8, e8, l8, s8, _, _⟩ := number_ok (w := w) (N := N + 160) (n + 3) 12 h7 (s7.spr.le (by omega)) (by omega)
  obtain ⟨c3, u3, h9, e9, l9, s9, _, _⟩ := number_ok (w := w) (N := N + 158) (n + 3) 0 h8 (s8.spr.le (by omega)) (by omega)
  obtain ⟨o1, h10, e10, _, s10⟩ := odd_ok (w := w) (N := N + 157) (n + 3) h9 s9.spr
  obtain ⟨f1, h11, e11, _, l11, s11⟩ := fault_ok (w := w) (N := N + 110) (n + 2) h10 (s10.spr.le (by omega))
  have lw : (c1 :: u1).length = 13 := by simp [l7]
  have ln : (c2 :: u2).length = 13 := by simp [l8]
  have lo : (c3 :: u3).length = 1 := by simp [l9]
  generalize hW : c1 :: u1 = W at *
  generalize hM : c2 :: u2 = M at *
  generalize hO : c3 :: u3 = O at *
  have hr : (h11 ++ [C.lst ([W, M, 48 :: M, 48 :: O, [o1], f1, [48, 48], z13].map D.str)])[h11.length]? = some (.lst ([W, M, 48 :: M, 48 :: O, [o1], f1, [48, 48], z13].map D.str)) := by simp
  have X11 := (((((((((Spx.refl hs).go s1).go s2).trans s3).trans s4).go s5).go s6).go s7).go s8).go s9 |>.go s10 |>.go s11
  have hab : (x1 ++ a1).length + (a2 ++ x2).length < 1000 := by simp; omega
  have r2 : 2 ≤ h11.length := s11.spr.len
  obtain ⟨h12, e12, s12⟩ := spoilt_lp1 (w := w) (N := N + 100) (n := n) (a := x1 ++ a1) (b := a2 ++ x2) (v3 := some (.str W)) (v4 := some (.str M)) hab hw r2 [W, M, 48 :: M, 48 :: O, [o1], f1, [48, 48], z13] _ (fun x m => by
    simp only [List.mem_cons, List.not_mem_nil, or_false] at m
    rcases m with rfl | rfl | rfl | rfl | rfl | rfl | rfl | rfl <;> first | omega | (simp; done) | (simp; omega)) ((s11.spr.app).le (by simp)) hr
  have sr := srcD_at hr
  obtain ⟨f2, h13, e13, _, l13, s13⟩ := fault_ok (w := w) (N := N + 60) (n + 2) h12 (s12.spr.le (by omega))
  obtain ⟨f3, h14, e14, _, l14, s14⟩ := fault_ok (w := w) (N := N + 20) (n + 2) h13 (s13.spr.le (by omega))
  obtain ⟨h15, e15, s15⟩ := right_ok (w := w) (N := N + 10) n h14 (x1 ++ (a1 ++ (f2 ++ (a2 ++ (x2 ++ f3))))) (s14.spr.le (by omega)) (by simp; omega) hw
  have cw := cut_le W none (some 12)
  have cm := cut_le M none (some 12)
  obtain ⟨h16, e16, s16⟩ := spoilt_lp2 (w := w) (N := N) (n := n) (a := x1 ++ a1) (b := a2 ++ x2) (v3 := some (.str W)) (v4 := some (.str M)) (v5 := some (.ref h11.length)) hab hw [cut W none (some 12), cut M none (some 12), cut M none (some 12) ++ cut W none (some 12), cut W none (some 12) ++ (59 :: cut M none (some 12)), 48 :: cut W none (some 12), [48, 32, 48, 45, 48]] h15 (fun x m => by
    simp only [List.mem_cons, List.not_mem_nil, or_false] at m
    rcases m with rfl | rfl | rfl | rfl | rfl | rfl <;> first | omega | (simp; done) | (simp; omega)) (s15.spr.le (by simp))
  obtain ⟨h', q1, q2⟩ := fin_ok (d := .bl true) hs (((((X11.app).go s12).go s13).go s14).go s15 |>.go s16) (by simp [D.low]) rfl
  refine ⟨h', ?_, q2⟩
  rw [u20]
  simp only [List.map_cons, List.map_nil] at e3 e4 e12 e16 sr
  have y1 : x1.length + a1.length ≤ 16777216 := by omega
  have y2 : a2.length + x2.length ≤ 16777216 := by omega
  have y3 : W.length ≤ 16777216 := by omega
  have y4 : M.length ≤ 16777216 := by omega
  have y5 : 1 + M.length ≤ 16777216 := by omega
  have y6 : 1 + O.length ≤ 16777216 := by omega
  have y7 : x1.length + (a1.length + f2.length) ≤ 16777216 := by omega
  have y8 : x1.length + (a1.length + (f2.length + (a2.length + x2.length))) ≤ 16777216 := by omega
  have y9 : x1.length + (a1.length + (f2.length + (a2.length + (x2.length + f3.length)))) ≤ 16777216 := by omega
  have y10 : x1.length + a1.length + f2.length ≤ 16777216 := by omega
  have y11 : x1.length + a1.length + f2.length + (a2.length + x2.length) ≤ 16777216 := by omega
  have y12 : x1.length + a1.length + f2.length + (a2.length + x2.length) + f3.length ≤ 16777216 := by omega
  have y13 : (cut M none (some 12)).length + (cut W none (some 12)).length ≤ 16777216 := by omega
  have y14 : (cut W none (some 12)).length + 1 ≤ 16777216 := by omega
  have y15 : (cut W none (some 12)).length + 1 + (cut M none (some 12)).length ≤ 16777216 := by omega
  have y16 : (cut W none (some 12)).length + (1 + (cut M none (some 12)).length) ≤ 16777216 := by omega
  have y17 : 1 + (cut W none (some 12)).length ≤ 16777216 := by omega
  have z7 : x1.length + (a1.length + (f2.length + (a2.length + x2.length))) + f3.length ≤ 16777216 := by omega
  have z8 : x1.length + (a1.length + f2.length) + (a2.length + x2.length) ≤ 16777216 := by omega
  have z9 : x1.length + (a1.length + f2.length) + (a2.length + x2.length) + f3.length ≤ 16777216 := by omega
  simp at e1 e5
  simp at e7 e8 e9
  simp [runF, _law_spoilt_ok, startS, evSs, evS, evE, evEs, evT, evI, e1, e2, e3, y1, e4, e5, e6, y2, e7, e8, e9, y3, y4, y5, y6, e10, e11, mul13, sr, e12, e13, e14, y7, y8, y9, y10, y11, y12, z7, z8, z9, e15, y13, y14, y15, y16, y17, e16, endF, q1]
end Lk03

namespace Lk03
open Ivy
/-! ### the long texts -/
def z100 : Tx := (List.replicate 20 [123, 125, 59, 58, 45]).flatten
theorem z100_len : z100.length = 100 := rfl
theorem mul20 {s : Nat → Nat → Bool} {h : Hh} : opApp s .mul [.str [123, 125, 59, 58, 45], .int 20] h = .ok (.str z100) h := by
  have := mul_S (s := s) (h := h) (x := [123, 125, 59, 58, 45]) (k := 20) (by decide) (by decide)
  exact this
theorem flat_len {x : Tx} : ∀ k : Nat, ((List.replicate k x).flatten).length = k * x.length
  | 0 => by simp
  | k + 1 => by
    rw [List.replicate_succ, List.flatten_cons, List.length_append, flat_len k, Nat.succ_mul]; omega
theorem div_nat (c P : Nat) (hP : 0 < P) (hc : P ≤ c) : ∃ k : Nat, (c : Int).fdiv (P : Int) = (k : Int) ∧ 1 ≤ k ∧ P * k ≤ c ∧ k ≤ c :=
  ⟨c / P, by rw [fdiv_pos (by omega), Int.natCast_ediv], (Nat.le_div_iff_mul_le hP).mpr (by omega), Nat.mul_div_le .., Nat.div_le_self ..⟩
theorem fd_ok {s : Nat → Nat → Bool} {h : Hh} {c j k : Int} (hj : j ≠ 0) (hb : j.natAbs < bigD) (e : c.fdiv j = k) : opApp s .fdiv [.int c, .int j] h = .ok (.int k) h := by
  rw [o_fdivI, decide_eq_true hj, decide_eq_true hb, e]; rfl
theorem long_ok {w N : Nat} (n : Nat) (h : Hh) (hs : Spr (N + 200) h) (hw : 16777217 ≤ w) : ∃ h', callF (Pr w) (n + 7) 22 [.ref 1] h = .ok (.bl true) h' ∧ Sp N h h' := by
  obtain ⟨x, h1, e1, l0, l1, s1⟩ := pieces_ok (w := w) (N := N + 130) (n + 1) 3 h (hs.le (by omega)) (by decide)
  obtain ⟨y, h2, e2, m2, s2⟩ := pickT_ok (w := w) (N := N + 129) (n + 4) h1 [[10], [32], z100] s1.spr (by simp) (by simp)
  have yl : y.length ≤ 100 := by
    simp only [List.mem_cons, List.not_mem_nil, or_false] at m2
    rcases m2 with rfl | rfl | rfl
    · simp
    · simp
    · rw [z100_len]; omega
  have pl : (x ++ y).length = x.length + y.length := by simp
  generalize hp : x ++ y = p at *
  have p0 : 3 ≤ p.length := by omega
  have p1 : p.length ≤ 139 := by omega
  obtain ⟨k, dv, k1, k2, k3⟩ := div_nat 19840 p.length (by omega) (by omega)
  have dv : (19840 : Int).fdiv (p.length : Int) = (k : Int) := by simpa using dv
  have mu := mul_S (s := sub) (h := h2) (x := p) (k := k) (by omega) (by omega)
  have tl := flat_len (x := p) k
  rw [Nat.mul_comm] at tl
  have t1 : 1 ≤ p.length * k := Nat.mul_pos (by omega) (by omega)
  have pn : ¬ (p.length : Int) = 0 := by omega
  have fd := fd_ok (s := sub) (h := h2) pn (small_bigD (x := (p.length : Int)) (by omega)) dv
  have pe : ¬ p = [] := fun z => by rw [z] at p0; simp at p0
  have pb : p.length < bigD := by have := small_bigD (x := (p.length : Int)) (by omega); simpa using this
  generalize hT : (List.replicate k p).flatten = T at *
  have T0 : 1 ≤ T.length := by omega
  have T1 : T.length ≤ 19840 := by omega
  obtain ⟨h3, e3, s3⟩ := right_ok (w := w) (N := N + 128) n h2 T s2.spr (by omega) hw
  obtain ⟨t, h4, e4, b4, s4⟩ := drop_nat (w := w) (N := N + 127) (n + 5) h3 T.length s3.spr (by omega) (by omega)
  obtain ⟨f, h5, e5, _, l5, s5⟩ := fault_ok (w := w) (N := N + 50) (n + 2) h4 (s4.spr.le (by omega))
  have cl := cut_le T none (some ((t : Int) + 1))
  generalize hU : cut T none (some ((t : Int) + 1)) = U at *
  obtain ⟨h6, e6, s6⟩ := right_ok (w := w) (N := N) n h5 (U ++ 59 :: f) (s5.spr.le (by omega)) (by simp; omega) hw
  obtain ⟨h', q1, q2⟩ := fin_ok (d := .bl true) hs (((((((Spx.refl hs).go s1).trans s2).go s3).go s4).go s5).go s6) (by simp [D.low]) rfl
  refine ⟨h', ?_, q2⟩
  rw [u22]
  simp only [List.map_cons, List.map_nil] at e2
  have a1 : x.length + y.length ≤ 16777216 := by omega
  have a2 : T.length ≤ 16777216 := by omega
  have a3 : U.length + 1 ≤ 16777216 := by omega
  have a4 : U.length + 1 + f.length ≤ 16777216 := by omega
  have a5 : U.length + (1 + f.length) ≤ 16777216 := by omega
  have a6 : p.length ≤ 16777216 := by omega
  simp at e1
  have S1 : evS (gk w (n + 6)) (.asg (.name 1) (.box (.op .add [(.call 18 [(.var 0), (.lit (.int 3))] []), (.call 6 [(.var 0), (.box (.op .lst [(.lit (.str [10])), (.lit (.str [32])), (.box (.op .mul [(.lit (.str [123, 125, 59, 58, 45])), (.lit (.int 20))]))]))] [])]))) [some (.ref 1), none, none] h = .nx [some (.ref 1), some (.str p), none] h2 := by
    simp [evS, evE, evEs, e1, mul20, e2, a1, hp]
  have S2 : evS (gk w (n + 6)) (.asg (.name 2) (.box (.op .mul [(.var 1), (.op .fdiv [(.op .sub [(.lit (.int 19900)), (.lit (.int 60))]), (.op .len [(.var 1)])])]))) [some (.ref 1), some (.str p), none] h2 = .nx [some (.ref 1), some (.str p), some (.str T)] h2 := by
    have A1 : evE (gk w (n + 6)) (.op .sub [(.lit (.int 19900)), (.lit (.int 60))]) [some (.ref 1), some (.str p), none] h2 = .ok (.int 19840) h2 := by simp [evE, evEs]
    have A2 : evE (gk w (n + 6)) (.op .len [(.var 1)]) [some (.ref 1), some (.str p), none] h2 = .ok (.int p.length) h2 := by simp [evE, evEs, a6]
    have A3 := (op2_ok A1 A2).trans fd
    have A0 : evE (gk w (n + 6)) (.var 1) [some (.ref 1), some (.str p), none] h2 = .ok (.str p) h2 := by simp [evE]
    have A4 := (op2_ok A0 A3).trans mu
    have bx : ∀ {G : G} {e : Ex} {δ : Sl} {h h' : Hh} {x : Tx}, evE G e δ h = .ok (.str x) h' → evE G (.box e) δ h = .ok (.str x) h' := fun e => by simp [evE, e]
    exact asg_ok (bx A4) rfl
  have S3 : evS (gk w (n + 6)) (.ret (.and (.call 12 [(.var 0), (.var 2)] []) (.call 12 [(.var 0), (.box (.op .add [(.op .add [(.op (.slice false true) [(.var 2), (.op .add [(.call 5 [(.var 0), (.op .len [(.var 2)])] []), (.lit (.int 1))])]), (.lit (.str [59]))]), (.call 17 [(.var 0)] [])]))] []))) [some (.ref 1), some (.str p), some (.str T)] h2 = .ret (.bl true) h6 := by
    simp [evS, evE, evEs, e3, a2, e4, hU, a3, e5, a4, a5, e6]
  refine (if_pos (show [D.ref 1].length = _law_long.np from rfl)).trans ?_
  show endF h (evSs (gk w (n + 6)) _law_long.body [some (.ref 1), none, none] h) = _
  unfold _law_long
  simp only
  rw [evSs_cons S1, evSs_cons S2, evSs_ret S3]
  exact q1
/-! ### the known text -/
theorem flat1 : ∀ t : Nat, (List.replicate t [32]).flatten = List.replicate t 32
  | 0 => rfl
  | t + 1 => by rw [List.replicate_succ, List.flatten_cons, flat1 t, List.replicate_succ]; rfl
theorem flat4 (W : Tx) : (List.replicate 4 W).flatten = W ++ (W ++ (W ++ (W ++ []))) := rfl
theorem add_ok {s : Nat → Nat → Bool} {h : Hh} {x y : Tx} (e : x.length + y.length ≤ 16777216) : opApp s .add [.str x, .str y] h = .ok (.str (x ++ y)) h := by rw [o_addS, cells_n, decide_eq_true e]; rfl
def knSl (M W B T : Tx) (t : Nat) (r : Nat) (x y : Option D) : Sl := [some (.ref 1), some (.str M), some (.str W), some (.str B), some (.str T), some (.int (t : Int)), some (.ref r), x, y]
theorem known_lp1 {w n : Nat} {b : Nat} {W M B : Tx} {r : Nat} {g : Hh} (hb : b ≤ 5) (hW : IsW W) (lW : W.length = 4) (hM : IsN M) (lM : M.length = 3) (hw : 16777217 ≤ w) (hr : g[r]? = some (.lst ((due b W M).map tokD))) :
    ∀ fs : List (Tx × Tx), (∀ p ∈ fs, Flt p.1 p.2) → lpF [] (.tup [.name 7, .name 8]) [7, 8] (evSs (gk w (n + 6)) _law_known_l1) (fs.map fun p => .tup [.str p.1, .str p.2]) (knSl M W B (known b W M) b r none none) g = .nx (knSl M W B (known b W M) b r none none) g
  | [], _ => by rw [List.map_nil, lpF_nil]; rfl
  | (f, what) :: fs, hf => by
    have F := hf (f, what) (List.mem_cons_self ..)
    have f10 : 10 ∉ f := F.no10
    have fl : f.length ≤ 100 := F.len
    have kl : (known b W M).length ≤ 100 := by simp [known, line1, line3, lW, lM]; omega
    have q1 := ask_ok (w := w) (n := n + 1) (text := known b W M ++ 10 :: 32 :: f) (nm := true) (h := g) (by simp; omega) hw
    rw [known_bad hW lW hM lM f10 F.ne F.hd F.er] at q1
    have q2 := ask_ok (w := w) (n := n + 1) (text := known b W M ++ 10 :: 32 :: 35 :: f) (nm := false) (h := g) (by simp; omega) hw
    rw [known_fine hW lW hM lM f10] at q2
    have q3 := (lik_er (w := w) ⟨4, 2, what⟩).2 (n + 4) g
    have q4 := (lik_res (w := w) (.ok (due b W M))).2 (n + 2) g
    have tA := o_tupAt (s := sub) hr
    unfold resD erD at q1 q2
    unfold erD at q3
    unfold resD toksD at q4
    unfold toksD at q2
    simp only at q1 q2 q3 q4
    have pt : D.pers (.tup ((due b W M).map tokD)) = true := rfl
    generalize hD : (due b W M).map tokD = due' at *
    generalize hT : known b W M = T at *
    have a1 : T.length + 2 ≤ 16777216 := by omega
    have a2 : T.length + 3 ≤ 16777216 := by omega
    have a3 : T.length + 2 + f.length ≤ 16777216 := by omega
    have a4 : T.length + 3 + f.length ≤ 16777216 := by omega
    have a5 : T.length + (2 + f.length) ≤ 16777216 := by omega
    have a6 : T.length + (3 + f.length) ≤ 16777216 := by omega
    unfold knSl
    rw [List.map_cons, lpF_go (δ1 := [some (.ref 1), some (.str M), some (.str W), some (.str B), some (.str T), some (.int (b : Int)), some (.ref r), some (.str f), some (.str what)]) (h2 := g) (δ2 := [some (.ref 1), some (.str M), some (.str W), some (.str B), some (.str T), some (.int (b : Int)), some (.ref r), some (.str f), some (.str what)]) (by simp) (by
      simp [_law_known_l1, evSs, evS, evE, evEs, evT, a1, a2, a3, a4, a5, a6, q1, q2, q3, q4, tA])]
    simp only [wipe1, wipe0, List.set_cons_succ, List.set_cons_zero]
    rw [← hT, ← hD] at *
    exact known_lp1 (n := n) hb hW lW hM lM hw (by rw [hD]; exact hr) fs fun p m => hf p (List.mem_cons_of_mem _ m)
theorem known_lp2 {w N n : Nat} {v1 v2 v3 v5 v6 : Option D} (hw : 16777217 ≤ w) : ∀ (xs : List Tx) (g : Hh), (∀ x ∈ xs, x.length ≤ 100 ∧ textR x = .ok []) → Spr (N + xs.length) g →
    ∃ g', lpF [] (.name 4) [4] (evSs (gk w (n + 6)) _law_known_l2) (xs.map .str) [some (.ref 1), v1, v2, v3, none, v5, v6, none, none] g = .nx [some (.ref 1), v1, v2, v3, none, v5, v6, none, none] g' ∧ Sp N g g'
  | [], g, hx, hs => ⟨g, by rw [List.map_nil, lpF_nil]; rfl, hs.refl⟩
  | x :: xs, g, hx, hs => by
    obtain ⟨xl, xt⟩ := hx x (List.mem_cons_self ..)
    obtain ⟨t, g1, e1, b1, s1⟩ := drop_nat (w := w) (N := N + xs.length) (n + 5) g 2 hs (by decide) (by decide)
    have q := ask_ok (w := w) (n := n + 1) (text := x) (nm := decide (t = 0)) (h := g1) (by omega) hw
    rw [xt] at q
    have q4 := (lik_res (w := w) (.ok [])).2 (n + 2) g1
    obtain ⟨g', e2, s2⟩ := known_lp2 (w := w) (N := N) (n := n) (v1 := v1) (v2 := v2) (v3 := v3) (v5 := v5) (v6 := v6) hw xs g1 (fun x m => hx x (List.mem_cons_of_mem _ m)) s1.spr
    refine ⟨g', ?_, s1.trans s2⟩
    unfold resD toksD at q q4
    simp at q q4 e1
    rw [List.map_cons, lpF_go (δ1 := [some (.ref 1), v1, v2, v3, some (.str x), v5, v6, none, none]) (h2 := g1) (δ2 := [some (.ref 1), v1, v2, v3, some (.str x), v5, v6, none, none]) (by simp) (by
      simp [_law_known_l2, evSs, evS, evE, evEs, evT, e1, q, q4])]
    simp only [wipe1, wipe0, List.set_cons_succ, List.set_cons_zero]
    exact e2
end Lk03

namespace Lk03
open Ivy
abbrev six : List Tx := [[], [32], [10], [35], [35, 32, 97, 10], [32, 10, 32, 35, 48, 55]]
theorem mul14 {s : Nat → Nat → Bool} {h : Hh} : opApp s .mul [.str [48], .int 14] h = .ok (.str z14) h := rfl
theorem evSs_ite {g : G} {c : Te} {a b ss : List St} {δ : Sl} {h h1 h2 : Hh} (k : Bool) (ec : evT g c δ h = .ok k h1) (e : evSs g (if k = true then a else b) δ h1 = .nx δ h2) : evSs g (.ite c a b :: ss) δ h = evSs g ss δ h2 := by
  refine evSs_cons ?_
  simp only [evS, ec, s_go]
  cases k <;> simpa using e
theorem box_str {G : G} {e : Ex} {δ : Sl} {h h' : Hh} {x : Tx} (he : evE G e δ h = .ok (.str x) h') : evE G (.box e) δ h = .ok (.str x) h' := by simp [evE, he]
theorem known_ok' {w N : Nat} (n : Nat) (h : Hh) (hs : Spr (N + 100) h) (hw : 16777217 ≤ w) : ∃ h', callF (Pr w) (n + 7) 21 [.ref 1] h = .ok (.bl true) h' ∧ Sp N h h' := by
  obtain ⟨c2, u2, h1, e1, l1, s1, g1, g2⟩ := number_ok (w := w) (N := N + 97) (n + 3) 2 h (hs.le (by omega)) (by omega)
  obtain ⟨c1, u1, h2, e2, l2, s2, g3, g4⟩ := word_ok (w := w) (N := N + 93) (n + 3) 3 h1 s1.spr (by omega)
  have hM : IsN (c2 :: u2) := ⟨c2, u2, rfl, g1, g2⟩
  have hW : IsW (c1 :: u1) := ⟨c1, u1, rfl, g3, g4⟩
  have lM : (c2 :: u2).length = 3 := by simp [l1]
  have lW : (c1 :: u1).length = 4 := by simp [l2]
  generalize c2 :: u2 = M at *
  generalize c1 :: u1 = W at *
  obtain ⟨b, h3, e3, b3, s3⟩ := drop_nat (w := w) (N := N + 92) (n + 5) h2 5 s2.spr (by decide) (by decide)
  have m3 := mul_S (s := sub) (h := h3) (x := [32]) (k := b) (by simp; omega) (by omega)
  rw [flat1] at m3
  have lB : (List.replicate b 32).length = b := List.length_replicate
  generalize hB : List.replicate b 32 = B at *
  have hT : (((((((((((B ++ W) ++ [58, 45]) ++ M) ++ [35, 32]) ++ W) ++ [10, 10]) ++ B) ++ [123]) ++ M) ++ W) ++ [125]) = known b W M := by
    simp [known, line1, line3, hB]
  have kl : (known b W M).length ≤ 100 := by rw [← hT]; simp [lW, lM, lB]; omega
  have S1 : evS (gk w (n + 6)) (.asg (.name 1) (.box (.call 14 [(.var 0), (.lit (.int 3))] []))) [some (.ref 1), none, none, none, none, none, none, none, none] h = .nx [some (.ref 1), some (.str M), none, none, none, none, none, none, none] h1 := by
    simp at e1
    simp [evS, evE, evEs, e1]
  have S2 : evS (gk w (n + 6)) (.asg (.name 2) (.box (.call 13 [(.var 0), (.lit (.int 4))] []))) [some (.ref 1), some (.str M), none, none, none, none, none, none, none] h1 = .nx [some (.ref 1), some (.str M), some (.str W), none, none, none, none, none, none] h2 := by
    simp at e2
    simp [evS, evE, evEs, e2]
  have S3 : evS (gk w (n + 6)) (.asg (.name 3) (.box (.op .mul [(.lit (.str [32])), (.call 5 [(.var 0), (.lit (.int 5))] [])]))) [some (.ref 1), some (.str M), some (.str W), none, none, none, none, none, none] h2 = .nx [some (.ref 1), some (.str M), some (.str W), some (.str B), none, none, none, none, none] h3 := by
    have A1 : evE (gk w (n + 6)) (.lit (.str [32])) [some (.ref 1), some (.str M), some (.str W), none, none, none, none, none, none] h2 = .ok (.str [32]) h2 := by simp only [evE]
    have A2 : evE (gk w (n + 6)) (.call 5 [(.var 0), (.lit (.int 5))] []) [some (.ref 1), some (.str M), some (.str W), none, none, none, none, none, none] h2 = .ok (.int (b : Int)) h3 := by
      simp at e3
      simp [evE, evEs, e3]
    exact asg_ok (box_str ((op2_ok A1 A2).trans m3)) rfl
  have S4 : evS (gk w (n + 6)) (.asg (.name 4) (.box (.op .add [(.op .add [(.op .add [(.op .add [(.op .add [(.op .add [(.op .add [(.op .add [(.op .add [(.op .add [(.op .add [(.var 3), (.var 2)]), (.lit (.str [58, 45]))]), (.var 1)]), (.lit (.str [35, 32]))]), (.var 2)]), (.lit (.str [10, 10]))]), (.var 3)]), (.lit (.str [123]))]), (.var 1)]), (.var 2)]), (.lit (.str [125]))]))) [some (.ref 1), some (.str M), some (.str W), some (.str B), none, none, none, none, none] h3 = .nx [some (.ref 1), some (.str M), some (.str W), some (.str B), some (.str (known b W M)), none, none, none, none] h3 := by
    have v : ∀ (i : Nat) (x : Tx), [some (D.ref 1), some (D.str M), some (D.str W), some (D.str B), none, none, none, none, none][i]? = some (some (D.str x)) → evE (gk w (n + 6)) (.var i) [some (.ref 1), some (.str M), some (.str W), some (.str B), none, none, none, none, none] h3 = .ok (.str x) h3 := fun i x hi => by simp only [evE, hi]
    have lt : ∀ x : Tx, evE (gk w (n + 6)) (.lit (.str x)) [some (.ref 1), some (.str M), some (.str W), some (.str B), none, none, none, none, none] h3 = .ok (.str x) h3 := fun x => by simp only [evE]
    have ad : ∀ {e1 e2 : Ex} {x y : Tx}, evE (gk w (n + 6)) e1 [some (.ref 1), some (.str M), some (.str W), some (.str B), none, none, none, none, none] h3 = .ok (.str x) h3 → evE (gk w (n + 6)) e2 [some (.ref 1), some (.str M), some (.str W), some (.str B), none, none, none, none, none] h3 = .ok (.str y) h3 → x.length + y.length ≤ 16777216 → evE (gk w (n + 6)) (.op .add [e1, e2]) [some (.ref 1), some (.str M), some (.str W), some (.str B), none, none, none, none, none] h3 = .ok (.str (x ++ y)) h3 := fun a b l => (op2_ok a b).trans (add_ok l)
    have r1 := ad (v 3 B rfl) (v 2 W rfl) (by omega)
    have r2 := ad r1 (lt [58, 45]) (by simp; omega)
    have r3 := ad r2 (v 1 M rfl) (by simp; omega)
    have r4 := ad r3 (lt [35, 32]) (by simp; omega)
    have r5 := ad r4 (v 2 W rfl) (by simp; omega)
    have r6 := ad r5 (lt [10, 10]) (by simp; omega)
    have r7 := ad r6 (v 3 B rfl) (by simp; omega)
    have r8 := ad r7 (lt [123]) (by simp; omega)
    have r9 := ad r8 (v 1 M rfl) (by simp; omega)
    have r10 := ad r9 (v 2 W rfl) (by simp; omega)
    have r11 := ad r10 (lt [125]) (by simp; omega)
    rw [hT] at r11
    exact asg_ok (box_str r11) rfl
  generalize hD : due b W M = ts at *
  obtain ⟨h4, hh4⟩ : ∃ h4, h4 = h3 ++ [C.lst ((ts.take 4).map tokD)] := ⟨_, rfl⟩
  obtain ⟨h5, hh5⟩ : ∃ h5, h5 = h4 ++ [C.lst (ts.map tokD)] := ⟨_, rfl⟩
  have r4 : h4[h3.length]? = some (.lst ((ts.take 4).map tokD)) := by rw [hh4]; simp
  have r5 : h5[h4.length]? = some (.lst (ts.map tokD)) := by rw [hh5]; simp
  have S5 : evS (gk w (n + 6)) (.asg (.name 5) (.op .len [(.var 3)])) [some (.ref 1), some (.str M), some (.str W), some (.str B), some (.str (known b W M)), none, none, none, none] h3 = .nx [some (.ref 1), some (.str M), some (.str W), some (.str B), some (.str (known b W M)), some (.int (b : Int)), none, none, none] h3 := by
    simp [evS, evE, evEs, lB, show b ≤ 16777216 by omega]
  have S6 : evS (gk w (n + 6)) (.asg (.name 6) (.box (.op .lst [(.op .tup [(.lit (.str [119, 111, 114, 100])), (.var 2), (.lit (.int 1)), (.box (.op .add [(.var 5), (.lit (.int 1))]))]), (.op .tup [(.lit (.str [115, 105, 103, 110])), (.lit (.str [58])), (.lit (.int 1)), (.box (.op .add [(.var 5), (.lit (.int 5))]))]), (.op .tup [(.lit (.str [115, 105, 103, 110])), (.lit (.str [45])), (.lit (.int 1)), (.box (.op .add [(.var 5), (.lit (.int 6))]))]), (.op .tup [(.lit (.str [110, 117, 109, 98, 101, 114])), (.var 1), (.lit (.int 1)), (.box (.op .add [(.var 5), (.lit (.int 7))]))])]))) [some (.ref 1), some (.str M), some (.str W), some (.str B), some (.str (known b W M)), some (.int (b : Int)), none, none, none] h3 = .nx [some (.ref 1), some (.str M), some (.str W), some (.str B), some (.str (known b W M)), some (.int (b : Int)), some (.ref h3.length), none, none] h4 := by
    rw [hh4, ← hD]
    simp [evS, evE, evEs, due, tokD]
  have S7 : evS (gk w (n + 6)) (.asg (.name 6) (.box (.op .add [(.var 6), (.op .lst [(.op .tup [(.lit (.str [115, 105, 103, 110])), (.lit (.str [123])), (.lit (.int 3)), (.box (.op .add [(.var 5), (.lit (.int 1))]))]), (.op .tup [(.lit (.str [110, 117, 109, 98, 101, 114])), (.var 1), (.lit (.int 3)), (.box (.op .add [(.var 5), (.lit (.int 2))]))]), (.op .tup [(.lit (.str [119, 111, 114, 100])), (.var 2), (.lit (.int 3)), (.box (.op .add [(.var 5), (.lit (.int 5))]))]), (.op .tup [(.lit (.str [115, 105, 103, 110])), (.lit (.str [125])), (.lit (.int 3)), (.box (.op .add [(.var 5), (.lit (.int 9))]))])])]))) [some (.ref 1), some (.str M), some (.str W), some (.str B), some (.str (known b W M)), some (.int (b : Int)), some (.ref h3.length), none, none] h4 = .nx [some (.ref 1), some (.str M), some (.str W), some (.str B), some (.str (known b W M)), some (.int (b : Int)), some (.ref h4.length), none, none] h5 := by
    have lm : lmD h4 (.ref h3.length) = some ((ts.take 4).map tokD) := by simp only [lmD, r4]
    have ad : ∀ ys : List D, ys.length = 4 → opApp sub .add [.ref h3.length, .lst ys] h4 = .ok (.lst ((ts.take 4).map tokD ++ ys)) h4 := fun ys hy => by
      show (match lmD h4 (D.ref h3.length), lmD h4 (D.lst ys) with
        | some x, some y => whenR (decide (x.length + y.length ≤ cells)) (R.ok (D.lst (x ++ y)) h4)
        | _, _ => R.no) = _
      rw [lm]
      simp only [lmD]
      rw [decide_eq_true (by rw [List.length_map, List.length_take, hy]; show _ ≤ 16777216; omega)]
      rfl
    have ad2 := ad [.tup [.str wSign, .str [123], .int 3, .int (b + 1)], .tup [.str wNumber, .str M, .int 3, .int (b + 2)], .tup [.str wWord, .str W, .int 3, .int (b + 5)], .tup [.str wSign, .str [125], .int 3, .int (b + 9)]] rfl
    rw [hh5, ← hD] at *
    simp only [wSign, wNumber, wWord] at ad2
    simp [evS, evE, evEs, ad2, due, tokD]
  -- the heap from here
  have X5 : Spx (N + 92) h h5 := by rw [hh5, hh4]; exact ((((Spx.refl hs).go s1).go s2).go s3).app.app
  have p5 : 2 ≤ h4.length := by rw [hh4]; have := s3.spr.len; simp; omega
  have tA := o_tupAt (s := sub) r5
  have q1 := ask_ok (w := w) (n := n + 1) (text := known b W M) (nm := false) (h := h5) (by omega) hw
  rw [known_ok hW lW hM lM, hD] at q1
  have q2 := (lik_res (w := w) (.ok ts)).2 (n + 2) h5
  unfold resD toksD at q1 q2
  simp only at q1 q2
  have S8 : evS (gk w (n + 6)) (.ite (.not (.ex (.call 7 [(.box (.call 11 [(.var 4), (.lit (.bl false))] [])), (.op .tup [(.lit (.str [116, 111, 108, 100])), (.op .tuple [(.var 6)])])] []))) [.ret (.lit (.bl false))] []) [some (.ref 1), some (.str M), some (.str W), some (.str B), some (.str (known b W M)), some (.int (b : Int)), some (.ref h4.length), none, none] h5 = .nx [some (.ref 1), some (.str M), some (.str W), some (.str B), some (.str (known b W M)), some (.int (b : Int)), some (.ref h4.length), none, none] h5 := by
    simp [evS, evSs, evT, evE, evEs, q1, tA, q2]
  obtain ⟨o, h6, e6, o6, s6⟩ := odd_ok (w := w) (N := N + 91) (n + 3) h5 X5.spr
  have r6 : h6[h4.length]? = some (.lst ((due b W M).map tokD)) := by rw [s6.off _ p5, hD]; exact r5
  have F1 := known_lp1 (w := w) (n := n) (B := B) (by omega) hW lW hM lM hw r6 [([o], wSign), ([9], wSign), ([65], wSign), (48 :: M, wNumber), (W ++ (W ++ (W ++ (W ++ []))), wLong), (z14, wLong)] (fun p m => by
    simp only [List.mem_cons, List.not_mem_nil, or_false] at m
    rcases m with rfl | rfl | rfl | rfl | rfl | rfl
    · exact flt_odd o6
    · exact flt_odd (by decide)
    · exact flt_odd (by decide)
    · exact flt_number hM lM
    · exact flt_word hW lW
    · exact flt_noughts)
  unfold knSl at F1
  have m4 := mul_S (s := sub) (h := h6) (x := W) (k := 4) (by omega) (by decide)
  rw [flat4] at m4
  have S9 : evS (gk w (n + 6)) (.for (.tup [(.name 7), (.name 8)]) (.seq (.op .lst [(.op .tup [(.box (.call 15 [(.var 0)] [])), (.lit (.str [115, 105, 103, 110]))]), (.op .tup [(.lit (.str [9])), (.lit (.str [115, 105, 103, 110]))]), (.op .tup [(.lit (.str [65])), (.lit (.str [115, 105, 103, 110]))]), (.op .tup [(.box (.op .add [(.lit (.str [48])), (.var 1)])), (.lit (.str [110, 117, 109, 98, 101, 114]))]), (.op .tup [(.box (.op .mul [(.var 2), (.lit (.int 4))])), (.lit (.str [108, 111, 110, 103]))]), (.op .tup [(.box (.op .mul [(.lit (.str [48])), (.lit (.int 14))])), (.lit (.str [108, 111, 110, 103]))])])) _law_known_l1 [7, 8]) [some (.ref 1), some (.str M), some (.str W), some (.str B), some (.str (known b W M)), some (.int (b : Int)), some (.ref h4.length), none, none] h5 = .nx [some (.ref 1), some (.str M), some (.str W), some (.str B), some (.str (known b W M)), some (.int (b : Int)), some (.ref h4.length), none, none] h6 := by
    simp only [List.map_cons, List.map_nil] at F1
    have m4 : opApp sub .mul [.str W, .int 4] h6 = .ok (.str (W ++ (W ++ (W ++ (W ++ []))))) h6 := m4
    simp only [List.append_nil] at m4 F1
    have a1 : 1 + M.length ≤ 16777216 := by omega
    simp [evS, evI, evE, evEs, e6, a1, m4, mul14, F1]
  obtain ⟨h7, e7, s7⟩ := known_lp2 (w := w) (N := N + 85) (n := n) (v1 := some (.str M)) (v2 := some (.str W)) (v3 := some (.str B)) (v5 := some (.int (b : Int))) (v6 := some (.ref h4.length)) hw six h6 (fun x m => by
    simp only [List.mem_cons, List.not_mem_nil, or_false] at m
    rcases m with rfl | rfl | rfl | rfl | rfl | rfl <;> exact ⟨by decide, rfl⟩) (s6.spr.le (by simp))
  have S10 : evS (gk w (n + 6)) (.for (.name 4) (.seq (.op .lst [(.lit (.str [])), (.lit (.str [32])), (.lit (.str [10])), (.lit (.str [35])), (.lit (.str [35, 32, 97, 10])), (.lit (.str [32, 10, 32, 35, 48, 55]))])) _law_known_l2 [4]) [some (.ref 1), some (.str M), some (.str W), some (.str B), some (.str (known b W M)), some (.int (b : Int)), some (.ref h4.length), none, none] h6 = .nx [some (.ref 1), some (.str M), some (.str W), some (.str B), none, some (.int (b : Int)), some (.ref h4.length), none, none] h7 := by
    simp only [List.map_cons, List.map_nil] at e7
    simp [evS, evI, evE, evEs, e7]
  have S11 : evE (gk w (n + 6)) (.lit (.bl true)) [some (.ref 1), some (.str M), some (.str W), some (.str B), none, some (.int (b : Int)), some (.ref h4.length), none, none] h7 = .ok (.bl true) h7 := by simp only [evE]
  obtain ⟨h', f1, f2⟩ := fin_ok (d := .bl true) hs ((X5.go s6).go s7) (by simp [D.low]) rfl
  refine ⟨h', ?_, f2.le (by omega)⟩
  rw [u21]
  refine (if_pos (show [D.ref 1].length = _law_known.np from rfl)).trans ?_
  show endF h (evSs (gk w (n + 6)) _law_known.body [some (.ref 1), none, none, none, none, none, none, none, none] h) = _
  unfold _law_known
  simp only
  rw [evSs_cons S1, evSs_cons S2, evSs_cons S3, evSs_cons S4, evSs_cons S5, evSs_cons S6, evSs_cons S7, evSs_cons S8, evSs_cons S9, evSs_cons S10, evSs_ret (ret_ok S11)]
  exact f1
end Lk03

namespace Lk03
open Ivy
/-! ### the ink made -/
theorem o_shl1 {s : Nat → Nat → Bool} {h : Hh} : opApp s .shl [.int 1, .int 2000] h = .ok (.int (2 ^ 2000)) h := by
  rw [o_shlI]
  have : (1 : Int).natAbs < big := Nat.lt_of_lt_of_le (by decide : (1 : Nat) < 2 ^ 1) (Nat.pow_le_pow_right (by omega) (by omega))
  simp only [this, decide_true, Bool.and_true, Int.one_mul]
  rfl
theorem cut63 {xs : List D} (h : xs.length ≤ 63) : cut xs none (some 63) = xs := by
  simp only [cut, clip]
  rw [if_neg (by omega)]
  have : min ((63 : Int).toNat) xs.length = xs.length := by omega
  simp only [this]
  simp
theorem ink_ok {w : Nat} (n : Nat) (ns : List Int) (hn : ns.length ≤ 63) : ∃ cs : List Int, cs.length ≤ 63 ∧ (∀ c ∈ cs, 0 ≤ c ∧ c < 2 ^ 2000) ∧ callF (Pr w) (n + 1) 4 [.rol (ns.map .int)] [] = .ok (.lst [.ref 0, .int 2, .int 104729]) [.lst (cs.map .int)] := by
  obtain ⟨P, hP, p0⟩ : ∃ P : Int, P = 2 ^ 2000 ∧ 0 < P := ⟨_, rfl, Int.pow_pos (by decide)⟩
  have e1 := fun h => o_shl1 (s := sub) (h := h)
  rw [← hP] at e1
  have P0 : P ≠ 0 := by omega
  refine ⟨ns.map fun x => (if x < 0 then -x else x) % P, by simpa using hn, fun c hc => ?_, ?_⟩
  · obtain ⟨x, _, rfl⟩ := List.mem_map.mp hc
    rw [← hP]
    exact ⟨Int.emod_nonneg _ P0, Int.emod_lt_of_pos _ p0⟩
  · rw [u4]
    have sl : opApp sub (.slice false true) [.rol (ns.map .int), .int 63] [] = .ok (.lst (ns.map .int)) [] := by
      show opSlice [] (.rol (ns.map .int)) none (some 63) = _
      unfold opSlice
      simp [lsD, cut63 (xs := ns.map D.int) (by simpa using hn)]
    simp [-o_shlI, runF, _law_ink, startS, evSs, evS, evE, evEs, evT, evI, sl, e1]
    rw [lpC_map (gd := []) gd_nil D.int (fun x => D.int ((if x < 0 then -x else x) % P)) ns]
    · simp [show ns.length ≤ 16777216 by omega, endF, finish, lift, D.low, D.lowL]
    · intro x hx
      simp [-o_shlI, evTs, evE, evEs, e1, P0, fmod_pos p0]
/-! ### the law -/
theorem law_loop {w N : Nat} (n : Nat) (hw : 16777217 ≤ w) {v0 v2 : Option D} : ∀ (xs : List D) (h : Hh), (∀ x ∈ xs, D.pers x = true) → Spr (N + 500 * xs.length) h →
    ∃ h', lpF [] (.name 3) [3] (evSs (gk w (n + 7)) law_l1) xs [v0, some (.ref 1), v2, none] h = .nx [v0, some (.ref 1), v2, none] h' ∧ Sp N h h'
  | [], h, _, hs => ⟨h, by rw [lpF_nil]; simp, hs.refl⟩
  | x :: xs, h, hp, hs => by
    simp only [List.length_cons] at hs
    obtain ⟨t1, h1, e1, b1, s1⟩ := drop_nat (w := w) (N := N + 500 * xs.length + 499) (n + 6) h 14 (hs.le (by omega)) (by decide) (by decide)
    obtain ⟨x1, h2, e2, _, l2, s2⟩ := pieces_ok (w := w) (N := N + 500 * xs.length + 100) (n + 2) (2 + t1) h1 (s1.spr.le (by omega)) (by omega)
    obtain ⟨h3, e3, s3⟩ := right_ok (w := w) (N := N + 500 * xs.length + 99) (n + 1) h2 x1 s2.spr (by omega) hw
    obtain ⟨t2, h4, e4, b4, s4⟩ := drop_nat (w := w) (N := N + 500 * xs.length + 98) (n + 6) h3 30 s3.spr (by decide) (by decide)
    obtain ⟨x2, h5, e5, l5, s5⟩ := drawn_ok (w := w) (N := N + 500 * xs.length + 1) (n + 3) (1 + t2) h4 (s4.spr.le (by omega)) (by omega)
    obtain ⟨h6, e6, s6⟩ := right_ok (w := w) (N := N + 500 * xs.length) (n + 1) h5 x2 s5.spr (by omega) hw
    obtain ⟨h', e7, s7⟩ := law_loop (N := N) n hw (v0 := v0) (v2 := v2) xs h6 (fun y m => hp y (List.mem_cons_of_mem _ m)) s6.spr
    refine ⟨h', ?_, s1.trans (s2.trans (s3.trans (s4.trans (s5.trans (s6.trans s7)))))⟩
    have px := hp x (List.mem_cons_self ..)
    rw [show ((2 + t1 : Nat) : Int) = 2 + (t1 : Int) by omega] at e2
    rw [show ((1 + t2 : Nat) : Int) = 1 + (t2 : Int) by omega] at e5
    simp at e1 e4
    rw [lpF_go (δ1 := [v0, some (.ref 1), v2, some x]) (h2 := h6) (δ2 := [v0, some (.ref 1), v2, some x]) (by simp [px]) (by
      simp [law_l1, evSs, evS, evE, evEs, evT, e1, e2, e3, e4, e5, e6])]
    exact e7
theorem law_ok {w : Nat} (n : Nat) (ns : List Int) (hn : ns.length ≤ 63) (hw : 16777217 ≤ w) : ∃ h, callF (Pr w) (n + 8) 23 [.rol (ns.map .int)] [] = .ok (.bl true) h := by
  obtain ⟨cs, c1, c2, e1⟩ := ink_ok (w := w) (n + 6) ns hn
  obtain ⟨h0, hh0⟩ : ∃ h0, h0 = [C.lst (cs.map .int), C.lst [.ref 0, .int 2, .int 104729]] := ⟨_, rfl⟩
  have s0 : Spr 100000 h0 := ⟨cs, 2, 104729, ⟨by rw [hh0]; rfl, by rw [hh0]; rfl, c2, c1, by decide, by decide, by decide⟩, by decide⟩
  obtain ⟨t, h1, e2, b2, s1⟩ := drop_nat (w := w) (N := 99999) (n + 6) h0 11 s0 (by decide) (by decide)
  have rl : (rangeL 0 (rangeN 0 5 1) 1).length = 5 := rfl
  obtain ⟨h2, e3, s2⟩ := law_loop (w := w) (N := 1000) n hw (v0 := some (.rol (ns.map .int))) (v2 := some (.int (t : Int))) (rangeL 0 (rangeN 0 5 1) 1) h1 rangeL_pers (s1.spr.le (by rw [rl]; omega))
  obtain ⟨h3, e4, s3⟩ := spoilt_ok (w := w) (N := 500) n h2 (s2.spr.le (by omega)) hw
  obtain ⟨h4, e5, s4⟩ := known_ok' (w := w) (N := 400) n h3 (s3.spr.le (by omega)) hw
  obtain ⟨h5, e6, s5⟩ := long_ok (w := w) (N := 0) n h4 (s4.spr.le (by omega)) hw
  have fin : ∀ g, ∃ h, finish [] (.bl true) g = .ok (.bl true) h := fun g => by
    unfold finish
    split
    · exact ⟨_, rfl⟩
    · split
      · exact ⟨_, rfl⟩
      · exact ⟨_, rfl⟩
  obtain ⟨h6, e7⟩ := fin h4
  obtain ⟨h7, e8⟩ := fin h5
  have bx : boxR (.lst [.ref 0, .int 2, .int 104729]) [C.lst (cs.map D.int)] = .ok (.ref 1) h0 := by rw [hh0]; rfl
  simp at e2
  by_cases t5 : t = 5
  · refine ⟨h7, ?_⟩
    subst t5
    simp only [show ((5 : Nat) : Int) = 5 from rfl] at e2 e3
    rw [u23]
    simp [runF, law, startS, evSs, evS, evE, evEs, evT, evI, e1, bx, e2, rng1, e3, e4, e5, e6, endF, e8]
  · by_cases t8 : t = 8
    · refine ⟨h7, ?_⟩
      subst t8
      simp only [show ((8 : Nat) : Int) = 8 from rfl] at e2 e3
      rw [u23]
      simp [runF, law, startS, evSs, evS, evE, evEs, evT, evI, e1, bx, e2, rng1, e3, e4, e5, e6, endF, e8]
    · have t5' : ¬ (t : Int) = 5 := by omega
      have t8' : ¬ (t : Int) = 8 := by omega
      refine ⟨h6, ?_⟩
      rw [u23]
      simp [runF, law, startS, evSs, evS, evE, evEs, evT, evI, e1, bx, e2, rng1, e3, e4, e5, t5', t8', endF, e7]
end Lk03

namespace Lk03
open Ivy
open PySem PySem.Spec PyProof.Rows L2
def top (i : Nat) : Stmt := PySem.Challenge.pw_whichpass_k03_tokens.main.body.getD i (.Pass ⟨0, 0, 0, 0⟩)
def nms : List PySem.Str := (["end_of", "token_at", "line_tokens", "tokens_of", "_law_ink", "_law_drop", "_law_pick", "_law_same", "_law_small", "_law_figures", "_law_tokens", "_law_ask", "_law_right", "_law_word"] : List PySem.Str) ++ (["_law_number", "_law_odd", "_law_piece", "_law_fault", "_law_pieces", "_law_drawn", "_law_spoilt_ok", "_law_known", "_law_long", "law"] : List PySem.Str)
def nm (i : Nat) : PySem.Str := nms.getD i ""
def tix : List Nat := [14, 15, 16, 17, 19, 20, 21, 22, 23, 24, 25, 26, 27, 28, 29, 30, 31, 32, 33, 34, 35, 36, 37, 38]
def tp (i : Nat) : Stmt := top (tix.getD i 0)
def ps0 : List PySem.Str := (["line", "place", "signs"] : List PySem.Str)
def N0 : List PySem.Str := (["line", "place", "signs"] : List PySem.Str)
def ps1 : List PySem.Str := (["number", "line", "place"] : List PySem.Str)
def N1 : List PySem.Str := (["number", "line", "place", "kind", "end"] : List PySem.Str)
def ps2 : List PySem.Str := (["number", "line"] : List PySem.Str)
def N2 : List PySem.Str := (["number", "line", "found", "place", "token"] : List PySem.Str)
def ps3 : List PySem.Str := (["text"] : List PySem.Str)
def N3 : List PySem.Str := (["text", "found", "at", "line"] : List PySem.Str)
def ps4 : List PySem.Str := (["script"] : List PySem.Str)
def N4 : List PySem.Str := (["script", "cell"] : List PySem.Str)
def ps5 : List PySem.Str := (["ink", "many"] : List PySem.Str)
def N5 : List PySem.Str := (["ink", "many", "cells", "mix", "place", "cell"] : List PySem.Str)
def ps6 : List PySem.Str := (["ink", "things"] : List PySem.Str)
def N6 : List PySem.Str := (["ink", "things"] : List PySem.Str)
def ps7 : List PySem.Str := (["told", "due"] : List PySem.Str)
def N7 : List PySem.Str := (["told", "due", "k"] : List PySem.Str)
def ps8 : List PySem.Str := ([] : List PySem.Str)
def N8 : List PySem.Str := ([] : List PySem.Str)
def ps9 : List PySem.Str := ([] : List PySem.Str)
def N9 : List PySem.Str := ([] : List PySem.Str)
def ps10 : List PySem.Str := (["text"] : List PySem.Str)
def N10 : List PySem.Str := (["text", "found", "begun", "kind", "line", "place", "first", "remark", "sign", "part"] : List PySem.Str)
def ps11 : List PySem.Str := (["text", "named"] : List PySem.Str)
def N11 : List PySem.Str := (["text", "named", "told", "e", "low"] : List PySem.Str)
def ps12 : List PySem.Str := (["ink", "text"] : List PySem.Str)
def N12 : List PySem.Str := (["ink", "text"] : List PySem.Str)
def ps13 : List PySem.Str := (["ink", "size"] : List PySem.Str)
def N13 : List PySem.Str := (["ink", "size", "word", "k"] : List PySem.Str)
def ps14 : List PySem.Str := (["ink", "size"] : List PySem.Str)
def N14 : List PySem.Str := (["ink", "size", "number", "k"] : List PySem.Str)
def ps15 : List PySem.Str := (["ink"] : List PySem.Str)
def N15 : List PySem.Str := (["ink"] : List PySem.Str)
def ps16 : List PySem.Str := (["ink"] : List PySem.Str)
def N16 : List PySem.Str := (["ink", "kind"] : List PySem.Str)
def ps17 : List PySem.Str := (["ink"] : List PySem.Str)
def N17 : List PySem.Str := (["ink", "kind"] : List PySem.Str)
def ps18 : List PySem.Str := (["ink", "many"] : List PySem.Str)
def N18 : List PySem.Str := (["ink", "many", "text", "k"] : List PySem.Str)
def ps19 : List PySem.Str := (["ink", "many"] : List PySem.Str)
def N19 : List PySem.Str := (["ink", "many", "signs", "k"] : List PySem.Str)
def ps20 : List PySem.Str := (["ink"] : List PySem.Str)
def N20 : List PySem.Str := (["ink", "ahead", "behind", "word", "number", "faults", "fault", "fine"] : List PySem.Str)
def ps21 : List PySem.Str := (["ink"] : List PySem.Str)
def N21 : List PySem.Str := (["ink", "number", "word", "blanks", "text", "at", "due", "fault", "what"] : List PySem.Str)
def ps22 : List PySem.Str := (["ink"] : List PySem.Str)
def N22 : List PySem.Str := (["ink", "piece", "text"] : List PySem.Str)
def ps23 : List PySem.Str := (["script"] : List PySem.Str)
def N23 : List PySem.Str := (["script", "ink", "rare", "k"] : List PySem.Str)
def ps (i : Nat) : List PySem.Str := match i with
  | 0 => ps0
  | 1 => ps1
  | 2 => ps2
  | 3 => ps3
  | 4 => ps4
  | 5 => ps5
  | 6 => ps6
  | 7 => ps7
  | 8 => ps8
  | 9 => ps9
  | 10 => ps10
  | 11 => ps11
  | 12 => ps12
  | 13 => ps13
  | 14 => ps14
  | 15 => ps15
  | 16 => ps16
  | 17 => ps17
  | 18 => ps18
  | 19 => ps19
  | 20 => ps20
  | 21 => ps21
  | 22 => ps22
  | 23 => ps23
  | _ => []
def bl : List PySem.Str := (["len", "tuple", "enumerate", "abs", "int", "isinstance", "bool", "str", "range", "ValueError"] : List PySem.Str)
def fa (K : PySem.W.Frag) (i : Nat) : Addr := He.fAd K (nm i, none)
def cnl : List PySem.Str := (["PassError", "DataError", "CallError", "TextError", "BadProgram", "BadCode", "BadSource", "BadText"] : List PySem.Str)
def cn (k : Nat) : PySem.Str := cnl.getD k ""
def fll : List (List Tx) := [[], [], [], [], [[97, 116], [119, 111, 114, 100]], [[97, 116], [119, 111, 114, 100]], [[108, 105, 110, 101], [112, 108, 97, 99, 101], [119, 111, 114, 100]], [[108, 105, 110, 101], [119, 111, 114, 100]]]
def fl (k : Nat) : List Tx := fll.getD k []
def knl : List PySem.Str := (["WORD_MOST", "TEN_FIGURES", "SMALL_LETTERS", "SIGNS"] : List PySem.Str)
def kn (k : Nat) : PySem.Str := knl.getD k ""
def flds : List Tx := [[97, 116], [119, 111, 114, 100], [108, 105, 110, 101], [112, 108, 97, 99, 101]]
def xl : List Nat := [0, 1, 2, 3, 4, 5, 6, 7]
def xi : List (Nat × Nat) := [(4, 4), (5, 5), (6, 6), (7, 7)]
def ev (K : PySem.W.Frag) : Ev := ⟨K, fun k => He.ga K (cn k), fun _ => false, fun k => xl.contains k, none⟩
abbrev FnP (K : PySem.W.Frag) (i : Nat) (fd : FuncData) : Prop := FunD K (nm i) (nm i) (defArgs (tp i)) (defBody (tp i)) (defScope (tp i)) [] [] (fa K i) fd
theorem ib {K : PySem.W.Frag} : InsB K (ev K) := ⟨fun c h => by cases h⟩
theorem sc0 : FnScope N0 ps0 (defScope (tp 0)) := ⟨rfl, rfl, rfl, by decide +kernel, rfl, by decide +kernel, by decide +kernel⟩
theorem sc1 : FnScope N1 ps1 (defScope (tp 1)) := ⟨rfl, rfl, rfl, by decide +kernel, rfl, by decide +kernel, by decide +kernel⟩
theorem sc2 : FnScope N2 ps2 (defScope (tp 2)) := ⟨rfl, rfl, rfl, by decide +kernel, rfl, by decide +kernel, by decide +kernel⟩
theorem sc3 : FnScope N3 ps3 (defScope (tp 3)) := ⟨rfl, rfl, rfl, by decide +kernel, rfl, by decide +kernel, by decide +kernel⟩
theorem sc4 : FnScope N4 ps4 (defScope (tp 4)) := ⟨rfl, rfl, rfl, by decide +kernel, rfl, by decide +kernel, by decide +kernel⟩
theorem sc5 : FnScope N5 ps5 (defScope (tp 5)) := ⟨rfl, rfl, rfl, by decide +kernel, rfl, by decide +kernel, by decide +kernel⟩
theorem sc6 : FnScope N6 ps6 (defScope (tp 6)) := ⟨rfl, rfl, rfl, by decide +kernel, rfl, by decide +kernel, by decide +kernel⟩
theorem sc7 : FnScope N7 ps7 (defScope (tp 7)) := ⟨rfl, rfl, rfl, by decide +kernel, rfl, by decide +kernel, by decide +kernel⟩
theorem sc8 : FnScope N8 ps8 (defScope (tp 8)) := ⟨rfl, rfl, rfl, by decide +kernel, rfl, by decide +kernel, by decide +kernel⟩
theorem sc9 : FnScope N9 ps9 (defScope (tp 9)) := ⟨rfl, rfl, rfl, by decide +kernel, rfl, by decide +kernel, by decide +kernel⟩
theorem sc10 : FnScope N10 ps10 (defScope (tp 10)) := ⟨rfl, rfl, rfl, by decide +kernel, rfl, by decide +kernel, by decide +kernel⟩
theorem sc11 : FnScope N11 ps11 (defScope (tp 11)) := ⟨rfl, rfl, rfl, by decide +kernel, rfl, by decide +kernel, by decide +kernel⟩
theorem sc12 : FnScope N12 ps12 (defScope (tp 12)) := ⟨rfl, rfl, rfl, by decide +kernel, rfl, by decide +kernel, by decide +kernel⟩
theorem sc13 : FnScope N13 ps13 (defScope (tp 13)) := ⟨rfl, rfl, rfl, by decide +kernel, rfl, by decide +kernel, by decide +kernel⟩
theorem sc14 : FnScope N14 ps14 (defScope (tp 14)) := ⟨rfl, rfl, rfl, by decide +kernel, rfl, by decide +kernel, by decide +kernel⟩
theorem sc15 : FnScope N15 ps15 (defScope (tp 15)) := ⟨rfl, rfl, rfl, by decide +kernel, rfl, by decide +kernel, by decide +kernel⟩
theorem sc16 : FnScope N16 ps16 (defScope (tp 16)) := ⟨rfl, rfl, rfl, by decide +kernel, rfl, by decide +kernel, by decide +kernel⟩
theorem sc17 : FnScope N17 ps17 (defScope (tp 17)) := ⟨rfl, rfl, rfl, by decide +kernel, rfl, by decide +kernel, by decide +kernel⟩
theorem sc18 : FnScope N18 ps18 (defScope (tp 18)) := ⟨rfl, rfl, rfl, by decide +kernel, rfl, by decide +kernel, by decide +kernel⟩
theorem sc19 : FnScope N19 ps19 (defScope (tp 19)) := ⟨rfl, rfl, rfl, by decide +kernel, rfl, by decide +kernel, by decide +kernel⟩
theorem sc20 : FnScope N20 ps20 (defScope (tp 20)) := ⟨rfl, rfl, rfl, by decide +kernel, rfl, by decide +kernel, by decide +kernel⟩
theorem sc21 : FnScope N21 ps21 (defScope (tp 21)) := ⟨rfl, rfl, rfl, by decide +kernel, rfl, by decide +kernel, by decide +kernel⟩
theorem sc22 : FnScope N22 ps22 (defScope (tp 22)) := ⟨rfl, rfl, rfl, by decide +kernel, rfl, by decide +kernel, by decide +kernel⟩
theorem sc23 : FnScope N23 ps23 (defScope (tp 23)) := ⟨rfl, rfl, rfl, by decide +kernel, rfl, by decide +kernel, by decide +kernel⟩
section
variable {P : Program} {w : World} {K : PySem.W.Frag} {mg : PySem.Str → Option Value} {base : Heap} {fd : Nat → FuncData} {wl n : Nat}
abbrev KB0 (fd : Nat → FuncData) : Prop := KBp (fd 3) (ps 3) (["text"] : List PySem.Str) 0 [0]
theorem d0 (fx : Fx K mg (fa K) fd nm ps bl 24) (kb0 : KB0 fd) (fe : Fe P w K mg base (ev K) sub cn fl flds 8) (fg : Fg K mg cs kn 4) (L : Lv P w K mg base (ev K) (Pr wl) (fa K) fd ps 24 n) (F : FnP K 0 (fd 0)) : FnOk P w K mg base (L2.CX P w) (n + 3) (fa K 0) (fd 0) (ps 0) (spD (ev K) (callF (Pr wl) (n + 1) 0) (ps 0).length) := by
  refine lv_fn rfl rfl F sc0 rfl (by decide) fun cdv A outer s H E hr hc => ?_
  exact (ss_cons (s_whl hc.po (t_w (w_and (t_c ob_lt (c_cmp o_lt v_lt (e_var rfl) (e_callB c_len (n_len hc.toCb.hK) rfl (fx.m 0 _ rfl) bt_len (a_cons (e_var rfl) a_nil)))) (w_one (t_c ob_in (c_in hc.toCb (e_idx hc.toCb (e_var rfl) (e_var rfl)) (e_var rfl)))))) (ss_cons (s_aug hc.toCb.nd rfl (Or.inl rfl) o_iadd v_iadd e_int) ss_nil)) (ss_cons (s_ret (e_var rfl)) ss_nil))
theorem d1 (fx : Fx K mg (fa K) fd nm ps bl 24) (kb0 : KB0 fd) (fe : Fe P w K mg base (ev K) sub cn fl flds 8) (fg : Fg K mg cs kn 4) (L : Lv P w K mg base (ev K) (Pr wl) (fa K) fd ps 24 n) (F : FnP K 1 (fd 1)) : FnOk P w K mg base (L2.CX P w) (n + 3) (fa K 1) (fd 1) (ps 1) (spD (ev K) (callF (Pr wl) (n + 1) 1) (ps 1).length) := by
  refine lv_fn rfl rfl F sc1 rfl (by decide) fun cdv A outer s H E hr hc => ?_
  exact (ss_cons (s_ite (t_c ob_in (c_in hc.toCb (e_idx hc.toCb (e_var rfl) (e_var rfl)) (e_glob hc.toCb rfl (fg.g 2 (by decide))))) (ss_cons (s_set hc.toCb.nd rfl (Or.inl rfl) (e_str rfl)) (ss_cons (s_set hc.toCb.nd rfl (Or.inl rfl) (e_box (e_call hc.toCb (L 0 (by decide)) hr rfl (fx.g 0 (by decide)) (fx.k 0 (by decide)) (fx.b 0 (by decide)) (a_cons (e_var rfl) (a_cons (e_var rfl) (a_cons (e_box (e_bin (o_add hc.toCb.hK) v_add (e_glob hc.toCb rfl (fg.g 2 (by decide))) (e_glob hc.toCb rfl (fg.g 1 (by decide))))) a_nil)))))) ss_nil)) (ss_cons (s_ite (t_c ob_in (c_in hc.toCb (e_idx hc.toCb (e_var rfl) (e_var rfl)) (e_glob hc.toCb rfl (fg.g 1 (by decide))))) (ss_cons (s_set hc.toCb.nd rfl (Or.inl rfl) (e_str rfl)) (ss_cons (s_set hc.toCb.nd rfl (Or.inl rfl) (e_box (e_call hc.toCb (L 0 (by decide)) hr rfl (fx.g 0 (by decide)) (fx.k 0 (by decide)) (fx.b 0 (by decide)) (a_cons (e_var rfl) (a_cons (e_var rfl) (a_cons (e_glob hc.toCb rfl (fg.g 1 (by decide))) a_nil)))))) ss_nil)) (ss_cons (s_ite (t_c ob_in (c_in hc.toCb (e_idx hc.toCb (e_var rfl) (e_var rfl)) (e_glob hc.toCb rfl (fg.g 3 (by decide))))) (ss_cons (s_set hc.toCb.nd rfl (Or.inl rfl) (e_str rfl)) (ss_cons (s_set hc.toCb.nd rfl (Or.inl rfl) (e_box (e_bin (o_add hc.toCb.hK) v_add (e_var rfl) e_int))) ss_nil)) (ss_cons (s_raise hc (fe.ri 6 rfl rfl) hr rfl (a_cons (e_var rfl) (a_cons (e_box (e_bin (o_add hc.toCb.hK) v_add (e_var rfl) e_int)) (a_cons (e_str rfl) a_nil)))) ss_nil)) ss_nil)) ss_nil)) (ss_cons (s_ite (t_c ob_gt (c_cmp o_gt v_gt (e_bin op_sub v_sub (e_var rfl) (e_var rfl)) (e_glob hc.toCb rfl (fg.g 0 (by decide))))) (ss_cons (s_raise hc (fe.ri 6 rfl rfl) hr rfl (a_cons (e_var rfl) (a_cons (e_box (e_bin (o_add hc.toCb.hK) v_add (e_var rfl) e_int)) (a_cons (e_str rfl) a_nil)))) ss_nil) ss_nil) (ss_cons (s_ite (t_w (w_and (t_c ob_eq (c_cmp (o_eq hc.toCb.hK hc.toCb.hu64) (v_eq) (e_var rfl) (e_str rfl))) (w_and (t_c ob_gt (c_cmp o_gt v_gt (e_bin op_sub v_sub (e_var rfl) (e_var rfl)) e_int)) (w_one (t_c ob_eq (c_cmp (o_eq hc.toCb.hK hc.toCb.hu64) (v_eq) (e_idx hc.toCb (e_var rfl) (e_var rfl)) (e_str rfl))))))) (ss_cons (s_raise hc (fe.ri 6 rfl rfl) hr rfl (a_cons (e_var rfl) (a_cons (e_box (e_bin (o_add hc.toCb.hK) v_add (e_var rfl) e_int)) (a_cons (e_str rfl) a_nil)))) ss_nil) ss_nil) (ss_cons (s_ret (e_tup (a_cons (e_var rfl) (a_cons (e_box (e_sl11 hc.toCb (e_var rfl) (e_var rfl) (e_var rfl))) (a_cons (e_var rfl) (a_cons (e_box (e_bin (o_add hc.toCb.hK) v_add (e_var rfl) e_int)) a_nil)))))) ss_nil))))
theorem d2 (fx : Fx K mg (fa K) fd nm ps bl 24) (kb0 : KB0 fd) (fe : Fe P w K mg base (ev K) sub cn fl flds 8) (fg : Fg K mg cs kn 4) (L : Lv P w K mg base (ev K) (Pr wl) (fa K) fd ps 24 n) (F : FnP K 2 (fd 2)) : FnOk P w K mg base (L2.CX P w) (n + 3) (fa K 2) (fd 2) (ps 2) (spD (ev K) (callF (Pr wl) (n + 1) 2) (ps 2).length) := by
  refine lv_fn rfl rfl F sc2 rfl (by decide) fun cdv A outer s H E hr hc => ?_
  exact (ss_cons (s_set hc.toCb.nd rfl (Or.inl rfl) (e_box (e_lst a_nil))) (ss_cons (s_set hc.toCb.nd rfl (Or.inl rfl) (e_box (e_call hc.toCb (L 0 (by decide)) hr rfl (fx.g 0 (by decide)) (fx.k 0 (by decide)) (fx.b 0 (by decide)) (a_cons (e_var rfl) (a_cons e_int (a_cons (e_str rfl) a_nil)))))) (ss_cons (s_whl hc.po (t_w (w_and (t_c ob_lt (c_cmp o_lt v_lt (e_var rfl) (e_callB c_len (n_len hc.toCb.hK) rfl (fx.m 0 _ rfl) bt_len (a_cons (e_var rfl) a_nil)))) (w_one (t_c ob_ne (c_cmp (o_ne hc.toCb.hK hc.toCb.hu64) (v_ne) (e_idx hc.toCb (e_var rfl) (e_var rfl)) (e_str rfl)))))) (ss_cons (s_set hc.toCb.nd rfl (Or.inl rfl) (e_box (e_call hc.toCb (L 1 (by decide)) hr rfl (fx.g 1 (by decide)) (fx.k 1 (by decide)) (fx.b 1 (by decide)) (a_cons (e_var rfl) (a_cons (e_var rfl) (a_cons (e_var rfl) a_nil)))))) (ss_cons (s_ex (e_append hc.toCb (e_var rfl) (e_var rfl))) (ss_cons (s_set hc.toCb.nd rfl (Or.inl rfl) (e_box (e_call hc.toCb (L 0 (by decide)) hr rfl (fx.g 0 (by decide)) (fx.k 0 (by decide)) (fx.b 0 (by decide)) (a_cons (e_var rfl) (a_cons (e_box (e_bin (o_add hc.toCb.hK) v_add (e_var rfl) (e_callB c_len (n_len hc.toCb.hK) rfl (fx.m 0 _ rfl) bt_len (a_cons (e_idx hc.toCb (e_var rfl) e_int) a_nil)))) (a_cons (e_str rfl) a_nil)))))) ss_nil)))) (ss_cons (s_ret (e_var rfl)) ss_nil))))
theorem d3 (fx : Fx K mg (fa K) fd nm ps bl 24) (kb0 : KB0 fd) (fe : Fe P w K mg base (ev K) sub cn fl flds 8) (fg : Fg K mg cs kn 4) (L : Lv P w K mg base (ev K) (Pr wl) (fa K) fd ps 24 n) (F : FnP K 3 (fd 3)) : FnOk P w K mg base (L2.CX P w) (n + 3) (fa K 3) (fd 3) (ps 3) (spD (ev K) (callF (Pr wl) (n + 1) 3) (ps 3).length) := by
  refine lv_fn rfl rfl F sc3 rfl (by decide) fun cdv A outer s H E hr hc => ?_
  exact (ss_cons (s_set hc.toCb.nd rfl (Or.inl rfl) (e_box (e_lst a_nil))) (ss_cons (s_for hc.po hc.calm (i_enum hc.toCb rfl rfl (fx.m 2 _ rfl) (e_split (e_var rfl) (e_str rfl))) (g_tup hc.toCb hc.calm (gs_cons (g_name hc.toCb.nd rfl (Or.inl rfl)) (gs_cons (g_name hc.toCb.nd rfl (Or.inl rfl)) gs_nil))) (ss_cons (s_set hc.toCb.nd rfl (Or.inl rfl) (e_box (e_bin (o_add hc.toCb.hK) v_add (e_var rfl) (e_call hc.toCb (L 2 (by decide)) hr rfl (fx.g 2 (by decide)) (fx.k 2 (by decide)) (fx.b 2 (by decide)) (a_cons (e_box (e_bin (o_add hc.toCb.hK) v_add (e_var rfl) e_int)) (a_cons (e_var rfl) a_nil)))))) ss_nil)) (ss_cons (s_ret (e_callT call_tuple_of (n_tuple hc.toCb.hK) rfl (fx.m 1 _ rfl) bt_tuple (a_cons (e_var rfl) a_nil))) ss_nil)))
theorem d4 (fx : Fx K mg (fa K) fd nm ps bl 24) (kb0 : KB0 fd) (fe : Fe P w K mg base (ev K) sub cn fl flds 8) (fg : Fg K mg cs kn 4) (L : Lv P w K mg base (ev K) (Pr wl) (fa K) fd ps 24 n) (F : FnP K 4 (fd 4)) : FnOk P w K mg base (L2.CX P w) (n + 3) (fa K 4) (fd 4) (ps 4) (spD (ev K) (callF (Pr wl) (n + 1) 4) (ps 4).length) := by
  refine lv_fn rfl rfl F sc4 rfl (by decide) fun cdv A outer s H E hr hc => ?_
  exact (ss_cons (s_ret (e_lst (a_cons (e_box (e_comp hc.calm hc.toCb.nd (i_seq hc.toCb (e_sl01 hc.toCb (e_var rfl) e_int)) (show BlkOk N4 (defScope (tp 4)) _ [("cell", 1)] from ⟨rfl, by decide +kernel, by decide +kernel, by decide +kernel, by decide +kernel⟩) (fun _ _ _ _ _ => (g_name (Cc.blk hc).toCb.nd rfl (Or.inl rfl))) (fun _ _ _ _ _ => ts_nil) (fun _ _ _ _ _ => (e_bin op_modN v_mod (e_callB call_abs n_abs rfl (fx.m 3 _ rfl) bt_abs (a_cons (e_callT c_int n_int1 rfl (fx.m 4 _ rfl) bt_int (a_cons (e_var rfl) a_nil)) a_nil)) (e_bin op_shlW v_shl e_int e_int))) (by decide))) (a_cons e_int (a_cons e_int a_nil))))) ss_nil)
theorem d5 (fx : Fx K mg (fa K) fd nm ps bl 24) (kb0 : KB0 fd) (fe : Fe P w K mg base (ev K) sub cn fl flds 8) (fg : Fg K mg cs kn 4) (L : Lv P w K mg base (ev K) (Pr wl) (fa K) fd ps 24 n) (F : FnP K 5 (fd 5)) : FnOk P w K mg base (L2.CX P w) (n + 3) (fa K 5) (fd 5) (ps 5) (spD (ev K) (callF (Pr wl) (n + 1) 5) (ps 5).length) := by
  refine lv_fn rfl rfl F sc5 rfl (by decide) fun cdv A outer s H E hr hc => ?_
  exact (ss_cons (s_setItem hc.toCb (e_box (e_bin (o_add hc.toCb.hK) v_add (e_idx hc.toCb (e_var rfl) e_int) e_int)) (e_var rfl) e_int) (ss_cons (s_set hc.toCb.nd rfl (Or.inl rfl) (e_idx hc.toCb (e_var rfl) e_int)) (ss_cons (s_set hc.toCb.nd rfl (Or.inl rfl) (e_box (e_bin (o_add hc.toCb.hK) v_add (e_idx hc.toCb (e_var rfl) e_int) (e_bin (o_mul hc.toCb.hK) v_mul (e_idx hc.toCb (e_var rfl) e_int) e_int)))) (ss_cons (s_ite (t_c ob_gt (c_cmp o_gt v_gt (e_callB c_len (n_len hc.toCb.hK) rfl (fx.m 0 _ rfl) bt_len (a_cons (e_var rfl) a_nil)) e_int)) (ss_cons (s_set hc.toCb.nd rfl (Or.inl rfl) (e_bin op_modN v_mod (e_bin (o_add hc.toCb.hK) v_add (e_bin o_fdiv v_fdiv (e_idx hc.toCb (e_var rfl) e_int) e_int) (e_idx hc.toCb (e_var rfl) e_int)) (e_callB c_len (n_len hc.toCb.hK) rfl (fx.m 0 _ rfl) bt_len (a_cons (e_var rfl) a_nil)))) (ss_cons (s_set hc.toCb.nd rfl (Or.inl rfl) (e_idx hc.toCb (e_var rfl) (e_var rfl))) (ss_cons (s_ite (t_c ob_ge (c_cmp o_ge v_ge (e_var rfl) (e_bin op_pow v_pow e_int e_int))) (ss_cons (s_setItem hc.toCb (e_bin o_fdiv v_fdiv (e_var rfl) (e_var rfl)) (e_var rfl) (e_var rfl)) (ss_cons (s_ret (e_bin op_modN v_mod (e_callT c_int n_int1 rfl (fx.m 4 _ rfl) bt_int (a_cons (e_var rfl) a_nil)) (e_var rfl))) ss_nil)) ss_nil) (ss_cons (s_set hc.toCb.nd rfl (Or.inl rfl) (e_box (e_bin (o_add hc.toCb.hK) v_add (e_var rfl) (e_bin (o_mul hc.toCb.hK) v_mul (e_var rfl) e_int)))) ss_nil)))) ss_nil) (ss_cons (s_setItem hc.toCb (e_bin op_modN v_mod (e_callT c_int n_int1 rfl (fx.m 4 _ rfl) bt_int (a_cons (e_bin (o_mul hc.toCb.hK) v_mul (e_var rfl) (e_bin (o_add hc.toCb.hK) v_add (e_bin o_fdiv v_fdiv (e_var rfl) e_int) e_int)) a_nil)) e_int) (e_var rfl) e_int) (ss_cons (s_ret (e_bin op_modN v_mod (e_bin o_fdiv v_fdiv (e_idx hc.toCb (e_var rfl) e_int) e_int) (e_var rfl))) ss_nil))))))
theorem d6 (fx : Fx K mg (fa K) fd nm ps bl 24) (kb0 : KB0 fd) (fe : Fe P w K mg base (ev K) sub cn fl flds 8) (fg : Fg K mg cs kn 4) (L : Lv P w K mg base (ev K) (Pr wl) (fa K) fd ps 24 n) (F : FnP K 6 (fd 6)) : FnOk P w K mg base (L2.CX P w) (n + 3) (fa K 6) (fd 6) (ps 6) (spD (ev K) (callF (Pr wl) (n + 1) 6) (ps 6).length) := by
  refine lv_fn rfl rfl F sc6 rfl (by decide) fun cdv A outer s H E hr hc => ?_
  exact (ss_cons (s_ret (e_idx hc.toCb (e_var rfl) (e_call hc.toCb (L 5 (by decide)) hr rfl (fx.g 5 (by decide)) (fx.k 5 (by decide)) (fx.b 5 (by decide)) (a_cons (e_var rfl) (a_cons (e_callB c_len (n_len hc.toCb.hK) rfl (fx.m 0 _ rfl) bt_len (a_cons (e_var rfl) a_nil)) a_nil))))) ss_nil)
theorem d7 (fx : Fx K mg (fa K) fd nm ps bl 24) (kb0 : KB0 fd) (fe : Fe P w K mg base (ev K) sub cn fl flds 8) (fg : Fg K mg cs kn 4) (L : Lv P w K mg base (ev K) (Pr wl) (fa K) fd ps 24 n) (F : FnP K 7 (fd 7)) : FnOk P w K mg base (L2.CX P w) (n + 3) (fa K 7) (fd 7) (ps 7) (spD (ev K) (callF (Pr wl) (n + 1) 7) (ps 7).length) := by
  refine lv_fn rfl rfl F sc7 rfl (by decide) fun cdv A outer s H E hr hc => ?_
  exact (ss_cons (s_ite (t_ex hc.toCb (e_isi hc.toCb ib rfl (fx.m 5 _ rfl) bt_isinstance (e_var rfl) (pe_bltn rfl (fx.m 1 _ rfl) bt_tuple rfl) (by intro c h; cases h))) (ss_cons (s_ite (t_w (w_or (t_not (t_ex hc.toCb (e_isi hc.toCb ib rfl (fx.m 5 _ rfl) bt_isinstance (e_var rfl) (pe_bltn rfl (fx.m 1 _ rfl) bt_tuple rfl) (by intro c h; cases h)))) (w_one (t_c ob_ne (c_cmp (o_ne hc.toCb.hK hc.toCb.hu64) (v_ne) (e_callB c_len (n_len hc.toCb.hK) rfl (fx.m 0 _ rfl) bt_len (a_cons (e_var rfl) a_nil)) (e_callB c_len (n_len hc.toCb.hK) rfl (fx.m 0 _ rfl) bt_len (a_cons (e_var rfl) a_nil))))))) (ss_cons (s_ret e_bl) ss_nil) ss_nil) (ss_cons (s_for hc.po hc.calm (i_rng rfl rfl (fx.m 8 _ rfl) (a_cons (e_callB c_len (n_len hc.toCb.hK) rfl (fx.m 0 _ rfl) bt_len (a_cons (e_var rfl) a_nil)) a_nil)) (g_name hc.toCb.nd rfl (Or.inl rfl)) (ss_cons (s_ite (t_not (t_ex hc.toCb (e_call hc.toCb (L 7 (by decide)) hr rfl (fx.g 7 (by decide)) (fx.k 7 (by decide)) (fx.b 7 (by decide)) (a_cons (e_idx hc.toCb (e_var rfl) (e_var rfl)) (a_cons (e_idx hc.toCb (e_var rfl) (e_var rfl)) a_nil))))) (ss_cons (s_ret e_bl) ss_nil) ss_nil) ss_nil)) (ss_cons (s_ret e_bl) ss_nil))) ss_nil) (ss_cons (s_ite (t_ex hc.toCb (e_isi hc.toCb ib rfl (fx.m 5 _ rfl) bt_isinstance (e_var rfl) (pe_bltn rfl (fx.m 7 _ rfl) bt_str rfl) (by intro c h; cases h))) (ss_cons (s_ret (e_and (e_isi hc.toCb ib rfl (fx.m 5 _ rfl) bt_isinstance (e_var rfl) (pe_bltn rfl (fx.m 7 _ rfl) bt_str rfl) (by intro c h; cases h)) (e_one (e_c (c_cmp (o_eq hc.toCb.hK hc.toCb.hu64) (v_eq) (e_var rfl) (e_var rfl)))))) ss_nil) ss_nil) (ss_cons (s_ite (t_ex hc.toCb (e_isi hc.toCb ib rfl (fx.m 5 _ rfl) bt_isinstance (e_var rfl) (pe_bltn rfl (fx.m 6 _ rfl) bt_bool rfl) (by intro c h; cases h))) (ss_cons (s_ret (e_and (e_isi hc.toCb ib rfl (fx.m 5 _ rfl) bt_isinstance (e_var rfl) (pe_bltn rfl (fx.m 6 _ rfl) bt_bool rfl) (by intro c h; cases h)) (e_one (e_c (c_cmp (o_eq hc.toCb.hK hc.toCb.hu64) (v_eq) (e_var rfl) (e_var rfl)))))) ss_nil) ss_nil) (ss_cons (s_ret (e_and (e_isi hc.toCb ib rfl (fx.m 5 _ rfl) bt_isinstance (e_var rfl) (pe_bltn rfl (fx.m 4 _ rfl) bt_int rfl) (by intro c h; cases h)) (e_and (e_notE hc.toCb (e_isi hc.toCb ib rfl (fx.m 5 _ rfl) bt_isinstance (e_var rfl) (pe_bltn rfl (fx.m 6 _ rfl) bt_bool rfl) (by intro c h; cases h))) (e_one (e_c (c_cmp (o_eq hc.toCb.hK hc.toCb.hu64) (v_eq) (e_var rfl) (e_var rfl))))))) ss_nil))))
theorem d8 (fx : Fx K mg (fa K) fd nm ps bl 24) (kb0 : KB0 fd) (fe : Fe P w K mg base (ev K) sub cn fl flds 8) (fg : Fg K mg cs kn 4) (L : Lv P w K mg base (ev K) (Pr wl) (fa K) fd ps 24 n) (F : FnP K 8 (fd 8)) : FnOk P w K mg base (L2.CX P w) (n + 3) (fa K 8) (fd 8) (ps 8) (spD (ev K) (callF (Pr wl) (n + 1) 8) (ps 8).length) := by
  refine lv_fn rfl rfl F sc8 rfl (by decide) fun cdv A outer s H E hr hc => ?_
  exact (ss_cons (s_ret (e_str rfl)) ss_nil)
theorem d9 (fx : Fx K mg (fa K) fd nm ps bl 24) (kb0 : KB0 fd) (fe : Fe P w K mg base (ev K) sub cn fl flds 8) (fg : Fg K mg cs kn 4) (L : Lv P w K mg base (ev K) (Pr wl) (fa K) fd ps 24 n) (F : FnP K 9 (fd 9)) : FnOk P w K mg base (L2.CX P w) (n + 3) (fa K 9) (fd 9) (ps 9) (spD (ev K) (callF (Pr wl) (n + 1) 9) (ps 9).length) := by
  refine lv_fn rfl rfl F sc9 rfl (by decide) fun cdv A outer s H E hr hc => ?_
  exact (ss_cons (s_ret (e_str rfl)) ss_nil)
theorem d10 (fx : Fx K mg (fa K) fd nm ps bl 24) (kb0 : KB0 fd) (fe : Fe P w K mg base (ev K) sub cn fl flds 8) (fg : Fg K mg cs kn 4) (L : Lv P w K mg base (ev K) (Pr wl) (fa K) fd ps 24 n) (F : FnP K 10 (fd 10)) : FnOk P w K mg base (L2.CX P w) (n + 3) (fa K 10) (fd 10) (ps 10) (spD (ev K) (callF (Pr wl) (n + 1) 10) (ps 10).length) := by
  refine lv_fn rfl rfl F sc10 rfl (by decide) fun cdv A outer s H E hr hc => ?_
  exact (ss_cons (s_set hc.toCb.nd rfl (Or.inl rfl) (e_box (e_lst a_nil))) (ss_cons (s_asg (e_tup (a_cons (e_str rfl) (a_cons (e_str rfl) (a_cons e_int (a_cons e_int a_nil))))) (g_tup hc.toCb hc.calm (gs_cons (g_name hc.toCb.nd rfl (Or.inl rfl)) (gs_cons (g_name hc.toCb.nd rfl (Or.inl rfl)) (gs_cons (g_name hc.toCb.nd rfl (Or.inl rfl)) (gs_cons (g_name hc.toCb.nd rfl (Or.inl rfl)) gs_nil)))))) (ss_cons (s_set hc.toCb.nd rfl (Or.inl rfl) (e_tup (a_cons e_int (a_cons e_int a_nil)))) (ss_cons (s_set hc.toCb.nd rfl (Or.inl rfl) e_bl) (ss_cons (s_for hc.po hc.calm (i_seq hc.toCb (e_bin (o_add hc.toCb.hK) v_add (e_var rfl) (e_str rfl))) (g_name hc.toCb.nd rfl (Or.inl rfl)) (ss_cons (s_set hc.toCb.nd rfl (Or.inl rfl) (e_box (e_bin (o_add hc.toCb.hK) v_add (e_var rfl) e_int))) (ss_cons (s_set hc.toCb.nd rfl (Or.inl rfl) (e_or (e_and (e_c (c_cmp (o_eq hc.toCb.hK hc.toCb.hu64) (v_eq) (e_var rfl) (e_str rfl))) (e_one (e_c (c_in hc.toCb (e_var rfl) (e_bin (o_add hc.toCb.hK) v_add (e_call0 hc.toCb (L 8 (by decide)) hr rfl (fx.g 8 (by decide)) (fx.k 8 (by decide)) (fx.b 8 (by decide))) (e_call0 hc.toCb (L 9 (by decide)) hr rfl (fx.g 9 (by decide)) (fx.k 9 (by decide)) (fx.b 9 (by decide)))))))) (e_one (e_and (e_c (c_cmp (o_eq hc.toCb.hK hc.toCb.hu64) (v_eq) (e_var rfl) (e_str rfl))) (e_one (e_c (c_in hc.toCb (e_var rfl) (e_call0 hc.toCb (L 9 (by decide)) hr rfl (fx.g 9 (by decide)) (fx.k 9 (by decide)) (fx.b 9 (by decide)))))))))) (ss_cons (s_ite (t_ex hc.toCb (e_var rfl)) (ss_cons (s_set hc.toCb.nd rfl (Or.inl rfl) (e_box (e_bin (o_add hc.toCb.hK) v_add (e_var rfl) (e_var rfl)))) (ss_cons s_cont ss_nil)) ss_nil) (ss_cons (s_ite (t_c ob_ne (c_cmp (o_ne hc.toCb.hK hc.toCb.hu64) (v_ne) (e_var rfl) (e_str rfl))) (ss_cons (s_ite (t_c ob_gt (c_cmp o_gt v_gt (e_callB c_len (n_len hc.toCb.hK) rfl (fx.m 0 _ rfl) bt_len (a_cons (e_var rfl) a_nil)) e_int)) (ss_cons (s_ret (e_bin (o_add hc.toCb.hK) v_add (e_bin (o_add hc.toCb.hK) v_add (e_tup (a_cons (e_str rfl) (a_cons e_bl a_nil))) (e_var rfl)) (e_tup (a_cons (e_str rfl) a_nil)))) ss_nil) ss_nil) (ss_cons (s_ite (t_w (w_and (t_c ob_eq (c_cmp (o_eq hc.toCb.hK hc.toCb.hu64) (v_eq) (e_var rfl) (e_str rfl))) (w_and (t_c ob_gt (c_cmp o_gt v_gt (e_callB c_len (n_len hc.toCb.hK) rfl (fx.m 0 _ rfl) bt_len (a_cons (e_var rfl) a_nil)) e_int)) (w_one (t_c ob_eq (c_cmp (o_eq hc.toCb.hK hc.toCb.hu64) (v_eq) (e_idx hc.toCb (e_var rfl) e_int) (e_str rfl))))))) (ss_cons (s_ret (e_bin (o_add hc.toCb.hK) v_add (e_bin (o_add hc.toCb.hK) v_add (e_tup (a_cons (e_str rfl) (a_cons e_bl a_nil))) (e_var rfl)) (e_tup (a_cons (e_str rfl) a_nil)))) ss_nil) ss_nil) (ss_cons (s_ex (e_append hc.toCb (e_var rfl) (e_box (e_bin (o_add hc.toCb.hK) v_add (e_tup (a_cons (e_var rfl) (a_cons (e_var rfl) a_nil))) (e_var rfl))))) (ss_cons (s_set hc.toCb.nd rfl (Or.inl rfl) (e_str rfl)) ss_nil)))) ss_nil) (ss_cons (s_ite (t_c ob_eq (c_cmp (o_eq hc.toCb.hK hc.toCb.hu64) (v_eq) (e_var rfl) (e_str rfl))) (ss_cons (s_par3 hc.calm hc.toCb.nd rfl rfl rfl (by decide) (by decide) (by decide) rfl rfl rfl (a_cons (e_box (e_bin (o_add hc.toCb.hK) v_add (e_var rfl) e_int)) (a_cons e_int (a_cons e_bl a_nil))) rfl) ss_nil) (ss_cons (s_ite (t_w (w_or (t_ex hc.toCb (e_var rfl)) (w_one (t_c ob_eq (c_cmp (o_eq hc.toCb.hK hc.toCb.hu64) (v_eq) (e_var rfl) (e_str rfl)))))) (ss_cons s_cont ss_nil) (ss_cons (s_ite (t_c ob_eq (c_cmp (o_eq hc.toCb.hK hc.toCb.hu64) (v_eq) (e_var rfl) (e_str rfl))) (ss_cons (s_set hc.toCb.nd rfl (Or.inl rfl) e_bl) ss_nil) (ss_cons (s_ite (t_c ob_in (c_in hc.toCb (e_var rfl) (e_str rfl))) (ss_cons (s_ex (e_append hc.toCb (e_var rfl) (e_tup (a_cons (e_str rfl) (a_cons (e_var rfl) (a_cons (e_var rfl) (a_cons (e_var rfl) a_nil))))))) ss_nil) (ss_cons (s_ite (t_c ob_in (c_in hc.toCb (e_var rfl) (e_call0 hc.toCb (L 8 (by decide)) hr rfl (fx.g 8 (by decide)) (fx.k 8 (by decide)) (fx.b 8 (by decide))))) (ss_cons (s_par3 hc.calm hc.toCb.nd rfl rfl rfl (by decide) (by decide) (by decide) rfl rfl rfl (a_cons (e_var rfl) (a_cons (e_str rfl) (a_cons (e_tup (a_cons (e_var rfl) (a_cons (e_var rfl) a_nil))) a_nil))) rfl) ss_nil) (ss_cons (s_ite (t_c ob_in (c_in hc.toCb (e_var rfl) (e_call0 hc.toCb (L 9 (by decide)) hr rfl (fx.g 9 (by decide)) (fx.k 9 (by decide)) (fx.b 9 (by decide))))) (ss_cons (s_par3 hc.calm hc.toCb.nd rfl rfl rfl (by decide) (by decide) (by decide) rfl rfl rfl (a_cons (e_var rfl) (a_cons (e_str rfl) (a_cons (e_tup (a_cons (e_var rfl) (a_cons (e_var rfl) a_nil))) a_nil))) rfl) ss_nil) (ss_cons (s_ret (e_tup (a_cons (e_str rfl) (a_cons e_bl (a_cons (e_var rfl) (a_cons (e_var rfl) (a_cons (e_str rfl) a_nil))))))) ss_nil)) ss_nil)) ss_nil)) ss_nil)) ss_nil)) ss_nil)) ss_nil)))))) (ss_cons (s_ret (e_tup (a_cons (e_str rfl) (a_cons (e_callT call_tuple_of (n_tuple hc.toCb.hK) rfl (fx.m 1 _ rfl) bt_tuple (a_cons (e_var rfl) a_nil)) a_nil)))) ss_nil))))))
theorem d11 (fx : Fx K mg (fa K) fd nm ps bl 24) (kb0 : KB0 fd) (fe : Fe P w K mg base (ev K) sub cn fl flds 8) (fg : Fg K mg cs kn 4) (L : Lv P w K mg base (ev K) (Pr wl) (fa K) fd ps 24 n) (F : FnP K 11 (fd 11)) : FnOk P w K mg base (L2.CX P w) (n + 3) (fa K 11) (fd 11) (ps 11) (spD (ev K) (callF (Pr wl) (n + 1) 11) (ps 11).length) := by
  refine lv_fn rfl rfl F sc11 rfl (by decide) fun cdv A outer s H E hr hc => ?_
  exact (ss_cons (s_try hc rfl (fe.hds rfl rfl) (fun _ _ _ hq1 => (ss_cons (s_set hq1.toCb.nd rfl (Or.inl rfl) (e_box (e_ifx (t_ex hq1.toCb (e_var rfl)) (e_callKO hq1.toCb (L 3 (by decide)) hr rfl (fx.g 3 (by decide)) (fx.k 3 (by decide)) kb0 (k_cons (e_var rfl) k_nil) (by decide) (fun ds h => match ds, h with | [_], _ => rfl)) (e_call hq1.toCb (L 3 (by decide)) hr rfl (fx.g 3 (by decide)) (fx.k 3 (by decide)) (fx.b 3 (by decide)) (a_cons (e_var rfl) a_nil))))) ss_nil)) (h_named hc rfl rfl rfl (fe.g 6 (by decide)) (fun _ _ _ _ _ hx1 => (ss_cons (s_set hx1.toCb.nd rfl (Or.inl rfl) (e_or (e_isX hx1 fe.xc (fe.xt 7 (by decide)) rfl (fx.m 5 _ rfl) bt_isinstance (e_var rfl) (pe_glob rfl (fe.g 7 (by decide)) rfl)) (e_or (e_isX hx1 fe.xc (fe.xt 1 (by decide)) rfl (fx.m 5 _ rfl) bt_isinstance (e_var rfl) (pe_glob rfl (fe.g 1 (by decide)) rfl)) (e_one (e_isX hx1 fe.xc (fe.xt 2 (by decide)) rfl (fx.m 5 _ rfl) bt_isinstance (e_var rfl) (pe_glob rfl (fe.g 2 (by decide)) rfl)))))) (ss_cons (s_set hx1.toCb.nd rfl (Or.inl rfl) (e_or (e_var rfl) (e_or (e_isX hx1 fe.xc (fe.xt 4 (by decide)) rfl (fx.m 5 _ rfl) bt_isinstance (e_var rfl) (pe_glob rfl (fe.g 4 (by decide)) rfl)) (e_one (e_isX hx1 fe.xc (fe.xt 5 (by decide)) rfl (fx.m 5 _ rfl) bt_isinstance (e_var rfl) (pe_glob rfl (fe.g 5 (by decide)) rfl)))))) (ss_cons (s_ret (e_tup (a_cons (e_str rfl) (a_cons (e_and (e_isX hx1 fe.xc (fe.xt 3 (by decide)) rfl (fx.m 5 _ rfl) bt_isinstance (e_var rfl) (pe_glob rfl (fe.g 3 (by decide)) rfl)) (e_and (e_isX hx1 fe.xc fe.xv rfl (fx.m 5 _ rfl) bt_isinstance (e_var rfl) (pe_bltn rfl (fx.m 9 _ rfl) bt_ValueError rfl)) (e_one (e_notE hx1.toCb (e_var rfl))))) (a_cons (e_getX hx1 fe.xc (fe.xf 2 _ rfl) (e_var rfl)) (a_cons (e_getX hx1 fe.xc (fe.xf 3 _ rfl) (e_var rfl)) (a_cons (e_getX hx1 fe.xc (fe.xf 1 _ rfl) (e_var rfl)) a_nil))))))) ss_nil)))) (h_plain hc rfl (fe.g 0 (by decide)) (fun _ _ _ _ _ hx1 => (ss_cons (s_ret (e_tup (a_cons (e_str rfl) (a_cons e_bl (a_cons e_int (a_cons e_int (a_cons (e_str rfl) a_nil))))))) ss_nil)) h_nil))) (ss_cons (s_ret (e_tup (a_cons (e_str rfl) (a_cons (e_var rfl) a_nil)))) ss_nil))
theorem d12 (fx : Fx K mg (fa K) fd nm ps bl 24) (kb0 : KB0 fd) (fe : Fe P w K mg base (ev K) sub cn fl flds 8) (fg : Fg K mg cs kn 4) (L : Lv P w K mg base (ev K) (Pr wl) (fa K) fd ps 24 n) (F : FnP K 12 (fd 12)) : FnOk P w K mg base (L2.CX P w) (n + 3) (fa K 12) (fd 12) (ps 12) (spD (ev K) (callF (Pr wl) (n + 1) 12) (ps 12).length) := by
  refine lv_fn rfl rfl F sc12 rfl (by decide) fun cdv A outer s H E hr hc => ?_
  exact (ss_cons (s_ret (e_call hc.toCb (L 7 (by decide)) hr rfl (fx.g 7 (by decide)) (fx.k 7 (by decide)) (fx.b 7 (by decide)) (a_cons (e_box (e_call hc.toCb (L 11 (by decide)) hr rfl (fx.g 11 (by decide)) (fx.k 11 (by decide)) (fx.b 11 (by decide)) (a_cons (e_var rfl) (a_cons (e_c (c_cmp (o_eq hc.toCb.hK hc.toCb.hu64) (v_eq) (e_call hc.toCb (L 5 (by decide)) hr rfl (fx.g 5 (by decide)) (fx.k 5 (by decide)) (fx.b 5 (by decide)) (a_cons (e_var rfl) (a_cons e_int a_nil))) e_int)) a_nil)))) (a_cons (e_box (e_call hc.toCb (L 10 (by decide)) hr rfl (fx.g 10 (by decide)) (fx.k 10 (by decide)) (fx.b 10 (by decide)) (a_cons (e_var rfl) a_nil))) a_nil)))) ss_nil)
theorem d13 (fx : Fx K mg (fa K) fd nm ps bl 24) (kb0 : KB0 fd) (fe : Fe P w K mg base (ev K) sub cn fl flds 8) (fg : Fg K mg cs kn 4) (L : Lv P w K mg base (ev K) (Pr wl) (fa K) fd ps 24 n) (F : FnP K 13 (fd 13)) : FnOk P w K mg base (L2.CX P w) (n + 3) (fa K 13) (fd 13) (ps 13) (spD (ev K) (callF (Pr wl) (n + 1) 13) (ps 13).length) := by
  refine lv_fn rfl rfl F sc13 rfl (by decide) fun cdv A outer s H E hr hc => ?_
  exact (ss_cons (s_set hc.toCb.nd rfl (Or.inl rfl) (e_box (e_call hc.toCb (L 6 (by decide)) hr rfl (fx.g 6 (by decide)) (fx.k 6 (by decide)) (fx.b 6 (by decide)) (a_cons (e_var rfl) (a_cons (e_box (e_call0 hc.toCb (L 8 (by decide)) hr rfl (fx.g 8 (by decide)) (fx.k 8 (by decide)) (fx.b 8 (by decide)))) a_nil))))) (ss_cons (s_for hc.po hc.calm (i_rng rfl rfl (fx.m 8 _ rfl) (a_cons (e_bin op_sub v_sub (e_var rfl) e_int) a_nil)) (g_name hc.toCb.nd rfl (Or.inl rfl)) (ss_cons (s_set hc.toCb.nd rfl (Or.inl rfl) (e_box (e_bin (o_add hc.toCb.hK) v_add (e_var rfl) (e_call hc.toCb (L 6 (by decide)) hr rfl (fx.g 6 (by decide)) (fx.k 6 (by decide)) (fx.b 6 (by decide)) (a_cons (e_var rfl) (a_cons (e_box (e_bin (o_add hc.toCb.hK) v_add (e_call0 hc.toCb (L 8 (by decide)) hr rfl (fx.g 8 (by decide)) (fx.k 8 (by decide)) (fx.b 8 (by decide))) (e_call0 hc.toCb (L 9 (by decide)) hr rfl (fx.g 9 (by decide)) (fx.k 9 (by decide)) (fx.b 9 (by decide))))) a_nil)))))) ss_nil)) (ss_cons (s_ret (e_var rfl)) ss_nil)))
theorem d14 (fx : Fx K mg (fa K) fd nm ps bl 24) (kb0 : KB0 fd) (fe : Fe P w K mg base (ev K) sub cn fl flds 8) (fg : Fg K mg cs kn 4) (L : Lv P w K mg base (ev K) (Pr wl) (fa K) fd ps 24 n) (F : FnP K 14 (fd 14)) : FnOk P w K mg base (L2.CX P w) (n + 3) (fa K 14) (fd 14) (ps 14) (spD (ev K) (callF (Pr wl) (n + 1) 14) (ps 14).length) := by
  refine lv_fn rfl rfl F sc14 rfl (by decide) fun cdv A outer s H E hr hc => ?_
  exact (ss_cons (s_set hc.toCb.nd rfl (Or.inl rfl) (e_box (e_call hc.toCb (L 6 (by decide)) hr rfl (fx.g 6 (by decide)) (fx.k 6 (by decide)) (fx.b 6 (by decide)) (a_cons (e_var rfl) (a_cons (e_str rfl) a_nil))))) (ss_cons (s_for hc.po hc.calm (i_rng rfl rfl (fx.m 8 _ rfl) (a_cons (e_bin op_sub v_sub (e_var rfl) e_int) a_nil)) (g_name hc.toCb.nd rfl (Or.inl rfl)) (ss_cons (s_set hc.toCb.nd rfl (Or.inl rfl) (e_box (e_bin (o_add hc.toCb.hK) v_add (e_var rfl) (e_call hc.toCb (L 6 (by decide)) hr rfl (fx.g 6 (by decide)) (fx.k 6 (by decide)) (fx.b 6 (by decide)) (a_cons (e_var rfl) (a_cons (e_box (e_call0 hc.toCb (L 9 (by decide)) hr rfl (fx.g 9 (by decide)) (fx.k 9 (by decide)) (fx.b 9 (by decide)))) a_nil)))))) ss_nil)) (ss_cons (s_ret (e_var rfl)) ss_nil)))
theorem d15 (fx : Fx K mg (fa K) fd nm ps bl 24) (kb0 : KB0 fd) (fe : Fe P w K mg base (ev K) sub cn fl flds 8) (fg : Fg K mg cs kn 4) (L : Lv P w K mg base (ev K) (Pr wl) (fa K) fd ps 24 n) (F : FnP K 15 (fd 15)) : FnOk P w K mg base (L2.CX P w) (n + 3) (fa K 15) (fd 15) (ps 15) (spD (ev K) (callF (Pr wl) (n + 1) 15) (ps 15).length) := by
  refine lv_fn rfl rfl F sc15 rfl (by decide) fun cdv A outer s H E hr hc => ?_
  exact (ss_cons (s_ret (e_call hc.toCb (L 6 (by decide)) hr rfl (fx.g 6 (by decide)) (fx.k 6 (by decide)) (fx.b 6 (by decide)) (a_cons (e_var rfl) (a_cons (e_str rfl) a_nil)))) ss_nil)
theorem d16 (fx : Fx K mg (fa K) fd nm ps bl 24) (kb0 : KB0 fd) (fe : Fe P w K mg base (ev K) sub cn fl flds 8) (fg : Fg K mg cs kn 4) (L : Lv P w K mg base (ev K) (Pr wl) (fa K) fd ps 24 n) (F : FnP K 16 (fd 16)) : FnOk P w K mg base (L2.CX P w) (n + 3) (fa K 16) (fd 16) (ps 16) (spD (ev K) (callF (Pr wl) (n + 1) 16) (ps 16).length) := by
  refine lv_fn rfl rfl F sc16 rfl (by decide) fun cdv A outer s H E hr hc => ?_
  exact (ss_cons (s_set hc.toCb.nd rfl (Or.inl rfl) (e_box (e_call hc.toCb (L 5 (by decide)) hr rfl (fx.g 5 (by decide)) (fx.k 5 (by decide)) (fx.b 5 (by decide)) (a_cons (e_var rfl) (a_cons e_int a_nil))))) (ss_cons (s_ite (t_c ob_lt (c_cmp o_lt v_lt (e_var rfl) e_int)) (ss_cons (s_ret (e_call hc.toCb (L 13 (by decide)) hr rfl (fx.g 13 (by decide)) (fx.k 13 (by decide)) (fx.b 13 (by decide)) (a_cons (e_var rfl) (a_cons (e_box (e_call hc.toCb (L 6 (by decide)) hr rfl (fx.g 6 (by decide)) (fx.k 6 (by decide)) (fx.b 6 (by decide)) (a_cons (e_var rfl) (a_cons (e_box (e_lst (a_cons e_int (a_cons e_int (a_cons e_int (a_cons e_int (a_cons e_int (a_cons e_int a_nil)))))))) a_nil)))) a_nil)))) ss_nil) ss_nil) (ss_cons (s_ite (t_c ob_eq (c_cmp (o_eq hc.toCb.hK hc.toCb.hu64) (v_eq) (e_var rfl) e_int)) (ss_cons (s_ret (e_call hc.toCb (L 14 (by decide)) hr rfl (fx.g 14 (by decide)) (fx.k 14 (by decide)) (fx.b 14 (by decide)) (a_cons (e_var rfl) (a_cons (e_box (e_call hc.toCb (L 6 (by decide)) hr rfl (fx.g 6 (by decide)) (fx.k 6 (by decide)) (fx.b 6 (by decide)) (a_cons (e_var rfl) (a_cons (e_box (e_lst (a_cons e_int (a_cons e_int (a_cons e_int (a_cons e_int (a_cons e_int a_nil))))))) a_nil)))) a_nil)))) ss_nil) ss_nil) (ss_cons (s_ite (t_c ob_eq (c_cmp (o_eq hc.toCb.hK hc.toCb.hu64) (v_eq) (e_var rfl) e_int)) (ss_cons (s_ret (e_call hc.toCb (L 6 (by decide)) hr rfl (fx.g 6 (by decide)) (fx.k 6 (by decide)) (fx.b 6 (by decide)) (a_cons (e_var rfl) (a_cons (e_box (e_lst (a_cons (e_str rfl) (a_cons (e_str rfl) (a_cons (e_str rfl) (a_cons (e_str rfl) (a_cons (e_str rfl) (a_cons (e_str rfl) (a_cons (e_str rfl) (a_cons (e_str rfl) (a_cons (e_str rfl) (a_cons (e_str rfl) (a_cons (e_str rfl) a_nil))))))))))))) a_nil)))) ss_nil) ss_nil) (ss_cons (s_ite (t_c ob_lt (c_cmp o_lt v_lt (e_var rfl) e_int)) (ss_cons (s_ret (e_call hc.toCb (L 6 (by decide)) hr rfl (fx.g 6 (by decide)) (fx.k 6 (by decide)) (fx.b 6 (by decide)) (a_cons (e_var rfl) (a_cons (e_str rfl) a_nil)))) ss_nil) ss_nil) (ss_cons (s_ite (t_c ob_eq (c_cmp (o_eq hc.toCb.hK hc.toCb.hu64) (v_eq) (e_var rfl) e_int)) (ss_cons (s_ret (e_call hc.toCb (L 6 (by decide)) hr rfl (fx.g 6 (by decide)) (fx.k 6 (by decide)) (fx.b 6 (by decide)) (a_cons (e_var rfl) (a_cons (e_box (e_lst (a_cons (e_str rfl) (a_cons (e_str rfl) (a_cons (e_str rfl) (a_cons (e_str rfl) a_nil)))))) a_nil)))) ss_nil) ss_nil) (ss_cons (s_ite (t_c ob_eq (c_cmp (o_eq hc.toCb.hK hc.toCb.hu64) (v_eq) (e_var rfl) e_int)) (ss_cons (s_ret (e_bin (o_add hc.toCb.hK) v_add (e_bin (o_add hc.toCb.hK) v_add (e_str rfl) (e_call hc.toCb (L 6 (by decide)) hr rfl (fx.g 6 (by decide)) (fx.k 6 (by decide)) (fx.b 6 (by decide)) (a_cons (e_var rfl) (a_cons (e_box (e_lst (a_cons (e_str rfl) (a_cons (e_str rfl) (a_cons (e_str rfl) (a_cons (e_str rfl) (a_cons (e_box (e_call hc.toCb (L 15 (by decide)) hr rfl (fx.g 15 (by decide)) (fx.k 15 (by decide)) (fx.b 15 (by decide)) (a_cons (e_var rfl) a_nil))) a_nil))))))) a_nil)))) (e_str rfl))) ss_nil) ss_nil) (ss_cons (s_ret (e_call hc.toCb (L 6 (by decide)) hr rfl (fx.g 6 (by decide)) (fx.k 6 (by decide)) (fx.b 6 (by decide)) (a_cons (e_var rfl) (a_cons (e_box (e_lst (a_cons (e_str rfl) (a_cons (e_str rfl) (a_cons (e_str rfl) (a_cons (e_str rfl) a_nil)))))) a_nil)))) ss_nil))))))))
theorem d17 (fx : Fx K mg (fa K) fd nm ps bl 24) (kb0 : KB0 fd) (fe : Fe P w K mg base (ev K) sub cn fl flds 8) (fg : Fg K mg cs kn 4) (L : Lv P w K mg base (ev K) (Pr wl) (fa K) fd ps 24 n) (F : FnP K 17 (fd 17)) : FnOk P w K mg base (L2.CX P w) (n + 3) (fa K 17) (fd 17) (ps 17) (spD (ev K) (callF (Pr wl) (n + 1) 17) (ps 17).length) := by
  refine lv_fn rfl rfl F sc17 rfl (by decide) fun cdv A outer s H E hr hc => ?_
  exact (ss_cons (s_set hc.toCb.nd rfl (Or.inl rfl) (e_box (e_call hc.toCb (L 5 (by decide)) hr rfl (fx.g 5 (by decide)) (fx.k 5 (by decide)) (fx.b 5 (by decide)) (a_cons (e_var rfl) (a_cons e_int a_nil))))) (ss_cons (s_ite (t_c ob_lt (c_cmp o_lt v_lt (e_var rfl) e_int)) (ss_cons (s_ret (e_call hc.toCb (L 15 (by decide)) hr rfl (fx.g 15 (by decide)) (fx.k 15 (by decide)) (fx.b 15 (by decide)) (a_cons (e_var rfl) a_nil))) ss_nil) ss_nil) (ss_cons (s_ite (t_c ob_eq (c_cmp (o_eq hc.toCb.hK hc.toCb.hu64) (v_eq) (e_var rfl) e_int)) (ss_cons (s_ret (e_call hc.toCb (L 13 (by decide)) hr rfl (fx.g 13 (by decide)) (fx.k 13 (by decide)) (fx.b 13 (by decide)) (a_cons (e_var rfl) (a_cons (e_box (e_call hc.toCb (L 6 (by decide)) hr rfl (fx.g 6 (by decide)) (fx.k 6 (by decide)) (fx.b 6 (by decide)) (a_cons (e_var rfl) (a_cons (e_box (e_lst (a_cons e_int (a_cons e_int (a_cons e_int (a_cons e_int a_nil)))))) a_nil)))) a_nil)))) ss_nil) ss_nil) (ss_cons (s_ite (t_c ob_eq (c_cmp (o_eq hc.toCb.hK hc.toCb.hu64) (v_eq) (e_var rfl) e_int)) (ss_cons (s_ret (e_bin (o_add hc.toCb.hK) v_add (e_call hc.toCb (L 6 (by decide)) hr rfl (fx.g 6 (by decide)) (fx.k 6 (by decide)) (fx.b 6 (by decide)) (a_cons (e_var rfl) (a_cons (e_str rfl) a_nil))) (e_call hc.toCb (L 14 (by decide)) hr rfl (fx.g 14 (by decide)) (fx.k 14 (by decide)) (fx.b 14 (by decide)) (a_cons (e_var rfl) (a_cons (e_box (e_call hc.toCb (L 6 (by decide)) hr rfl (fx.g 6 (by decide)) (fx.k 6 (by decide)) (fx.b 6 (by decide)) (a_cons (e_var rfl) (a_cons (e_box (e_lst (a_cons e_int (a_cons e_int (a_cons e_int (a_cons e_int a_nil)))))) a_nil)))) a_nil))))) ss_nil) ss_nil) (ss_cons (s_ret (e_bin (o_add hc.toCb.hK) v_add (e_str rfl) (e_call hc.toCb (L 6 (by decide)) hr rfl (fx.g 6 (by decide)) (fx.k 6 (by decide)) (fx.b 6 (by decide)) (a_cons (e_var rfl) (a_cons (e_box (e_lst (a_cons (e_str rfl) (a_cons (e_str rfl) (a_cons (e_str rfl) (a_cons (e_str rfl) (a_cons (e_str rfl) (a_cons (e_str rfl) (a_cons (e_str rfl) a_nil))))))))) a_nil))))) ss_nil)))))
theorem d18 (fx : Fx K mg (fa K) fd nm ps bl 24) (kb0 : KB0 fd) (fe : Fe P w K mg base (ev K) sub cn fl flds 8) (fg : Fg K mg cs kn 4) (L : Lv P w K mg base (ev K) (Pr wl) (fa K) fd ps 24 n) (F : FnP K 18 (fd 18)) : FnOk P w K mg base (L2.CX P w) (n + 3) (fa K 18) (fd 18) (ps 18) (spD (ev K) (callF (Pr wl) (n + 1) 18) (ps 18).length) := by
  refine lv_fn rfl rfl F sc18 rfl (by decide) fun cdv A outer s H E hr hc => ?_
  exact (ss_cons (s_set hc.toCb.nd rfl (Or.inl rfl) (e_str rfl)) (ss_cons (s_for hc.po hc.calm (i_rng rfl rfl (fx.m 8 _ rfl) (a_cons (e_var rfl) a_nil)) (g_name hc.toCb.nd rfl (Or.inl rfl)) (ss_cons (s_set hc.toCb.nd rfl (Or.inl rfl) (e_box (e_bin (o_add hc.toCb.hK) v_add (e_bin (o_add hc.toCb.hK) v_add (e_var rfl) (e_call hc.toCb (L 16 (by decide)) hr rfl (fx.g 16 (by decide)) (fx.k 16 (by decide)) (fx.b 16 (by decide)) (a_cons (e_var rfl) a_nil))) (e_call hc.toCb (L 6 (by decide)) hr rfl (fx.g 6 (by decide)) (fx.k 6 (by decide)) (fx.b 6 (by decide)) (a_cons (e_var rfl) (a_cons (e_box (e_lst (a_cons (e_str rfl) (a_cons (e_str rfl) (a_cons (e_str rfl) (a_cons (e_str rfl) a_nil)))))) a_nil)))))) ss_nil)) (ss_cons (s_ret (e_var rfl)) ss_nil)))
theorem d19 (fx : Fx K mg (fa K) fd nm ps bl 24) (kb0 : KB0 fd) (fe : Fe P w K mg base (ev K) sub cn fl flds 8) (fg : Fg K mg cs kn 4) (L : Lv P w K mg base (ev K) (Pr wl) (fa K) fd ps 24 n) (F : FnP K 19 (fd 19)) : FnOk P w K mg base (L2.CX P w) (n + 3) (fa K 19) (fd 19) (ps 19) (spD (ev K) (callF (Pr wl) (n + 1) 19) (ps 19).length) := by
  refine lv_fn rfl rfl F sc19 rfl (by decide) fun cdv A outer s H E hr hc => ?_
  exact (ss_cons (s_set hc.toCb.nd rfl (Or.inr rfl) (e_box (e_bin (o_add hc.toCb.hK) v_add (e_str rfl) (e_call hc.toCb (L 6 (by decide)) hr rfl (fx.g 6 (by decide)) (fx.k 6 (by decide)) (fx.b 6 (by decide)) (a_cons (e_var rfl) (a_cons (e_box (e_lst (a_cons (e_str rfl) (a_cons (e_str rfl) (a_cons (e_str rfl) (a_cons (e_str rfl) (a_cons (e_str rfl) (a_cons (e_str rfl) a_nil)))))))) a_nil)))))) (ss_cons (s_ret (e_join hc.toCb (e_str rfl) (e_comp hc.calm hc.toCb.nd (i_rng rfl rfl (fx.m 8 _ rfl) (a_cons (e_var rfl) a_nil)) (show BlkOk N19 (defScope (tp 19)) _ [("k", 3)] from ⟨rfl, by decide +kernel, by decide +kernel, by decide +kernel, by decide +kernel⟩) (fun _ _ _ _ _ => (g_name (Cc.blk hc).toCb.nd rfl (Or.inl rfl))) (fun _ _ _ _ _ => ts_nil) (fun _ _ _ _ _ => (e_box (e_call (Cc.blk hc).toCb (L 6 (by decide)) hr rfl (fx.g 6 (by decide)) (fx.k 6 (by decide)) (fx.b 6 (by decide)) (a_cons (e_var rfl) (a_cons (e_var rfl) a_nil))))) (by decide)))) ss_nil))
theorem d20 (fx : Fx K mg (fa K) fd nm ps bl 24) (kb0 : KB0 fd) (fe : Fe P w K mg base (ev K) sub cn fl flds 8) (fg : Fg K mg cs kn 4) (L : Lv P w K mg base (ev K) (Pr wl) (fa K) fd ps 24 n) (F : FnP K 20 (fd 20)) : FnOk P w K mg base (L2.CX P w) (n + 3) (fa K 20) (fd 20) (ps 20) (spD (ev K) (callF (Pr wl) (n + 1) 20) (ps 20).length) := by
  refine lv_fn rfl rfl F sc20 rfl (by decide) fun cdv A outer s H E hr hc => ?_
  exact (ss_cons (s_set hc.toCb.nd rfl (Or.inl rfl) (e_box (e_bin (o_add hc.toCb.hK) v_add (e_call hc.toCb (L 18 (by decide)) hr rfl (fx.g 18 (by decide)) (fx.k 18 (by decide)) (fx.b 18 (by decide)) (a_cons (e_var rfl) (a_cons (e_box (e_call hc.toCb (L 5 (by decide)) hr rfl (fx.g 5 (by decide)) (fx.k 5 (by decide)) (fx.b 5 (by decide)) (a_cons (e_var rfl) (a_cons e_int a_nil)))) a_nil))) (e_call hc.toCb (L 6 (by decide)) hr rfl (fx.g 6 (by decide)) (fx.k 6 (by decide)) (fx.b 6 (by decide)) (a_cons (e_var rfl) (a_cons (e_box (e_lst (a_cons (e_str rfl) (a_cons (e_str rfl) (a_cons (e_str rfl) a_nil))))) a_nil)))))) (ss_cons (s_set hc.toCb.nd rfl (Or.inl rfl) (e_box (e_bin (o_add hc.toCb.hK) v_add (e_call hc.toCb (L 6 (by decide)) hr rfl (fx.g 6 (by decide)) (fx.k 6 (by decide)) (fx.b 6 (by decide)) (a_cons (e_var rfl) (a_cons (e_box (e_lst (a_cons (e_str rfl) (a_cons (e_str rfl) (a_cons (e_str rfl) a_nil))))) a_nil))) (e_call hc.toCb (L 18 (by decide)) hr rfl (fx.g 18 (by decide)) (fx.k 18 (by decide)) (fx.b 18 (by decide)) (a_cons (e_var rfl) (a_cons (e_box (e_call hc.toCb (L 5 (by decide)) hr rfl (fx.g 5 (by decide)) (fx.k 5 (by decide)) (fx.b 5 (by decide)) (a_cons (e_var rfl) (a_cons e_int a_nil)))) a_nil)))))) (ss_cons (s_set hc.toCb.nd rfl (Or.inl rfl) (e_box (e_call hc.toCb (L 13 (by decide)) hr rfl (fx.g 13 (by decide)) (fx.k 13 (by decide)) (fx.b 13 (by decide)) (a_cons (e_var rfl) (a_cons e_int a_nil))))) (ss_cons (s_set hc.toCb.nd rfl (Or.inl rfl) (e_box (e_call hc.toCb (L 14 (by decide)) hr rfl (fx.g 14 (by decide)) (fx.k 14 (by decide)) (fx.b 14 (by decide)) (a_cons (e_var rfl) (a_cons e_int a_nil))))) (ss_cons (s_set hc.toCb.nd rfl (Or.inl rfl) (e_box (e_lst (a_cons (e_var rfl) (a_cons (e_var rfl) (a_cons (e_box (e_bin (o_add hc.toCb.hK) v_add (e_str rfl) (e_var rfl))) (a_cons (e_box (e_bin (o_add hc.toCb.hK) v_add (e_str rfl) (e_call hc.toCb (L 14 (by decide)) hr rfl (fx.g 14 (by decide)) (fx.k 14 (by decide)) (fx.b 14 (by decide)) (a_cons (e_var rfl) (a_cons e_int a_nil))))) (a_cons (e_box (e_call hc.toCb (L 15 (by decide)) hr rfl (fx.g 15 (by decide)) (fx.k 15 (by decide)) (fx.b 15 (by decide)) (a_cons (e_var rfl) a_nil))) (a_cons (e_box (e_call hc.toCb (L 17 (by decide)) hr rfl (fx.g 17 (by decide)) (fx.k 17 (by decide)) (fx.b 17 (by decide)) (a_cons (e_var rfl) a_nil))) (a_cons (e_str rfl) (a_cons (e_box (e_bin (o_mul hc.toCb.hK) v_mul (e_str rfl) e_int)) a_nil))))))))))) (ss_cons (s_for hc.po hc.calm (i_seq hc.toCb (e_var rfl)) (g_name hc.toCb.nd rfl (Or.inl rfl)) (ss_cons (s_ite (t_not (t_ex hc.toCb (e_call hc.toCb (L 12 (by decide)) hr rfl (fx.g 12 (by decide)) (fx.k 12 (by decide)) (fx.b 12 (by decide)) (a_cons (e_var rfl) (a_cons (e_box (e_bin (o_add hc.toCb.hK) v_add (e_bin (o_add hc.toCb.hK) v_add (e_var rfl) (e_var rfl)) (e_var rfl))) a_nil))))) (ss_cons (s_ret e_bl) ss_nil) ss_nil) ss_nil)) (ss_cons (s_ite (t_not (t_ex hc.toCb (e_call hc.toCb (L 12 (by decide)) hr rfl (fx.g 12 (by decide)) (fx.k 12 (by decide)) (fx.b 12 (by decide)) (a_cons (e_var rfl) (a_cons (e_box (e_bin (o_add hc.toCb.hK) v_add (e_bin (o_add hc.toCb.hK) v_add (e_bin (o_add hc.toCb.hK) v_add (e_var rfl) (e_call hc.toCb (L 17 (by decide)) hr rfl (fx.g 17 (by decide)) (fx.k 17 (by decide)) (fx.b 17 (by decide)) (a_cons (e_var rfl) a_nil))) (e_var rfl)) (e_call hc.toCb (L 17 (by decide)) hr rfl (fx.g 17 (by decide)) (fx.k 17 (by decide)) (fx.b 17 (by decide)) (a_cons (e_var rfl) a_nil)))) a_nil))))) (ss_cons (s_ret e_bl) ss_nil) ss_nil) (ss_cons (s_for hc.po hc.calm (i_seq hc.toCb (e_lst (a_cons (e_box (e_sl01 hc.toCb (e_var rfl) e_int)) (a_cons (e_box (e_sl01 hc.toCb (e_var rfl) e_int)) (a_cons (e_box (e_bin (o_add hc.toCb.hK) v_add (e_sl01 hc.toCb (e_var rfl) e_int) (e_sl01 hc.toCb (e_var rfl) e_int))) (a_cons (e_box (e_bin (o_add hc.toCb.hK) v_add (e_bin (o_add hc.toCb.hK) v_add (e_sl01 hc.toCb (e_var rfl) e_int) (e_str rfl)) (e_sl01 hc.toCb (e_var rfl) e_int))) (a_cons (e_box (e_bin (o_add hc.toCb.hK) v_add (e_str rfl) (e_sl01 hc.toCb (e_var rfl) e_int))) (a_cons (e_str rfl) a_nil)))))))) (g_name hc.toCb.nd rfl (Or.inl rfl)) (ss_cons (s_ite (t_not (t_ex hc.toCb (e_call hc.toCb (L 12 (by decide)) hr rfl (fx.g 12 (by decide)) (fx.k 12 (by decide)) (fx.b 12 (by decide)) (a_cons (e_var rfl) (a_cons (e_box (e_bin (o_add hc.toCb.hK) v_add (e_bin (o_add hc.toCb.hK) v_add (e_var rfl) (e_var rfl)) (e_var rfl))) a_nil))))) (ss_cons (s_ret e_bl) ss_nil) ss_nil) ss_nil)) (ss_cons (s_ret e_bl) ss_nil)))))))))
theorem d21 (fx : Fx K mg (fa K) fd nm ps bl 24) (kb0 : KB0 fd) (fe : Fe P w K mg base (ev K) sub cn fl flds 8) (fg : Fg K mg cs kn 4) (L : Lv P w K mg base (ev K) (Pr wl) (fa K) fd ps 24 n) (F : FnP K 21 (fd 21)) : FnOk P w K mg base (L2.CX P w) (n + 3) (fa K 21) (fd 21) (ps 21) (spD (ev K) (callF (Pr wl) (n + 1) 21) (ps 21).length) := by
  refine lv_fn rfl rfl F sc21 rfl (by decide) fun cdv A outer s H E hr hc => ?_
  exact (ss_cons (s_set hc.toCb.nd rfl (Or.inl rfl) (e_box (e_call hc.toCb (L 14 (by decide)) hr rfl (fx.g 14 (by decide)) (fx.k 14 (by decide)) (fx.b 14 (by decide)) (a_cons (e_var rfl) (a_cons e_int a_nil))))) (ss_cons (s_set hc.toCb.nd rfl (Or.inl rfl) (e_box (e_call hc.toCb (L 13 (by decide)) hr rfl (fx.g 13 (by decide)) (fx.k 13 (by decide)) (fx.b 13 (by decide)) (a_cons (e_var rfl) (a_cons e_int a_nil))))) (ss_cons (s_set hc.toCb.nd rfl (Or.inl rfl) (e_box (e_bin (o_mul hc.toCb.hK) v_mul (e_str rfl) (e_call hc.toCb (L 5 (by decide)) hr rfl (fx.g 5 (by decide)) (fx.k 5 (by decide)) (fx.b 5 (by decide)) (a_cons (e_var rfl) (a_cons e_int a_nil)))))) (ss_cons (s_set hc.toCb.nd rfl (Or.inl rfl) (e_box (e_bin (o_add hc.toCb.hK) v_add (e_bin (o_add hc.toCb.hK) v_add (e_bin (o_add hc.toCb.hK) v_add (e_bin (o_add hc.toCb.hK) v_add (e_bin (o_add hc.toCb.hK) v_add (e_bin (o_add hc.toCb.hK) v_add (e_bin (o_add hc.toCb.hK) v_add (e_bin (o_add hc.toCb.hK) v_add (e_bin (o_add hc.toCb.hK) v_add (e_bin (o_add hc.toCb.hK) v_add (e_bin (o_add hc.toCb.hK) v_add (e_var rfl) (e_var rfl)) (e_str rfl)) (e_var rfl)) (e_str rfl)) (e_var rfl)) (e_str rfl)) (e_var rfl)) (e_str rfl)) (e_var rfl)) (e_var rfl)) (e_str rfl)))) (ss_cons (s_set hc.toCb.nd rfl (Or.inl rfl) (e_callB c_len (n_len hc.toCb.hK) rfl (fx.m 0 _ rfl) bt_len (a_cons (e_var rfl) a_nil))) (ss_cons (s_set hc.toCb.nd rfl (Or.inl rfl) (e_box (e_lst (a_cons (e_tup (a_cons (e_str rfl) (a_cons (e_var rfl) (a_cons e_int (a_cons (e_box (e_bin (o_add hc.toCb.hK) v_add (e_var rfl) e_int)) a_nil))))) (a_cons (e_tup (a_cons (e_str rfl) (a_cons (e_str rfl) (a_cons e_int (a_cons (e_box (e_bin (o_add hc.toCb.hK) v_add (e_var rfl) e_int)) a_nil))))) (a_cons (e_tup (a_cons (e_str rfl) (a_cons (e_str rfl) (a_cons e_int (a_cons (e_box (e_bin (o_add hc.toCb.hK) v_add (e_var rfl) e_int)) a_nil))))) (a_cons (e_tup (a_cons (e_str rfl) (a_cons (e_var rfl) (a_cons e_int (a_cons (e_box (e_bin (o_add hc.toCb.hK) v_add (e_var rfl) e_int)) a_nil))))) a_nil))))))) (ss_cons (s_set hc.toCb.nd rfl (Or.inl rfl) (e_box (e_bin (o_add hc.toCb.hK) v_add (e_var rfl) (e_lst (a_cons (e_tup (a_cons (e_str rfl) (a_cons (e_str rfl) (a_cons e_int (a_cons (e_box (e_bin (o_add hc.toCb.hK) v_add (e_var rfl) e_int)) a_nil))))) (a_cons (e_tup (a_cons (e_str rfl) (a_cons (e_var rfl) (a_cons e_int (a_cons (e_box (e_bin (o_add hc.toCb.hK) v_add (e_var rfl) e_int)) a_nil))))) (a_cons (e_tup (a_cons (e_str rfl) (a_cons (e_var rfl) (a_cons e_int (a_cons (e_box (e_bin (o_add hc.toCb.hK) v_add (e_var rfl) e_int)) a_nil))))) (a_cons (e_tup (a_cons (e_str rfl) (a_cons (e_str rfl) (a_cons e_int (a_cons (e_box (e_bin (o_add hc.toCb.hK) v_add (e_var rfl) e_int)) a_nil))))) a_nil)))))))) (ss_cons (s_ite (t_not (t_ex hc.toCb (e_call hc.toCb (L 7 (by decide)) hr rfl (fx.g 7 (by decide)) (fx.k 7 (by decide)) (fx.b 7 (by decide)) (a_cons (e_box (e_call hc.toCb (L 11 (by decide)) hr rfl (fx.g 11 (by decide)) (fx.k 11 (by decide)) (fx.b 11 (by decide)) (a_cons (e_var rfl) (a_cons e_bl a_nil)))) (a_cons (e_tup (a_cons (e_str rfl) (a_cons (e_callT call_tuple_of (n_tuple hc.toCb.hK) rfl (fx.m 1 _ rfl) bt_tuple (a_cons (e_var rfl) a_nil)) a_nil))) a_nil))))) (ss_cons (s_ret e_bl) ss_nil) ss_nil) (ss_cons (s_for hc.po hc.calm (i_seq hc.toCb (e_lst (a_cons (e_tup (a_cons (e_box (e_call hc.toCb (L 15 (by decide)) hr rfl (fx.g 15 (by decide)) (fx.k 15 (by decide)) (fx.b 15 (by decide)) (a_cons (e_var rfl) a_nil))) (a_cons (e_str rfl) a_nil))) (a_cons (e_tup (a_cons (e_str rfl) (a_cons (e_str rfl) a_nil))) (a_cons (e_tup (a_cons (e_str rfl) (a_cons (e_str rfl) a_nil))) (a_cons (e_tup (a_cons (e_box (e_bin (o_add hc.toCb.hK) v_add (e_str rfl) (e_var rfl))) (a_cons (e_str rfl) a_nil))) (a_cons (e_tup (a_cons (e_box (e_bin (o_mul hc.toCb.hK) v_mul (e_var rfl) e_int)) (a_cons (e_str rfl) a_nil))) (a_cons (e_tup (a_cons (e_box (e_bin (o_mul hc.toCb.hK) v_mul (e_str rfl) e_int)) (a_cons (e_str rfl) a_nil))) a_nil)))))))) (g_tup hc.toCb hc.calm (gs_cons (g_name hc.toCb.nd rfl (Or.inl rfl)) (gs_cons (g_name hc.toCb.nd rfl (Or.inl rfl)) gs_nil))) (ss_cons (s_ite (t_not (t_ex hc.toCb (e_call hc.toCb (L 7 (by decide)) hr rfl (fx.g 7 (by decide)) (fx.k 7 (by decide)) (fx.b 7 (by decide)) (a_cons (e_box (e_call hc.toCb (L 11 (by decide)) hr rfl (fx.g 11 (by decide)) (fx.k 11 (by decide)) (fx.b 11 (by decide)) (a_cons (e_box (e_bin (o_add hc.toCb.hK) v_add (e_bin (o_add hc.toCb.hK) v_add (e_var rfl) (e_str rfl)) (e_var rfl))) (a_cons e_bl a_nil)))) (a_cons (e_tup (a_cons (e_str rfl) (a_cons e_bl (a_cons e_int (a_cons e_int (a_cons (e_var rfl) a_nil)))))) a_nil))))) (ss_cons (s_ret e_bl) ss_nil) ss_nil) (ss_cons (s_ite (t_not (t_ex hc.toCb (e_call hc.toCb (L 7 (by decide)) hr rfl (fx.g 7 (by decide)) (fx.k 7 (by decide)) (fx.b 7 (by decide)) (a_cons (e_box (e_call hc.toCb (L 11 (by decide)) hr rfl (fx.g 11 (by decide)) (fx.k 11 (by decide)) (fx.b 11 (by decide)) (a_cons (e_box (e_bin (o_add hc.toCb.hK) v_add (e_bin (o_add hc.toCb.hK) v_add (e_var rfl) (e_str rfl)) (e_var rfl))) (a_cons e_bl a_nil)))) (a_cons (e_tup (a_cons (e_str rfl) (a_cons (e_callT call_tuple_of (n_tuple hc.toCb.hK) rfl (fx.m 1 _ rfl) bt_tuple (a_cons (e_var rfl) a_nil)) a_nil))) a_nil))))) (ss_cons (s_ret e_bl) ss_nil) ss_nil) ss_nil))) (ss_cons (s_for hc.po hc.calm (i_seq hc.toCb (e_lst (a_cons (e_str rfl) (a_cons (e_str rfl) (a_cons (e_str rfl) (a_cons (e_str rfl) (a_cons (e_str rfl) (a_cons (e_str rfl) a_nil)))))))) (g_name hc.toCb.nd rfl (Or.inl rfl)) (ss_cons (s_ite (t_not (t_ex hc.toCb (e_call hc.toCb (L 7 (by decide)) hr rfl (fx.g 7 (by decide)) (fx.k 7 (by decide)) (fx.b 7 (by decide)) (a_cons (e_box (e_call hc.toCb (L 11 (by decide)) hr rfl (fx.g 11 (by decide)) (fx.k 11 (by decide)) (fx.b 11 (by decide)) (a_cons (e_var rfl) (a_cons (e_c (c_cmp (o_eq hc.toCb.hK hc.toCb.hu64) (v_eq) (e_call hc.toCb (L 5 (by decide)) hr rfl (fx.g 5 (by decide)) (fx.k 5 (by decide)) (fx.b 5 (by decide)) (a_cons (e_var rfl) (a_cons e_int a_nil))) e_int)) a_nil)))) (a_cons (e_tup (a_cons (e_str rfl) (a_cons (e_tup a_nil) a_nil))) a_nil))))) (ss_cons (s_ret e_bl) ss_nil) ss_nil) ss_nil)) (ss_cons (s_ret e_bl) ss_nil)))))))))))
theorem d22 (fx : Fx K mg (fa K) fd nm ps bl 24) (kb0 : KB0 fd) (fe : Fe P w K mg base (ev K) sub cn fl flds 8) (fg : Fg K mg cs kn 4) (L : Lv P w K mg base (ev K) (Pr wl) (fa K) fd ps 24 n) (F : FnP K 22 (fd 22)) : FnOk P w K mg base (L2.CX P w) (n + 3) (fa K 22) (fd 22) (ps 22) (spD (ev K) (callF (Pr wl) (n + 1) 22) (ps 22).length) := by
  refine lv_fn rfl rfl F sc22 rfl (by decide) fun cdv A outer s H E hr hc => ?_
  exact (ss_cons (s_set hc.toCb.nd rfl (Or.inl rfl) (e_box (e_bin (o_add hc.toCb.hK) v_add (e_call hc.toCb (L 18 (by decide)) hr rfl (fx.g 18 (by decide)) (fx.k 18 (by decide)) (fx.b 18 (by decide)) (a_cons (e_var rfl) (a_cons e_int a_nil))) (e_call hc.toCb (L 6 (by decide)) hr rfl (fx.g 6 (by decide)) (fx.k 6 (by decide)) (fx.b 6 (by decide)) (a_cons (e_var rfl) (a_cons (e_box (e_lst (a_cons (e_str rfl) (a_cons (e_str rfl) (a_cons (e_box (e_bin (o_mul hc.toCb.hK) v_mul (e_str rfl) e_int)) a_nil))))) a_nil)))))) (ss_cons (s_set hc.toCb.nd rfl (Or.inl rfl) (e_box (e_bin (o_mul hc.toCb.hK) v_mul (e_var rfl) (e_bin o_fdiv v_fdiv (e_bin op_sub v_sub e_int e_int) (e_callB c_len (n_len hc.toCb.hK) rfl (fx.m 0 _ rfl) bt_len (a_cons (e_var rfl) a_nil)))))) (ss_cons (s_ret (e_and (e_call hc.toCb (L 12 (by decide)) hr rfl (fx.g 12 (by decide)) (fx.k 12 (by decide)) (fx.b 12 (by decide)) (a_cons (e_var rfl) (a_cons (e_var rfl) a_nil))) (e_one (e_call hc.toCb (L 12 (by decide)) hr rfl (fx.g 12 (by decide)) (fx.k 12 (by decide)) (fx.b 12 (by decide)) (a_cons (e_var rfl) (a_cons (e_box (e_bin (o_add hc.toCb.hK) v_add (e_bin (o_add hc.toCb.hK) v_add (e_sl01 hc.toCb (e_var rfl) (e_bin (o_add hc.toCb.hK) v_add (e_call hc.toCb (L 5 (by decide)) hr rfl (fx.g 5 (by decide)) (fx.k 5 (by decide)) (fx.b 5 (by decide)) (a_cons (e_var rfl) (a_cons (e_callB c_len (n_len hc.toCb.hK) rfl (fx.m 0 _ rfl) bt_len (a_cons (e_var rfl) a_nil)) a_nil))) e_int)) (e_str rfl)) (e_call hc.toCb (L 17 (by decide)) hr rfl (fx.g 17 (by decide)) (fx.k 17 (by decide)) (fx.b 17 (by decide)) (a_cons (e_var rfl) a_nil)))) a_nil)))))) ss_nil)))
theorem d23 (fx : Fx K mg (fa K) fd nm ps bl 24) (kb0 : KB0 fd) (fe : Fe P w K mg base (ev K) sub cn fl flds 8) (fg : Fg K mg cs kn 4) (L : Lv P w K mg base (ev K) (Pr wl) (fa K) fd ps 24 n) (F : FnP K 23 (fd 23)) : FnOk P w K mg base (L2.CX P w) (n + 3) (fa K 23) (fd 23) (ps 23) (spD (ev K) (callF (Pr wl) (n + 1) 23) (ps 23).length) := by
  refine lv_fn rfl rfl F sc23 rfl (by decide) fun cdv A outer s H E hr hc => ?_
  exact (ss_cons (s_set hc.toCb.nd rfl (Or.inl rfl) (e_box (e_call hc.toCb (L 4 (by decide)) hr rfl (fx.g 4 (by decide)) (fx.k 4 (by decide)) (fx.b 4 (by decide)) (a_cons (e_var rfl) a_nil)))) (ss_cons (s_set hc.toCb.nd rfl (Or.inl rfl) (e_box (e_call hc.toCb (L 5 (by decide)) hr rfl (fx.g 5 (by decide)) (fx.k 5 (by decide)) (fx.b 5 (by decide)) (a_cons (e_var rfl) (a_cons e_int a_nil))))) (ss_cons (s_for hc.po hc.calm (i_rng rfl rfl (fx.m 8 _ rfl) (a_cons e_int a_nil)) (g_name hc.toCb.nd rfl (Or.inl rfl)) (ss_cons (s_ite (t_not (t_ex hc.toCb (e_call hc.toCb (L 12 (by decide)) hr rfl (fx.g 12 (by decide)) (fx.k 12 (by decide)) (fx.b 12 (by decide)) (a_cons (e_var rfl) (a_cons (e_box (e_call hc.toCb (L 18 (by decide)) hr rfl (fx.g 18 (by decide)) (fx.k 18 (by decide)) (fx.b 18 (by decide)) (a_cons (e_var rfl) (a_cons (e_box (e_bin (o_add hc.toCb.hK) v_add e_int (e_call hc.toCb (L 5 (by decide)) hr rfl (fx.g 5 (by decide)) (fx.k 5 (by decide)) (fx.b 5 (by decide)) (a_cons (e_var rfl) (a_cons e_int a_nil))))) a_nil)))) a_nil))))) (ss_cons (s_ret e_bl) ss_nil) ss_nil) (ss_cons (s_ite (t_not (t_ex hc.toCb (e_call hc.toCb (L 12 (by decide)) hr rfl (fx.g 12 (by decide)) (fx.k 12 (by decide)) (fx.b 12 (by decide)) (a_cons (e_var rfl) (a_cons (e_box (e_call hc.toCb (L 19 (by decide)) hr rfl (fx.g 19 (by decide)) (fx.k 19 (by decide)) (fx.b 19 (by decide)) (a_cons (e_var rfl) (a_cons (e_box (e_bin (o_add hc.toCb.hK) v_add e_int (e_call hc.toCb (L 5 (by decide)) hr rfl (fx.g 5 (by decide)) (fx.k 5 (by decide)) (fx.b 5 (by decide)) (a_cons (e_var rfl) (a_cons e_int a_nil))))) a_nil)))) a_nil))))) (ss_cons (s_ret e_bl) ss_nil) ss_nil) ss_nil))) (ss_cons (s_ite (t_w (w_or (t_not (t_ex hc.toCb (e_call hc.toCb (L 20 (by decide)) hr rfl (fx.g 20 (by decide)) (fx.k 20 (by decide)) (fx.b 20 (by decide)) (a_cons (e_var rfl) a_nil)))) (w_one (t_not (t_ex hc.toCb (e_call hc.toCb (L 21 (by decide)) hr rfl (fx.g 21 (by decide)) (fx.k 21 (by decide)) (fx.b 21 (by decide)) (a_cons (e_var rfl) a_nil))))))) (ss_cons (s_ret e_bl) ss_nil) ss_nil) (ss_cons (s_ret (e_or (e_and (e_c (c_cmp (o_ne hc.toCb.hK hc.toCb.hu64) (v_ne) (e_var rfl) e_int)) (e_one (e_c (c_cmp (o_ne hc.toCb.hK hc.toCb.hu64) (v_ne) (e_var rfl) e_int)))) (e_one (e_call hc.toCb (L 22 (by decide)) hr rfl (fx.g 22 (by decide)) (fx.k 22 (by decide)) (fx.b 22 (by decide)) (a_cons (e_var rfl) a_nil))))) ss_nil)))))
end
def wlF : Nat := 2 ^ 1000
set_option maxHeartbeats 0
/-! ### the head -/
def mkD (i : Nat) : He.DefD := ⟨(nm i, none), nm i, nm i, defArgs (tp i), defBody (tp i), defScope (tp i), [], []⟩
def iS0 : Stmt := inClass (top 6) 0
def iD0 : He.DefD := ⟨("BadProgram", some "__init__"), "__init__", "BadProgram.__init__", defArgs iS0, defBody iS0, defScope iS0, [], []⟩
def iN0 : List PySem.Str := (["self", "at", "word"] : List PySem.Str)
theorem isc0 : FnScope iN0 iN0 (defScope iS0) := ⟨rfl, rfl, rfl, by decide +kernel, rfl, by decide +kernel, by decide +kernel⟩
def iS1 : Stmt := inClass (top 7) 0
def iD1 : He.DefD := ⟨("BadCode", some "__init__"), "__init__", "BadCode.__init__", defArgs iS1, defBody iS1, defScope iS1, [], []⟩
def iN1 : List PySem.Str := (["self", "at", "word"] : List PySem.Str)
theorem isc1 : FnScope iN1 iN1 (defScope iS1) := ⟨rfl, rfl, rfl, by decide +kernel, rfl, by decide +kernel, by decide +kernel⟩
def iS2 : Stmt := inClass (top 8) 0
def iD2 : He.DefD := ⟨("BadSource", some "__init__"), "__init__", "BadSource.__init__", defArgs iS2, defBody iS2, defScope iS2, [], []⟩
def iN2 : List PySem.Str := (["self", "line", "place", "word"] : List PySem.Str)
theorem isc2 : FnScope iN2 iN2 (defScope iS2) := ⟨rfl, rfl, rfl, by decide +kernel, rfl, by decide +kernel, by decide +kernel⟩
def iS3 : Stmt := inClass (top 9) 0
def iD3 : He.DefD := ⟨("BadText", some "__init__"), "__init__", "BadText.__init__", defArgs iS3, defBody iS3, defScope iS3, [], []⟩
def iN3 : List PySem.Str := (["self", "line", "word"] : List PySem.Str)
theorem isc3 : FnScope iN3 iN3 (defScope iS3) := ⟨rfl, rfl, rfl, by decide +kernel, rfl, by decide +kernel, by decide +kernel⟩
def hfn : List He.DefD := (List.range 24).map mkD ++ [iD0, iD1, iD2, iD3]
def hfa : List He.Fa := (List.range 24).map (fun i => .glo (nm i)) ++ bl.map .free
abbrev RO : PySem.W.OpenRow := PySem.W.OpenLaw.row PySem.Challenge.rw_whichpass_k03_tokens
def exK (K : PySem.W.Frag) : Bool := exB K sub cn xl xi flds 8 && (List.range 4).all (cgB K cs kn)
abbrev hk : PySem.W.Hook := hookY 5 hfa hfn exK
def ob (s : PySem.W.SharedT) : AlY := obsYG 5 hfa hfn exK (HandSHeadRun.getT s)
theorem ob_eq (s : PySem.W.SharedT) : ob s = hk.obs s.abs := obsYG_eq (HandSHeadRun.getT_eq s)
def loose : List PySem.Str := (["WORD_MOST", "PassError", "DataError", "CallError", "TextError", "BadProgram", "BadCode", "BadSource", "BadText", "TEN_FIGURES", "SMALL_LETTERS", "SIGNS", "end_of", "token_at"] : List PySem.Str) ++ (["line_tokens", "tokens_of", "_law_ink", "_law_drop", "_law_pick", "_law_same", "_law_small", "_law_figures", "_law_tokens", "_law_ask", "_law_right", "_law_word", "_law_number", "_law_odd"] : List PySem.Str) ++ (["_law_piece", "_law_fault", "_law_pieces", "_law_drawn", "_law_spoilt_ok", "_law_known", "_law_long"] : List PySem.Str)
theorem run (w : World) : HandSHeadRun.RunEq RO (PySem.W.view RO.prog [38]) hk ob 6000 loose w := by
  intro os
  kernel_rfl
theorem bn0 {K : PySem.W.Frag} {fd : FuncData} (F : FnP K 0 fd) : Binds K fd (ps 0) [] := F.bindsN fun _ _ _ _ _ _ us hl => match us, hl with | [_, _, _], _ => rfl
theorem bn1 {K : PySem.W.Frag} {fd : FuncData} (F : FnP K 1 fd) : Binds K fd (ps 1) [] := F.bindsN fun _ _ _ _ _ _ us hl => match us, hl with | [_, _, _], _ => rfl
theorem bn2 {K : PySem.W.Frag} {fd : FuncData} (F : FnP K 2 fd) : Binds K fd (ps 2) [] := F.bindsN fun _ _ _ _ _ _ us hl => match us, hl with | [_, _], _ => rfl
theorem bn3 {K : PySem.W.Frag} {fd : FuncData} (F : FnP K 3 fd) : Binds K fd (ps 3) [] := F.bindsN fun _ _ _ _ _ _ us hl => match us, hl with | [_], _ => rfl
theorem bn4 {K : PySem.W.Frag} {fd : FuncData} (F : FnP K 4 fd) : Binds K fd (ps 4) [] := F.bindsN fun _ _ _ _ _ _ us hl => match us, hl with | [_], _ => rfl
theorem bn5 {K : PySem.W.Frag} {fd : FuncData} (F : FnP K 5 fd) : Binds K fd (ps 5) [] := F.bindsN fun _ _ _ _ _ _ us hl => match us, hl with | [_, _], _ => rfl
theorem bn6 {K : PySem.W.Frag} {fd : FuncData} (F : FnP K 6 fd) : Binds K fd (ps 6) [] := F.bindsN fun _ _ _ _ _ _ us hl => match us, hl with | [_, _], _ => rfl
theorem bn7 {K : PySem.W.Frag} {fd : FuncData} (F : FnP K 7 fd) : Binds K fd (ps 7) [] := F.bindsN fun _ _ _ _ _ _ us hl => match us, hl with | [_, _], _ => rfl
theorem bn8 {K : PySem.W.Frag} {fd : FuncData} (F : FnP K 8 fd) : Binds K fd (ps 8) [] := F.bindsN fun _ _ _ _ _ _ us hl => match us, hl with | [], _ => rfl
theorem bn9 {K : PySem.W.Frag} {fd : FuncData} (F : FnP K 9 fd) : Binds K fd (ps 9) [] := F.bindsN fun _ _ _ _ _ _ us hl => match us, hl with | [], _ => rfl
theorem bn10 {K : PySem.W.Frag} {fd : FuncData} (F : FnP K 10 fd) : Binds K fd (ps 10) [] := F.bindsN fun _ _ _ _ _ _ us hl => match us, hl with | [_], _ => rfl
theorem bn11 {K : PySem.W.Frag} {fd : FuncData} (F : FnP K 11 fd) : Binds K fd (ps 11) [] := F.bindsN fun _ _ _ _ _ _ us hl => match us, hl with | [_, _], _ => rfl
theorem bn12 {K : PySem.W.Frag} {fd : FuncData} (F : FnP K 12 fd) : Binds K fd (ps 12) [] := F.bindsN fun _ _ _ _ _ _ us hl => match us, hl with | [_, _], _ => rfl
theorem bn13 {K : PySem.W.Frag} {fd : FuncData} (F : FnP K 13 fd) : Binds K fd (ps 13) [] := F.bindsN fun _ _ _ _ _ _ us hl => match us, hl with | [_, _], _ => rfl
theorem bn14 {K : PySem.W.Frag} {fd : FuncData} (F : FnP K 14 fd) : Binds K fd (ps 14) [] := F.bindsN fun _ _ _ _ _ _ us hl => match us, hl with | [_, _], _ => rfl
theorem bn15 {K : PySem.W.Frag} {fd : FuncData} (F : FnP K 15 fd) : Binds K fd (ps 15) [] := F.bindsN fun _ _ _ _ _ _ us hl => match us, hl with | [_], _ => rfl
theorem bn16 {K : PySem.W.Frag} {fd : FuncData} (F : FnP K 16 fd) : Binds K fd (ps 16) [] := F.bindsN fun _ _ _ _ _ _ us hl => match us, hl with | [_], _ => rfl
theorem bn17 {K : PySem.W.Frag} {fd : FuncData} (F : FnP K 17 fd) : Binds K fd (ps 17) [] := F.bindsN fun _ _ _ _ _ _ us hl => match us, hl with | [_], _ => rfl
theorem bn18 {K : PySem.W.Frag} {fd : FuncData} (F : FnP K 18 fd) : Binds K fd (ps 18) [] := F.bindsN fun _ _ _ _ _ _ us hl => match us, hl with | [_, _], _ => rfl
theorem bn19 {K : PySem.W.Frag} {fd : FuncData} (F : FnP K 19 fd) : Binds K fd (ps 19) [] := F.bindsN fun _ _ _ _ _ _ us hl => match us, hl with | [_, _], _ => rfl
theorem bn20 {K : PySem.W.Frag} {fd : FuncData} (F : FnP K 20 fd) : Binds K fd (ps 20) [] := F.bindsN fun _ _ _ _ _ _ us hl => match us, hl with | [_], _ => rfl
theorem bn21 {K : PySem.W.Frag} {fd : FuncData} (F : FnP K 21 fd) : Binds K fd (ps 21) [] := F.bindsN fun _ _ _ _ _ _ us hl => match us, hl with | [_], _ => rfl
theorem bn22 {K : PySem.W.Frag} {fd : FuncData} (F : FnP K 22 fd) : Binds K fd (ps 22) [] := F.bindsN fun _ _ _ _ _ _ us hl => match us, hl with | [_], _ => rfl
theorem bn23 {K : PySem.W.Frag} {fd : FuncData} (F : FnP K 23 fd) : Binds K fd (ps 23) [] := F.bindsN fun _ _ _ _ _ _ us hl => match us, hl with | [_], _ => rfl
theorem kbo0 {K : PySem.W.Frag} {fd : Nat → FuncData} (F : FnP K 3 (fd 3)) : KB0 fd := kb_of F fun _ _ _ _ _ _ us ws h1 h2 => match us, ws, h1, h2 with | [], [_], _, _ => rfl
theorem all {P : Program} {w : World} {K : PySem.W.Frag} {mg : PySem.Str → Option Value} {base : Heap} {fd : Nat → FuncData} {wl : Nat} (fx : Fx K mg (fa K) fd nm ps bl 24) (fe : Fe P w K mg base (ev K) sub cn fl flds 8) (fg : Fg K mg cs kn 4) (F : ∀ i, i < 24 → FnP K i (fd i)) : ∀ n, Lv P w K mg base (ev K) (Pr wl) (fa K) fd ps 24 n
  | 0 => lv_zero
  | k + 1 => fun i hi => match i, hi with
    | 0, _ => d0 fx (kbo0 (F 3 (by decide))) fe fg (all fx fe fg F k) (F 0 (by decide))
    | 1, _ => d1 fx (kbo0 (F 3 (by decide))) fe fg (all fx fe fg F k) (F 1 (by decide))
    | 2, _ => d2 fx (kbo0 (F 3 (by decide))) fe fg (all fx fe fg F k) (F 2 (by decide))
    | 3, _ => d3 fx (kbo0 (F 3 (by decide))) fe fg (all fx fe fg F k) (F 3 (by decide))
    | 4, _ => d4 fx (kbo0 (F 3 (by decide))) fe fg (all fx fe fg F k) (F 4 (by decide))
    | 5, _ => d5 fx (kbo0 (F 3 (by decide))) fe fg (all fx fe fg F k) (F 5 (by decide))
    | 6, _ => d6 fx (kbo0 (F 3 (by decide))) fe fg (all fx fe fg F k) (F 6 (by decide))
    | 7, _ => d7 fx (kbo0 (F 3 (by decide))) fe fg (all fx fe fg F k) (F 7 (by decide))
    | 8, _ => d8 fx (kbo0 (F 3 (by decide))) fe fg (all fx fe fg F k) (F 8 (by decide))
    | 9, _ => d9 fx (kbo0 (F 3 (by decide))) fe fg (all fx fe fg F k) (F 9 (by decide))
    | 10, _ => d10 fx (kbo0 (F 3 (by decide))) fe fg (all fx fe fg F k) (F 10 (by decide))
    | 11, _ => d11 fx (kbo0 (F 3 (by decide))) fe fg (all fx fe fg F k) (F 11 (by decide))
    | 12, _ => d12 fx (kbo0 (F 3 (by decide))) fe fg (all fx fe fg F k) (F 12 (by decide))
    | 13, _ => d13 fx (kbo0 (F 3 (by decide))) fe fg (all fx fe fg F k) (F 13 (by decide))
    | 14, _ => d14 fx (kbo0 (F 3 (by decide))) fe fg (all fx fe fg F k) (F 14 (by decide))
    | 15, _ => d15 fx (kbo0 (F 3 (by decide))) fe fg (all fx fe fg F k) (F 15 (by decide))
    | 16, _ => d16 fx (kbo0 (F 3 (by decide))) fe fg (all fx fe fg F k) (F 16 (by decide))
    | 17, _ => d17 fx (kbo0 (F 3 (by decide))) fe fg (all fx fe fg F k) (F 17 (by decide))
    | 18, _ => d18 fx (kbo0 (F 3 (by decide))) fe fg (all fx fe fg F k) (F 18 (by decide))
    | 19, _ => d19 fx (kbo0 (F 3 (by decide))) fe fg (all fx fe fg F k) (F 19 (by decide))
    | 20, _ => d20 fx (kbo0 (F 3 (by decide))) fe fg (all fx fe fg F k) (F 20 (by decide))
    | 21, _ => d21 fx (kbo0 (F 3 (by decide))) fe fg (all fx fe fg F k) (F 21 (by decide))
    | 22, _ => d22 fx (kbo0 (F 3 (by decide))) fe fg (all fx fe fg F k) (F 22 (by decide))
    | 23, _ => d23 fx (kbo0 (F 3 (by decide))) fe fg (all fx fe fg F k) (F 23 (by decide))
    | i + 24, h => absurd h (by omega)
theorem ini0 {P : Program} {w : World} {K : PySem.W.Frag} {mg : PySem.Str → Option Value} {base : Heap} {fd : FuncData} (F : FunD K iD0.name iD0.qual iD0.params iD0.body iD0.scope [] [] (He.fAd K iD0.at_) fd) : ∃ fd ps, FnOk P w K mg base (L2.CX P w) 1 (He.fAd K iD0.at_) fd ps (sInit K (([[97, 116], [119, 111, 114, 100]] : List Tx).map tx)) ∧ Binds K fd ps [] :=
  ⟨fd, iN0, ini_fn F isc0 (by decide) (by decide) rfl rfl fun cdv A outer s H E => (ini_cons rfl (Or.inl rfl) rfl (Or.inl rfl) (ini_cons rfl (Or.inl rfl) rfl (Or.inl rfl) ini_nil)), F.bindsN fun _ _ _ _ _ _ us hl => match us, hl with | [_, _, _], _ => rfl⟩
theorem ini1 {P : Program} {w : World} {K : PySem.W.Frag} {mg : PySem.Str → Option Value} {base : Heap} {fd : FuncData} (F : FunD K iD1.name iD1.qual iD1.params iD1.body iD1.scope [] [] (He.fAd K iD1.at_) fd) : ∃ fd ps, FnOk P w K mg base (L2.CX P w) 1 (He.fAd K iD1.at_) fd ps (sInit K (([[97, 116], [119, 111, 114, 100]] : List Tx).map tx)) ∧ Binds K fd ps [] :=
  ⟨fd, iN1, ini_fn F isc1 (by decide) (by decide) rfl rfl fun cdv A outer s H E => (ini_cons rfl (Or.inl rfl) rfl (Or.inl rfl) (ini_cons rfl (Or.inl rfl) rfl (Or.inl rfl) ini_nil)), F.bindsN fun _ _ _ _ _ _ us hl => match us, hl with | [_, _, _], _ => rfl⟩
theorem ini2 {P : Program} {w : World} {K : PySem.W.Frag} {mg : PySem.Str → Option Value} {base : Heap} {fd : FuncData} (F : FunD K iD2.name iD2.qual iD2.params iD2.body iD2.scope [] [] (He.fAd K iD2.at_) fd) : ∃ fd ps, FnOk P w K mg base (L2.CX P w) 1 (He.fAd K iD2.at_) fd ps (sInit K (([[108, 105, 110, 101], [112, 108, 97, 99, 101], [119, 111, 114, 100]] : List Tx).map tx)) ∧ Binds K fd ps [] :=
  ⟨fd, iN2, ini_fn F isc2 (by decide) (by decide) rfl rfl fun cdv A outer s H E => (ini_cons rfl (Or.inl rfl) rfl (Or.inl rfl) (ini_cons rfl (Or.inl rfl) rfl (Or.inl rfl) (ini_cons rfl (Or.inl rfl) rfl (Or.inl rfl) ini_nil))), F.bindsN fun _ _ _ _ _ _ us hl => match us, hl with | [_, _, _, _], _ => rfl⟩
theorem ini3 {P : Program} {w : World} {K : PySem.W.Frag} {mg : PySem.Str → Option Value} {base : Heap} {fd : FuncData} (F : FunD K iD3.name iD3.qual iD3.params iD3.body iD3.scope [] [] (He.fAd K iD3.at_) fd) : ∃ fd ps, FnOk P w K mg base (L2.CX P w) 1 (He.fAd K iD3.at_) fd ps (sInit K (([[108, 105, 110, 101], [119, 111, 114, 100]] : List Tx).map tx)) ∧ Binds K fd ps [] :=
  ⟨fd, iN3, ini_fn F isc3 (by decide) (by decide) rfl rfl fun cdv A outer s H E => (ini_cons rfl (Or.inl rfl) rfl (Or.inl rfl) (ini_cons rfl (Or.inl rfl) rfl (Or.inl rfl) ini_nil)), F.bindsN fun _ _ _ _ _ _ us hl => match us, hl with | [_, _, _], _ => rfl⟩
theorem facts {K : PySem.W.Frag} {h : Heap} {mg : PySem.Str → Option Value} (X : K.In h) (G : h.Ns mainGlobals mg) (c : SaysY hfa hfn exK K) : ∃ fd : Nat → FuncData, Fx K mg (fa K) fd nm ps bl 24 ∧ (∀ {P : Program} {w : World} {base : Heap}, Fe P w K mg base (ev K) sub cn fl flds 8) ∧ Fg K mg cs kn 4 ∧ ∀ i, i < 24 → FnP K i (fd i) := by
  have hd : ∀ i, ∃ f : FuncData, i < 24 → FnP K i f := fun i => by
    by_cases hi : i < 24
    · obtain ⟨f, F⟩ := c.1.def_ i (d := mkD i) (by unfold hfn; rw [List.getElem?_append_left (by simpa using hi)]; simp [hi])
      exact ⟨f, fun _ => F⟩
    · obtain ⟨f, F⟩ := c.1.def_ 0 (d := mkD 0) rfl
      exact ⟨f, fun h => absurd h hi⟩
  obtain ⟨fd, F⟩ := Classical.axiomOfChoice hd
  have c1 := c.1
  refine ⟨fd, ⟨fun i hi => He.glo_ok X G (c.1.fact i (f := .glo (nm i)) ?_), fun i hi => (F i hi).kp, fun i hi => ?_, fun i x hx => He.free_ok X G (c.1.fact (24 + i) (f := .free x) ?_)⟩, fun {P w base} => fe_of X G rfl rfl (He.ba c.2).1 (by decide) ?_, fg_of X G (He.ba c.2).2, F⟩
  · unfold hfa
    rw [List.getElem?_append_left (by simpa using hi)]
    simp [hi]
  · exact match i, hi with
    | 0, _ => bn0 (F 0 (by decide))
    | 1, _ => bn1 (F 1 (by decide))
    | 2, _ => bn2 (F 2 (by decide))
    | 3, _ => bn3 (F 3 (by decide))
    | 4, _ => bn4 (F 4 (by decide))
    | 5, _ => bn5 (F 5 (by decide))
    | 6, _ => bn6 (F 6 (by decide))
    | 7, _ => bn7 (F 7 (by decide))
    | 8, _ => bn8 (F 8 (by decide))
    | 9, _ => bn9 (F 9 (by decide))
    | 10, _ => bn10 (F 10 (by decide))
    | 11, _ => bn11 (F 11 (by decide))
    | 12, _ => bn12 (F 12 (by decide))
    | 13, _ => bn13 (F 13 (by decide))
    | 14, _ => bn14 (F 14 (by decide))
    | 15, _ => bn15 (F 15 (by decide))
    | 16, _ => bn16 (F 16 (by decide))
    | 17, _ => bn17 (F 17 (by decide))
    | 18, _ => bn18 (F 18 (by decide))
    | 19, _ => bn19 (F 19 (by decide))
    | 20, _ => bn20 (F 20 (by decide))
    | 21, _ => bn21 (F 21 (by decide))
    | 22, _ => bn22 (F 22 (by decide))
    | 23, _ => bn23 (F 23 (by decide))
    | i + 24, h => absurd h (by omega)
  · unfold hfa
    rw [List.getElem?_append_right (by simp)]
    simp [hx]
  · intro c hc hne
    simp only [xl, List.mem_cons, List.not_mem_nil, or_false] at hc
    rcases hc with rfl | rfl | rfl | rfl | rfl | rfl | rfl | rfl
    · exact absurd hne (by decide)
    · exact absurd hne (by decide)
    · exact absurd hne (by decide)
    · exact absurd hne (by decide)
    · obtain ⟨f, F⟩ := c1.def_ 24 (d := iD0) rfl
      exact ⟨4, by decide, by decide, by decide, ini0 F⟩
    · obtain ⟨f, F⟩ := c1.def_ 25 (d := iD1) rfl
      exact ⟨5, by decide, by decide, by decide, ini1 F⟩
    · obtain ⟨f, F⟩ := c1.def_ 26 (d := iD2) rfl
      exact ⟨6, by decide, by decide, by decide, ini2 F⟩
    · obtain ⟨f, F⟩ := c1.def_ 27 (d := iD3) rfl
      exact ⟨7, by decide, by decide, by decide, ini3 F⟩
/-- what is left: the evaluator says True -/
def Goal : Prop := ∀ ns : List Int, ns.length ≤ 63 → ∃ h, callF (Pr wlF) 40 23 [.rol (ns.map .int)] [] = .ok (.bl true) h
theorem goal : Goal := fun ns hn => law_ok 32 ns hn (by unfold wlF; exact Nat.le_trans (by decide : 16777217 ≤ 2 ^ 60) (Ivy.pw (by decide)))
end Lk03
open PySem PySem.W PySem.Calls PyProof.Rows
theorem PySem.Challenge.cw_whichpass_k03_tokens_holds : PySem.Challenge.rw_whichpass_k03_tokens.Holds := by
  w_on; o_law
  refine HandSHeadRun.head_any (r := OpenLaw.row PySem.Challenge.rw_whichpass_k03_tokens) (q := view (OpenLaw.row PySem.Challenge.rw_whichpass_k03_tokens).prog [38]) (H := Lk03.hk) (ob := Lk03.ob) (M := 6000) (loose := Lk03.loose) (d := HandSHeadRun.topDef (OpenLaw.row PySem.Challenge.rw_whichpass_k03_tokens).prog 38) (kwd := []) Lk03.ob_eq
    (by kernel_rfl) (fun s => by kernel_rfl) Lk03.run (by kernel_rfl) (by kernel_rfl) (by kernel_rfl) (by rfl) (by first | assumption | decide +kernel) (by decide +kernel) ⟨rfl, rfl, rfl, rfl, rfl, by decide +kernel⟩ ?hw ?hc
  case hw => w_witness2
  case hc =>
    refine L2.walk_ofE (l := PySem.Challenge.rw_whichpass_k03_tokens) (n := 63) (k := 42) (x := "script") (CX := L2.CX0) rfl (by decide) (by kernel_rfl) ⟨rfl, by decide, by decide⟩ ?F (fun _ _ _ _ z => z)
    intro w mg fb h Y G hmg0
    obtain ⟨K, KX, c⟩ := Y
    obtain ⟨fd, fx, fe, fg, F⟩ := Lk03.facts KX G c
    have hmg : mg ("law" : PySem.Str) = some (.ref fb) := by
      have e : (HandSHeadRun.topDef (OpenLaw.row PySem.Challenge.rw_whichpass_k03_tokens).prog 38).name = ("law" : PySem.Str) := by kernel_rfl
      rw [← e]
      exact hmg0
    have ef := hmg.symm.trans (fx.g 23 (by decide))
    cases ef
    have b := L2.FunD.bindsA (ps := ["script"]) (F 23 (by decide)) fun _ _ _ _ _ _ us hl => match us, hl with | [_], _ => rfl
    exact ⟨K, fd 23, fun vs H Q _ => Ivy.spD (Lk03.ev K) (Ivy.callF (Lk03.Pr Lk03.wlF) 40 23) 1 vs H Q fun _ _ _ => False, KX, fun s v => b s [v] rfl, fun H A ns hl hO hS => Ivy.law_sp (v := Lk03.ev K) Lk03.goal hl hO hS, fun base _ _ => Ivy.fn_calm (Lk03.all fx fe fg F 40 23 (by decide))⟩

