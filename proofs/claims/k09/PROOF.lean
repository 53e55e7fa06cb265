import PyProof.Rows.All
import Wide.All
import OpenK.AllK
import Wide.FinOn
import HandS.ForMost
import HandS.ForExc
import HandS.TupAny
import HandS.TupMul
import HandS.Deep
import HandS.Style
import HandS.Flow
import HandS.RaiseMore
import HandS.IsInst
import HandS.OwnEq
import HandS.More
import HandS.WordsExc
import KE.KDictZip
import KE.KDictItemsList
import HandS.TryMany
import HandS.Zip
import HandS.ListItems
import HandS.Iter
import KE.GoesMore
import KE.GoesEnum
import HandS.Comp
import HandS.DictComp
import HandS.TryOnly
import HandS.Small
import HandS.ExcOwn
import PyProof.EqAt
import PyProof.EqKinds
import PyProof.TupleCall
import KE.OsGo
import HandS.ExcInit
import HandS.Ends
import PyProof.ExcBaseAll.ValueError
import PySem.Challenge.RW_lastingwords_k09_texts_refused
set_option Elab.async false
set_option linter.all false
set_option maxRecDepth 100000
set_option maxHeartbeats 4000000
/-! Mini: values, a heap of a few objects, an intermediate form of the text, and its evaluator. Plain Lean. -/
namespace Mini

/-- a text: its code points -/
abbrev S := List Nat
/-- a value: tuples are trees, what may change is a place of the heap -/
inductive D where
  | non | bl (b : Bool) | int (i : Int) | str (s : S) | tup (xs : List D) | ref (n : Nat) | scr (ns : List Int)
  deriving Inhabited

/-- what stands at a place: a list, a dict (keys texts; keys tuples of texts), a dict under a walk, an instance -/
inductive Ob where
  | lst (xs : List D) | dk (kvs : List (S × D)) | dt (kvs : List (List S × D)) | lk (o : Ob) | ins (c : Nat) (fs : List (Nat × D))
  deriving Inhabited
abbrev Hh := List Ob
abbrev Env := List (Option D)

inductive R (α : Type) where
  | ok (a : α) (A : Hh) | exc (c : Nat) (v : Option D) (A : Hh) | bad
def R.bind {α β : Type} : R α → (α → Hh → R β) → R β
  | .ok a A, f => f a A
  | .exc c v A, _ => .exc c v A
  | .bad, _ => .bad
/-- what a block ends in -/
inductive F where
  | nx (v : Env) (A : Hh) | rt (d : D) (A : Hh) | exc (c : Nat) (x : Option D) (v : Env) (A : Hh) | bad

/-! ### data, for == and in -/
inductive Tr where
  | non | bl (b : Bool) | int (i : Int) | str (s : S) | tup (xs : List Tr) | lst (xs : List Tr)
def b2 (b : Bool) : Int := if b then 1 else 0
mutual
def Tr.eqv : Tr → Tr → Bool
  | .non, y => (match y with | .non => true | _ => false)
  | .bl a, y => (match y with | .bl b => a == b | .int j => b2 a == j | _ => false)
  | .int i, y => (match y with | .int j => i == j | .bl b => i == b2 b | _ => false)
  | .str s, y => (match y with | .str t => decide (s = t) | _ => false)
  | .tup xs, y => (match y with | .tup ys => Tr.eqvs xs ys | _ => false)
  | .lst xs, y => (match y with | .lst ys => Tr.eqvs xs ys | _ => false)
def Tr.eqvs : List Tr → List Tr → Bool
  | [], ys => (match ys with | [] => true | _ => false)
  | x :: xs, ys => (match ys with | y :: r => Tr.eqv x y && Tr.eqvs xs r | _ => false)
end
def sOk (s : S) : Bool := s.all fun c => Nat.blt c 1114112
mutual
def Tr.ok : Tr → Bool
  | .str s => sOk s
  | .tup xs => Tr.oks xs
  | .lst xs => Tr.oks xs
  | _ => true
def Tr.oks : List Tr → Bool
  | [] => true
  | x :: r => Tr.ok x && Tr.oks r
end
/-- a value as data, lists looked up, at most so deep -/
def D.tr (A : Hh) : Nat → D → Option Tr
  | 0, _ => none
  | n + 1, d => match d with
    | .non => some .non
    | .bl b => some (.bl b)
    | .int i => some (.int i)
    | .str s => some (.str s)
    | .tup xs => (xs.mapM (D.tr A n)).map .tup
    | .ref k => match A[k]? with
      | some (.lst xs) => (xs.mapM (D.tr A n)).map .lst
      | _ => none
    | .scr _ => none
/-- x == y of data -/
def eqD (A : Hh) (x y : D) : Option Bool :=
  match D.tr A 20 x, D.tr A 20 y with
  | some a, some b => if a.ok && b.ok then some (a.eqv b) else none
  | _, _ => none
/-- x in xs of data -/
def inD (A : Hh) (x : D) (xs : List D) : Option Bool :=
  match D.tr A 20 x, xs.mapM (D.tr A 20) with
  | some a, some bs => if a.ok && Tr.oks bs then some (bs.any fun b => Tr.eqv b a) else none
  | _, _ => none

/-! ### tables -/
def get1 {κ : Type} [DecidableEq κ] (kvs : List (κ × D)) (k : κ) : Option D :=
  match kvs with
  | [] => none
  | (a, v) :: r => if a = k then some v else get1 r k
/-- a field stored: in its place, or at the end -/
def put1 {κ : Type} [DecidableEq κ] (kvs : List (κ × D)) (k : κ) (v : D) : List (κ × D) :=
  match kvs with
  | [] => [(k, v)]
  | (a, u) :: r => if a = k then (a, v) :: r else (a, u) :: put1 r k v
/-- the same of a dict -/
def putD {κ : Type} [DecidableEq κ] (kvs : List (κ × D)) (k : κ) (v : D) : List (κ × D) :=
  if (kvs.any fun kv => decide (kv.1 = k)) = true then kvs.map (fun kv => if kv.1 = k then (kv.1, v) else kv) else kvs ++ [(k, v)]
def strsOf : List D → Option (List S)
  | [] => some []
  | .str s :: r => (strsOf r).map (s :: ·)
  | _ :: _ => none
def intsOf : List D → Option (List Int)
  | [] => some []
  | .int i :: r => (intsOf r).map (i :: ·)
  | _ :: _ => none
def blsOf : List D → Option (List Bool)
  | [] => some []
  | .bl b :: r => (blsOf r).map (b :: ·)
  | _ :: _ => none

/-! ### small operations -/
def big (n : Nat) : Bool := Nat.ble n 16777216
def ixN (n : Nat) (i : Int) : Option Nat := if 0 ≤ i then (if i < n then some i.toNat else none) else if -(n : Int) ≤ i then some (i + n).toNat else none
def atI {α : Type} (xs : List α) (i : Int) : Option α := (ixN xs.length i).bind fun j => xs[j]?
def cut {α : Type} (xs : List α) (lo hi : Option Int) : List α := (xs.drop (HT.sIx xs.length 0 lo)).take (HT.sIx xs.length xs.length hi - HT.sIx xs.length 0 lo)
inductive O2 where
  | add | sub | mul | fdiv | mod | pow
inductive Cm where
  | eq | ne | lt | le | gt | ge | isN | notN | inn | notin
inductive Bi where
  | len | int | str | list | tuple | dict | dictzip | listzip | sorted | all | any | max2 | min1 | abs
inductive Bm where
  | append | pop | get | index | join | split | startswith
inductive Ty where
  | int | bool | str | tuple | list | dict | cls (c : Nat)

/-- what may be read at a place -/
def rd (A : Hh) (n : Nat) : Option Ob := match A[n]? with | some (.lk o) => some o | o => o
def truth (A : Hh) : D → Option Bool
  | .non => some false
  | .bl b => some b
  | .int i => some (i != 0)
  | .str s => if big s.length then some (!s.isEmpty) else none
  | .tup xs => some (!xs.isEmpty)
  | .ref n => match A[n]? with
    | some (.lst xs) => some (!xs.isEmpty)
    | some (.dk kvs) => some (!kvs.isEmpty)
    | _ => none
  | .scr _ => none

def small64 (i : Int) : Bool := decide (-(2 ^ 64) < i) && decide (i < 2 ^ 64)
def rep {α : Type} (xs : List α) : Nat → List α
  | 0 => []
  | n + 1 => xs ++ rep xs n

def op2 (o : O2) (x y : D) (A : Hh) : R D :=
  match o, x, y with
  | .add, .int i, .int j => .ok (.int (i + j)) A
  | .add, .str s, .str t => if big (s.length + t.length) then .ok (.str (s ++ t)) A else .bad
  | .add, .tup xs, .tup ys => if big (xs.length + ys.length) then .ok (.tup (xs ++ ys)) A else .bad
  | .add, .ref n, .ref m => (match A[n]?, A[m]? with
    | some (.lst xs), some (.lst ys) => if big (xs.length + ys.length) then .ok (.ref A.length) (A ++ [.lst (xs ++ ys)]) else .bad
    | _, _ => .bad)
  | .sub, .int i, .int j => .ok (.int (i - j)) A
  | .mul, .int i, .int j => if small64 i || small64 j then .ok (.int (i * j)) A else .bad
  | .mul, .tup xs, .int k => if decide (2 ≤ k) && decide (k ≤ 1000) && Nat.ble xs.length 1000 && Nat.blt 0 xs.length then .ok (.tup (rep xs k.toNat)) A else .bad
  | .mul, .ref n, .int k => (match A[n]? with
    | some (.lst xs) => if decide (0 ≤ k) && decide (k ≤ 1000) && big (xs.length * k.toNat) then .ok (.ref A.length) (A ++ [.lst (rep xs k.toNat)]) else .bad
    | _ => .bad)
  | .fdiv, .int i, .int j => if decide (0 < j) && decide (j < 1073741824) then .ok (.int (i / j)) A else .bad
  | .mod, .int i, .int j => if decide (0 < j) then .ok (.int (i % j)) A else .bad
  | .pow, .int i, .int j => if decide (0 ≤ j) && decide (j ≤ 100) && small64 i && decide (0 ≤ i) then .ok (.int (i ^ j.toNat)) A else .bad
  | _, _, _ => .bad

/-- == by data, the flat ones at once -/
def eqR (A : Hh) (x y : D) : Option Bool :=
  match x, y with
  | .non, .non => some true | .non, .bl _ => some false | .bl _, .non => some false | .non, .int _ => some false | .int _, .non => some false
  | .non, .str _ => some false | .str _, .non => some false
  | .bl a, .bl b => some (a == b)
  | .int i, .int j => some (decide (i = j))
  | .str s, .str t => some (decide (s = t))
  | .int _, .str _ => some false | .str _, .int _ => some false | .bl _, .str _ => some false | .str _, .bl _ => some false
  | x, y => eqD A x y
def inR (A : Hh) (x y : D) : Option Bool :=
  match y with
  | .str t => (match x with | .str [c] => some (decide (c ∈ t)) | _ => none)
  | .tup ys => inD A x ys
  | .ref n => (match rd A n with
    | some (.lst ys) => inD A x ys
    | some (.dk kvs) => (match x with | .str s => some (get1 kvs s).isSome | _ => none)
    | _ => none)
  | _ => none
def isNon : D → Bool
  | .non => true
  | _ => false
def cmpR (c : Cm) (x y : D) (A : Hh) : Option Bool :=
  match c with
  | .eq => eqR A x y
  | .ne => (eqR A x y).map (!·)
  | .inn => inR A x y
  | .notin => (inR A x y).map (!·)
  | .isN => if isNon y then some (isNon x) else none
  | .notN => if isNon y then some (!isNon x) else none
  | .lt => (match x, y with | .int i, .int j => some (decide (i < j)) | _, _ => none)
  | .le => (match x, y with | .int i, .int j => some (decide (i ≤ j)) | _, _ => none)
  | .gt => (match x, y with | .int i, .int j => some (decide (j < i)) | _, _ => none)
  | .ge => (match x, y with | .int i, .int j => some (decide (j ≤ i)) | _, _ => none)
def negD (x : D) (A : Hh) : R D := match x with | .int i => .ok (.int (-i)) A | _ => .bad
def ofB (o : Option Bool) (A : Hh) : R D := match o with | some b => .ok (.bl b) A | none => .bad
def ofD (o : Option D) (A : Hh) : R D := match o with | some d => .ok d A | none => .bad

def idx (x i : D) (A : Hh) : R D :=
  match x, i with
  | .tup xs, .int k => ofD (atI xs k) A
  | .str s, .int k => if big s.length then (match atI s k with | some c => .ok (.str [c]) A | none => .bad) else .bad
  | .ref n, .int k => (match A[n]? with | some (.lst xs) => ofD (atI xs k) A | _ => .bad)
  | .ref n, .str s => (match rd A n with | some (.dk kvs) => ofD (get1 kvs s) A | _ => .bad)
  | .ref n, .tup ks => (match rd A n, strsOf ks with | some (.dt kvs), some k => ofD (get1 kvs k) A | _, _ => .bad)
  | _, _ => .bad
def slc (x : D) (lo hi : Option Int) (A : Hh) : R D :=
  match x with
  | .tup xs => .ok (.tup (cut xs lo hi)) A
  | .str s => if big s.length then .ok (.str (cut s lo hi)) A else .bad
  | .ref n => (match A[n]? with | some (.lst xs) => .ok (.ref A.length) (A ++ [.lst (cut xs lo hi)]) | _ => .bad)
  | _ => .bad
def revD (x : D) (A : Hh) : R D :=
  match x with
  | .ref n => (match A[n]? with | some (.lst xs) => .ok (.ref A.length) (A ++ [.lst xs.reverse]) | _ => .bad)
  | _ => .bad

/-! ### texts -/
/-- the parts between a sign -/
def splitS (c : Nat) : S → List S
  | [] => [[]]
  | d :: r => if d = c then [] :: splitS c r else (match splitS c r with | w :: ws => (d :: w) :: ws | [] => [[d]])
def joinS (sep : S) : List S → S
  | [] => []
  | [x] => x
  | x :: r => x ++ sep ++ joinS sep r
def natS (n : Nat) : S := (Nat.toDigits 10 n).map Char.toNat
def intS (i : Int) : S := if i < 0 then 45 :: natS i.natAbs else natS i.natAbs
/-- a number of one or two figures, behind at most one - -/
def fig1 (c : Nat) : Option Nat := if Nat.ble 48 c && Nat.ble c 57 then some (c - 48) else none
def figs : S → Option Nat
  | [a] => fig1 a
  | [a, b] => (match fig1 a, fig1 b with | some x, some y => some (x * 10 + y) | _, _ => none)
  | _ => none
def intOf : S → Option Int
  | [] => none
  | c :: r => if c = 45 then (figs r).map (fun (n : Nat) => -(n : Int)) else (figs (c :: r)).map (fun (n : Nat) => (n : Int))

/-! ### built-in functions and methods -/
def insS (x : S) : List S → List S
  | [] => [x]
  | y :: r => if x ≤ y then x :: y :: r else y :: insS x r
def sortS : List S → List S
  | [] => []
  | x :: r => insS x (sortS r)
/-- places of lists of whole numbers, sorted by what stands there -/
def insR (x : Nat × List Int) : List (Nat × List Int) → List (Nat × List Int)
  | [] => [x]
  | y :: r => if x.2 ≤ y.2 then x :: y :: r else y :: insR x r
def sortR : List (Nat × List Int) → List (Nat × List Int)
  | [] => []
  | x :: r => insR x (sortR r)
def rowsOf (A : Hh) : List D → Option (List (Nat × List Int))
  | [] => some []
  | .ref n :: r => (match A[n]? with
    | some (.lst xs) => (intsOf xs).bind fun ns => (rowsOf A r).map ((n, ns) :: ·)
    | _ => none)
  | _ :: _ => none
def minI : List Int → Option Int
  | [] => none
  | [x] => some x
  | x :: r => (minI r).map fun m => if x ≤ m then x else m
def items (A : Hh) : D → Option (List D)
  | .tup xs => some xs
  | .scr ns => some (ns.map .int)
  | .ref n => (match A[n]? with
    | some (.lst xs) => some xs
    | _ => none)
  | _ => none
/-- the pairs of a tuple of pairs whose first parts are texts -/
def pairsOf : List D → Option (List (S × D))
  | [] => some []
  | .tup [.str s, d] :: r => (pairsOf r).map ((s, d) :: ·)
  | _ :: _ => none
def putAll (acc : List (S × D)) : List (S × D) → List (S × D)
  | [] => acc
  | (k, v) :: r => putAll (putD acc k v) r
def newL (xs : List D) (A : Hh) : R D := .ok (.ref A.length) (A ++ [.lst xs])
/-- a new thing -/
def ofO (o : Option Ob) (A : Hh) : R D := match o with | some (.dt _) => .bad | some o => .ok (.ref A.length) (A ++ [o]) | none => .bad

def bLen (A : Hh) : List D → R D
  | [.str s] => if big s.length then .ok (.int s.length) A else .bad
  | [.tup xs] => .ok (.int xs.length) A
  | [.ref n] => (match A[n]? with
    | some (.lst xs) => .ok (.int xs.length) A
    | some (.dk kvs) => .ok (.int kvs.length) A
    | _ => .bad)
  | _ => .bad
def bInt (A : Hh) : List D → R D
  | [.int i] => .ok (.int i) A
  | [.bl b] => .ok (.int (b2 b)) A
  | [.str s] => (match intOf s with | some i => .ok (.int i) A | none => .bad)
  | _ => .bad
def bStr (A : Hh) : List D → R D
  | [.str s] => .ok (.str s) A
  | [.int i] => if Nat.ble i.natAbs 1000 then .ok (.str (intS i)) A else .bad
  | [.non] => .ok (.str [78, 111, 110, 101]) A
  | _ => .bad
def bList (A : Hh) : List D → R D
  | [x] => (match items A x with | some xs => newL xs A | none => .bad)
  | _ => .bad
def bTuple (A : Hh) : List D → R D
  | [.tup xs] => .ok (.tup xs) A
  | [.ref n] => (match A[n]? with | some (.lst xs) => .ok (.tup xs) A | _ => .bad)
  | _ => .bad
def bDict (A : Hh) : List D → R D
  | [.tup ps] => (match pairsOf ps with | some kvs => .ok (.ref A.length) (A ++ [.dk (putAll [] kvs)]) | none => .bad)
  | _ => .bad
def bDictzip (A : Hh) : List D → R D
  | [.tup ks, .tup ds] => (match strsOf ks with | some k => if k.length = ds.length then .ok (.ref A.length) (A ++ [.dk (putAll [] (k.zip ds))]) else .bad | none => .bad)
  | _ => .bad
def bListzip (A : Hh) : List D → R D
  | [.ref n, .ref m] => (match A[n]?, A[m]? with
    | some (.lst xs), some (.lst ys) => newL ((xs.zip ys).map fun p => .tup [p.1, p.2]) A
    | _, _ => .bad)
  | _ => .bad
def bSorted (A : Hh) : List D → R D
  | [.ref n] => (match A[n]? with
    | some (.lst xs) => (match strsOf xs with
      | some ss => if Nat.blt ss.length 64 then newL ((sortS ss).map .str) A else .bad
      | none => (match rowsOf A xs with
        | some rs => if Nat.blt rs.length 64 then newL ((sortR rs).map fun r => .ref r.1) A else .bad
        | none => .bad))
    | _ => .bad)
  | _ => .bad
def bAll (A : Hh) : List D → R D
  | [.ref n] => (match A[n]? with | some (.lst xs) => (match blsOf xs with | some bs => .ok (.bl (bs.all id)) A | none => .bad) | _ => .bad)
  | _ => .bad
def bAny (A : Hh) : List D → R D
  | [.ref n] => (match A[n]? with | some (.lst xs) => (match blsOf xs with | some bs => .ok (.bl (bs.any id)) A | none => .bad) | _ => .bad)
  | _ => .bad
def bMax2 (A : Hh) : List D → R D
  | [.int i, .int j] => .ok (.int (if j > i then j else i)) A
  | _ => .bad
def bMin1 (A : Hh) : List D → R D
  | [.ref n] => (match A[n]? with | some (.lst xs) => (match (intsOf xs).bind minI with | some m => .ok (.int m) A | none => .bad) | _ => .bad)
  | _ => .bad
def bAbs (A : Hh) : List D → R D
  | [.int i] => .ok (.int (if i < 0 then -i else i)) A
  | _ => .bad
def bi (b : Bi) (vs : List D) (A : Hh) : R D :=
  match b with
  | .len => bLen A vs
  | .int => bInt A vs
  | .str => bStr A vs
  | .list => bList A vs
  | .tuple => bTuple A vs
  | .dict => bDict A vs
  | .dictzip => bDictzip A vs
  | .listzip => bListzip A vs
  | .sorted => bSorted A vs
  | .all => bAll A vs
  | .any => bAny A vs
  | .max2 => bMax2 A vs
  | .min1 => bMin1 A vs
  | .abs => bAbs A vs

def mAppend (A : Hh) (x : D) (vs : List D) : R D :=
  match x, vs with
  | .ref n, [y] => (match A[n]? with | some (.lst xs) => if Nat.blt xs.length 16777216 then .ok .non (A.set n (.lst (xs ++ [y]))) else .bad | _ => .bad)
  | _, _ => .bad
def mPop (A : Hh) (x : D) (vs : List D) : R D :=
  match x, vs with
  | .ref n, [] => (match A[n]? with
    | some (.lst xs) => (match xs[xs.length - 1]? with | some y => .ok y (A.set n (.lst xs.dropLast)) | none => .bad)
    | _ => .bad)
  | _, _ => .bad
def mIndex (A : Hh) (x : D) (vs : List D) : R D :=
  match x, vs with
  | .ref n, [.str s] => (match A[n]? with
    | some (.lst xs) => (match strsOf xs with | some ss => (match ss.findIdx? (fun t => decide (t = s)) with | some j => .ok (.int j) A | none => .bad) | none => .bad)
    | _ => .bad)
  | _, _ => .bad
def mJoin (A : Hh) (x : D) (vs : List D) : R D :=
  match x, vs with
  | .str s, [.ref n] => (match A[n]? with
    | some (.lst xs) => (match strsOf xs with
      | some ss => if big ((ss.map List.length).sum + ss.length * s.length) then .ok (.str (joinS s ss)) A else .bad
      | none => .bad)
    | _ => .bad)
  | _, _ => .bad
def mSplit (A : Hh) (x : D) (vs : List D) : R D :=
  match x, vs with
  | .str s, [.str [c]] => if big (s.length + 2) && Nat.blt c 256 then newL ((splitS c s).map .str) A else .bad
  | _, _ => .bad
def mStarts (A : Hh) (x : D) (vs : List D) : R D :=
  match x, vs with
  | .str s, [.str t] => .ok (.bl (t.isPrefixOf s)) A
  | _, _ => .bad
def mGet (A : Hh) (x : D) (vs : List D) : R D :=
  match x, vs with
  | .ref n, [.str k, d] => (match rd A n with | some (.dk kvs) => .ok ((get1 kvs k).getD d) A | _ => .bad)
  | _, _ => .bad
def bm (b : Bm) (x : D) (vs : List D) (A : Hh) : R D :=
  match b with
  | .append => mAppend A x vs
  | .pop => mPop A x vs
  | .index => mIndex A x vs
  | .join => mJoin A x vs
  | .split => mSplit A x vs
  | .startswith => mStarts A x vs
  | .get => mGet A x vs

def isinR (A : Hh) (x : D) (t : Ty) : Option Bool :=
  match x with
  | .non => some false
  | .bl _ => some (match t with | .bool => true | .int => true | _ => false)
  | .int _ => some (match t with | .int => true | _ => false)
  | .str _ => some (match t with | .str => true | _ => false)
  | .tup _ => some (match t with | .tuple => true | _ => false)
  | .ref n => match A[n]? with
    | some (.lst _) => some (match t with | .list => true | _ => false)
    | some (.dk _) => some (match t with | .dict => true | _ => false)
    | some (.dt _) => some (match t with | .dict => true | _ => false)
    | some (.ins c _) => some (match t with | .cls c' => decide (c = c') | _ => false)
    | _ => none
  | .scr _ => none

/-! ### the form -/
inductive T where
  | one (i : Nat) | many (is : List Nat)
mutual
inductive E where
  | bad
  | var (i : Nat) | con (d : D) | glo (g : Nat)
  | tup (es : List E) | lst (es : List E) | dic (ks : List S) (es : List E) | dict0
  | op2 (o : O2) (a b : E) | neg (a : E) | not (a : E) | and (es : List E) | or (es : List E)
  | cmp (c : Cm) (a b : E) | chain (c1 c2 : Cm) (a b c : E) | ife (c a b : E)
  | idx (a i : E) | sl1 (a lo : E) | sl2 (a hi : E) | sl3 (a lo hi : E) | rev (a : E)
  | fld (a : E) (f : Nat)
  | call (f : Nat) (es : List E) (ds : List D) | mk (c : Nat) (es : List E) | meth (c f : Nat) (a : E) (es : List E)
  | bi (b : Bi) (es : List E) | bm (b : Bm) (a : E) (es : List E)
  | gin (a : E) | gidx (a : E) | gget (a b : E)
  | isin (a : E) (t : Ty)
  | lc (own : List Nat) (t : T) (it : I) (c : Option E) (e : E)
  | lc2 (own own1 : List Nat) (t : T) (it : I) (t1 : T) (it1 : I) (e : E)
  | dc (own : List Nat) (t : T) (it : I) (k e : E)
inductive I where
  | e (e : E) | range (e : E) | enum (e : E)
end
/-- an except suite -/
inductive Hk where
  | con (i : Nat) (d : D) | line (i : Nat) (k : Int)
inductive St where
  | bad | pass
  | set (i : Nat) (e : E) | unp (is : List Nat) (e : E) | par (i j : Nat) (a b : E)
  | sfld (a : E) (f : Nat) (e : E) | ssub (a i e : E) | aug (i : Nat) (o : O2) (e : E) | augF (a : E) (f : Nat) (e : E)
  | expr (e : E) | ret (e : E) | retN
  | ife (c : E) (a b : List St)
  | for_ (t : T) (it : I) (body : List St)
  | while_ (c : E) (body : List St)
  | raise_ (c : Nat) (e : Option E)
  | try_ (body : List St) (hs : List (Nat × Option Nat × Hk))

/-! ### tables of a text -/
structure Fn where
  np : Nat
  nl : Nat
  body : List St
structure Pg where
  fns : List Fn
  /-- the module's constants -/
  glo : List D
  /-- the module's table of groups -/
  grp : List (S × S)
  /-- for each class: its __init__ -/
  init : List Nat
  /-- for each class: its __eq__, __len__ -/
  eqm : List (Option Nat)
  lenm : List (Option Nat)
  /-- for each error: those above it, itself the first -/
  sup : List (List Nat)

/-- the __eq__ of an instance on the left, where the right is one of the same class, a tuple, a number -/
def ownEq (P : Pg) (A : Hh) (c : Cm) (x y : D) : Option Nat :=
  match c, x with
  | .eq, .ref n => (match A[n]? with
    | some (.ins k _) => (match P.eqm[k]? with
      | some (some f) => (match y with
        | .tup _ => some f
        | .int _ => some f
        | .ref m => (match A[m]? with | some (.ins j _) => if j = k then some f else none | _ => none)
        | _ => none)
      | _ => none)
    | _ => none)
  | _, _ => none
/-- the __len__ of an instance -/
def ownLen (P : Pg) (A : Hh) (b : Bi) (xs : List D) : Option Nat :=
  match b, xs with
  | .len, [.ref n] => (match A[n]? with
    | some (.ins k _) => (match P.lenm[k]? with | some (some f) => some f | _ => none)
    | _ => none)
  | _, _ => none
def asB (r : R D) : R D := match r with | .ok (.bl b) A => .ok (.bl b) A | _ => .bad
def asN (r : R D) : R D := match r with | .ok (.int i) A => if decide (0 ≤ i) && decide (i < 1000000) then .ok (.int i) A else .bad | _ => .bad
def isIns (A : Hh) (c : Nat) (x : D) : Bool := match x with
  | .ref n => (match A[n]? with | some (.ins k _) => decide (k = c) | _ => false)
  | _ => false
def fldD (x : D) (f : Nat) (A : Hh) : R D := match x with
  | .ref n => (match A[n]? with | some (.ins _ fs) => ofD (get1 fs f) A | _ => .bad)
  | _ => .bad
def recvOk (A : Hh) (b : Bm) (x : D) : Bool := match b, x with
  | .join, .str _ => true
  | .split, .str _ => true
  | .startswith, .str _ => true
  | .append, .ref n => (match A[n]? with | some (.lst _) => true | _ => false)
  | .pop, .ref n => (match A[n]? with | some (.lst _) => true | _ => false)
  | .index, .ref n => (match A[n]? with | some (.lst _) => true | _ => false)
  | _, _ => false
def grpG (gs : List (S × S)) (k : S) : Option S := match gs with
  | [] => none
  | (a, b) :: r => if a = k then some b else grpG r k
def ginD (P : Pg) (x : D) (A : Hh) : R D := match x with | .str s => .ok (.bl (grpG P.grp s).isSome) A | _ => .bad
def gidxD (P : Pg) (x : D) (A : Hh) : R D := match x with | .str s => (match grpG P.grp s with | some t => .ok (.str t) A | none => .bad) | _ => .bad
def ggetD (P : Pg) (x y : D) (A : Hh) : R D := match x with | .str s => .ok (match grpG P.grp s with | some t => .str t | none => y) A | _ => .bad
/-- how a def is called -/
abbrev Call := Nat → List D → Hh → R D

/-- what is walked -/
inductive It where
  | seq (xs : List D) | chr (s : S) | lst (n : Nat) | rng (n : Nat) | enumS (xs : List D) | enumL (n : Nat)
def It.at (A : Hh) : It → Nat → Option (Option D)
  | .seq xs, i => some xs[i]?
  | .chr s, i => some (s[i]?.map fun c => .str [c])
  | .rng n, i => some (if Nat.blt i n then some (.int i) else none)
  | .lst n, i => (match A[n]? with | some (.lst xs) => some xs[i]? | _ => none)
  | .enumS xs, i => some (xs[i]?.map fun d => .tup [.int i, d])
  | .enumL n, i => (match A[n]? with | some (.lst xs) => some (xs[i]?.map fun d => .tup [.int i, d]) | _ => none)
def It.size (A : Hh) : It → Nat
  | .seq xs => xs.length
  | .chr s => s.length
  | .rng n => n
  | .lst n => (match A[n]? with | some (.lst xs) => xs.length | _ => 0)
  | .enumS xs => xs.length
  | .enumL n => (match A[n]? with | some (.lst xs) => xs.length | _ => 0)
/-- what a value gives to a walk -/
def walkOf (d : D) (A : Hh) : Option It :=
  match d with
  | .tup xs => some (.seq xs)
  | .str s => some (.chr s)
  | .scr ns => some (.seq (ns.map .int))
  | .ref n => (match A[n]? with
    | some (.lst _) => some (.lst n)
    | _ => none)
  | _ => none

def setAll (v : Env) : List Nat → List D → Option Env
  | [], [] => some v
  | i :: is, d :: ds => setAll (v.set i (some d)) is ds
  | _, _ => none
def T.put (A : Hh) (v : Env) (d : D) : T → Option Env
  | .one i => some (v.set i (some d))
  | .many is => (match d with | .tup ds => setAll v is ds | .ref n => (match A[n]? with | some (.lst ds) => setAll v is ds | _ => none) | _ => none)
def wipeE (v : Env) : List Nat → Env
  | [] => v
  | i :: is => (wipeE v is).set i none

/-- the turns of a comprehension: the items so far -/
def lcGo (f : D → Hh → R (Option D)) (it : It) : Nat → Nat → List D → Hh → R (List D)
  | 0, _, _, _ => .bad
  | m + 1, i, acc, A => match it.at A i with
    | none => .bad
    | some none => .ok acc A
    | some (some x) => match f x A with
      | .ok (some y) A' => if Nat.blt acc.length 16777216 then lcGo f it m (i + 1) (acc ++ [y]) A' else .bad
      | .ok none A' => lcGo f it m (i + 1) acc A'
      | _ => .bad
/-- .. of one with two clauses: a turn takes the items so far on -/
def lcGo2 (f : D → List D → Hh → R (List D)) (it : It) : Nat → Nat → List D → Hh → R (List D)
  | 0, _, _, _ => .bad
  | m + 1, i, acc, A => match it.at A i with
    | none => .bad
    | some none => .ok acc A
    | some (some x) => match f x acc A with
      | .ok acc' A' => lcGo2 f it m (i + 1) acc' A'
      | _ => .bad
/-- .. of a dict's -/
def dcGo (f : D → Hh → R (S × D)) (it : It) : Nat → Nat → List (S × D) → Hh → R (List (S × D))
  | 0, _, _, _ => .bad
  | m + 1, i, acc, A => match it.at A i with
    | none => .bad
    | some none => .ok acc A
    | some (some x) => match f x A with
      | .ok p A' => if Nat.blt acc.length 1000000 then dcGo f it m (i + 1) (putD acc p.1 p.2) A' else .bad
      | _ => .bad

/-- a turn of a comprehension -/
def lcF (t : T) (own : List Nat) (v : Env) (fc : Env → Hh → R Bool) (fe : Env → Hh → R D) (x : D) (A : Hh) : R (Option D) :=
  match t.put A (wipeE v own) x with
  | none => .bad
  | some v' => (fc v' A).bind fun b A => if b then (fe v' A).bind fun y A => .ok (some y) A else .ok none A
def lcF1 (t1 : T) (own1 : List Nat) (v' : Env) (fe : Env → Hh → R D) (x1 : D) (acc : List D) (A : Hh) : R (List D) :=
  match t1.put A (wipeE v' own1) x1 with
  | none => .bad
  | some v2 => (fe v2 A).bind fun y A => if Nat.blt acc.length 16777216 then .ok (acc ++ [y]) A else .bad
def lcF2 (t : T) (own : List Nat) (v : Env) (fi : Env → Hh → R It) (f1 : Env → D → List D → Hh → R (List D)) (x : D) (acc : List D) (A : Hh) : R (List D) :=
  match t.put A (wipeE v own) x with
  | none => .bad
  | some v' => (fi v' A).bind fun it1 A => lcGo2 (f1 v') it1 (it1.size A + 1) 0 acc A
def dcF (t : T) (own : List Nat) (v : Env) (fk fe : Env → Hh → R D) (x : D) (A : Hh) : R (S × D) :=
  match t.put A (wipeE v own) x with
  | none => .bad
  | some v' => (fk v' A).bind fun y A => match y with
    | .str s => (fe v' A).bind fun z A => .ok (s, z) A
    | _ => .bad

section
variable (P : Pg) (C : Call)
mutual
def evE : E → Env → Hh → R D
  | .bad, _, _ => .bad
  | .var i, v, A => (match v[i]? with | some (some d) => .ok d A | _ => .bad)
  | .con d, _, A => .ok d A
  | .glo g, _, A => ofD P.glo[g]? A
  | .tup es, v, A => (evEs es v A).bind fun ds A => if big ds.length then .ok (.tup ds) A else .bad
  | .lst es, v, A => (evEs es v A).bind fun ds A => if big ds.length then newL ds A else .bad
  | .dic ks es, v, A => (evEs es v A).bind fun ds A => if ks.length = ds.length then .ok (.ref A.length) (A ++ [.dk (putAll [] (ks.zip ds))]) else .bad
  | .dict0, _, A => ofO (some (.dt [])) A
  | .op2 o a b, v, A => (evE a v A).bind fun x A => (evE b v A).bind fun y A => op2 o x y A
  | .neg a, v, A => (evE a v A).bind negD
  | .not a, v, A => (evE a v A).bind fun x A => (match truth A x with | some b => .ok (.bl (!b)) A | none => .bad)
  | .and es, v, A => evAnd es v A
  | .or es, v, A => evOr es v A
  | .cmp c a b, v, A => (evE a v A).bind fun x A => (evE b v A).bind fun y A => (match ownEq P A c x y with
      | some f => asB (C f [x, y] A)
      | none => ofB (cmpR c x y A) A)
  | .chain c1 c2 a b c, v, A => (evE a v A).bind fun x A => (evE b v A).bind fun y A =>
      (match cmpR c1 x y A with
      | some true => (evE c v A).bind fun z A => ofB (cmpR c2 y z A) A
      | some false => .ok (.bl false) A
      | none => .bad)
  | .ife c a b, v, A => (evE c v A).bind fun x A => (match truth A x with | some true => evE a v A | some false => evE b v A | none => .bad)
  | .idx a i, v, A => (evE a v A).bind fun x A => (evE i v A).bind fun y A => idx x y A
  | .sl1 a lo, v, A => (evE a v A).bind fun x A => (evE lo v A).bind fun y A => (match y with | .int i => slc x (some i) none A | _ => .bad)
  | .sl2 a hi, v, A => (evE a v A).bind fun x A => (evE hi v A).bind fun y A => (match y with | .int i => slc x none (some i) A | _ => .bad)
  | .sl3 a lo hi, v, A => (evE a v A).bind fun x A => (evE lo v A).bind fun y A => (match y with
      | .int i => (evE hi v A).bind fun z A => (match z with | .int j => slc x (some i) (some j) A | _ => .bad)
      | _ => .bad)
  | .rev a, v, A => (evE a v A).bind fun x A => revD x A
  | .fld a f, v, A => (evE a v A).bind fun x A => fldD x f A
  | .call f es ds, v, A => (evEs es v A).bind fun xs A => C f (xs ++ ds) A
  | .mk c es, v, A => (evEs es v A).bind fun xs A => (match P.init[c]? with
      | some f => (C f (.ref A.length :: xs) (A ++ [.ins c []])).bind fun r A' => (match r with | .non => .ok (.ref A.length) A' | _ => .bad)
      | none => .bad)
  | .meth c f a es, v, A => (evE a v A).bind fun x A => if isIns A c x then (evEs es v A).bind fun xs A => C f (x :: xs) A else .bad
  | .bi b es, v, A => (evEs es v A).bind fun xs A => (match ownLen P A b xs with
      | some f => asN (C f xs A)
      | none => bi b xs A)
  | .bm b a es, v, A => (evE a v A).bind fun x A => if recvOk A b x then (evEs es v A).bind fun xs A => bm b x xs A else .bad
  | .gin a, v, A => (evE a v A).bind fun x A => ginD P x A
  | .gidx a, v, A => (evE a v A).bind fun x A => gidxD P x A
  | .gget a b, v, A => (evE a v A).bind fun x A => (evE b v A).bind fun y A => ggetD P x y A
  | .isin a t, v, A => (evE a v A).bind fun x A => ofB (isinR A x t) A
  | .lc own t it c e, v, A => (evI it v A).bind fun it A => (lcGo (lcF t own v (fun v A => evC c v A) (fun v A => evE e v A)) it (it.size A + 1) 0 [] A).bind fun ys A => newL ys A
  | .lc2 own own1 t it t1 it1 e, v, A => (evI it v A).bind fun it A =>
      (lcGo2 (lcF2 t own v (fun v A => evI it1 v A) (fun v' => lcF1 t1 own1 v' (fun v A => evE e v A))) it (it.size A + 1) 0 [] A).bind fun ys A => newL ys A
  | .dc own t it k e, v, A => (evI it v A).bind fun it A => (dcGo (dcF t own v (fun v A => evE k v A) (fun v A => evE e v A)) it (it.size A + 1) 0 [] A).bind fun ps A => .ok (.ref A.length) (A ++ [.dk ps])
def evEs : List E → Env → Hh → R (List D)
  | [], _, A => .ok [] A
  | e :: r, v, A => (evE e v A).bind fun x A => (evEs r v A).bind fun xs A => .ok (x :: xs) A
def evAnd : List E → Env → Hh → R D
  | [], _, _ => .bad
  | e :: r, v, A => (match r with
    | [] => evE e v A
    | _ :: _ => (evE e v A).bind fun x A => (match truth A x with | some true => evAnd r v A | some false => .ok x A | none => .bad))
def evOr : List E → Env → Hh → R D
  | [], _, _ => .bad
  | e :: r, v, A => (match r with
    | [] => evE e v A
    | _ :: _ => (evE e v A).bind fun x A => (match truth A x with | some true => .ok x A | some false => evOr r v A | none => .bad))
def evC : Option E → Env → Hh → R Bool
  | none, _, A => .ok true A
  | some e, v, A => (evE e v A).bind fun x A => (match truth A x with | some b => .ok b A | none => .bad)
def evI : I → Env → Hh → R It
  | .e e, v, A => (evE e v A).bind fun x A => (match walkOf x A with | some w => .ok w A | none => .bad)
  | .range e, v, A => (evE e v A).bind fun x A => (match x with | .int i => if decide (i < 1000000) && decide (-1000000 < i) then .ok (.rng i.toNat) A else .bad | _ => .bad)
  | .enum e, v, A => (evE e v A).bind fun x A => (match x with
      | .tup xs => .ok (.enumS xs) A
      | .ref n => (match A[n]? with | some (.lst _) => .ok (.enumL n) A | _ => .bad)
      | _ => .bad)
end

/-! ### statements -/
def R.toF (v : Env) (r : R D) (f : D → Hh → F) : F :=
  match r with
  | .ok d A => f d A
  | .exc c x A => .exc c x v A
  | .bad => .bad
def R.toFB (v : Env) (A' : R D) (f : Bool → Hh → F) : F :=
  R.toF v A' fun d A => match truth A d with | some b => f b A | none => .bad
/-- the turns of a for -/
def forGo (t : T) (body : Env → Hh → F) (it : It) : Nat → Nat → Env → Hh → F
  | 0, _, _, _ => .bad
  | m + 1, i, v, A => match it.at A i with
    | none => .bad
    | some none => .nx v A
    | some (some x) => match t.put A v x with
      | none => .bad
      | some v' => match body v' A with
        | .nx v'' A' => forGo t body it m (i + 1) v'' A'
        | .rt d A' => .rt d A'
        | .exc c x v A => .exc c x v A
        | .bad => .bad
def whileGo (test : Env → Hh → R D) (body : Env → Hh → F) : Nat → Env → Hh → F
  | 0, _, _ => .bad
  | m + 1, v, A => R.toFB v (test v A) fun b A => if b then (match body v A with
      | .nx v' A' => whileGo test body m v' A'
      | .rt d A' => .rt d A'
      | .exc c x v A => .exc c x v A
      | .bad => .bad) else .nx v A
/-- the first clause that takes an error -/
def clause (P : Pg) (c : Nat) : List (Nat × Option Nat × Hk) → Option (Option Nat × Hk)
  | [] => none
  | (k, n, h) :: r => if ((P.sup[c]?).getD []).contains k then some (n, h) else clause P c r
def suite (n : Option Nat) (h : Hk) (x : Option D) (v : Env) : Option Env :=
  match h with
  | .con i d => some (match n with | none => v.set i (some d) | some j => (v.set i (some d)).set j none)
  | .line i k => match n, x with
    | some j, some (.int l) => if Nat.blt j v.length then some ((v.set i (some (.int (l + k)))).set j none) else none
    | _, _ => none
mutual
def evS : St → Env → Hh → F
  | .bad, _, _ => .bad
  | .pass, v, A => .nx v A
  | .set i e, v, A => (evE P C e v A).toF v fun d A => .nx (v.set i (some d)) A
  | .unp is e, v, A => (evE P C e v A).toF v fun d A => (match d with
      | .tup ds => (match setAll v is ds with | some v' => .nx v' A | none => .bad)
      | .ref n => (match A[n]? with | some (.lst ds) => (match setAll v is ds with | some v' => .nx v' A | none => .bad) | _ => .bad)
      | _ => .bad)
  | .par i j a b, v, A => (evE P C a v A).toF v fun x A => (evE P C b v A).toF v fun y A => .nx ((v.set i (some x)).set j (some y)) A
  | .sfld a f e, v, A => (evE P C e v A).toF v fun d A => (evE P C a v A).toF v fun x A => (match x with
      | .ref n => (match A[n]? with | some (.ins c fs) => if Nat.blt fs.length 100 then .nx v (A.set n (.ins c (put1 fs f d))) else .bad | _ => .bad)
      | _ => .bad)
  | .ssub a i e, v, A => (evE P C e v A).toF v fun d A => (evE P C a v A).toF v fun x A => (evE P C i v A).toF v fun y A => (match x, y with
      | .ref n, .int k => (match A[n]? with
        | some (.lst xs) => (match ixN xs.length k with | some j => .nx v (A.set n (.lst (xs.set j d))) | none => .bad)
        | _ => .bad)
      | .ref n, .str k => (match A[n]? with
        | some (.dk kvs) => if Nat.blt kvs.length 1000000 then .nx v (A.set n (.dk (putD kvs k d))) else .bad
        | _ => .bad)
      | .ref n, .tup ks => (match A[n]?, strsOf ks with
        | some (.dt kvs), some k => if Nat.blt kvs.length 1000000 then .nx v (A.set n (.dt (putD kvs k d))) else .bad
        | _, _ => .bad)
      | _, _ => .bad)
  | .aug i o e, v, A => (match v[i]? with
      | some (some x) => (evE P C e v A).toF v fun y A => (match o, x, y with
        | .add, .int _, .int _ => (op2 o x y A).toF v fun z A => .nx (v.set i (some z)) A
        | _, _, _ => .bad)
      | _ => .bad)
  | .augF a f e, v, A => (evE P C a v A).toF v fun x A => (match x with
      | .ref n => (match A[n]? with
        | some (.ins c0 fs) => (match get1 fs f with
          | some (.int k) => (evE P C e v A).toF v fun y A => (match y with
            | .int l => (match A[n]? with | some (.ins c fs) => if decide (c = c0) && Nat.blt fs.length 100 then .nx v (A.set n (.ins c (put1 fs f (.int (k + l))))) else .bad | _ => .bad)
            | _ => .bad)
          | _ => .bad)
        | _ => .bad)
      | _ => .bad)
  | .expr e, v, A => (evE P C e v A).toF v fun _ A => .nx v A
  | .ret e, v, A => (evE P C e v A).toF v fun d A => .rt d A
  | .retN, _, A => .rt .non A
  | .ife c a b, v, A => R.toFB v (evE P C c v A) fun k A => if k then evSs a v A else evSs b v A
  | .for_ t it body, v, A => (match evI P C it v A with
      | .ok it A => forGo t (fun v A => evSs body v A) it (it.size A + 1) 0 v A
      | .exc c x A => .exc c x v A
      | .bad => .bad)
  | .while_ c body, v, A => whileGo (evE P C c) (fun v A => evSs body v A) 400 v A
  | .raise_ c e, v, A => (match e with
      | none => .exc c none v A
      | some e => (evE P C e v A).toF v fun d A => .exc c (some d) v A)
  | .try_ body hs, v, A => (match evSs body v A with
      | .exc c x v' A' => if Nat.blt c P.sup.length then (match clause P c hs with
        | none => .exc c x v' A'
        | some (n, h) => (match suite n h x v' with | some v'' => .nx v'' A' | none => .bad)) else .bad
      | r => r)
def evSs : List St → Env → Hh → F
  | [], v, A => .nx v A
  | s :: r, v, A => (match evS s v A with
    | .nx v' A' => evSs r v' A'
    | .rt d A' => .rt d A'
    | .exc c x v A => .exc c x v A
    | .bad => .bad)
end
end

/-- a def's body run on its arguments -/
def runFn (P : Pg) (C : Call) (f : Nat) (vs : List D) (A : Hh) : R D :=
  match P.fns[f]? with
  | none => .bad
  | some fn => if vs.length = fn.np then (match evSs P C fn.body (vs.map some ++ List.replicate (fn.nl - vs.length) none) A with
      | .nx _ A' => .ok .non A'
      | .rt d A' => .ok d A'
      | .exc c x _ A' => .exc c x A'
      | .bad => .bad) else .bad
/-- calls of so many levels -/
def callN (P : Pg) : Nat → Call
  | 0 => fun _ _ _ => .bad
  | n + 1 => runFn P (callN P n)
end Mini

set_option Elab.async false
set_option linter.all false
set_option maxRecDepth 100000
set_option maxHeartbeats 4000000
/-! Mini over the hand layer: what a value, a heap of Mini's stand for. -/
namespace Mini
open PySem L2

theorem pr_mono {α β : Type} {F G : α → β → Prop} (f : ∀ a b, F a b → G a b) : ∀ {l : List α} {r : List β}, Paired F l r → Paired G l r
  | _, _, .nil => .nil
  | _, _, .cons h t => .cons (f _ _ h) (pr_mono f t)
theorem pr_len {α β : Type} {F : α → β → Prop} : ∀ {l : List α} {r : List β}, Paired F l r → l.length = r.length
  | _, _, .nil => rfl
  | _, _, .cons _ t => by simp [pr_len t]
theorem pr_get {α β : Type} {F : α → β → Prop} : ∀ {l : List α} {r : List β} {i : Nat} {a : α}, Paired F l r → l[i]? = some a → ∃ b, r[i]? = some b ∧ F a b
  | _, _, _, _, .nil, h => by simp at h
  | _, _, 0, _, .cons h _, e => by simp at e; subst e; exact ⟨_, rfl, h⟩
  | _, _, i + 1, a, .cons _ t, e => by
    obtain ⟨b, h1, h2⟩ := pr_get (i := i) (a := a) t (by simpa using e)
    exact ⟨b, by simpa using h1, h2⟩
theorem pr_app {α β : Type} {F : α → β → Prop} : ∀ {l l' : List α} {r r' : List β}, Paired F l r → Paired F l' r' → Paired F (l ++ l') (r ++ r')
  | _, _, _, _, .nil, h => h
  | _, _, _, _, .cons a t, h => .cons a (pr_app t h)
theorem pr_take {α β : Type} {F : α → β → Prop} : ∀ {l : List α} {r : List β} (n : Nat), Paired F l r → Paired F (l.take n) (r.take n)
  | _, _, 0, _ => by simp; exact .nil
  | _, _, _ + 1, .nil => .nil
  | _, _, n + 1, .cons a t => .cons a (pr_take n t)
theorem pr_drop {α β : Type} {F : α → β → Prop} : ∀ {l : List α} {r : List β} (n : Nat), Paired F l r → Paired F (l.drop n) (r.drop n)
  | _, _, 0, h => h
  | _, _, _ + 1, .nil => .nil
  | _, _, n + 1, .cons _ t => pr_drop n t
theorem pr_set {α β : Type} {F : α → β → Prop} {a : α} {b : β} (h : F a b) : ∀ {l : List α} {r : List β} (n : Nat), Paired F l r → Paired F (l.set n a) (r.set n b)
  | _, _, _, .nil => .nil
  | _, _, 0, .cons _ t => .cons h t
  | _, _, n + 1, .cons q t => .cons q (pr_set h n t)
theorem pr_rev {α β : Type} {F : α → β → Prop} : ∀ {l : List α} {r : List β}, Paired F l r → Paired F l.reverse r.reverse
  | _, _, .nil => .nil
  | _, _, .cons a t => by
    rw [List.reverse_cons, List.reverse_cons]
    exact pr_app (pr_rev t) (.cons a .nil)
theorem pr_map {α β γ δ : Type} {F : α → β → Prop} {G : γ → δ → Prop} {f : α → γ} {g : β → δ} (h : ∀ a b, F a b → G (f a) (g b)) : ∀ {l : List α} {r : List β}, Paired F l r → Paired G (l.map f) (r.map g)
  | _, _, .nil => .nil
  | _, _, .cons a t => .cons (h _ _ a) (pr_map h t)

/-- where the classes, the errors stand; the fields' names -/
structure Nm where
  nc : Nat
  fa : Nat → Addr
  cl : Nat → Addr
  er : Nat → Addr
  fl : Nat → Str
  inj : ∀ i j, fl i = fl j → i = j

abbrev txt (s : S) : Str := ⟨s.toArray⟩
theorem txt_inj {s t : S} (h : txt s = txt t) : s = t := by
  have h1 : s.toArray = t.toArray := by injection h
  exact congrArg Array.toList h1
theorem txt_len (s : S) : (txt s).length = s.length := by show s.toArray.size = _; simp

/-! ### values -/
section
variable (K : PySem.W.Frag)
def WrT (a : Addr) (xs : List V) : Prop := ∃ (o : Obj) (its : Array Value) (n : Nat), K.lookup a = some o ∧ o.cls = .type "tuple" ∧ o.data = .seq its n ∧ its.size ≤ sizeLine ∧ Vals xs its.toList
def WrL (a : Addr) (xs : List V) : Prop := ∃ (o : Obj) (its : Array Value) (n : Nat), K.lookup a = some o ∧ o.cls = .type "list" ∧ o.dict = none ∧ o.data = .seq its n ∧ its.size ≤ sizeLine ∧ Vals xs its.toList
variable (H : Hp) (ρ : List Addr)
def TupR (a : Addr) (xs : List V) : Prop := (H a = some (.tup xs) ∧ a ∉ ρ) ∨ WrT K a xs
mutual
def Rp : D → V → Prop
  | .non, v => v = .non
  | .bl b, v => v = .bl b
  | .int i, v => v = .int i
  | .str s, v => v = .str (txt s)
  | .tup ds, v => ∃ a xs, v = .ref a ∧ TupR K H ρ a xs ∧ Rps ds xs
  | .ref n, v => ∃ a, v = .ref a ∧ ρ[n]? = some a
  | .scr ns, v => ∃ a, v = .ref a ∧ (((∃ o, H a = some (.frz o (.lst (ns.map V.int)))) ∧ a ∉ ρ) ∨ WrL K a (ns.map V.int))
def Rps : List D → List V → Prop
  | [], xs => xs = []
  | d :: ds, xs => ∃ x r, xs = x :: r ∧ Rp d x ∧ Rps ds r
end
end
theorem rps_iff {K : PySem.W.Frag} {H : Hp} {ρ : List Addr} : ∀ {ds : List D} {xs : List V}, Rps K H ρ ds xs ↔ Paired (Rp K H ρ) ds xs
  | [], xs => by
    unfold Rps
    exact ⟨fun h => by subst h; exact .nil, fun h => by cases h; rfl⟩
  | d :: ds, xs => by
    unfold Rps
    constructor
    · rintro ⟨x, r, rfl, h1, h2⟩
      exact .cons h1 (rps_iff.mp h2)
    · intro h
      cases h with
      | cons h1 h2 => exact ⟨_, _, rfl, h1, rps_iff.mpr h2⟩
theorem TupR.sq {K : PySem.W.Frag} {H : Hp} {ρ : List Addr} {a : Addr} {xs : List V} (h : TupR K H ρ a xs) : SqT K H a xs := by
  rcases h with ⟨h, _⟩ | h
  · exact .inl (.inl h)
  · exact .inr h

/-! ### what goes on -/
/-- new things are new, what is not Mini's own stands -/
structure Ext (H : Hp) (ρ : List Addr) (H' : Hp) (ρ' : List Addr) : Prop where
  pre : ∃ e, ρ' = ρ ++ e ∧ ∀ a ∈ e, H a = none
  keep : ∀ a o, H a = some o → a ∉ ρ → H' a = some o
theorem Ext.refl {H : Hp} {ρ : List Addr} : Ext H ρ H ρ := ⟨⟨[], by simp, by simp⟩, fun _ _ h _ => h⟩
theorem Ext.out {H H' : Hp} {ρ ρ' : List Addr} {a : Addr} {o : HO} (x : Ext H ρ H' ρ') (h : H a = some o) (n : a ∉ ρ) : a ∉ ρ' := by
  obtain ⟨e, rfl, he⟩ := x.pre
  rw [List.mem_append]
  rintro (h1 | h1)
  · exact n h1
  · rw [he a h1] at h; cases h
theorem Ext.trans {H H1 H2 : Hp} {ρ ρ1 ρ2 : List Addr} (x : Ext H ρ H1 ρ1) (y : Ext H1 ρ1 H2 ρ2) (hn : ∀ a o, H a = some o → a ∈ ρ → H1 a ≠ none) : Ext H ρ H2 ρ2 := by
  obtain ⟨e, he, h1⟩ := x.pre
  obtain ⟨f, hf, h2⟩ := y.pre
  refine ⟨⟨e ++ f, by rw [hf, he, List.append_assoc], fun a ha => ?_⟩, fun a o h n => y.keep a o (x.keep a o h n) (x.out h n)⟩
  rcases List.mem_append.mp ha with z | z
  · exact h1 a z
  · cases q : H a with
    | none => rfl
    | some o =>
      by_cases hm : a ∈ ρ
      · exact absurd (h2 a z) (hn a o q hm)
      · have w := h2 a z
        rw [x.keep a o q hm] at w
        cases w
theorem Ext.get {H H' : Hp} {ρ ρ' : List Addr} {n : Nat} {a : Addr} (x : Ext H ρ H' ρ') (h : ρ[n]? = some a) : ρ'[n]? = some a := by
  obtain ⟨e, rfl, _⟩ := x.pre
  have hl : n < ρ.length := (List.getElem?_eq_some_iff.mp h).1
  rw [List.getElem?_append_left hl]
  exact h
theorem Rd.ext {H H' : Hp} {ρ ρ' : List Addr} {a : Addr} {u : HO} (x : Ext H ρ H' ρ') (h : Rd H a u) (n : a ∉ ρ) : Rd H' a u ∧ a ∉ ρ' := by
  rcases h with h | ⟨o, h⟩
  · exact ⟨.inl (x.keep _ _ h n), x.out h n⟩
  · exact ⟨.inr ⟨o, x.keep _ _ h n⟩, x.out h n⟩
section
variable {K : PySem.W.Frag} {H H' : Hp} {ρ ρ' : List Addr}
theorem TupR.ext {a : Addr} {xs : List V} (x : Ext H ρ H' ρ') (h : TupR K H ρ a xs) : TupR K H' ρ' a xs := by
  rcases h with ⟨h, n⟩ | h
  · exact .inl ⟨x.keep _ _ h n, x.out h n⟩
  · exact .inr h
mutual
theorem Rp.ext (x : Ext H ρ H' ρ') : ∀ {d : D} {v : V}, Rp K H ρ d v → Rp K H' ρ' d v
  | .non, _, h => h
  | .bl _, _, h => h
  | .int _, _, h => h
  | .str _, _, h => h
  | .tup ds, v, h => by
    unfold Rp at h ⊢
    obtain ⟨a, xs, e, t, r⟩ := h
    exact ⟨a, xs, e, t.ext x, Rps.ext x r⟩
  | .ref n, v, h => by
    unfold Rp at h ⊢
    obtain ⟨a, e, t⟩ := h
    exact ⟨a, e, x.get t⟩
  | .scr ns, v, h => by
    unfold Rp at h ⊢
    obtain ⟨a, e, t⟩ := h
    refine ⟨a, e, ?_⟩
    rcases t with ⟨⟨o, t⟩, n⟩ | t
    · exact .inl ⟨⟨o, x.keep _ _ t n⟩, x.out t n⟩
    · exact .inr t
theorem Rps.ext (x : Ext H ρ H' ρ') : ∀ {ds : List D} {xs : List V}, Rps K H ρ ds xs → Rps K H' ρ' ds xs
  | [], _, h => by unfold Rps at h ⊢; exact h
  | d :: ds, xs, h => by
    unfold Rps at h ⊢
    obtain ⟨y, r, e, h1, h2⟩ := h
    exact ⟨y, r, e, Rp.ext x h1, Rps.ext x h2⟩
end
end

/-! ### the heap -/
section
variable (N : Nm) (K : PySem.W.Frag) (H : Hp) (ρ : List Addr)
def KRs : List (S × D) → List (Key × V) → Prop := Paired fun (p : S × D) (q : Key × V) => q.1 = Sum.inr (txt p.1) ∧ Rp K H ρ p.2 q.2
def FRs : List (Nat × D) → List (Str × V) → Prop := Paired fun (p : Nat × D) (q : Str × V) => q.1 = N.fl p.1 ∧ Rp K H ρ p.2 q.2
/-- what stands at a place, as the layer tracks it -/
def HoR : Ob → HO → Prop
  | .lst ds, u => ∃ xs, u = .lst xs ∧ Rps K H ρ ds xs
  | .dk kvs, u => ∃ ws, u = .dK ws ∧ KRs K H ρ kvs ws
  | .dt _, _ => False
  | .lk o, u => ∃ ob u', u = .frz ob u' ∧ ((∃ kvs ws, o = .dk kvs ∧ u' = .dK ws ∧ KRs K H ρ kvs ws))
  | .ins c fs, u => c < N.nc ∧ ∃ dx ws, u = .ins (N.cl c) dx ws ∧ FRs N K H ρ fs ws
structure HR (A : Hh) : Prop where
  len : ρ.length = A.length
  nd : ρ.Nodup
  at_ : ∀ (n : Nat) (a : Addr) (ob : Ob), ρ[n]? = some a → A[n]? = some ob → ∃ u, H a = some u ∧ HoR N K H ρ ob u
end
section
variable {N : Nm} {K : PySem.W.Frag} {H H' : Hp} {ρ ρ' : List Addr} {A : Hh}
theorem KRs.ext {kvs : List (S × D)} {ws : List (Key × V)} (x : Ext H ρ H' ρ') (h : KRs K H ρ kvs ws) : KRs K H' ρ' kvs ws := pr_mono (fun _ _ z => ⟨z.1, Rp.ext x z.2⟩) h
theorem FRs.ext {kvs : List (Nat × D)} {ws : List (Str × V)} (x : Ext H ρ H' ρ') (h : FRs N K H ρ kvs ws) : FRs N K H' ρ' kvs ws := pr_mono (fun _ _ z => ⟨z.1, Rp.ext x z.2⟩) h
theorem HoR.ext (x : Ext H ρ H' ρ') {ob : Ob} {u : HO} (h : HoR N K H ρ ob u) : HoR N K H' ρ' ob u := by
  cases ob with
  | lst ds => obtain ⟨xs, e, r⟩ := h; exact ⟨xs, e, Rps.ext x r⟩
  | dk kvs => obtain ⟨xs, e, r⟩ := h; exact ⟨xs, e, r.ext x⟩
  | dt kvs => exact h
  | lk o => obtain ⟨ob, u', e, kvs, ws, e1, e2, r⟩ := h; exact ⟨ob, u', e, kvs, ws, e1, e2, r.ext x⟩
  | ins c fs => obtain ⟨hc, dx, ws, e, r⟩ := h; exact ⟨hc, dx, ws, e, r.ext x⟩
theorem HR.has (h : HR N K H ρ A) {a : Addr} (ha : a ∈ ρ) : H a ≠ none := by
  obtain ⟨n, hn, e⟩ := List.getElem_of_mem ha
  have e1 : ρ[n]? = some a := by rw [List.getElem?_eq_getElem hn, e]
  have hn2 : n < A.length := by rw [← h.len]; exact hn
  obtain ⟨u, hu, _⟩ := h.at_ n a _ e1 (List.getElem?_eq_getElem hn2)
  rw [hu]; exact fun z => by cases z
theorem HR.trans {H1 H2 : Hp} {ρ1 ρ2 : List Addr} {A1 : Hh} (h1 : HR N K H1 ρ1 A1) (x : Ext H ρ H1 ρ1) (y : Ext H1 ρ1 H2 ρ2) : Ext H ρ H2 ρ2 :=
  x.trans y fun a _ _ hm => h1.has (by obtain ⟨e, rfl, _⟩ := x.pre; exact List.mem_append_left _ hm)
/-- a new thing that Mini has no place for -/
theorem Ext.new {p : Addr} {u : HO} (hp : H p = none) : Ext H ρ (upd H p u) ρ :=
  ⟨⟨[], by simp, by simp⟩, fun a o h _ => by rw [upd_ne (ne_of_none h hp)]; exact h⟩
theorem HR.new {p : Addr} {u : HO} (h : HR N K H ρ A) (hp : H p = none) : HR N K (upd H p u) ρ A :=
  ⟨h.len, h.nd, fun n a ob e1 e2 => by
    obtain ⟨w, hw, r⟩ := h.at_ n a ob e1 e2
    exact ⟨w, by rw [upd_ne (ne_of_none hw hp)]; exact hw, r.ext (Ext.new hp)⟩⟩
theorem HR.fresh {p : Addr} (h : HR N K H ρ A) (hp : H p = none) : p ∉ ρ := fun hm => h.has hm hp
/-- a new tuple -/
theorem Rp.tupNew {p : Addr} {ds : List D} {xs : List V} (h : HR N K H ρ A) (hp : H p = none) (r : Rps K H ρ ds xs) : Rp K (upd H p (.tup xs)) ρ (.tup ds) (.ref p) := by
  unfold Rp
  exact ⟨p, xs, rfl, .inl ⟨upd_same, h.fresh hp⟩, Rps.ext (Ext.new hp) r⟩
/-- a new place -/
theorem Ext.alloc {p : Addr} {u : HO} (hp : H p = none) : Ext H ρ (upd H p u) (ρ ++ [p]) :=
  ⟨⟨[p], rfl, fun a ha => by rw [List.mem_singleton.mp ha]; exact hp⟩, fun a o h _ => by rw [upd_ne (ne_of_none h hp)]; exact h⟩
theorem HR.alloc {p : Addr} {u : HO} {ob : Ob} (h : HR N K H ρ A) (hp : H p = none) (r : HoR N K H ρ ob u) : HR N K (upd H p u) (ρ ++ [p]) (A ++ [ob]) := by
  have x : Ext H ρ (upd H p u) (ρ ++ [p]) := Ext.alloc hp
  refine ⟨by simp [h.len], ?_, fun n a o e1 e2 => ?_⟩
  · rw [List.nodup_append]
    refine ⟨h.nd, by simp, fun a ha b hb e => ?_⟩
    rw [List.mem_singleton.mp hb] at e
    exact h.fresh hp (e ▸ ha)
  · by_cases hn : n < ρ.length
    · rw [List.getElem?_append_left hn] at e1
      rw [List.getElem?_append_left (by rw [← h.len]; exact hn)] at e2
      obtain ⟨w, hw, r'⟩ := h.at_ n a o e1 e2
      exact ⟨w, by rw [upd_ne (ne_of_none hw hp)]; exact hw, r'.ext x⟩
    · rw [List.getElem?_append_right (by omega)] at e1
      rw [List.getElem?_append_right (by rw [← h.len]; omega), ← h.len] at e2
      have z : n - ρ.length = 0 := by
        have := (List.getElem?_eq_some_iff.mp e1).1
        simp at this
        omega
      rw [z] at e1 e2
      simp at e1 e2
      subst e1 e2
      exact ⟨u, upd_same, r.ext x⟩
theorem Rp.refNew {p : Addr} {u : HO} (h : HR N K H ρ A) : Rp K (upd H p u) (ρ ++ [p]) (.ref A.length) (.ref p) := by
  unfold Rp
  exact ⟨p, rfl, by rw [← h.len, List.getElem?_append_right (Nat.le_refl _)]; simp⟩
/-- a place is written -/
theorem Ext.write {a : Addr} {u : HO} (ha : a ∈ ρ) : Ext H ρ (upd H a u) ρ :=
  ⟨⟨[], by simp, by simp⟩, fun b o h n => by rw [upd_ne (fun e => n (by rw [e]; exact ha))]; exact h⟩
theorem HR.write {n : Nat} {a : Addr} {u : HO} {ob : Ob} (h : HR N K H ρ A) (hn : ρ[n]? = some a) (r : HoR N K H ρ ob u) : HR N K (upd H a u) ρ (A.set n ob) := by
  have ha : a ∈ ρ := List.mem_of_getElem? hn
  have x : Ext H ρ (upd H a u) ρ := Ext.write ha
  have hnl : n < ρ.length := (List.getElem?_eq_some_iff.mp hn).1
  refine ⟨by simp [h.len], h.nd, fun m b o e1 e2 => ?_⟩
  by_cases hm : n = m
  · subst hm
    rw [hn] at e1
    cases e1
    rw [List.getElem?_set_self (by rw [← h.len]; exact hnl)] at e2
    cases e2
    exact ⟨u, upd_same, r.ext x⟩
  · rw [List.getElem?_set_ne hm] at e2
    obtain ⟨w, hw, r'⟩ := h.at_ m b o e1 e2
    refine ⟨w, ?_, r'.ext x⟩
    rw [upd_ne]
    · exact hw
    · intro e
      subst e
      exact hm (L2.nd_ix h.nd hn e1)
/-- the place of a value -/
theorem Rp.ref {n : Nat} {v : V} (h : Rp K H ρ (.ref n) v) : ∃ a, v = .ref a ∧ ρ[n]? = some a := by
  unfold Rp at h
  exact h
theorem HR.look {n : Nat} {a : Addr} {ob : Ob} (h : HR N K H ρ A) (e : ρ[n]? = some a) (e2 : A[n]? = some ob) : ∃ u, H a = some u ∧ HoR N K H ρ ob u := h.at_ n a ob e e2
end

/-! ### the slots -/
def ER (K : PySem.W.Frag) (H : Hp) (ρ : List Addr) (v : Env) (σ : L2.St) : Prop :=
  σ.length = v.length ∧ ∀ (i : Nat) (d : D), v[i]? = some (some d) → ∃ x, σ[i]? = some (some x) ∧ Rp K H ρ d x
section
variable {K : PySem.W.Frag} {H H' : Hp} {ρ ρ' : List Addr} {v : Env} {σ : L2.St}
theorem ER.ext (x : Ext H ρ H' ρ') (h : ER K H ρ v σ) : ER K H' ρ' v σ := ⟨h.1, fun i d e => let ⟨y, h1, h2⟩ := h.2 i d e; ⟨y, h1, h2.ext x⟩⟩
theorem ER.set {i : Nat} {d : D} {x : V} (h : ER K H ρ v σ) (r : Rp K H ρ d x) : ER K H ρ (v.set i (some d)) (σ.set i (some x)) := by
  refine ⟨by simp [h.1], fun j d' e => ?_⟩
  by_cases hij : i = j
  · subst hij
    by_cases hl : i < v.length
    · rw [List.getElem?_set_self hl] at e
      cases e
      exact ⟨x, by rw [List.getElem?_set_self (by rw [h.1]; exact hl)], r⟩
    · rw [List.getElem?_eq_none (by simpa using hl)] at e
      cases e
  · rw [List.getElem?_set_ne hij] at e
    obtain ⟨y, h1, h2⟩ := h.2 j d' e
    exact ⟨y, by rw [List.getElem?_set_ne hij]; exact h1, h2⟩
theorem ER.clr {i : Nat} (h : ER K H ρ v σ) : ER K H ρ (v.set i none) (σ.set i none) := by
  refine ⟨by simp [h.1], fun j d' e => ?_⟩
  by_cases hij : i = j
  · subst hij
    by_cases hl : i < v.length
    · rw [List.getElem?_set_self hl] at e
      cases e
    · rw [List.getElem?_eq_none (by simpa using hl)] at e
      cases e
  · rw [List.getElem?_set_ne hij] at e
    obtain ⟨y, h1, h2⟩ := h.2 j d' e
    exact ⟨y, by rw [List.getElem?_set_ne hij]; exact h1, h2⟩
theorem ER.wipe (h : ER K H ρ v σ) : ∀ own : List Nat, ER K H ρ (wipeE v own) (L2.wipe σ own)
  | [] => h
  | i :: r => by
    unfold wipeE L2.wipe
    exact (h.wipe r).clr
end

/-! ### what is wanted of a value, an error -/
/-- an error's own: nothing, or its one field -/
def ExR (K : PySem.W.Frag) (H : Hp) (ρ : List Addr) : Option D → Option Addr → Prop
  | none, dd => dd = none
  | some d, dd => ∃ a x, dd = some a ∧ H a = some (.xd [(("line" : Str), x)]) ∧ Rp K H ρ d x
section
variable (N : Nm) (K : PySem.W.Frag)
def RQ (H : Hp) (ρ : List Addr) (r : R D) (Q : VK) (E : XK) : Prop :=
  match r with
  | .ok d A => ∀ x H' ρ', Ext H ρ H' ρ' → HR N K H' ρ' A → Rp K H' ρ' d x → Q x H'
  | .exc c v A => ∀ dd H' ρ', Ext H ρ H' ρ' → HR N K H' ρ' A → ExR K H' ρ' v dd → E (.ref (N.er c)) dd H'
  | .bad => False
/-- the same of anything that Mini reckons: what stands for it, and what is wanted -/
def RG {α : Type} (H : Hp) (ρ : List Addr) (r : R α) (G : α → Hh → Hp → List Addr → Prop) (E : XK) : Prop :=
  match r with
  | .ok d A => ∀ H' ρ', Ext H ρ H' ρ' → HR N K H' ρ' A → G d A H' ρ'
  | .exc c v A => ∀ dd H' ρ', Ext H ρ H' ρ' → HR N K H' ρ' A → ExR K H' ρ' v dd → E (.ref (N.er c)) dd H'
  | .bad => False
end
section
variable {N : Nm} {K : PySem.W.Frag} {H H1 : Hp} {ρ ρ1 : List Addr} {A A1 : Hh} {E : XK} {Q : VK}
theorem RQ.up {r : R D} (h1 : HR N K H1 ρ1 A1) (x : Ext H ρ H1 ρ1) (h : RQ N K H ρ r Q E) : RQ N K H1 ρ1 r Q E := by
  cases r with
  | ok d A => exact fun x' H' ρ' y hr rp => h x' H' ρ' (h1.trans x y) hr rp
  | exc c v A => exact fun dd H' ρ' y hr ex => h dd H' ρ' (h1.trans x y) hr ex
  | bad => exact h
/-- of a chain: the first part's end leads on -/
theorem RQ.bind {α : Type} {r : R α} {k : α → Hh → R D} (h : RQ N K H ρ (r.bind k) Q E) : RG N K H ρ r (fun a A' H' ρ' => RQ N K H' ρ' (k a A') Q E) E := by
  cases r with
  | ok d A => exact fun H' ρ' x hr => RQ.up hr x h
  | exc c v A => exact h
  | bad => exact h
theorem RQ.ok {d : D} {x : V} (h : RQ N K H ρ (.ok d A) Q E) (hr : HR N K H ρ A) (rp : Rp K H ρ d x) : Q x H := h x H ρ .refl hr rp
theorem RQ.okE {d : D} {x : V} {H' : Hp} {ρ' : List Addr} (h : RQ N K H ρ (.ok d A) Q E) (y : Ext H ρ H' ρ') (hr : HR N K H' ρ' A) (rp : Rp K H' ρ' d x) : Q x H' := h x H' ρ' y hr rp
theorem RQ.ofRG {r : R D} (h : RG N K H ρ r (fun d A H' ρ' => ∀ x, Rp K H' ρ' d x → Q x H') E) : RQ N K H ρ r Q E := by
  cases r with
  | ok d A => exact fun x H' ρ' y hr rp => h H' ρ' y hr x rp
  | exc c v A => exact h
  | bad => exact h
theorem RG.up {α : Type} {r : R α} {G : α → Hh → Hp → List Addr → Prop} (h1 : HR N K H1 ρ1 A1) (x : Ext H ρ H1 ρ1) (h : RG N K H ρ r G E) : RG N K H1 ρ1 r G E := by
  cases r with
  | ok d A => exact fun H' ρ' y hr => h H' ρ' (h1.trans x y) hr
  | exc c v A => exact fun dd H' ρ' y hr ex => h dd H' ρ' (h1.trans x y) hr ex
  | bad => exact h
theorem RG.imp {α : Type} {r : R α} {G G' : α → Hh → Hp → List Addr → Prop} (h : RG N K H ρ r G E) (f : ∀ a A H' ρ', HR N K H' ρ' A → Ext H ρ H' ρ' → G a A H' ρ' → G' a A H' ρ') : RG N K H ρ r G' E := by
  cases r with
  | ok d A => exact fun H' ρ' y hr => f _ _ _ _ hr y (h H' ρ' y hr)
  | exc c v A => exact h
  | bad => exact h
theorem RG.bind {α β : Type} {r : R α} {k : α → Hh → R β} {G : β → Hh → Hp → List Addr → Prop} (h : RG N K H ρ (r.bind k) G E) : RG N K H ρ r (fun a A' H' ρ' => RG N K H' ρ' (k a A') G E) E := by
  cases r with
  | ok d A => exact fun H' ρ' x hr => RG.up hr x h
  | exc c v A => exact h
  | bad => exact h
end
end Mini

set_option Elab.async false
set_option linter.all false
set_option maxRecDepth 100000
set_option maxHeartbeats 4000000
/-! Mini's operations against the layer's readings: operators. -/
namespace Mini
open PySem L2

theorem big_le {n : Nat} (h : big n = true) : n ≤ sizeLine := by rw [sizeLine_eq]; exact Nat.le_of_ble_eq_true h
section
variable {N : Nm} {K : PySem.W.Frag} {H : Hp} {ρ : List Addr} {A : Hh} {E : XK} {Q : VK}
theorem rps_len {ds : List D} {xs : List V} (r : Rps K H ρ ds xs) : ds.length = xs.length := pr_len (rps_iff.mp r)
theorem Rp.tupE {ds : List D} {x : V} (r : Rp K H ρ (.tup ds) x) : ∃ a xs, x = .ref a ∧ SqT K H a xs ∧ Rps K H ρ ds xs := by
  unfold Rp at r
  obtain ⟨a, xs, e, t, r⟩ := r
  exact ⟨a, xs, e, t.sq, r⟩
theorem HR.lst (h : HR N K H ρ A) {n : Nat} {x : V} {ds : List D} (r : Rp K H ρ (.ref n) x) (e : A[n]? = some (.lst ds)) : ∃ a xs, x = .ref a ∧ ρ[n]? = some a ∧ H a = some (.lst xs) ∧ Rps K H ρ ds xs := by
  obtain ⟨a, rfl, ha⟩ := r.ref
  obtain ⟨u, hu, xs, rfl, r⟩ := h.look ha e
  exact ⟨a, xs, rfl, ha, hu, r⟩
theorem HR.dk (h : HR N K H ρ A) {n : Nat} {x : V} {kvs : List (S × D)} (r : Rp K H ρ (.ref n) x) (e : A[n]? = some (.dk kvs)) : ∃ a ws, x = .ref a ∧ ρ[n]? = some a ∧ H a = some (.dK ws) ∧ KRs K H ρ kvs ws := by
  obtain ⟨a, rfl, ha⟩ := r.ref
  obtain ⟨u, hu, xs, rfl, r⟩ := h.look ha e
  exact ⟨a, xs, rfl, ha, hu, r⟩
theorem HR.rdk (h : HR N K H ρ A) {n : Nat} {x : V} {kvs : List (S × D)} (r : Rp K H ρ (.ref n) x) (e : rd A n = some (.dk kvs)) : ∃ a ws, x = .ref a ∧ ρ[n]? = some a ∧ Rd H a (.dK ws) ∧ KRs K H ρ kvs ws := by
  obtain ⟨a, rfl, ha⟩ := r.ref
  unfold rd at e
  split at e
  · rename_i o ho
    cases e
    obtain ⟨u, hu, ob, u', rfl, kvs', ws, e1, rfl, r⟩ := h.look ha ho
    cases e1
    exact ⟨a, ws, rfl, ha, .inr ⟨ob, hu⟩, r⟩
  · obtain ⟨u, hu, xs, rfl, r⟩ := h.look ha e
    exact ⟨a, xs, rfl, ha, .inl hu, r⟩
theorem HR.rdt (h : HR N K H ρ A) {n : Nat} {x : V} {kvs : List (List S × D)} (r : Rp K H ρ (.ref n) x) (e : rd A n = some (.dt kvs)) : False := by
  obtain ⟨a, rfl, ha⟩ := r.ref
  unfold rd at e
  split at e
  · rename_i o ho
    cases e
    obtain ⟨u, hu, ob, u', rfl, kvs', ws, e1, rfl, r⟩ := h.look ha ho
    cases e1
  · obtain ⟨u, hu, f⟩ := h.look ha e
    exact f
theorem HR.ins (h : HR N K H ρ A) {n c : Nat} {x : V} {fs : List (Nat × D)} (r : Rp K H ρ (.ref n) x) (e : A[n]? = some (.ins c fs)) : ∃ a dx ws, x = .ref a ∧ ρ[n]? = some a ∧ H a = some (.ins (N.cl c) dx ws) ∧ FRs N K H ρ fs ws ∧ c < N.nc := by
  obtain ⟨a, rfl, ha⟩ := r.ref
  obtain ⟨u, hu, hc, dx, ws, rfl, r⟩ := h.look ha e
  exact ⟨a, dx, ws, rfl, ha, hu, r, hc⟩
theorem RQ.tup {ds : List D} {xs : List V} (q : RQ N K H ρ (.ok (.tup ds) A) Q E) (h : HR N K H ρ A) (r : Rps K H ρ ds xs) : ∀ p, H p = none → Q (.ref p) (upd H p (.tup xs)) :=
  fun p hp => q.okE (Ext.new hp) (h.new hp) (Rp.tupNew h hp r)
theorem RQ.obj {ob : Ob} {u : HO} (q : RQ N K H ρ (.ok (.ref A.length) (A ++ [ob])) Q E) (h : HR N K H ρ A) (r : HoR N K H ρ ob u) : ∀ p, H p = none → Q (.ref p) (upd H p u) :=
  fun p hp => q.okE (Ext.alloc hp) (h.alloc hp r) (Rp.refNew h)
theorem RQ.wr {n : Nat} {a : Addr} {ob : Ob} {u : HO} {d : D} {x : V} (q : RQ N K H ρ (.ok d (A.set n ob)) Q E) (h : HR N K H ρ A) (ha : ρ[n]? = some a) (r : HoR N K H ρ ob u) (rd : Rp K H ρ d x) : Q x (upd H a u) :=
  q.okE (Ext.write (List.mem_of_getElem? ha)) (h.write ha r) (rd.ext (Ext.write (List.mem_of_getElem? ha)))
theorem ho_lst {ds : List D} {xs : List V} (r : Rps K H ρ ds xs) : HoR N K H ρ (.lst ds) (.lst xs) := ⟨xs, rfl, r⟩
theorem rps_app {ds es : List D} {xs ys : List V} (r : Rps K H ρ ds xs) (q : Rps K H ρ es ys) : Rps K H ρ (ds ++ es) (xs ++ ys) := rps_iff.mpr (pr_app (rps_iff.mp r) (rps_iff.mp q))
theorem rps_nil : Rps K H ρ [] [] := rps_iff.mpr .nil
theorem rps_cons {d : D} {ds : List D} {x : V} {xs : List V} (r : Rp K H ρ d x) (q : Rps K H ρ ds xs) : Rps K H ρ (d :: ds) (x :: xs) := rps_iff.mpr (.cons r (rps_iff.mp q))
theorem rps_nil_iff {ds : List D} {xs : List V} (r : Rps K H ρ ds xs) : xs = [] ↔ ds = [] := by
  have h := rps_len r
  constructor
  · intro e; subst e; exact List.eq_nil_of_length_eq_zero h
  · intro e; subst e; exact List.eq_nil_of_length_eq_zero h.symm

/-! ### a + b .. -/
def rStrAdd : R2 := fun x y H Q => ∃ i j, x = .str i ∧ y = .str j ∧ i.length + j.length ≤ sizeLine ∧ Q (.str (i ++ j)) H
def rAdd (K : PySem.W.Frag) : R2 := fun x y H Q => rI0 (fun i j => .int (i + j)) x y H Q ∨ rStrAdd x y H Q ∨ rCatA K x y H Q ∨ rCat x y H Q
theorem op_addAll {X : Cx} : OpR X (binaryOp .Add) (rAdd X.K) := op_add.or (op_add_str.or (op_catA.or op_cat))
theorem txt_app (s t : S) : txt s ++ txt t = txt (s ++ t) := by
  show (⟨s.toArray ++ t.toArray⟩ : Str) = ⟨(s ++ t).toArray⟩
  simp
theorem add_ok {dx dy : D} {x y : V} (h : HR N K H ρ A) (rx : Rp K H ρ dx x) (ry : Rp K H ρ dy y) (q : RQ N K H ρ (op2 .add dx dy A) Q E) : rAdd K x y H Q := by
  cases dx <;> cases dy <;> simp only [op2] at q <;> try exact q.elim
  · rename_i i j
    cases rx; cases ry
    exact .inl ⟨i, j, rfl, rfl, q.ok h rfl⟩
  · rename_i s t
    cases rx; cases ry
    split at q
    · rename_i hb
      refine .inr (.inl ⟨_, _, rfl, rfl, by rw [txt_len, txt_len]; exact big_le hb, ?_⟩)
      rw [txt_app]
      exact q.ok h rfl
    · exact q.elim
  · rename_i ds es
    split at q
    · rename_i hb
      obtain ⟨a, xs, rfl, ta, ra⟩ := id rx.tupE
      obtain ⟨b, ys, rfl, tb, rb⟩ := id ry.tupE
      refine .inr (.inr (.inl ⟨a, b, xs, ys, rfl, rfl, ta, tb, by rw [← rps_len ra, ← rps_len rb]; exact big_le hb, fun e => ?_, fun _ e => ?_, fun _ _ => q.tup h (rps_app ra rb)⟩))
      · have e2 := (rps_nil_iff ra).mp e
        subst e2
        exact q.ok h ry
      · have e2 := (rps_nil_iff rb).mp e
        subst e2
        rw [List.append_nil] at q
        exact q.ok h rx
    · exact q.elim
  · rename_i n m
    split at q
    · rename_i ds es e1 e2
      split at q
      · rename_i hb
        obtain ⟨a, xs, rfl, _, ha, ra⟩ := h.lst rx e1
        obtain ⟨b, ys, rfl, _, hb', rb⟩ := h.lst ry e2
        exact .inr (.inr (.inr ⟨a, b, xs, ys, rfl, rfl, ha, hb', by rw [← rps_len ra, ← rps_len rb]; exact big_le hb, q.obj h (ho_lst (rps_app ra rb))⟩))
      · exact q.elim
    · exact q.elim
theorem sub_ok {dx dy : D} {x y : V} (h : HR N K H ρ A) (rx : Rp K H ρ dx x) (ry : Rp K H ρ dy y) (q : RQ N K H ρ (op2 .sub dx dy A) Q E) : rI0 (fun i j => .int (i - j)) x y H Q := by
  cases dx <;> cases dy <;> simp only [op2] at q <;> try exact q.elim
  rename_i i j
  cases rx; cases ry
  exact ⟨i, j, rfl, rfl, q.ok h rfl⟩
theorem fdiv_ok {dx dy : D} {x y : V} (h : HR N K H ρ A) (rx : Rp K H ρ dx x) (ry : Rp K H ρ dy y) (q : RQ N K H ρ (op2 .fdiv dx dy A) Q E) : rI CDiv (fun i j => .int (i / j)) x y H Q := by
  cases dx <;> cases dy <;> simp only [op2] at q <;> try exact q.elim
  rename_i i j
  cases rx; cases ry
  split at q
  · rename_i hc
    simp only [Bool.and_eq_true, decide_eq_true_eq] at hc
    exact ⟨i, j, rfl, rfl, hc, q.ok h rfl⟩
  · exact q.elim
theorem mod_ok {dx dy : D} {x y : V} (h : HR N K H ρ A) (rx : Rp K H ρ dx x) (ry : Rp K H ρ dy y) (q : RQ N K H ρ (op2 .mod dx dy A) Q E) : rI (fun _ j => 0 < j) (fun i j => .int (i % j)) x y H Q := by
  cases dx <;> cases dy <;> simp only [op2] at q <;> try exact q.elim
  rename_i i j
  cases rx; cases ry
  split at q
  · rename_i hc
    exact ⟨i, j, rfl, rfl, of_decide_eq_true hc, q.ok h rfl⟩
  · exact q.elim
theorem pow_ok {dx dy : D} {x y : V} (h : HR N K H ρ A) (rx : Rp K H ρ dx x) (ry : Rp K H ρ dy y) (q : RQ N K H ρ (op2 .pow dx dy A) Q E) : rI CPow (fun i j => .int (i ^ j.toNat)) x y H Q := by
  cases dx <;> cases dy <;> simp only [op2] at q <;> try exact q.elim
  rename_i i j
  cases rx; cases ry
  split at q
  · rename_i hc
    simp only [Bool.and_eq_true, decide_eq_true_eq, small64] at hc
    refine ⟨i, j, rfl, rfl, ⟨hc.1.1.1, by omega, ?_⟩, q.ok h rfl⟩
    omega
  · exact q.elim
theorem rps_rep {ds : List D} {xs : List V} (r : Rps K H ρ ds xs) : ∀ n : Nat, Rps K H ρ (rep ds n) (rep xs n)
  | 0 => rps_nil
  | n + 1 => rps_app r (rps_rep r n)
theorem rep_flat {α : Type} (xs : List α) : ∀ n : Nat, (List.replicate n xs).flatten = rep xs n
  | 0 => rfl
  | n + 1 => by rw [List.replicate_succ, List.flatten_cons, rep_flat xs n]; rfl
def rMul (K : PySem.W.Frag) : R2 := fun x y H Q => rI CMul (fun i j => .int (i * j)) x y H Q ∨ rRepT K x y H Q ∨ rRep x y H Q
theorem op_mulAll {X : Cx} : OpR X (binaryOp .Mult) (rMul X.K) := op_mul.or (op_repT.or op_rep)
theorem small_cmul {i j : Int} (h : (small64 i || small64 j) = true) : CMul i j := by
  unfold small64 at h
  simp only [Bool.or_eq_true, Bool.and_eq_true, decide_eq_true_eq] at h
  exact h
theorem mul_ok {dx dy : D} {x y : V} (h : HR N K H ρ A) (rx : Rp K H ρ dx x) (ry : Rp K H ρ dy y) (q : RQ N K H ρ (op2 .mul dx dy A) Q E) : rMul K x y H Q := by
  cases dx <;> cases dy <;> simp only [op2] at q <;> try exact q.elim
  · rename_i i j
    cases rx; cases ry
    split at q
    · rename_i hc
      exact .inl ⟨i, j, rfl, rfl, small_cmul hc, q.ok h rfl⟩
    · exact q.elim
  · rename_i ds k
    cases ry
    split at q
    · rename_i hc
      simp only [Bool.and_eq_true, decide_eq_true_eq] at hc
      obtain ⟨⟨⟨h2, h3⟩, h4⟩, h5⟩ := hc
      obtain ⟨a, xs, rfl, ta, ra⟩ := id rx.tupE
      have hl := rps_len ra
      refine .inr (.inl ⟨a, k, xs, rfl, rfl, ta, ?_, h2, h3, ?_, ?_⟩)
      · intro e
        rw [(rps_nil_iff ra).mp e] at h5
        exact absurd h5 (by decide)
      · rw [← hl]; exact Nat.le_of_ble_eq_true h4
      · rw [rep_flat]
        exact q.tup h (rps_rep ra _)
    · exact q.elim
  · rename_i n k
    cases ry
    split at q
    · rename_i ds e1
      split at q
      · rename_i hc
        simp only [Bool.and_eq_true, decide_eq_true_eq] at hc
        obtain ⟨⟨h2, h3⟩, h4⟩ := hc
        obtain ⟨a, xs, rfl, _, ha, ra⟩ := h.lst rx e1
        refine .inr (.inr ⟨a, k, xs, rfl, rfl, ha, by omega, by omega, ?_, ?_⟩)
        · rw [← rps_len ra]; exact big_le h4
        · rw [rep_flat]
          exact q.obj h (ho_lst (rps_rep ra _))
      · exact q.elim
    · exact q.elim
/-- -a -/
theorem neg_ok {dx : D} {x : V} (h : HR N K H ρ A) (rx : Rp K H ρ dx x) (q : RQ N K H ρ (negD dx A) Q E) : rU (fun i => .int (-i)) x H Q := by
  cases dx <;> try exact q.elim
  rename_i i
  cases rx
  exact ⟨i, rfl, q.ok h rfl⟩
end

/-! ### data -/
mutual
def Tr.py : Tr → PyData
  | .non => .none
  | .bl b => .bool b
  | .int i => .int i
  | .str s => .str (txt s)
  | .tup xs => .tuple (Tr.pys xs)
  | .lst xs => .list (Tr.pys xs)
def Tr.pys : List Tr → List PyData
  | [] => []
  | x :: r => Tr.py x :: Tr.pys r
end
theorem txt_beq (s t : S) : (txt s == txt t) = decide (s = t) := by
  rw [Bool.eq_iff_iff]
  simp only [beq_iff_eq, decide_eq_true_eq]
  exact ⟨txt_inj, fun e => by rw [e]⟩
mutual
theorem eqv_py : ∀ a b : Tr, PyData.eqv a.py b.py = Tr.eqv a b
  | .non, b => by cases b <;> simp [Tr.py, Tr.eqv, PyData.eqv]
  | .bl x, b => by cases b <;> simp [Tr.py, Tr.eqv, PyData.eqv, b2]
  | .int x, b => by cases b <;> simp [Tr.py, Tr.eqv, PyData.eqv, b2]
  | .str x, b => by
    cases b with
    | str y => simp only [Tr.py, Tr.eqv, PyData.eqv]; exact txt_beq x y
    | _ => simp [Tr.py, Tr.eqv, PyData.eqv]
  | .tup xs, b => by
    cases b with
    | tup ys => simp only [Tr.py, Tr.eqv, PyData.eqv]; exact eqvs_py xs ys
    | _ => simp [Tr.py, Tr.eqv, PyData.eqv]
  | .lst xs, b => by
    cases b with
    | lst ys => simp only [Tr.py, Tr.eqv, PyData.eqv]; exact eqvs_py xs ys
    | _ => simp [Tr.py, Tr.eqv, PyData.eqv]
theorem eqvs_py : ∀ xs ys : List Tr, PyData.eqvAll (Tr.pys xs) (Tr.pys ys) = Tr.eqvs xs ys
  | [], ys => by cases ys <;> simp [Tr.pys, Tr.eqvs, PyData.eqvAll]
  | x :: xs, ys => by
    cases ys with
    | nil => simp [Tr.pys, Tr.eqvs, PyData.eqvAll]
    | cons y ys => simp only [Tr.pys, Tr.eqvs, PyData.eqvAll]; rw [eqv_py x y, eqvs_py xs ys]
end
theorem sOk_py (s : S) : PySem.PyData.strOk (txt s) = sOk s := by
  unfold PySem.PyData.strOk sOk
  show s.toArray.all _ = _
  rw [List.all_toArray]
  congr 1
  funext c
  rw [Bool.eq_iff_iff]
  simp only [decide_eq_true_eq, Nat.blt_eq]
mutual
theorem ok_py : ∀ a : Tr, PyData.canLay0 a.py = a.ok
  | .non => rfl
  | .bl _ => rfl
  | .int _ => rfl
  | .str s => by simp only [Tr.py, Tr.ok, PyData.canLay0]; exact sOk_py s
  | .tup xs => by simp only [Tr.py, Tr.ok, PyData.canLay0]; exact oks_py xs
  | .lst xs => by simp only [Tr.py, Tr.ok, PyData.canLay0]; exact oks_py xs
theorem oks_py : ∀ xs : List Tr, PyData.canLayAll0 (Tr.pys xs) = Tr.oks xs
  | [] => rfl
  | x :: r => by simp only [Tr.pys, Tr.oks, PyData.canLayAll0]; rw [ok_py x, oks_py r]
end
theorem pys_map : ∀ xs : List Tr, Tr.pys xs = xs.map Tr.py
  | [] => rfl
  | x :: r => by simp only [Tr.pys, List.map_cons, pys_map r]
theorem depthAll_le {n : Nat} : ∀ {xs : List PyData}, (∀ x ∈ xs, x.depth ≤ n) → PyData.depthAll xs ≤ n
  | [], _ => by simp [PyData.depthAll]
  | x :: r, h => by
    simp only [PyData.depthAll]
    exact Nat.max_le.mpr ⟨h x List.mem_cons_self, depthAll_le fun y hy => h y (List.mem_cons_of_mem _ hy)⟩
theorem mapM_cons_some {α β : Type} {f : α → Option β} {x : α} {r : List α} {ys : List β} (h : (x :: r).mapM f = some ys) : ∃ y zs, f x = some y ∧ r.mapM f = some zs ∧ ys = y :: zs := by
  rw [List.mapM_cons] at h
  cases e1 : f x with
  | none => rw [e1] at h; cases h
  | some y =>
    rw [e1] at h
    cases e2 : r.mapM f with
    | none => rw [e2] at h; cases h
    | some zs =>
      rw [e2] at h
      cases h
      exact ⟨y, zs, rfl, rfl, rfl⟩
section
variable {N : Nm} {K : PySem.W.Frag} {H : Hp} {ρ : List Addr} {A : Hh} {E : XK} {Q : VK}
theorem dps_of {n : Nat} (ih : ∀ (d : D) (t : Tr) (x : V), D.tr A n d = some t → Rp K H ρ d x → Dp K H x t.py ∧ t.py.depth ≤ n) :
    ∀ {ds : List D} {ts : List Tr} {xs : List V}, ds.mapM (D.tr A n) = some ts → Rps K H ρ ds xs → DpAll K H xs (Tr.pys ts) ∧ PyData.depthAll (Tr.pys ts) ≤ n
  | [], ts, xs, e, r => by
    cases e
    unfold Rps at r
    subst r
    exact ⟨.nil, by simp [Tr.pys, PyData.depthAll]⟩
  | d :: ds, ts, xs, e, r => by
    obtain ⟨y, zs, e1, e2, rfl⟩ := mapM_cons_some e
    unfold Rps at r
    obtain ⟨x, rr, rfl, r1, r2⟩ := r
    obtain ⟨h1, h2⟩ := ih d y x e1 r1
    obtain ⟨h3, h4⟩ := dps_of ih e2 r2
    refine ⟨.cons h1 h3, ?_⟩
    simp only [Tr.pys, PyData.depthAll]
    exact Nat.max_le.mpr ⟨h2, h4⟩
theorem dp_of (h : HR N K H ρ A) : ∀ (n : Nat) (d : D) (t : Tr) (x : V), D.tr A n d = some t → Rp K H ρ d x → Dp K H x t.py ∧ t.py.depth ≤ n
  | 0, _, _, _, e, _ => by cases e
  | n + 1, d, t, x, e, r => by
    cases d with
    | non => cases e; cases r; exact ⟨.non, by simp [Tr.py, PyData.depth]⟩
    | bl b => cases e; cases r; exact ⟨.bl b, by simp [Tr.py, PyData.depth]⟩
    | int i => cases e; cases r; exact ⟨.int i, by simp [Tr.py, PyData.depth]⟩
    | str s => cases e; cases r; exact ⟨.str _, by simp [Tr.py, PyData.depth]⟩
    | tup ds =>
      unfold D.tr at e
      obtain ⟨ts, e1, rfl⟩ := Option.map_eq_some_iff.mp e
      obtain ⟨a, xs, rfl, ta, ra⟩ := r.tupE
      obtain ⟨h1, h2⟩ := dps_of (dp_of h n) e1 ra
      simp only [Tr.py]
      exact ⟨.tup ta h1, by simp only [PyData.depth]; omega⟩
    | ref k =>
      unfold D.tr at e
      simp only at e
      split at e
      · rename_i ds hk
        obtain ⟨ts, e1, rfl⟩ := Option.map_eq_some_iff.mp e
        obtain ⟨a, xs, rfl, _, ha, ra⟩ := h.lst r hk
        obtain ⟨h1, h2⟩ := dps_of (dp_of h n) e1 ra
        simp only [Tr.py]
        exact ⟨.lst (SqL.of ha) h1, by simp only [PyData.depth]; omega⟩
      · cases e
    | scr ns => cases e
theorem shaped_of {t : Tr} {n : Nat} (h1 : t.ok = true) (h2 : t.py.depth ≤ n) (h3 : n ≤ 64) : SeqAt.shaped t.py = true := by
  show (t.py.canLay0 && decide (t.py.depth ≤ 64)) = true
  rw [ok_py, h1]
  exact decide_eq_true (by omega)
/-- == of data -/
theorem eqD_ok {dx dy : D} {x y : V} {b : Bool} (h : HR N K H ρ A) (rx : Rp K H ρ dx x) (ry : Rp K H ρ dy y) (e : eqD A dx dy = some b) :
    ∃ d d', Dp K H x d ∧ Dp K H y d' ∧ SeqAt.shaped d = true ∧ SeqAt.shaped d' = true ∧ PyData.eqv d d' = b := by
  unfold eqD at e
  split at e
  · rename_i s t e1 e2
    split at e
    · rename_i hk
      simp only [Bool.and_eq_true] at hk
      cases e
      obtain ⟨h1, h2⟩ := dp_of h _ _ _ _ e1 rx
      obtain ⟨h3, h4⟩ := dp_of h _ _ _ _ e2 ry
      exact ⟨_, _, h1, h3, shaped_of hk.1 h2 (by omega), shaped_of hk.2 h4 (by omega), eqv_py s t⟩
    · cases e
  · cases e
def rEqAll (K : PySem.W.Frag) : R2 := fun x y H Q => rEq x y H Q ∨ rEqD K x y H Q
def rNeAll (K : PySem.W.Frag) : R2 := fun x y H Q => rNe x y H Q ∨ rNeD K x y H Q
theorem op_eqAll {X : Cx} (hu : X.A.units + 64 < cLine) : OpR X (compareOp .Eq) (rEqAll X.K) := op_eq.or (op_eqD hu)
theorem op_neAll {X : Cx} (hu : X.A.units + 64 < cLine) : OpR X (compareOp .NotEq) (rNeAll X.K) := op_ne.or (op_neD hu)
/-- what == finds, either way -/
theorem eqR_ok {dx dy : D} {x y : V} {b : Bool} (h : HR N K H ρ A) (rx : Rp K H ρ dx x) (ry : Rp K H ρ dy y) (e : eqR A dx dy = some b) :
    (scal x y = true ∧ decide (x = y) = b) ∨ ∃ d d', Dp K H x d ∧ Dp K H y d' ∧ SeqAt.shaped d = true ∧ SeqAt.shaped d' = true ∧ PyData.eqv d d' = b := by
  unfold eqR at e
  split at e
  all_goals first
    | exact .inr (eqD_ok h rx ry e)
    | skip
  all_goals
    cases rx
    cases ry
    cases e
    refine .inl ⟨rfl, ?_⟩
  all_goals first
    | rfl
    | (rw [dec_bl]; rfl)
    | (rw [dec_int]; rw [Bool.eq_iff_iff]; simp)
    | (rw [dec_str]; exact txt_beq _ _)
    | (rw [decide_eq_false]; intro z; cases z)
theorem eq_ok {dx dy : D} {x y : V} (h : HR N K H ρ A) (rx : Rp K H ρ dx x) (ry : Rp K H ρ dy y) (q : RQ N K H ρ (ofB (cmpR .eq dx dy A) A) Q E) : rEqAll K x y H Q := by
  unfold cmpR at q
  simp only at q
  cases e : eqR A dx dy with
  | none => rw [e] at q; exact q.elim
  | some b =>
    rw [e] at q
    have q' : Q (.bl b) H := RQ.ok (show RQ N K H ρ (.ok (.bl b) A) Q E from q) h rfl
    rcases eqR_ok h rx ry e with ⟨h1, h2⟩ | ⟨d, d', h1, h2, h3, h4, h5⟩
    · exact .inl ⟨h1, by rw [h2]; exact q'⟩
    · exact .inr ⟨d, d', h1, h2, h3, h4, by rw [h5]; exact q'⟩
theorem ne_ok {dx dy : D} {x y : V} (h : HR N K H ρ A) (rx : Rp K H ρ dx x) (ry : Rp K H ρ dy y) (q : RQ N K H ρ (ofB (cmpR .ne dx dy A) A) Q E) : rNeAll K x y H Q := by
  unfold cmpR at q
  simp only at q
  cases e : eqR A dx dy with
  | none => rw [e] at q; exact q.elim
  | some b =>
    rw [e] at q
    have q' : Q (.bl (!b)) H := RQ.ok (show RQ N K H ρ (.ok (.bl (!b)) A) Q E from q) h rfl
    rcases eqR_ok h rx ry e with ⟨h1, h2⟩ | ⟨d, d', h1, h2, h3, h4, h5⟩
    · exact .inl ⟨h1, by rw [h2]; exact q'⟩
    · exact .inr ⟨d, d', h1, h2, h3, h4, by rw [h5]; exact q'⟩
end
end Mini

set_option Elab.async false
set_option linter.all false
set_option maxRecDepth 100000
set_option maxHeartbeats 4000000
/-! Mini's operations against the layer's readings: comparisons, places, slices, truth. -/
namespace Mini
open PySem L2
section
variable {N : Nm} {K : PySem.W.Frag} {H : Hp} {ρ : List Addr} {A : Hh} {E : XK} {Q : VK}
theorem lt_ok {dx dy : D} {x y : V} (h : HR N K H ρ A) (rx : Rp K H ρ dx x) (ry : Rp K H ρ dy y) (q : RQ N K H ρ (ofB (cmpR .lt dx dy A) A) Q E) : rI0 (fun i j => .bl (decide (i < j))) x y H Q := by
  cases dx <;> cases dy <;> simp only [cmpR, ofB] at q <;> try exact q.elim
  rename_i i j
  cases rx; cases ry
  exact ⟨i, j, rfl, rfl, q.ok h rfl⟩
theorem le_ok {dx dy : D} {x y : V} (h : HR N K H ρ A) (rx : Rp K H ρ dx x) (ry : Rp K H ρ dy y) (q : RQ N K H ρ (ofB (cmpR .le dx dy A) A) Q E) : rI0 (fun i j => .bl (decide (i ≤ j))) x y H Q := by
  cases dx <;> cases dy <;> simp only [cmpR, ofB] at q <;> try exact q.elim
  rename_i i j
  cases rx; cases ry
  exact ⟨i, j, rfl, rfl, q.ok h rfl⟩
theorem gt_ok {dx dy : D} {x y : V} (h : HR N K H ρ A) (rx : Rp K H ρ dx x) (ry : Rp K H ρ dy y) (q : RQ N K H ρ (ofB (cmpR .gt dx dy A) A) Q E) : rI0 (fun i j => .bl (decide (j < i))) x y H Q := by
  cases dx <;> cases dy <;> simp only [cmpR, ofB] at q <;> try exact q.elim
  rename_i i j
  cases rx; cases ry
  exact ⟨i, j, rfl, rfl, q.ok h rfl⟩
theorem ge_ok {dx dy : D} {x y : V} (h : HR N K H ρ A) (rx : Rp K H ρ dx x) (ry : Rp K H ρ dy y) (q : RQ N K H ρ (ofB (cmpR .ge dx dy A) A) Q E) : rI0 (fun i j => .bl (decide (j ≤ i))) x y H Q := by
  cases dx <;> cases dy <;> simp only [cmpR, ofB] at q <;> try exact q.elim
  rename_i i j
  cases rx; cases ry
  exact ⟨i, j, rfl, rfl, q.ok h rfl⟩
theorem isN_val {dx : D} {x : V} (rx : Rp K H ρ dx x) : isNon dx = decide (x = V.non) := by
  cases dx with
  | non => cases rx; rfl
  | bl b => cases rx; exact (decide_eq_false (by intro z; cases z)).symm
  | int b => cases rx; exact (decide_eq_false (by intro z; cases z)).symm
  | str b => cases rx; exact (decide_eq_false (by intro z; cases z)).symm
  | tup ds => obtain ⟨a, xs, rfl, _⟩ := rx.tupE; exact (decide_eq_false (by intro z; cases z)).symm
  | ref n => obtain ⟨a, rfl, _⟩ := rx.ref; exact (decide_eq_false (by intro z; cases z)).symm
  | scr n => unfold Rp at rx; obtain ⟨a, rfl, _⟩ := rx; exact (decide_eq_false (by intro z; cases z)).symm
theorem isNon_eq {dx : D} (h : isNon dx = true) : dx = .non := by
  cases dx <;> first | rfl | cases h
theorem isN_ok {dx dy : D} {x y : V} (h : HR N K H ρ A) (rx : Rp K H ρ dx x) (ry : Rp K H ρ dy y) (q : RQ N K H ρ (ofB (cmpR .isN dx dy A) A) Q E) : y = .non ∧ Q (.bl (decide (x = V.non))) H := by
  unfold cmpR at q
  simp only at q
  split at q
  · rename_i hy
    have e := isNon_eq hy
    subst e
    cases ry
    refine ⟨rfl, ?_⟩
    rw [← isN_val rx]
    exact RQ.ok (show RQ N K H ρ (.ok (.bl (isNon dx)) A) Q E from q) h rfl
  · exact q.elim
theorem notN_ok {dx dy : D} {x y : V} (h : HR N K H ρ A) (rx : Rp K H ρ dx x) (ry : Rp K H ρ dy y) (q : RQ N K H ρ (ofB (cmpR .notN dx dy A) A) Q E) : y = .non ∧ Q (.bl (!decide (x = V.non))) H := by
  unfold cmpR at q
  simp only at q
  split at q
  · rename_i hy
    have e := isNon_eq hy
    subst e
    cases ry
    refine ⟨rfl, ?_⟩
    rw [← isN_val rx]
    exact RQ.ok (show RQ N K H ρ (.ok (.bl (!isNon dx)) A) Q E from q) h rfl
  · exact q.elim

/-! ### in -/
theorem inD_ok {dx : D} {ys : List D} {x : V} {xs : List V} {b : Bool} (h : HR N K H ρ A) (rx : Rp K H ρ dx x) (ry : Rps K H ρ ys xs) (e : inD A dx ys = some b) :
    ∃ d ds, Dp K H x d ∧ DpAll K H xs ds ∧ SeqAt.shaped d = true ∧ SeqAt.shaped (.list ds) = true ∧ SeqAt.shaped (.tuple ds) = true ∧ (ds.any fun z => PyData.eqv z d) = b := by
  unfold inD at e
  split at e
  · rename_i t ts e1 e2
    split at e
    · rename_i hk
      simp only [Bool.and_eq_true] at hk
      cases e
      obtain ⟨h1, h2⟩ := dp_of h _ _ _ _ e1 rx
      obtain ⟨h3, h4⟩ := dps_of (dp_of h 20) e2 ry
      refine ⟨_, _, h1, h3, shaped_of hk.1 h2 (by omega), ?_, ?_, ?_⟩
      · show (PyData.canLayAll0 (Tr.pys ts) && decide (PyData.depth (.list (Tr.pys ts)) ≤ 64)) = true
        rw [oks_py, hk.2]
        exact decide_eq_true (by simp only [PyData.depth]; omega)
      · show (PyData.canLayAll0 (Tr.pys ts) && decide (PyData.depth (.tuple (Tr.pys ts)) ≤ 64)) = true
        rw [oks_py, hk.2]
        exact decide_eq_true (by simp only [PyData.depth]; omega)
      · rw [pys_map, List.any_map]
        congr 1
        funext z
        exact eqv_py z t
    · cases e
  · cases e
def rInDT (K : PySem.W.Frag) : R2 := fun x y H Q => ∃ d ds, Dp K H x d ∧ Dp K H y (.tuple ds) ∧ SeqAt.shaped d = true ∧ SeqAt.shaped (.tuple ds) = true ∧ Q (.bl (ds.any fun z => PyData.eqv z d)) H
def rNotInDT (K : PySem.W.Frag) : R2 := fun x y H Q => ∃ d ds, Dp K H x d ∧ Dp K H y (.tuple ds) ∧ SeqAt.shaped d = true ∧ SeqAt.shaped (.tuple ds) = true ∧ Q (.bl (!ds.any fun z => PyData.eqv z d)) H
theorem op_inDT {X : Cx} (hu : X.A.units + 65 < cLine) : OpR X (compareOp .In) (rInDT X.K) := by
  intro pins s σ H x y v u Q I rx ry h
  obtain ⟨d, ds, hd, he, sd, se, q⟩ := h
  obtain ⟨as, r1⟩ := Dp.reads I d x v hd rx
  obtain ⟨bs, r2⟩ := Dp.reads I (.tuple ds) y u he ry
  exact SeqAt.in_tuple_reads r2 r1 (SeqAt.canLay_of_shaped se) (SeqAt.canLay_of_shaped sd) (PyProof.Rows.room_in_shaped sd hu) ⟨.bl _, H, I, rfl, q⟩
theorem op_notInDT {X : Cx} (hu : X.A.units + 65 < cLine) : OpR X (compareOp .NotIn) (rNotInDT X.K) := by
  intro pins s σ H x y v u Q I rx ry h
  obtain ⟨d, ds, hd, he, sd, se, q⟩ := h
  obtain ⟨as, r1⟩ := Dp.reads I d x v hd rx
  obtain ⟨bs, r2⟩ := Dp.reads I (.tuple ds) y u he ry
  exact SeqAt.notIn_tuple_reads r2 r1 (SeqAt.canLay_of_shaped se) (SeqAt.canLay_of_shaped sd) (PyProof.Rows.room_in_shaped sd hu) ⟨.bl _, H, I, rfl, q⟩
def rDIn : R2 := fun x y H Q => ∃ a o, y = .ref a ∧ DGet H a x o ∧ Q (.bl o.isSome) H
def rDNotIn : R2 := fun x y H Q => ∃ a o, y = .ref a ∧ DGet H a x o ∧ Q (.bl (!o.isSome)) H
theorem op_dIn {X : Cx} (hu : X.A.units + 1 < cLine) : OpR X (compareOp .In) rDIn := by
  intro pins s σ H x y v u Q I rx ry h
  obtain ⟨a, o, rfl, g, q⟩ := h
  cases ry
  exact d_in hu I g rx fun s' I' => ⟨.bl _, H, I', rfl, q⟩
theorem op_dNotIn {X : Cx} (hu : X.A.units + 1 < cLine) : OpR X (compareOp .NotIn) rDNotIn := by
  intro pins s σ H x y v u Q I rx ry h
  obtain ⟨a, o, rfl, g, q⟩ := h
  cases ry
  exact d_notIn hu I g rx fun s' I' => ⟨.bl _, H, I', rfl, q⟩
def rInS : R2 := fun x y H Q => ∃ (c : Nat) (z : Str), x = .str ⟨#[c]⟩ ∧ y = .str z ∧ Q (.bl (decide (c ∈ z.cps.toList))) H
def rNotInS : R2 := fun x y H Q => ∃ (c : Nat) (z : Str), x = .str ⟨#[c]⟩ ∧ y = .str z ∧ Q (.bl (!decide (c ∈ z.cps.toList))) H
def rInAll (K : PySem.W.Frag) : R2 := fun x y H Q => rInS x y H Q ∨ rInD K x y H Q ∨ rInDT K x y H Q ∨ rDIn x y H Q
def rNotInAll (K : PySem.W.Frag) : R2 := fun x y H Q => rNotInS x y H Q ∨ rNotInD K x y H Q ∨ rNotInDT K x y H Q ∨ rDNotIn x y H Q
theorem op_inAll {X : Cx} (hu : X.A.units + 65 < cLine) : OpR X (compareOp .In) (rInAll X.K) := op_in_sign.or ((op_inD hu).or ((op_inDT hu).or (op_dIn (by omega))))
theorem op_notInAll {X : Cx} (hu : X.A.units + 65 < cLine) : OpR X (compareOp .NotIn) (rNotInAll X.K) := op_notIn_sign.or ((op_notInD hu).or ((op_notInDT hu).or (op_dNotIn (by omega))))
/-- a text's key -/
theorem krs_get {kvs : List (S × D)} {ws : List (Key × V)} (r : KRs K H ρ kvs ws) (k : S) : (∀ d, get1 kvs k = some d → ∃ v, valV ws (Sum.inr (txt k) : Key) = some v ∧ Rp K H ρ d v) ∧ (get1 kvs k = none → valV ws (Sum.inr (txt k) : Key) = none) := by
  unfold KRs at r
  induction r with
  | nil => exact ⟨fun d h => by simp [get1] at h, fun _ => rfl⟩
  | @cons p q ps qs hp _ ih =>
    obtain ⟨a, d0⟩ := p
    obtain ⟨b, v0⟩ := q
    obtain ⟨h1, h2⟩ := hp
    simp only at h1 h2
    subst h1
    by_cases e : a = k
    · subst e
      refine ⟨fun d h => ?_, fun h => ?_⟩
      · rw [get1, if_pos rfl] at h
        cases h
        exact ⟨v0, valV_pos (p := ((Sum.inr (txt a) : Key), v0)) rfl, h2⟩
      · rw [get1, if_pos rfl] at h
        cases h
    · have ne : ¬ ((Sum.inr (txt a) : Key), v0).1 = Sum.inr (txt k) := fun z => e (txt_inj (Sum.inr.inj z))
      rw [get1, if_neg e, valV_neg ne]
      exact ih
theorem krs_dget {a : Addr} {kvs : List (S × D)} {ws : List (Key × V)} (g : Rd H a (.dK ws)) (k : S) : DGet H a (.str (txt k)) (valV ws (Sum.inr (txt k) : Key)) := .inl ⟨ws, Sum.inr (txt k), g, rfl, rfl⟩
theorem krs_some {kvs : List (S × D)} {ws : List (Key × V)} (r : KRs K H ρ kvs ws) (k : S) : (valV ws (Sum.inr (txt k) : Key)).isSome = (get1 kvs k).isSome := by
  obtain ⟨h1, h2⟩ := krs_get r k
  cases e : get1 kvs k with
  | none => rw [h2 e]; rfl
  | some d =>
    obtain ⟨v, hv, _⟩ := h1 d e
    rw [hv]; rfl
theorem inR_ok {dx dy : D} {x y : V} {b : Bool} (h : HR N K H ρ A) (rx : Rp K H ρ dx x) (ry : Rp K H ρ dy y) (e : inR A dx dy = some b) :
    (∃ (c : Nat) (z : Str), x = .str ⟨#[c]⟩ ∧ y = .str z ∧ decide (c ∈ z.cps.toList) = b) ∨ (∃ d ds, Dp K H x d ∧ Dp K H y (.list ds) ∧ SeqAt.shaped d = true ∧ SeqAt.shaped (.list ds) = true ∧ (ds.any fun z => PyData.eqv z d) = b) ∨
      (∃ d ds, Dp K H x d ∧ Dp K H y (.tuple ds) ∧ SeqAt.shaped d = true ∧ SeqAt.shaped (.tuple ds) = true ∧ (ds.any fun z => PyData.eqv z d) = b) ∨ ∃ a o, y = .ref a ∧ DGet H a x o ∧ o.isSome = b := by
  unfold inR at e
  split at e
  · rename_i t
    split at e
    · rename_i c
      cases e
      cases rx; cases ry
      exact .inl ⟨c, _, rfl, rfl, by show decide (c ∈ t.toArray.toList) = _; rfl⟩
    · cases e
  · rename_i ds
    obtain ⟨a, xs, rfl, ta, ra⟩ := ry.tupE
    obtain ⟨d, es, h1, h2, h3, _, h5, h6⟩ := inD_ok h rx ra e
    exact .inr (.inr (.inl ⟨d, es, h1, .tup ta h2, h3, h5, h6⟩))
  · rename_i n
    split at e
    · rename_i ds hn
      have hn' : A[n]? = some (.lst ds) := by
        unfold rd at hn
        split at hn
        · rename_i o ho
          cases hn
          obtain ⟨a, rfl, ha⟩ := ry.ref
          obtain ⟨u, hu, ob, u', rfl, kvs', ws, e1, _, _⟩ := h.look ha ho
          cases e1
        · exact hn
      obtain ⟨a, xs, rfl, _, ha, ra⟩ := h.lst ry hn'
      obtain ⟨d, es, h1, h2, h3, h4, _, h6⟩ := inD_ok h rx ra e
      exact .inr (.inl ⟨d, es, h1, .lst (SqL.of ha) h2, h3, h4, h6⟩)
    · rename_i kvs hn
      split at e
      · rename_i k
        cases e
        cases rx
        obtain ⟨a, ws, rfl, _, g, r⟩ := h.rdk ry hn
        exact .inr (.inr (.inr ⟨a, _, rfl, krs_dget (kvs := kvs) g k, krs_some r k⟩))
      · cases e
    · cases e
  · cases e
theorem in_ok {dx dy : D} {x y : V} (h : HR N K H ρ A) (rx : Rp K H ρ dx x) (ry : Rp K H ρ dy y) (q : RQ N K H ρ (ofB (cmpR .inn dx dy A) A) Q E) : rInAll K x y H Q := by
  unfold cmpR at q
  simp only at q
  cases e : inR A dx dy with
  | none => rw [e] at q; exact q.elim
  | some b =>
    rw [e] at q
    have q' : Q (.bl b) H := RQ.ok (show RQ N K H ρ (.ok (.bl b) A) Q E from q) h rfl
    rcases inR_ok h rx ry e with ⟨c, z, e1, e2, e3⟩ | ⟨d, ds, h1, h2, h3, h4, h5⟩ | ⟨d, ds, h1, h2, h3, h4, h5⟩ | ⟨a, o, e1, g, e3⟩
    · exact .inl ⟨c, z, e1, e2, by rw [e3]; exact q'⟩
    · exact .inr (.inl ⟨d, ds, h1, h2, h3, h4, by rw [h5]; exact q'⟩)
    · exact .inr (.inr (.inl ⟨d, ds, h1, h2, h3, h4, by rw [h5]; exact q'⟩))
    · exact .inr (.inr (.inr ⟨a, o, e1, g, by rw [e3]; exact q'⟩))
theorem notin_ok {dx dy : D} {x y : V} (h : HR N K H ρ A) (rx : Rp K H ρ dx x) (ry : Rp K H ρ dy y) (q : RQ N K H ρ (ofB (cmpR .notin dx dy A) A) Q E) : rNotInAll K x y H Q := by
  unfold cmpR at q
  simp only at q
  cases e : inR A dx dy with
  | none => rw [e] at q; exact q.elim
  | some b =>
    rw [e] at q
    have q' : Q (.bl (!b)) H := RQ.ok (show RQ N K H ρ (.ok (.bl (!b)) A) Q E from q) h rfl
    rcases inR_ok h rx ry e with ⟨c, z, e1, e2, e3⟩ | ⟨d, ds, h1, h2, h3, h4, h5⟩ | ⟨d, ds, h1, h2, h3, h4, h5⟩ | ⟨a, o, e1, g, e3⟩
    · exact .inl ⟨c, z, e1, e2, by rw [e3]; exact q'⟩
    · exact .inr (.inl ⟨d, ds, h1, h2, h3, h4, by rw [h5]; exact q'⟩)
    · exact .inr (.inr (.inl ⟨d, ds, h1, h2, h3, h4, by rw [h5]; exact q'⟩))
    · exact .inr (.inr (.inr ⟨a, o, e1, g, by rw [e3]; exact q'⟩))

/-! ### places -/
theorem ixN_eq (n : Nat) (i : Int) : ixN n i = L2.ixN n i := rfl
theorem rps_at {ds : List D} {xs : List V} {i : Int} {d : D} (r : Rps K H ρ ds xs) (e : atI ds i = some d) : ∃ x, L2.atI xs i = some x ∧ Rp K H ρ d x := by
  unfold atI at e
  unfold L2.atI
  rw [← rps_len r]
  cases q : ixN ds.length i with
  | none => rw [q] at e; cases e
  | some j =>
    rw [q] at e
    have e' : ds[j]? = some d := e
    obtain ⟨x, h1, h2⟩ := pr_get (rps_iff.mp r) e'
    exact ⟨x, by rw [show L2.ixN ds.length i = some j from q]; exact h1, h2⟩
def rDGet : R2 := fun x y H Q => ∃ a v, x = .ref a ∧ DGet H a y (some v) ∧ Q v H
def rIxAll (K : PySem.W.Frag) : R2 := fun x y H Q => rIx K x y H Q ∨ rDGet x y H Q
theorem idx_ok {dx dy : D} {x y : V} (h : HR N K H ρ A) (rx : Rp K H ρ dx x) (ry : Rp K H ρ dy y) (q : RQ N K H ρ (idx dx dy A) Q E) : rIxAll K x y H Q := by
  cases dx <;> cases dy <;> simp only [idx] at q <;> try exact q.elim
  · rename_i s i
    cases rx; cases ry
    split at q
    · rename_i hb
      split at q
      · rename_i c hc
        refine .inl (.inr (.inr ⟨txt s, i, c, rfl, rfl, by rw [txt_len]; exact big_le hb, ?_, q.ok h rfl⟩))
        unfold atI at hc
        show L2.atI s.toArray.toList i = some c
        exact hc
      · exact q.elim
    · exact q.elim
  · rename_i ds i
    cases ry
    cases e : atI ds i with
    | none => rw [e] at q; exact q.elim
    | some d =>
      rw [e] at q
      obtain ⟨a, xs, rfl, ta, ra⟩ := rx.tupE
      obtain ⟨v, hv, rv⟩ := rps_at ra e
      exact .inl (.inr (.inl ⟨a, xs, i, v, rfl, rfl, ta, hv, RQ.ok (show RQ N K H ρ (.ok d A) Q E from q) h rv⟩))
  · rename_i n i
    cases ry
    split at q
    · rename_i ds hn
      cases e : atI ds i with
      | none => rw [e] at q; exact q.elim
      | some d =>
        rw [e] at q
        obtain ⟨a, xs, rfl, _, ha, ra⟩ := h.lst rx hn
        obtain ⟨v, hv, rv⟩ := rps_at ra e
        exact .inl (.inl ⟨a, xs, i, v, rfl, rfl, SqL.of ha, hv, RQ.ok (show RQ N K H ρ (.ok d A) Q E from q) h rv⟩)
    · exact q.elim
  · rename_i n k
    cases ry
    split at q
    · rename_i kvs hn
      obtain ⟨a, ws, rfl, _, g, r⟩ := h.rdk rx hn
      cases e : get1 kvs k with
      | none => rw [e] at q; exact q.elim
      | some d =>
        rw [e] at q
        obtain ⟨v, hv, rv⟩ := (krs_get r k).1 d e
        refine .inr ⟨a, v, rfl, ?_, RQ.ok (show RQ N K H ρ (.ok d A) Q E from q) h rv⟩
        rw [← hv]
        exact krs_dget (kvs := kvs) g k
    · exact q.elim
  · rename_i n ks
    split at q
    · rename_i kvs k hn _
      exact (h.rdt rx hn).elim
    · exact q.elim

/-! ### slices -/
theorem rps_cut {ds : List D} {xs : List V} (lo hi : Option Int) (r : Rps K H ρ ds xs) : Rps K H ρ (cut ds lo hi) (cutV xs lo hi) := by
  unfold cut cutV
  rw [rps_len r]
  exact rps_iff.mpr (pr_take _ (pr_drop _ (rps_iff.mp r)))
theorem cut_whole {α : Type} (ds : List α) (lo hi : Option Int) (hw : HT.sIx ds.length 0 lo = 0 ∧ HT.sIx ds.length ds.length hi = ds.length) : cut ds lo hi = ds := by
  unfold cut
  rw [hw.1, hw.2, List.drop_zero, Nat.sub_zero, List.take_length]
def rSl (K : PySem.W.Frag) : V → Option Int → Option Int → Hp → VK → Prop := fun x lo hi H Q => rSlL K x lo hi H Q ∨ rSlA K x lo hi H Q ∨ rSlS x lo hi H Q
theorem sl_all {X : Cx} : SlR X (rSl X.K) := sl_list.or (sl_tupA.or sl_str)
theorem slc_ok {dx : D} {x : V} {lo hi : Option Int} (h : HR N K H ρ A) (rx : Rp K H ρ dx x) (q : RQ N K H ρ (slc dx lo hi A) Q E) : rSl K x lo hi H Q := by
  cases dx <;> simp only [slc] at q <;> try exact q.elim
  · rename_i s
    cases rx
    split at q
    · rename_i hb
      refine .inr (.inr ⟨txt s, rfl, by rw [txt_len]; exact big_le hb, ?_⟩)
      have e : cutS (txt s) lo hi = txt (cut s lo hi) := by
        unfold cutS cut
        rw [txt_len]
      rw [e]
      exact q.ok h rfl
    · exact q.elim
  · rename_i ds
    obtain ⟨a, xs, rfl, ta, ra⟩ := id rx.tupE
    refine .inr (.inl ⟨a, xs, rfl, ta, fun hw => ?_, fun _ => q.tup h (rps_cut lo hi ra)⟩)
    rw [cut_whole ds lo hi (by rw [rps_len ra]; exact hw)] at q
    exact q.ok h rx
  · rename_i n
    split at q
    · rename_i ds hn
      obtain ⟨a, xs, rfl, _, ha, ra⟩ := h.lst rx hn
      exact .inl ⟨a, xs, rfl, SqL.of ha, q.obj h (ho_lst (rps_cut lo hi ra))⟩
    · exact q.elim

/-! ### truth -/
theorem emp_iff {ds : List D} {xs : List V} (r : Rps K H ρ ds xs) : (!ds.isEmpty) = !xs.isEmpty := by
  cases ds with
  | nil => unfold Rps at r; subst r; rfl
  | cons d r' => unfold Rps at r; obtain ⟨_, _, rfl, _⟩ := r; rfl
theorem truth_ok {dx : D} {x : V} {b : Bool} (h : HR N K H ρ A) (rx : Rp K H ρ dx x) (e : truth A dx = some b) : TruV K x H b := by
  cases dx <;> simp only [truth] at e <;> try cases e
  · cases rx; rfl
  · cases rx; rfl
  · cases rx; rfl
  · rename_i s
    cases rx
    split at e
    · rename_i hb
      cases e
      refine ⟨by rw [txt_len]; exact big_le hb, ?_⟩
      rw [txt_len]
      cases s with
      | nil => rfl
      | cons c r =>
        show true = ((((c :: r).length : Nat) : Int) != 0)
        rw [List.length_cons]
        simp only [bne_iff_ne, ne_eq, Bool.true_eq]
        omega
    · cases e
  · rename_i ds
    obtain ⟨a, xs, rfl, ta, ra⟩ := rx.tupE
    exact .inr (.inl ⟨xs, ta, emp_iff ra⟩)
  · rename_i n
    split at e
    · rename_i ds hn
      cases e
      obtain ⟨a, xs, rfl, _, ha, ra⟩ := h.lst rx hn
      exact .inl ⟨xs, SqL.of ha, emp_iff ra⟩
    · rename_i kvs hn
      cases e
      obtain ⟨a, ws, rfl, _, ha, r⟩ := h.dk rx hn
      refine .inr (.inr ⟨ws, ha, ?_⟩)
      cases r <;> rfl
    · cases e
end
end Mini

set_option Elab.async false
set_option linter.all false
set_option maxRecDepth 100000
set_option maxHeartbeats 4000000
/-! Mini's operations against the layer's readings: built-in functions and methods. -/
namespace Mini
open PySem L2
section
variable {N : Nm} {K : PySem.W.Frag} {H : Hp} {ρ : List Addr} {A : Hh} {E : XK} {Q : VK}
theorem rps1 {d : D} {xs : List V} (r : Rps K H ρ [d] xs) : ∃ x, xs = [x] ∧ Rp K H ρ d x := by
  unfold Rps at r
  obtain ⟨x, t, rfl, h1, h2⟩ := r
  unfold Rps at h2
  subst h2
  exact ⟨x, rfl, h1⟩
theorem rps2 {d e : D} {xs : List V} (r : Rps K H ρ [d, e] xs) : ∃ x y, xs = [x, y] ∧ Rp K H ρ d x ∧ Rp K H ρ e y := by
  unfold Rps at r
  obtain ⟨x, t, rfl, h1, h2⟩ := r
  obtain ⟨y, rfl, h3⟩ := rps1 h2
  exact ⟨x, y, rfl, h1, h3⟩
theorem Rp.scr {ns : List Int} {x : V} (r : Rp K H ρ (.scr ns) x) : ∃ a, x = .ref a ∧ SqL K H a (ns.map V.int) := by
  unfold Rp at r
  obtain ⟨a, rfl, t⟩ := r
  refine ⟨a, rfl, ?_⟩
  rcases t with ⟨⟨o, t⟩, _⟩ | t
  · exact .inl (.inr ⟨o, t⟩)
  · exact .inr t
abbrev RC := List V → Hp → VK → Prop
def rLen1 (K : PySem.W.Frag) : RC := fun xs H Q => ∃ x n, xs = [x] ∧ LenV K x H n ∧ Q (.int n) H
def rLenD : RC := fun xs H Q => ∃ a kvs, xs = [V.ref a] ∧ H a = some (.dK kvs) ∧ Q (.int kvs.length) H
def rLen (K : PySem.W.Frag) : RC := fun xs H Q => rLen1 K xs H Q ∨ rLenD xs H Q
theorem c_len {X : Cx} : CallR X (.builtin "len") (rLen X.K) := call_len.or call_lenD
theorem len_ok {ds : List D} {xs : List V} (h : HR N K H ρ A) (r : Rps K H ρ ds xs) (q : RQ N K H ρ (bLen A ds) Q E) : rLen K xs H Q := by
  unfold bLen at q
  split at q <;> try exact q.elim
  · rename_i s
    obtain ⟨x, rfl, rx⟩ := rps1 r
    cases rx
    split at q
    · rename_i hb
      exact .inl ⟨_, s.length, rfl, ⟨by rw [txt_len]; exact big_le hb, (txt_len s).symm⟩, q.ok h rfl⟩
    · exact q.elim
  · rename_i ds
    obtain ⟨x, rfl, rx⟩ := rps1 r
    obtain ⟨a, xs, rfl, ta, ra⟩ := rx.tupE
    exact .inl ⟨_, ds.length, rfl, .inr ⟨xs, ta, rps_len ra⟩, q.ok h rfl⟩
  · rename_i n
    obtain ⟨x, rfl, rx⟩ := rps1 r
    split at q
    · rename_i ds hn
      obtain ⟨a, xs, rfl, _, ha, ra⟩ := h.lst rx hn
      exact .inl ⟨_, ds.length, rfl, .inl ⟨xs, SqL.of ha, rps_len ra⟩, q.ok h rfl⟩
    · rename_i kvs hn
      obtain ⟨a, ws, rfl, _, ha, ra⟩ := h.dk rx hn
      have hl : kvs.length = ws.length := pr_len ra
      rw [hl] at q
      exact .inr ⟨a, ws, rfl, ha, q.ok h rfl⟩
    · exact q.elim

/-! ### int -/
def d2 (a b : Nat) : S := [48 + a, 48 + b]
theorem int_pos1 : ∀ a : _root_.Fin 10, PySem.intText? (txt [48 + a.val]) = some (a.val : Int) := by decide +kernel
theorem int_neg1 : ∀ a : _root_.Fin 10, PySem.intText? (txt [45, 48 + a.val]) = some (-(a.val : Int)) := by decide +kernel
theorem int_pos2 : ∀ a b : _root_.Fin 10, PySem.intText? (txt [48 + a.val, 48 + b.val]) = some ((a.val * 10 + b.val : Nat) : Int) := by decide +kernel
theorem int_neg2 : ∀ a b : _root_.Fin 10, PySem.intText? (txt [45, 48 + a.val, 48 + b.val]) = some (-((a.val * 10 + b.val : Nat) : Int)) := by decide +kernel
theorem fig1_ok {c x : Nat} (h : fig1 c = some x) : ∃ a : _root_.Fin 10, c = 48 + a.val ∧ x = a.val := by
  unfold fig1 at h
  split at h
  · rename_i hc
    simp only [Bool.and_eq_true] at hc
    have h1 := Nat.le_of_ble_eq_true hc.1
    have h2 := Nat.le_of_ble_eq_true hc.2
    cases h
    exact ⟨⟨c - 48, by omega⟩, by show c = 48 + (c - 48); omega, rfl⟩
  · cases h
theorem figs_ok {r : S} {n : Nat} (h : figs r = some n) : (∃ a : _root_.Fin 10, r = [48 + a.val] ∧ n = a.val) ∨ ∃ a b : _root_.Fin 10, r = [48 + a.val, 48 + b.val] ∧ n = a.val * 10 + b.val := by
  unfold figs at h
  split at h
  · obtain ⟨a, rfl, rfl⟩ := fig1_ok h
    exact .inl ⟨a, rfl, rfl⟩
  · split at h
    · rename_i x y e1 e2
      obtain ⟨a, rfl, rfl⟩ := fig1_ok e1
      obtain ⟨b, rfl, rfl⟩ := fig1_ok e2
      cases h
      exact .inr ⟨a, b, rfl, rfl⟩
    · cases h
  · cases h
theorem intOf_ok {s : S} {i : Int} (h : intOf s = some i) : PySem.intText? (txt s) = some i ∧ (txt s).length ≤ 640 := by
  unfold intOf at h
  split at h
  · cases h
  · rename_i c r
    split at h
    · rename_i hc
      subst hc
      obtain ⟨n, e1, rfl⟩ := Option.map_eq_some_iff.mp h
      rcases figs_ok e1 with ⟨a, rfl, rfl⟩ | ⟨a, b, rfl, rfl⟩
      · exact ⟨int_neg1 a, by rw [txt_len]; simp⟩
      · exact ⟨int_neg2 a b, by rw [txt_len]; simp⟩
    · obtain ⟨n, e1, rfl⟩ := Option.map_eq_some_iff.mp h
      rcases figs_ok e1 with ⟨a, e, rfl⟩ | ⟨a, b, e, rfl⟩
      · rw [e]; exact ⟨int_pos1 a, by rw [txt_len]; simp⟩
      · rw [e]; exact ⟨int_pos2 a b, by rw [txt_len]; simp⟩
def rInt1 : RC := fun xs H Q => (∃ i, xs = [.int i] ∧ Q (.int i) H) ∨ ∃ k, xs = [.bl k] ∧ Q (.int (if k then 1 else 0)) H
def rIntS : RC := fun xs H Q => ∃ a n, xs = [.str a] ∧ PySem.intText? a = some n ∧ a.length ≤ 640 ∧ Q (.int n) H
def rInt : RC := fun xs H Q => rInt1 xs H Q ∨ rIntS xs H Q
theorem c_int {X : Cx} : CallR X (.type "int") rInt := call_int1.or call_int_str
theorem int_ok {ds : List D} {xs : List V} (h : HR N K H ρ A) (r : Rps K H ρ ds xs) (q : RQ N K H ρ (bInt A ds) Q E) : rInt xs H Q := by
  unfold bInt at q
  split at q <;> try exact q.elim
  · obtain ⟨x, rfl, rx⟩ := rps1 r
    cases rx
    exact .inl (.inl ⟨_, rfl, q.ok h rfl⟩)
  · obtain ⟨x, rfl, rx⟩ := rps1 r
    cases rx
    exact .inl (.inr ⟨_, rfl, q.ok h rfl⟩)
  · obtain ⟨x, rfl, rx⟩ := rps1 r
    cases rx
    split at q
    · rename_i i hi
      obtain ⟨h1, h2⟩ := intOf_ok hi
      exact .inr ⟨_, _, rfl, h1, h2, q.ok h rfl⟩
    · exact q.elim

/-! ### list, tuple -/
def rListOf (K : PySem.W.Frag) : RC := fun xs H Q => ∃ p ys, xs = [.ref p] ∧ (SqL K H p ys ∨ SqT K H p ys) ∧ ∀ l, H l = none → Q (.ref l) (upd H l (.lst ys))
theorem c_list {X : Cx} : CallR X (.type "list") (rListOf X.K) := call_list_of
theorem rps_ints (ns : List Int) : Rps K H ρ (ns.map .int) (ns.map V.int) := by
  induction ns with
  | nil => exact rps_nil
  | cons n r ih => exact rps_cons (show Rp K H ρ (.int n) (.int n) from rfl) ih
theorem list_ok {ds : List D} {xs : List V} (h : HR N K H ρ A) (r : Rps K H ρ ds xs) (q : RQ N K H ρ (bList A ds) Q E) : rListOf K xs H Q := by
  unfold bList at q
  split at q <;> try exact q.elim
  rename_i x
  obtain ⟨v, rfl, rx⟩ := rps1 r
  split at q
  · rename_i ys hy
    cases x <;> simp only [items] at hy <;> try cases hy
    · obtain ⟨a, zs, rfl, ta, ra⟩ := rx.tupE
      exact ⟨a, zs, rfl, .inr ta, q.obj h (ho_lst ra)⟩
    · split at hy
      · rename_i zs hn
        cases hy
        obtain ⟨a, ws, rfl, _, ha, ra⟩ := h.lst rx hn
        exact ⟨a, ws, rfl, .inl (SqL.of ha), q.obj h (ho_lst ra)⟩
      · cases hy
    · obtain ⟨a, rfl, sa⟩ := rx.scr
      exact ⟨a, _, rfl, .inl sa, q.obj h (ho_lst (rps_ints _))⟩
  · exact q.elim
def rTupOf (K : PySem.W.Frag) : RC := fun xs H Q => ∃ p ys, xs = [.ref p] ∧ ((SqL K H p ys ∧ ∀ l, H l = none → Q (.ref l) (upd H l (.tup ys))) ∨ (SqT K H p ys ∧ Q (.ref p) H))
theorem c_tuple {X : Cx} : CallR X (.type "tuple") (rTupOf X.K) := call_tuple_of
theorem tuple_ok {ds : List D} {xs : List V} (h : HR N K H ρ A) (r : Rps K H ρ ds xs) (q : RQ N K H ρ (bTuple A ds) Q E) : rTupOf K xs H Q := by
  unfold bTuple at q
  split at q <;> try exact q.elim
  · obtain ⟨v, rfl, rx⟩ := rps1 r
    obtain ⟨a, zs, rfl, ta, ra⟩ := id rx.tupE
    exact ⟨a, zs, rfl, .inr ⟨ta, q.ok h rx⟩⟩
  · obtain ⟨v, rfl, rx⟩ := rps1 r
    split at q
    · rename_i zs hn
      obtain ⟨a, ws, rfl, _, ha, ra⟩ := h.lst rx hn
      exact ⟨a, ws, rfl, .inl ⟨SqL.of ha, q.tup h ra⟩⟩
    · exact q.elim

/-! ### all, any, max, min, abs -/
theorem bls_of : ∀ {ds : List D} {bs : List Bool} {xs : List V}, blsOf ds = some bs → Rps K H ρ ds xs → xs = bs.map V.bl
  | [], bs, xs, e, r => by cases e; unfold Rps at r; exact r
  | d :: ds, bs, xs, e, r => by
    unfold Rps at r
    obtain ⟨x, t, rfl, r1, r2⟩ := r
    cases d <;> simp only [blsOf] at e <;> try cases e
    rename_i b
    obtain ⟨cs, e1, rfl⟩ := Option.map_eq_some_iff.mp e
    cases r1
    rw [bls_of e1 r2]
    rfl
theorem ints_of : ∀ {ds : List D} {bs : List Int} {xs : List V}, intsOf ds = some bs → Rps K H ρ ds xs → xs = bs.map V.int
  | [], bs, xs, e, r => by cases e; unfold Rps at r; exact r
  | d :: ds, bs, xs, e, r => by
    unfold Rps at r
    obtain ⟨x, t, rfl, r1, r2⟩ := r
    cases d <;> simp only [intsOf] at e <;> try cases e
    rename_i b
    obtain ⟨cs, e1, rfl⟩ := Option.map_eq_some_iff.mp e
    cases r1
    rw [ints_of e1 r2]
    rfl
theorem strs_of : ∀ {ds : List D} {bs : List S} {xs : List V}, strsOf ds = some bs → Rps K H ρ ds xs → xs = (bs.map txt).map V.str
  | [], bs, xs, e, r => by cases e; unfold Rps at r; exact r
  | d :: ds, bs, xs, e, r => by
    unfold Rps at r
    obtain ⟨x, t, rfl, r1, r2⟩ := r
    cases d <;> simp only [strsOf] at e <;> try cases e
    rename_i b
    obtain ⟨cs, e1, rfl⟩ := Option.map_eq_some_iff.mp e
    cases r1
    rw [strs_of e1 r2]
    rfl
theorem rps_strs (ss : List S) : Rps K H ρ (ss.map .str) ((ss.map txt).map V.str) := by
  induction ss with
  | nil => exact rps_nil
  | cons n r ih => exact rps_cons (show Rp K H ρ (.str n) (.str (txt n)) from rfl) ih
theorem all_ok {ds : List D} {xs : List V} (h : HR N K H ρ A) (r : Rps K H ρ ds xs) (q : RQ N K H ρ (bAll A ds) Q E) : rAll K xs H Q := by
  unfold bAll at q
  split at q <;> try exact q.elim
  obtain ⟨v, rfl, rx⟩ := rps1 r
  split at q
  · rename_i zs hn
    split at q
    · rename_i bs hb
      obtain ⟨a, ws, rfl, _, ha, ra⟩ := h.lst rx hn
      rw [bls_of hb ra] at ha
      exact ⟨a, bs, rfl, SqL.of ha, q.ok h rfl⟩
    · exact q.elim
  · exact q.elim
theorem any_ok {ds : List D} {xs : List V} (h : HR N K H ρ A) (r : Rps K H ρ ds xs) (q : RQ N K H ρ (bAny A ds) Q E) : rAny K xs H Q := by
  unfold bAny at q
  split at q <;> try exact q.elim
  obtain ⟨v, rfl, rx⟩ := rps1 r
  split at q
  · rename_i zs hn
    split at q
    · rename_i bs hb
      obtain ⟨a, ws, rfl, _, ha, ra⟩ := h.lst rx hn
      rw [bls_of hb ra] at ha
      exact ⟨a, bs, rfl, SqL.of ha, q.ok h rfl⟩
    · exact q.elim
  · exact q.elim
theorem minI_ok : ∀ {ns : List Int} {m : Int}, minI ns = some m → m ∈ ns ∧ ∀ y ∈ ns, m ≤ y
  | [], _, e => by cases e
  | [x], m, e => by
    cases e
    exact ⟨List.mem_cons_self, fun y hy => by rw [List.mem_singleton.mp hy]; exact Int.le_refl _⟩
  | x :: z :: r, m, e => by
    unfold minI at e
    obtain ⟨k, e1, rfl⟩ := Option.map_eq_some_iff.mp e
    obtain ⟨h1, h2⟩ := minI_ok e1
    by_cases c : x ≤ k
    · rw [if_pos c]
      refine ⟨List.mem_cons_self, fun y hy => ?_⟩
      rcases List.mem_cons.mp hy with rfl | hy
      · exact Int.le_refl _
      · exact Int.le_trans c (h2 y hy)
    · rw [if_neg c]
      refine ⟨List.mem_cons_of_mem _ h1, fun y hy => ?_⟩
      rcases List.mem_cons.mp hy with rfl | hy
      · omega
      · exact h2 y hy
theorem min_ok {ds : List D} {xs : List V} (h : HR N K H ρ A) (r : Rps K H ρ ds xs) (q : RQ N K H ρ (bMin1 A ds) Q E) : rMin K xs H Q := by
  unfold bMin1 at q
  split at q <;> try exact q.elim
  obtain ⟨v, rfl, rx⟩ := rps1 r
  split at q
  · rename_i zs hn
    split at q
    · rename_i m hm
      obtain ⟨ns, e1, e2⟩ := Option.bind_eq_some_iff.mp hm
      obtain ⟨a, ws, rfl, _, ha, ra⟩ := h.lst rx hn
      rw [ints_of e1 ra] at ha
      obtain ⟨h1, h2⟩ := minI_ok e2
      refine ⟨a, ns, rfl, SqL.of ha, List.length_pos_of_mem h1, fun m' g1 g2 => ?_⟩
      have e : m' = m := Int.le_antisymm (g2 m h1) (h2 m' g1)
      rw [e]
      exact q.ok h rfl
    · exact q.elim
  · exact q.elim
def rMax2 : RC := fun xs H Q => ∃ i j, xs = [.int i, .int j] ∧ Q (.int (if j > i then j else i)) H
theorem max_ok {ds : List D} {xs : List V} (h : HR N K H ρ A) (r : Rps K H ρ ds xs) (q : RQ N K H ρ (bMax2 A ds) Q E) : rMax2 xs H Q := by
  unfold bMax2 at q
  split at q <;> try exact q.elim
  obtain ⟨v, w, rfl, rx, ry⟩ := rps2 r
  cases rx; cases ry
  exact ⟨_, _, rfl, q.ok h rfl⟩
def rAbs : RC := fun xs H Q => ∃ i, xs = [.int i] ∧ Q (.int (if i < 0 then -i else i)) H
theorem abs_ok {ds : List D} {xs : List V} (h : HR N K H ρ A) (r : Rps K H ρ ds xs) (q : RQ N K H ρ (bAbs A ds) Q E) : rAbs xs H Q := by
  unfold bAbs at q
  split at q <;> try exact q.elim
  obtain ⟨v, rfl, rx⟩ := rps1 r
  cases rx
  exact ⟨_, rfl, q.ok h rfl⟩

/-! ### methods -/
theorem append_ok {dx : D} {x : V} {ds : List D} {xs : List V} (h : HR N K H ρ A) (rx : Rp K H ρ dx x) (r : Rps K H ρ ds xs) (q : RQ N K H ρ (mAppend A dx ds) Q E) : tyV K "list" x H ∧ rAppend x xs H Q := by
  unfold mAppend at q
  split at q <;> try exact q.elim
  obtain ⟨y, rfl, ry⟩ := rps1 r
  split at q
  · rename_i zs hn
    split at q
    · rename_i hb
      obtain ⟨a, ws, rfl, hp, ha, ra⟩ := h.lst rx hn
      refine ⟨.inl ⟨rfl, ws, SqL.of ha⟩, a, ws, y, rfl, rfl, ha, ?_, q.wr h hp (ho_lst (rps_app ra (rps_cons ry rps_nil))) rfl⟩
      rw [← rps_len ra, sizeLine_eq]
      exact Nat.blt_eq.mp hb
    · exact q.elim
  · exact q.elim
theorem pop_ok {dx : D} {x : V} {ds : List D} {xs : List V} (h : HR N K H ρ A) (rx : Rp K H ρ dx x) (r : Rps K H ρ ds xs) (q : RQ N K H ρ (mPop A dx ds) Q E) : tyV K "list" x H ∧ rPop x xs H Q := by
  unfold mPop at q
  split at q <;> try exact q.elim
  unfold Rps at r
  subst r
  split at q
  · rename_i zs hn
    split at q
    · rename_i y hy
      obtain ⟨a, ws, rfl, hp, ha, ra⟩ := h.lst rx hn
      obtain ⟨v, hv, rv⟩ := pr_get (rps_iff.mp ra) hy
      refine ⟨.inl ⟨rfl, ws, SqL.of ha⟩, a, ws, v, rfl, rfl, ha, by rw [← rps_len ra]; exact hv, q.wr h hp (ho_lst ?_) rv⟩
      rw [List.dropLast_eq_take, List.dropLast_eq_take, rps_len ra]
      exact rps_iff.mpr (pr_take _ (rps_iff.mp ra))
    · exact q.elim
  · exact q.elim
theorem starts_ok {dx : D} {x : V} {ds : List D} {xs : List V} (h : HR N K H ρ A) (rx : Rp K H ρ dx x) (r : Rps K H ρ ds xs) (q : RQ N K H ρ (mStarts A dx ds) Q E) :
    ∃ s t : S, x = .str (txt s) ∧ xs = [.str (txt t)] ∧ Q (.bl (t.isPrefixOf s)) H := by
  unfold mStarts at q
  split at q <;> try exact q.elim
  obtain ⟨y, rfl, ry⟩ := rps1 r
  cases rx; cases ry
  exact ⟨_, _, rfl, rfl, q.ok h rfl⟩
/-- d.get(k, x) -/
theorem get_ok {dx : D} {x : V} {ds : List D} {xs : List V} (h : HR N K H ρ A) (rx : Rp K H ρ dx x) (r : Rps K H ρ ds xs) (q : RQ N K H ρ (mGet A dx ds) Q E) :
    ∃ a k d o, x = .ref a ∧ xs = [.str k, d] ∧ DGet H a (.str k) o ∧ Q (o.getD d) H := by
  unfold mGet at q
  split at q <;> try exact q.elim
  rename_i n k d
  obtain ⟨y, z, rfl, ry, rz⟩ := rps2 r
  cases ry
  split at q
  · rename_i kvs hn
    obtain ⟨a, ws, rfl, _, g, rk⟩ := h.rdk rx hn
    refine ⟨a, txt k, z, _, rfl, rfl, krs_dget (kvs := kvs) g k, q.ok h ?_⟩
    obtain ⟨h1, h2⟩ := krs_get rk k
    cases e : get1 kvs k with
    | none => rw [h2 e]; exact rz
    | some d' =>
      obtain ⟨v, hv, rv⟩ := h1 d' e
      rw [hv]
      exact rv
  · exact q.elim
end
end Mini

set_option Elab.async false
set_option linter.all false
set_option maxRecDepth 100000
set_option maxHeartbeats 4000000
/-! Mini's expressions: what each says of the syntax that it came from. -/
namespace Mini
open PySem L2

abbrev EX (W : WX) (σ : L2.St) : XK := fun cls d H => W cls d σ H
theorem PE.wk {X : Cx} {e : Expr} {t t' : TE} (h : PE X e t) (f : ∀ σ H Q, t' σ H Q → t σ H Q) : PE X e t' := ⟨fun pins s σ H Q I q => h.run pins s σ H Q I (f σ H Q q)⟩
theorem PT.wk {X : Cx} {e : Expr} {t t' : TT} (h : PT X e t) (f : ∀ σ H Q, t' σ H Q → t σ H Q) : PT X e t' := ⟨fun pins s σ H Q I q => h.run pins s σ H Q I (f σ H Q q)⟩
theorem PW.wk {X : Cx} {e : Expr} {t t' : TT} (h : PW X e t) (f : ∀ σ H Q, t' σ H Q → t σ H Q) : PW X e t' := ⟨fun whole pins s σ H Q I q => h.run whole pins s σ H Q I (f σ H Q q)⟩
theorem PA.wk {X : Cx} {e : List Expr} {t t' : TA} (h : PA X e t) (f : ∀ σ H Q, t' σ H Q → t σ H Q) : PA X e t' := ⟨fun pos pins s σ H Q I q => h.run pos pins s σ H Q I (f σ H Q q)⟩
theorem PS.wk {X : Cx} {e : Stmt} {t t' : TS} (h : PS X e t) (f : ∀ D σ H, t' D σ H → t D σ H) : PS X e t' := ⟨fun pins s σ H D I q => h.run pins s σ H D I (f D σ H q)⟩
theorem PSs.wk {X : Cx} {e : List Stmt} {t t' : TS} (h : PSs X e t) (f : ∀ D σ H, t' D σ H → t D σ H) : PSs X e t' := ⟨fun pins s σ H D I q => h.run pins s σ H D I (f D σ H q)⟩

/-- a value's truth, reckoned on -/
def tru (d : D) (A : Hh) : R Bool := match truth A d with | some b => .ok b A | none => .bad
section
variable (pg : Pg) (N : Nm) (C : Call) (K : PySem.W.Frag) (W : WX)
def tE (e : E) : TE := fun σ H Q => ∃ v A ρ, ER K H ρ v σ ∧ HR N K H ρ A ∧ RQ N K H ρ (evE pg C e v A) Q (EX W σ)
def tT (e : E) : TT := fun σ H Q => ∃ v A ρ, ER K H ρ v σ ∧ HR N K H ρ A ∧ RG N K H ρ ((evE pg C e v A).bind tru) (fun b _ H' _ => Q b H') (EX W σ)
def tA (es : List E) : TA := fun σ H Q => ∃ v A ρ, ER K H ρ v σ ∧ HR N K H ρ A ∧ RG N K H ρ (evEs pg C es v A) (fun ds _ H' ρ' => ∀ xs, Rps K H' ρ' ds xs → Q xs H') (EX W σ)
end
section
variable {pg : Pg} {N : Nm} {C : Call} {K : PySem.W.Frag} {W : WX} {H : Hp} {ρ : List Addr} {A : Hh} {v : Env} {σ : L2.St} {Q : VK}
theorem RG.mapE {α β : Type} {r : R α} {k : α → Hh → R β} {G : β → Hh → Hp → List Addr → Prop} {E : XK} {G' : α → Hh → Hp → List Addr → Prop} (q : RG N K H ρ (r.bind k) G E)
    (f : ∀ d A' H' ρ', HR N K H' ρ' A' → Ext H ρ H' ρ' → RG N K H' ρ' (k d A') G E → G' d A' H' ρ') : RG N K H ρ r G' E :=
  q.bind.imp fun d A' H' ρ' hr x g => f d A' H' ρ' hr x g
theorem RQ.rg {r : R D} {E : XK} (q : RQ N K H ρ r Q E) : RG N K H ρ r (fun d A H' ρ' => ∀ x, Rp K H' ρ' d x → Q x H') E := by
  cases r with
  | ok d A => exact fun H' ρ' y hr x rp => q x H' ρ' y hr rp
  | exc c v A => exact q
  | bad => exact q
/-- an expression's part, the rest being reckoned on -/
theorem use1 {e : E} {k : D → Hh → R D} {Q' : VK} (er : ER K H ρ v σ) (hr : HR N K H ρ A) (q : RQ N K H ρ ((evE pg C e v A).bind k) Q (EX W σ))
    (f : ∀ d A' x H' ρ', ER K H' ρ' v σ → HR N K H' ρ' A' → Rp K H' ρ' d x → Ext H ρ H' ρ' → RQ N K H' ρ' (k d A') Q (EX W σ) → Q' x H') : tE pg N C K W e σ H Q' :=
  ⟨v, A, ρ, er, hr, RQ.ofRG (q.bind.imp fun d A' H' ρ' hr' x g y ry => f d A' y H' ρ' (er.ext x) hr' ry x g)⟩
/-- .. of a test -/
theorem use1T {α : Type} {e : E} {k : Bool → Hh → R α} {G : α → Hh → Hp → List Addr → Prop} {Q' : Bool → Hp → Prop} (er : ER K H ρ v σ) (hr : HR N K H ρ A) (q : RG N K H ρ (((evE pg C e v A).bind tru).bind k) G (EX W σ))
    (f : ∀ b A' H' ρ', ER K H' ρ' v σ → HR N K H' ρ' A' → Ext H ρ H' ρ' → RG N K H' ρ' (k b A') G (EX W σ) → Q' b H') : tT pg N C K W e σ H Q' :=
  ⟨v, A, ρ, er, hr, q.bind.imp fun b A' H' ρ' hr' x g => f b A' H' ρ' (er.ext x) hr' x g⟩
/-- .. of arguments -/
theorem useA {es : List E} {k : List D → Hh → R D} {Q' : List V → Hp → Prop} (er : ER K H ρ v σ) (hr : HR N K H ρ A) (q : RQ N K H ρ ((evEs pg C es v A).bind k) Q (EX W σ))
    (f : ∀ ds A' xs H' ρ', ER K H' ρ' v σ → HR N K H' ρ' A' → Rps K H' ρ' ds xs → Ext H ρ H' ρ' → RQ N K H' ρ' (k ds A') Q (EX W σ) → Q' xs H') : tA pg N C K W es σ H Q' :=
  ⟨v, A, ρ, er, hr, q.bind.imp fun d A' H' ρ' hr' x g y ry => f d A' y H' ρ' (er.ext x) hr' ry x g⟩
theorem bind_ok {α β : Type} (r : R α) (f : α → β) : ∀ A a, r = .ok a A → r.bind (fun a A => R.ok (f a) A) = .ok (f a) A := fun A a e => by rw [e]; rfl
theorem bind_assoc {α β γ : Type} (r : R α) (f : α → Hh → R β) (g : β → Hh → R γ) : (r.bind f).bind g = r.bind fun a A => (f a A).bind g := by
  cases r <;> rfl
theorem bind_id {α : Type} (r : R α) : r.bind (fun a A => R.ok a A) = r := by cases r <;> rfl
end

/-! ### the plain constructs -/
section
variable {pg : Pg} {N : Nm} {C : Call} {W : WX} {X : Cx} {pos : Pos}
theorem e_bad {e : Expr} : PE X e (tE pg N C X.K W .bad) := ⟨fun _ _ _ _ _ _ ⟨_, _, _, _, _, q⟩ => q.elim⟩
theorem t_bad {e : Expr} : PT X e (tT pg N C X.K W .bad) := ⟨fun _ _ _ _ _ _ ⟨_, _, _, _, _, q⟩ => q.elim⟩
theorem e_var {i : Nat} {x : Str} (hN : X.N[i]? = some x) (hv : Vis X.env.scope x) (hd : (x == ("__debug__" : Str)) = false) (hcd : (x == ("__classdict__" : Str)) = false) : PE X (.Name x pos) (tE pg N C X.K W (.var i)) :=
  PE.wk (pe_var hN hv hd hcd) fun σ H Q ⟨v, A, ρ, er, hr, q⟩ => by
    unfold evE at q
    split at q
    · rename_i d hd
      obtain ⟨x, h1, h2⟩ := er.2 i d hd
      exact ⟨x, h1, q.ok hr h2⟩
    · exact q.elim
theorem e_int {i j} : PE X (.Constant (.int i) j pos) (tE pg N C X.K W (.con (.int i))) := PE.wk pe_int fun σ H Q ⟨v, A, ρ, er, hr, q⟩ => by unfold evE at q; exact q.ok hr rfl
theorem e_bl {b j} : PE X (.Constant (.bool b) j pos) (tE pg N C X.K W (.con (.bl b))) := PE.wk pe_bl fun σ H Q ⟨v, A, ρ, er, hr, q⟩ => by unfold evE at q; exact q.ok hr rfl
theorem e_non {j} : PE X (.Constant .none j pos) (tE pg N C X.K W (.con .non)) := PE.wk pe_non fun σ H Q ⟨v, A, ρ, er, hr, q⟩ => by unfold evE at q; exact q.ok hr rfl
theorem txt_cps (x : Str) : txt x.cps.toList = x := rfl
theorem e_str {x : Str} {j} : PE X (.Constant (.str x) j pos) (tE pg N C X.K W (.con (.str x.cps.toList))) := PE.wk pe_str fun σ H Q ⟨v, A, ρ, er, hr, q⟩ => by unfold evE at q; exact q.ok hr rfl
theorem e_glo {g : Nat} {x : Str} {u : Value} {y : V} {d : D} (hg : Gl X x) (hm : X.mg x = some u) (r : RelV y u) (e : pg.glo[g]? = some d) (hr : ∀ H ρ, Rp X.K H ρ d y) (hd : (x == ("__debug__" : Str)) = false) : PE X (.Name x pos) (tE pg N C X.K W (.glo g)) :=
  PE.wk (pe_glob hg hm r hd) fun σ H Q ⟨v, A, ρ, er, h, q⟩ => by
    unfold evE at q
    rw [e] at q
    exact RQ.ok (show RQ N X.K H ρ (.ok d A) Q _ from q) h (hr H ρ)
theorem e_add {a b : Expr} {ea eb : E} (ha : PE X a (tE pg N C X.K W ea)) (hb : PE X b (tE pg N C X.K W eb)) : PE X (.BinOp a .Add b pos) (tE pg N C X.K W (.op2 .add ea eb)) :=
  PE.wk (pe_op op_addAll ha hb) fun σ H Q ⟨v, A, ρ, er, hr, q⟩ => by
    unfold evE at q
    exact use1 er hr q fun d A1 x H1 ρ1 er1 hr1 rx x1 q1 => use1 er1 hr1 q1 fun d2 A2 y H2 ρ2 er2 hr2 ry x2 q2 => add_ok hr2 (rx.ext x2) ry q2
theorem e_sub {a b : Expr} {ea eb : E} (ha : PE X a (tE pg N C X.K W ea)) (hb : PE X b (tE pg N C X.K W eb)) : PE X (.BinOp a .Sub b pos) (tE pg N C X.K W (.op2 .sub ea eb)) :=
  PE.wk (pe_op op_sub ha hb) fun σ H Q ⟨v, A, ρ, er, hr, q⟩ => by
    unfold evE at q
    exact use1 er hr q fun d A1 x H1 ρ1 er1 hr1 rx x1 q1 => use1 er1 hr1 q1 fun d2 A2 y H2 ρ2 er2 hr2 ry x2 q2 => sub_ok hr2 (rx.ext x2) ry q2
theorem e_mul {a b : Expr} {ea eb : E} (ha : PE X a (tE pg N C X.K W ea)) (hb : PE X b (tE pg N C X.K W eb)) : PE X (.BinOp a .Mult b pos) (tE pg N C X.K W (.op2 .mul ea eb)) :=
  PE.wk (pe_op op_mulAll ha hb) fun σ H Q ⟨v, A, ρ, er, hr, q⟩ => by
    unfold evE at q
    exact use1 er hr q fun d A1 x H1 ρ1 er1 hr1 rx x1 q1 => use1 er1 hr1 q1 fun d2 A2 y H2 ρ2 er2 hr2 ry x2 q2 => mul_ok hr2 (rx.ext x2) ry q2
theorem e_fdiv {a b : Expr} {ea eb : E} (ha : PE X a (tE pg N C X.K W ea)) (hb : PE X b (tE pg N C X.K W eb)) : PE X (.BinOp a .FloorDiv b pos) (tE pg N C X.K W (.op2 .fdiv ea eb)) :=
  PE.wk (pe_op op_fdiv ha hb) fun σ H Q ⟨v, A, ρ, er, hr, q⟩ => by
    unfold evE at q
    exact use1 er hr q fun d A1 x H1 ρ1 er1 hr1 rx x1 q1 => use1 er1 hr1 q1 fun d2 A2 y H2 ρ2 er2 hr2 ry x2 q2 => fdiv_ok hr2 (rx.ext x2) ry q2
theorem e_mod {a b : Expr} {ea eb : E} (ha : PE X a (tE pg N C X.K W ea)) (hb : PE X b (tE pg N C X.K W eb)) : PE X (.BinOp a .Mod b pos) (tE pg N C X.K W (.op2 .mod ea eb)) :=
  PE.wk (pe_op op_mod ha hb) fun σ H Q ⟨v, A, ρ, er, hr, q⟩ => by
    unfold evE at q
    exact use1 er hr q fun d A1 x H1 ρ1 er1 hr1 rx x1 q1 => use1 er1 hr1 q1 fun d2 A2 y H2 ρ2 er2 hr2 ry x2 q2 => mod_ok hr2 (rx.ext x2) ry q2
theorem e_pow {a b : Expr} {ea eb : E} (ha : PE X a (tE pg N C X.K W ea)) (hb : PE X b (tE pg N C X.K W eb)) : PE X (.BinOp a .Pow b pos) (tE pg N C X.K W (.op2 .pow ea eb)) :=
  PE.wk (pe_op op_pow ha hb) fun σ H Q ⟨v, A, ρ, er, hr, q⟩ => by
    unfold evE at q
    exact use1 er hr q fun d A1 x H1 ρ1 er1 hr1 rx x1 q1 => use1 er1 hr1 q1 fun d2 A2 y H2 ρ2 er2 hr2 ry x2 q2 => pow_ok hr2 (rx.ext x2) ry q2
theorem e_neg {a : Expr} {ea : E} (ha : PE X a (tE pg N C X.K W ea)) : PE X (.UnaryOp .USub a pos) (tE pg N C X.K W (.neg ea)) :=
  PE.wk (pe_un un_neg ha) fun σ H Q ⟨v, A, ρ, er, hr, q⟩ => by
    unfold evE at q
    exact use1 er hr q fun d A1 x H1 ρ1 er1 hr1 rx x1 q1 => neg_ok hr1 rx q1
theorem e_not {a : Expr} {ea : E} (ha : PE X a (tE pg N C X.K W ea)) : PE X (.UnaryOp .Not a pos) (tE pg N C X.K W (.not ea)) :=
  PE.wk (pe_notT ha) fun σ H Q ⟨v, A, ρ, er, hr, q⟩ => by
    unfold evE at q
    refine use1 er hr q fun d A1 x H1 ρ1 er1 hr1 rx x1 q1 => ?_
    split at q1
    · rename_i b hb
      exact ⟨b, truth_ok hr1 rx hb, q1.ok hr1 rfl⟩
    · exact q1.elim
/-- and, or: the chain -/
def tAnd' (pg : Pg) (N : Nm) (C : Call) (K : PySem.W.Frag) (W : WX) (es : List E) : TE := fun σ H Q => ∃ v A ρ, ER K H ρ v σ ∧ HR N K H ρ A ∧ RQ N K H ρ (evAnd pg C es v A) Q (EX W σ)
def tOr' (pg : Pg) (N : Nm) (C : Call) (K : PySem.W.Frag) (W : WX) (es : List E) : TE := fun σ H Q => ∃ v A ρ, ER K H ρ v σ ∧ HR N K H ρ A ∧ RQ N K H ρ (evOr pg C es v A) Q (EX W σ)
theorem e_andL : ∀ {xs : List Expr} {es : List E}, Paired (fun x e => PE X x (tE pg N C X.K W e)) xs es → xs ≠ [] → PE X (.BoolOp .And xs pos) (tAnd' pg N C X.K W es)
  | [], _, _, h => absurd rfl h
  | [x], _, .cons h .nil, _ => PE.wk (pe_one h) fun σ H Q ⟨v, A, ρ, er, hr, q⟩ => by
    unfold evAnd at q
    exact ⟨v, A, ρ, er, hr, q⟩
  | x :: y :: r, _, .cons h (.cons h2 t), _ => PE.wk (pe_andT h (e_andL (.cons h2 t) (by simp))) fun σ H Q ⟨v, A, ρ, er, hr, q⟩ => by
    unfold evAnd at q
    refine use1 er hr q fun d A1 x H1 ρ1 er1 hr1 rx x1 q1 => ?_
    split at q1
    · rename_i hb
      exact ⟨true, truth_ok hr1 rx hb, by rw [if_pos rfl]; exact ⟨v, A1, ρ1, er1, hr1, q1⟩⟩
    · rename_i hb
      exact ⟨false, truth_ok hr1 rx hb, by rw [if_neg (by decide)]; exact q1.ok hr1 rx⟩
    · exact q1.elim
theorem e_orL : ∀ {xs : List Expr} {es : List E}, Paired (fun x e => PE X x (tE pg N C X.K W e)) xs es → xs ≠ [] → PE X (.BoolOp .Or xs pos) (tOr' pg N C X.K W es)
  | [], _, _, h => absurd rfl h
  | [x], _, .cons h .nil, _ => PE.wk (pe_one h) fun σ H Q ⟨v, A, ρ, er, hr, q⟩ => by
    unfold evOr at q
    exact ⟨v, A, ρ, er, hr, q⟩
  | x :: y :: r, _, .cons h (.cons h2 t), _ => PE.wk (pe_orT h (e_orL (.cons h2 t) (by simp))) fun σ H Q ⟨v, A, ρ, er, hr, q⟩ => by
    unfold evOr at q
    refine use1 er hr q fun d A1 x H1 ρ1 er1 hr1 rx x1 q1 => ?_
    split at q1
    · rename_i hb
      exact ⟨true, truth_ok hr1 rx hb, by rw [if_pos rfl]; exact q1.ok hr1 rx⟩
    · rename_i hb
      exact ⟨false, truth_ok hr1 rx hb, by rw [if_neg (by decide)]; exact ⟨v, A1, ρ1, er1, hr1, q1⟩⟩
    · exact q1.elim
theorem e_and {xs : List Expr} {es : List E} (h : Paired (fun x e => PE X x (tE pg N C X.K W e)) xs es) (n : xs ≠ []) : PE X (.BoolOp .And xs pos) (tE pg N C X.K W (.and es)) :=
  PE.wk (e_andL h n) fun σ H Q ⟨v, A, ρ, er, hr, q⟩ => ⟨v, A, ρ, er, hr, by unfold evE at q; exact q⟩
theorem e_or {xs : List Expr} {es : List E} (h : Paired (fun x e => PE X x (tE pg N C X.K W e)) xs es) (n : xs ≠ []) : PE X (.BoolOp .Or xs pos) (tE pg N C X.K W (.or es)) :=
  PE.wk (e_orL h n) fun σ H Q ⟨v, A, ρ, er, hr, q⟩ => ⟨v, A, ρ, er, hr, by unfold evE at q; exact q⟩
/-- arguments, displays -/
theorem a_all : ∀ {xs : List Expr} {es : List E}, Paired (fun x e => PE X x (tE pg N C X.K W e) ∧ (∀ r, starEach (x :: r) X.env = (false, eval x X.env) :: starEach r X.env)) xs es → PA X xs (tA pg N C X.K W es)
  | _, _, .nil => PA.wk pa_nil fun σ H Q ⟨v, A, ρ, er, hr, q⟩ => q H ρ .refl hr [] rps_nil
  | x :: r, _, .cons h t => PA.wk (pa_cons h.1 (a_all t) (h.2 r)) fun σ H Q ⟨v, A, ρ, er, hr, q⟩ => by
    unfold evEs at q
    refine ⟨v, A, ρ, er, hr, RQ.ofRG (q.bind.imp fun d A1 H1 ρ1 hr1 x1 g y ry => ⟨v, A1, ρ1, er.ext x1, hr1, g.bind.imp fun ds A2 H2 ρ2 hr2 x2 g2 zs rz => ?_⟩)⟩
    exact g2 H2 ρ2 .refl hr2 (y :: zs) (rps_cons (ry.ext x2) rz)
theorem e_tup {xs : List Expr} {es : List E} {k} (h : PA X xs (tA pg N C X.K W es)) : PE X (.Tuple xs k pos) (tE pg N C X.K W (.tup es)) :=
  PE.wk (pe_tup h) fun σ H Q ⟨v, A, ρ, er, hr, q⟩ => by
    unfold evE at q
    refine useA er hr q fun ds A1 zs H1 ρ1 er1 hr1 rz x1 q1 => ?_
    split at q1
    · rename_i hb
      exact ⟨by rw [← rps_len rz]; exact big_le hb, q1.tup hr1 rz⟩
    · exact q1.elim
theorem e_lst {xs : List Expr} {es : List E} (h : PA X xs (tA pg N C X.K W es)) : PE X (.List xs pos) (tE pg N C X.K W (.lst es)) :=
  PE.wk (pe_lst h) fun σ H Q ⟨v, A, ρ, er, hr, q⟩ => by
    unfold evE at q
    refine useA er hr q fun ds A1 zs H1 ρ1 er1 hr1 rz x1 q1 => ?_
    split at q1
    · rename_i hb
      exact ⟨by rw [← rps_len rz]; exact big_le hb, RQ.obj q1 hr1 (ho_lst rz)⟩
    · exact q1.elim
/-- places, slices, fields -/
theorem op_ixAll (hu : X.A.units + 1 < cLine) : IxR X (rIxAll X.K) := by
  refine IxR.or ix_seq ?_
  intro value slice pins s σ H x y v u Q I rx ry ⟨a, w, e, g, q⟩ hs
  subst e
  cases rx
  obtain ⟨t1, t2⟩ : s.TypeIs (.ref a) "dict" ∧ True := by
    rcases g with ⟨kvs, k, e, _, _⟩ | ⟨kvs, k, b, e, _, _, _⟩
    · obtain ⟨_, _, vs, _, dd⟩ := dk_rd I.hok e
      exact ⟨dd.typeIs, trivial⟩
    · obtain ⟨_, _, xs, _, o, es, ep, h1, h2, _⟩ := dt_rd I.hok e
      exact ⟨⟨o, h1, h2.1⟩, trivial⟩
  exact PyProof.Rows.tail_any t1 slot_dict_getitem.lookup (d_getItem hu I g ry fun w' s' I' rw' => ⟨w, H, I', rw', q⟩) hs
theorem e_idx {a b : Expr} {ea eb : E} (hu : X.A.units + 1 < cLine) (ha : PE X a (tE pg N C X.K W ea)) (hb : PE X b (tE pg N C X.K W eb)) (hs : PlainIx b) : PE X (.Subscript a b pos) (tE pg N C X.K W (.idx ea eb)) :=
  PE.wk (pe_ix (op_ixAll hu) ha hb hs) fun σ H Q ⟨v, A, ρ, er, hr, q⟩ => by
    unfold evE at q
    exact use1 er hr q fun d A1 x H1 ρ1 er1 hr1 rx x1 q1 => use1 er1 hr1 q1 fun d2 A2 y H2 ρ2 er2 hr2 ry x2 q2 => idx_ok hr2 (rx.ext x2) ry q2
theorem e_sl1 {a b : Expr} {ea eb : E} {p2 : Pos} (ha : PE X a (tE pg N C X.K W ea)) (hb : PE X b (tE pg N C X.K W eb)) : PE X (.Subscript a (.Slice (some b) none none p2) pos) (tE pg N C X.K W (.sl1 ea eb)) :=
  PE.wk (pe_slice sl_all ha (po_some hb) po_none) fun σ H Q ⟨v, A, ρ, er, hr, q⟩ => by
    unfold evE at q
    refine use1 er hr q fun d A1 x H1 ρ1 er1 hr1 rx x1 q1 => use1 er1 hr1 q1 fun d2 A2 y H2 ρ2 er2 hr2 ry x2 q2 => ?_
    split at q2
    · cases ry
      exact ⟨_, rfl, slc_ok hr2 (rx.ext x2) q2⟩
    · exact q2.elim
theorem e_sl2 {a b : Expr} {ea eb : E} {p2 : Pos} (ha : PE X a (tE pg N C X.K W ea)) (hb : PE X b (tE pg N C X.K W eb)) : PE X (.Subscript a (.Slice none (some b) none p2) pos) (tE pg N C X.K W (.sl2 ea eb)) :=
  PE.wk (pe_slice sl_all ha po_none (po_some hb)) fun σ H Q ⟨v, A, ρ, er, hr, q⟩ => by
    unfold evE at q
    refine use1 er hr q fun d A1 x H1 ρ1 er1 hr1 rx x1 q1 => use1 er1 hr1 q1 fun d2 A2 y H2 ρ2 er2 hr2 ry x2 q2 => ?_
    split at q2
    · cases ry
      exact ⟨_, rfl, slc_ok hr2 (rx.ext x2) q2⟩
    · exact q2.elim
theorem e_sl3 {a b c : Expr} {ea eb ec : E} {p2 : Pos} (ha : PE X a (tE pg N C X.K W ea)) (hb : PE X b (tE pg N C X.K W eb)) (hc : PE X c (tE pg N C X.K W ec)) : PE X (.Subscript a (.Slice (some b) (some c) none p2) pos) (tE pg N C X.K W (.sl3 ea eb ec)) :=
  PE.wk (pe_slice sl_all ha (po_some hb) (po_some hc)) fun σ H Q ⟨v, A, ρ, er, hr, q⟩ => by
    unfold evE at q
    refine use1 er hr q fun d A1 x H1 ρ1 er1 hr1 rx x1 q1 => use1 er1 hr1 q1 fun d2 A2 y H2 ρ2 er2 hr2 ry x2 q2 => ?_
    split at q2
    · cases ry
      refine ⟨_, rfl, use1 er2 hr2 q2 fun d3 A3 z H3 ρ3 er3 hr3 rz x3 q3 => ?_⟩
      split at q3
      · cases rz
        exact ⟨_, rfl, slc_ok hr3 ((rx.ext x2).ext x3) q3⟩
      · exact q3.elim
    · exact q2.elim
end
end Mini

set_option Elab.async false
set_option linter.all false
set_option maxRecDepth 100000
set_option maxHeartbeats 4000000
/-! Mini's expressions: comparisons, tests. -/
namespace Mini
open PySem L2

/-- what a def of the text keeps: Mini's own account of it -/
def spF (N : Nm) (K : PySem.W.Frag) (C : Call) (f np : Nat) : Sp := fun vs H Q E => ∃ ds A ρ, ds.length = np ∧ HR N K H ρ A ∧ Rps K H ρ ds vs ∧ RQ N K H ρ (C f ds A) Q E
section
variable {pg : Pg} {N : Nm} {C : Call} {W : WX} {X : Cx} {pos : Pos}
theorem RQ.tru {K : PySem.W.Frag} {H : Hp} {ρ : List Addr} {r : R D} {Q : Bool → Hp → Prop} {E : XK} (hb : ∀ d A, r = .ok d A → ∃ b, d = .bl b) (q : RG N K H ρ (r.bind tru) (fun b _ H' _ => Q b H') E) : RQ N K H ρ r (fun z H' => ∃ k, z = V.bl k ∧ Q k H') E := by
  cases r with
  | ok d A =>
    obtain ⟨b, rfl⟩ := hb d A rfl
    intro x H' ρ' y hr rp
    cases rp
    exact ⟨b, rfl, q H' ρ' y hr⟩
  | exc c v A => exact q
  | bad => exact q
theorem asB_bl {r : R D} {d : D} {A : Hh} (h : asB r = .ok d A) : ∃ b, d = .bl b := by
  unfold asB at h
  split at h
  · cases h; exact ⟨_, rfl⟩
  · cases h
theorem ofB_bl {o : Option Bool} {A A' : Hh} {d : D} (h : ofB o A = .ok d A') : ∃ b, d = .bl b := by
  unfold ofB at h
  split at h
  · cases h; exact ⟨_, rfl⟩
  · cases h
theorem bind_isb {α : Type} {r : R α} {k : α → Hh → R D} {d : D} {A : Hh} (hk : ∀ a A1 d A, k a A1 = .ok d A → ∃ b, d = .bl b) (h : r.bind k = .ok d A) : ∃ b, d = .bl b := by
  cases r with
  | ok a A1 => exact hk a A1 d A h
  | exc c v A1 => cases h
  | bad => cases h
theorem cmp_bl {c : Cm} {ea eb : E} {v : Env} {A A' : Hh} {d : D} (h : evE pg C (.cmp c ea eb) v A = .ok d A') : ∃ b, d = .bl b := by
  unfold evE at h
  refine bind_isb (fun x A1 d A2 h => bind_isb (fun y A3 d A4 h => ?_) h) h
  split at h
  · exact asB_bl h
  · exact ofB_bl h
theorem te_of_tt {e : E} {σ : L2.St} {H : Hp} {Q : Bool → Hp → Prop} (hb : ∀ v A d A', evE pg C e v A = .ok d A' → ∃ b, d = .bl b) (h : tT pg N C X.K W e σ H Q) : tE pg N C X.K W e σ H (fun z H' => ∃ k, z = V.bl k ∧ Q k H') := by
  obtain ⟨v, A, ρ, er, hr, q⟩ := h
  exact ⟨v, A, ρ, er, hr, RQ.tru (hb v A) q⟩
/-- a comparison, as a value and as a test, by what its two values say -/
theorem cmp_of {c : Cm} {op : CmpOp} {r : R2} {a b : Expr} {ea eb : E} (ho : OpR X (compareOp op) r) (ha : PE X a (tE pg N C X.K W ea)) (hb : PE X b (tE pg N C X.K W eb)) (hm : behindInMarks op b = false)
    (ok : ∀ {H : Hp} {ρ : List Addr} {A : Hh} {dx dy : D} {x y : V} {Q : VK} {E : XK}, HR N X.K H ρ A → Rp X.K H ρ dx x → Rp X.K H ρ dy y → RQ N X.K H ρ (match ownEq pg A c dx dy with | some f => asB (C f [dx, dy] A) | none => ofB (cmpR c dx dy A) A) Q E → r x y H Q) :
    PE X (.Compare a [op] [b] pos) (tE pg N C X.K W (.cmp c ea eb)) ∧ PT X (.Compare a [op] [b] pos) (tT pg N C X.K W (.cmp c ea eb)) := by
  have imp : ∀ σ H Q, tE pg N C X.K W (.cmp c ea eb) σ H Q → tOp r (tE pg N C X.K W ea) (tE pg N C X.K W eb) σ H Q := fun σ H Q ⟨v, A, ρ, er, hr, q⟩ => by
    unfold evE at q
    exact use1 er hr q fun d A1 x H1 ρ1 er1 hr1 rx x1 q1 => use1 er1 hr1 q1 fun d2 A2 y H2 ρ2 er2 hr2 ry x2 q2 => ok hr2 (rx.ext x2) ry q2
  exact ⟨PE.wk (pe_cmpR ho ha hb hm) imp, PT.wk (pt_cmpR ho ha hb hm) fun σ H Q h => imp σ H _ (te_of_tt (fun v A d A' => cmp_bl) h)⟩
theorem ownEq_ne {A : Hh} {c : Cm} {x y : D} (h : c ≠ .eq) : ownEq pg A c x y = none := by
  unfold ownEq
  cases c <;> first | exact absurd rfl h | rfl
variable {a b : Expr} {ea eb : E}
theorem c_ne (hu : X.A.units + 64 < cLine) (ha : PE X a (tE pg N C X.K W ea)) (hb : PE X b (tE pg N C X.K W eb)) :
    PE X (.Compare a [.NotEq] [b] pos) (tE pg N C X.K W (.cmp .ne ea eb)) ∧ PT X (.Compare a [.NotEq] [b] pos) (tT pg N C X.K W (.cmp .ne ea eb)) :=
  cmp_of (op_neAll hu) ha hb (nomark _) fun h rx ry q => by rw [ownEq_ne (by intro z; cases z)] at q; exact ne_ok h rx ry q
theorem c_lt (ha : PE X a (tE pg N C X.K W ea)) (hb : PE X b (tE pg N C X.K W eb)) :
    PE X (.Compare a [.Lt] [b] pos) (tE pg N C X.K W (.cmp .lt ea eb)) ∧ PT X (.Compare a [.Lt] [b] pos) (tT pg N C X.K W (.cmp .lt ea eb)) :=
  cmp_of op_lt ha hb (nomark _) fun h rx ry q => by rw [ownEq_ne (by intro z; cases z)] at q; exact lt_ok h rx ry q
theorem c_le (ha : PE X a (tE pg N C X.K W ea)) (hb : PE X b (tE pg N C X.K W eb)) :
    PE X (.Compare a [.LtE] [b] pos) (tE pg N C X.K W (.cmp .le ea eb)) ∧ PT X (.Compare a [.LtE] [b] pos) (tT pg N C X.K W (.cmp .le ea eb)) :=
  cmp_of op_le ha hb (nomark _) fun h rx ry q => by rw [ownEq_ne (by intro z; cases z)] at q; exact le_ok h rx ry q
theorem c_gt (ha : PE X a (tE pg N C X.K W ea)) (hb : PE X b (tE pg N C X.K W eb)) :
    PE X (.Compare a [.Gt] [b] pos) (tE pg N C X.K W (.cmp .gt ea eb)) ∧ PT X (.Compare a [.Gt] [b] pos) (tT pg N C X.K W (.cmp .gt ea eb)) :=
  cmp_of op_gt ha hb (nomark _) fun h rx ry q => by rw [ownEq_ne (by intro z; cases z)] at q; exact gt_ok h rx ry q
theorem c_ge (ha : PE X a (tE pg N C X.K W ea)) (hb : PE X b (tE pg N C X.K W eb)) :
    PE X (.Compare a [.GtE] [b] pos) (tE pg N C X.K W (.cmp .ge ea eb)) ∧ PT X (.Compare a [.GtE] [b] pos) (tT pg N C X.K W (.cmp .ge ea eb)) :=
  cmp_of op_ge ha hb (nomark _) fun h rx ry q => by rw [ownEq_ne (by intro z; cases z)] at q; exact ge_ok h rx ry q
theorem c_in (hu : X.A.units + 65 < cLine) (ha : PE X a (tE pg N C X.K W ea)) (hb : PE X b (tE pg N C X.K W eb)) (hm : behindInMarks .In b = false) :
    PE X (.Compare a [.In] [b] pos) (tE pg N C X.K W (.cmp .inn ea eb)) ∧ PT X (.Compare a [.In] [b] pos) (tT pg N C X.K W (.cmp .inn ea eb)) :=
  cmp_of (op_inAll hu) ha hb hm fun h rx ry q => by rw [ownEq_ne (by intro z; cases z)] at q; exact in_ok h rx ry q
theorem c_notin (hu : X.A.units + 65 < cLine) (ha : PE X a (tE pg N C X.K W ea)) (hb : PE X b (tE pg N C X.K W eb)) (hm : behindInMarks .NotIn b = false) :
    PE X (.Compare a [.NotIn] [b] pos) (tE pg N C X.K W (.cmp .notin ea eb)) ∧ PT X (.Compare a [.NotIn] [b] pos) (tT pg N C X.K W (.cmp .notin ea eb)) :=
  cmp_of (op_notInAll hu) ha hb hm fun h rx ry q => by rw [ownEq_ne (by intro z; cases z)] at q; exact notin_ok h rx ry q
theorem c_isN (ha : PE X a (tE pg N C X.K W ea)) (hb : PE X b (tE pg N C X.K W eb)) : PE X (.Compare a [.Is] [b] pos) (tE pg N C X.K W (.cmp .isN ea eb)) ∧ PT X (.Compare a [.Is] [b] pos) (tT pg N C X.K W (.cmp .isN ea eb)) :=
  cmp_of (r := fun x y H Q => y = .non ∧ Q (.bl (decide (x = .non))) H) op_isN ha hb (nomark _) fun h rx ry q => by rw [ownEq_ne (by intro z; cases z)] at q; exact isN_ok h rx ry q
theorem c_notN (ha : PE X a (tE pg N C X.K W ea)) (hb : PE X b (tE pg N C X.K W eb)) : PE X (.Compare a [.IsNot] [b] pos) (tE pg N C X.K W (.cmp .notN ea eb)) ∧ PT X (.Compare a [.IsNot] [b] pos) (tT pg N C X.K W (.cmp .notN ea eb)) :=
  cmp_of (r := fun x y H Q => y = .non ∧ Q (.bl (!decide (x = .non))) H) op_notN ha hb (nomark _) fun h rx ry q => by rw [ownEq_ne (by intro z; cases z)] at q; exact notN_ok h rx ry q
end
end Mini

set_option Elab.async false
set_option linter.all false
set_option maxRecDepth 100000
set_option maxHeartbeats 4000000
/-! Rules of the layer, with what is raised wished for at the caller's slots: calls without arguments, methods, new instances, own == and len. -/
namespace Mini
open PySem L2 PySem.Spec PyProof.Rows
section
variable {X : Cx} {CX : CXT} {k : Nat} {f C : Addr} {fd : FuncData} {ps : List Str} {sp : Sp} {E : L2.St → XK} {x m : Str} {p pos apos : Pos} {e o : Expr} {es : List Expr} {ta : TE} {t : TA} {ds : List Value} {dvs : List V}
theorem run_fnD {pins : List (Addr × Obj)} {σ : L2.St} {H : Hp} {s : Shared} {Q : VK} {us : List Value} {vs : List V} (F : FnOk X.prog X.w X.K X.mg X.base CX k f fd ps sp) (hr : Room k X.A) (hb : Binds X.K fd ps ds) (hd : Vals dvs ds) (hx : PassesAt CX X σ (E σ))
    (I : Inv X pins σ H s) (r : Vals vs us) (h : sp (vs ++ dvs) H Q (E σ)) : wpAny (model X.prog X.w) X.A (call (.ref f) us) (EP X pins σ Q) X.xe s := by
  have r2 : Vals (vs ++ dvs) (us ++ ds) := r.append hd
  have hl : (us ++ ds).length = ps.length := by rw [← r2.length]; exact F.len _ _ _ _ h
  refine wpAny_call (codeAny_mono (F.run X.A X.stack s H ⟨us, []⟩ (us ++ ds) (vs ++ dvs) Q (E σ) hr I.env0 (hb s us I.kIn hl) r2 h) fun r s' hq => ?_)
  cases r with
  | error e => exact hx pins H s e s' I hq
  | ok fl =>
    cases fl with
    | ret u => exact I.after hq
    | next => exact False.elim hq
    | brk => exact False.elim hq
    | cont => exact False.elim hq
def tCallD (sp : Sp) (dvs : List V) (E : L2.St → XK) (t : TA) : TE := fun σ H Q => t σ H fun vs H1 => sp (vs ++ dvs) H1 Q (E σ)
theorem pe_callD (F : FnOk X.prog X.w X.K X.mg X.base CX k f fd ps sp) (hr : Room k X.A) (hg : Gl X x) (hm : X.mg x = some (.ref f)) (hk : PySem.W.keepIn X.K (.ref f) = true) (hb : Binds X.K fd ps ds) (hd : Vals dvs ds) (hx : ∀ σ, PassesAt CX X σ (E σ))
    (ha : PA X (e :: es) t) (hdb : (x == ("__debug__" : Str)) = false) (he : starEach (e :: es) X.env = (false, eval e X.env) :: starEach es X.env) (hpl : (backTo pos (starEach es X.env)).any (·.1) = false) :
    PE X (.Call (.Name x p) (e :: es) [] pos) (tCallD sp dvs E t) := by
  refine ⟨fun pins s σ H Q I h => ?_⟩
  refine wpAny_Call_Name_kw (ld_glob I hg hm ?_ hdb)
  refine PySem.W.callWith_K (h₀ := X.base) I.ok.mod.kin hk (thn (ha.run pos pins s σ H _ I h) fun us s1 ⟨vs, H1, I1, r, q⟩ => ⟨I1.kIn, ?_⟩) he hpl
  exact run_fnD F hr hb hd (hx σ) I1 r q
theorem pe_call0D (F : FnOk X.prog X.w X.K X.mg X.base CX k f fd ps sp) (hr : Room k X.A) (hg : Gl X x) (hm : X.mg x = some (.ref f)) (hk : PySem.W.keepIn X.K (.ref f) = true) (hb : Binds X.K fd ps []) (hx : ∀ σ, PassesAt CX X σ (E σ))
    (hdb : (x == ("__debug__" : Str)) = false) : PE X (.Call (.Name x p) [] [] pos) (fun σ H Q => sp [] H Q (E σ)) := by
  refine ⟨fun pins s σ H Q I h => ?_⟩
  refine wpAny_Call_Name_kw (ld_glob I hg hm ?_ hdb)
  exact PySem.W.callWith_K0 I.kIn hk (run_fnD (us := []) (vs := []) (dvs := []) F hr hb .nil (hx σ) I .nil h)
/-- o.m(..) -/
def tMethD (C : Addr) (m : Str) (sp : Sp) (E : L2.St → XK) (ta : TE) (t : TA) : TE := fun σ H Q => ta σ H fun x H1 => ∃ a dx fs, x = .ref a ∧ H1 a = some (.ins C dx fs) ∧ fs.lookup m = none ∧
  t σ H1 fun vs H2 => sp (x :: vs) H2 Q (E σ)
theorem pe_methD {pl : Sem Bool} (he : PE X o ta) (c : Cls X.K C) (hm : Meth X.K C m f) (F : FnOk X.prog X.w X.K X.mg X.base CX k f fd ps sp) (hr : Room k X.A) (hb : Binds X.K fd ps []) (hx : ∀ σ, PassesAt CX X σ (E σ)) (ha : PA X (e :: es) t)
    (hst : starEach (e :: es) X.env = (false, eval e X.env) :: starEach es X.env) (hpl : (backTo pos (starEach es X.env)).any (·.1) = false)
    (ht : eval (.Call (.Attribute o m apos) (e :: es) [] pos) X.env = (do
      let ov ← eval o X.env
      standAt apos.atName
      let (f, first) ← holding [ov] (getMethod ov m pl)
      callWith pos f first (backTo pos (starEach (e :: es) X.env)) (backToKw pos (keywordEach [] X.env)))) :
    PE X (.Call (.Attribute o m apos) (e :: es) [] pos) (tMethD C m sp E ta t) := by
  refine ⟨fun pins s σ H Q I h => ?_⟩
  refine PySem.W.methodCall_KW (pl := pl) (thn (he.run pins s σ H _ I h) fun u s1 ⟨x, H1, I1, rx, a, dx, fs, ex, ea, l, q⟩ => ?_) ht
  subst ex
  obtain rfl : u = Value.ref a := rx
  refine getmeth_ok I1 ea c hm l ?_
  refine PySem.W.callWith_K (first := [.ref a]) (h₀ := X.base) I.ok.mod.kin hm.kp (thn (ha.run pos pins s1 σ H1 _ I1 q) fun us s2 ⟨vs, H2, I2, r, q2⟩ => ⟨I2.kIn, ?_⟩) hst hpl
  exact run_fnD (us := .ref a :: us) (vs := .ref a :: vs) (dvs := []) F hr hb .nil (hx σ) I2 (.cons rfl r) (by rw [List.append_nil]; exact q2)
theorem pe_meth0D {pl : Sem Bool} (he : PE X o ta) (c : Cls X.K C) (hm : Meth X.K C m f) (F : FnOk X.prog X.w X.K X.mg X.base CX k f fd ps sp) (hr : Room k X.A) (hb : Binds X.K fd ps []) (hx : ∀ σ, PassesAt CX X σ (E σ))
    (ht : eval (.Call (.Attribute o m apos) [] [] pos) X.env = (do
      let ov ← eval o X.env
      standAt apos.atName
      let (f, first) ← holding [ov] (getMethod ov m pl)
      callWith pos f first (backTo pos (starEach [] X.env)) (backToKw pos (keywordEach [] X.env)))) :
    PE X (.Call (.Attribute o m apos) [] [] pos) (tMethD C m sp E ta tNil) := by
  refine ⟨fun pins s σ H Q I h => ?_⟩
  refine PySem.W.methodCall_KW (pl := pl) (thn (he.run pins s σ H _ I h) fun u s1 ⟨x, H1, I1, rx, a, dx, fs, ex, ea, l, q⟩ => ?_) ht
  subst ex
  obtain rfl : u = Value.ref a := rx
  refine getmeth_ok I1 ea c hm l ?_
  exact PySem.W.callWith_K0 (first := [.ref a]) I1.kIn hm.kp (run_fnD (us := [.ref a]) (vs := [.ref a]) (dvs := []) F hr hb .nil (hx σ) I1 (.cons rfl .nil) q)
/-- C(..) -/
def tMakeD (C : Addr) (sp : Sp) (E : L2.St → XK) (t : TA) : TE := fun σ H Q => t σ H fun vs H1 => ∀ x dx, H1 x = none → H1 dx = none → dx ≠ x →
  sp (.ref x :: vs) (upd (upd H1 dx (.own x)) x (.ins C dx [])) (fun v H2 => v = .non ∧ Q (.ref x) H2) (E σ)
theorem run_makeD {pins : List (Addr × Obj)} {σ : L2.St} {H : Hp} {s : Shared} {Q : VK} {us : List Value} {vs : List V} (M : Mk X.K C f) (F : FnOk X.prog X.w X.K X.mg X.base CX k f fd ps sp) (hr : Room (k + 1) X.A) (hb : Binds X.K fd ps [])
    (hx : PassesAt CX X σ (E σ)) (I : Inv X pins σ H s) (r : Vals vs us)
    (h : ∀ x dx, H x = none → H dx = none → dx ≠ x → sp (.ref x :: vs) (upd (upd H dx (.own x)) x (.ins C dx [])) (fun v H2 => v = .non ∧ Q (.ref x) H2) (E σ)) :
    wpAny (model X.prog X.w) X.A (call (.ref C) us) (EP X pins σ Q) X.xe s := by
  have hq := h (s.heap.objs.size + 1) s.heap.objs.size (I.hok.fresh (Nat.le_succ _)) (I.hok.fresh (Nat.le_refl _)) (Nat.ne_of_lt (Nat.lt_succ_self _))
  have I2 := Inv.made (C := C) I
  have r2 : Vals (V.ref (s.heap.objs.size + 1) :: vs) (Value.ref (s.heap.objs.size + 1) :: us) := .cons rfl r
  have hl : (Value.ref (s.heap.objs.size + 1) :: us).length = ps.length := by
    have e := r2.length
    rw [F.len _ _ _ _ hq] at e
    exact e.symm
  have hb' := hb _ (Value.ref (s.heap.objs.size + 1) :: us) I2.kIn (by rw [List.append_nil]; exact hl)
  rw [List.append_nil] at hb'
  refine wpAny_call (make_map (f := f) I.kIn M.makes M.init (beq_iff_eq.mp M.fn) (codeAny_mono (F.run _ X.stack _ _ ⟨Value.ref (s.heap.objs.size + 1) :: us, []⟩ (Value.ref (s.heap.objs.size + 1) :: us) _ _ (E σ) (hr.make C us [])
    (I2.env0.make C us []) hb' r2 hq) fun r s' hq' => ?_))
  cases r with
  | error e => exact hx pins _ _ e s' I2 hq'
  | ok fl =>
    cases fl with
    | ret u =>
      obtain ⟨v, H', I3, rv, ev, q3⟩ := I2.after hq'
      subst ev
      exact ⟨rv, ⟨V.ref (s.heap.objs.size + 1), H', I3, rfl, q3⟩⟩
    | next => exact False.elim hq'
    | brk => exact False.elim hq'
    | cont => exact False.elim hq'
theorem pe_makeD (M : Mk X.K C f) (F : FnOk X.prog X.w X.K X.mg X.base CX k f fd ps sp) (hr : Room (k + 1) X.A) (hg : Gl X x) (hm : X.mg x = some (.ref C)) (hb : Binds X.K fd ps []) (hx : ∀ σ, PassesAt CX X σ (E σ))
    (ha : PA X (e :: es) t) (hdb : (x == ("__debug__" : Str)) = false) (he : starEach (e :: es) X.env = (false, eval e X.env) :: starEach es X.env) (hpl : (backTo pos (starEach es X.env)).any (·.1) = false) :
    PE X (.Call (.Name x p) (e :: es) [] pos) (tMakeD C sp E t) := by
  refine ⟨fun pins s σ H Q I h => ?_⟩
  refine wpAny_Call_Name_kw (ld_glob I hg hm ?_ hdb)
  refine PySem.W.callWith_K (h₀ := X.base) I.ok.mod.kin M.kp (thn (ha.run pos pins s σ H _ I h) fun us s1 ⟨vs, H1, I1, r, q⟩ => ⟨I1.kIn, ?_⟩) he hpl
  exact run_makeD M F hr hb (hx σ) I1 r q
theorem pe_make0D (M : Mk X.K C f) (F : FnOk X.prog X.w X.K X.mg X.base CX k f fd ps sp) (hr : Room (k + 1) X.A) (hg : Gl X x) (hm : X.mg x = some (.ref C)) (hb : Binds X.K fd ps []) (hx : ∀ σ, PassesAt CX X σ (E σ))
    (hdb : (x == ("__debug__" : Str)) = false) : PE X (.Call (.Name x p) [] [] pos) (tMakeD C sp E tNil) := by
  refine ⟨fun pins s σ H Q I h => ?_⟩
  refine wpAny_Call_Name_kw (ld_glob I hg hm ?_ hdb)
  exact PySem.W.callWith_K0 I.kIn M.kp (run_makeD (us := []) (vs := []) M F hr hb (hx σ) I .nil h)
/-- x == y, x an instance with an own __eq__ that raises nothing -/
def rOwnEq (C : Addr) (tyOk : V → Hp → Prop) (sp : Sp) : R2 := fun x y H Q => ∃ a dx fs, x = .ref a ∧ H a = some (.ins C dx fs) ∧ tyOk y H ∧ sp [x, y] H (fun z H' => ∃ b, z = .bl b ∧ Q (.bl b) H') (fun _ _ _ => False)
theorem op_ownEq {tyOk : V → Hp → Prop} (F : FnOk X.prog X.w X.K X.mg X.base CX k f fd ps sp) (hr : Room k X.A) (hs : PySem.W.findIn X.K (.ref C) "__eq__" = some (some (.ref f))) (hf : PySem.W.isFn X.K (.ref f) = true) (hb : Binds X.K fd ps [])
    (hx : Passes CX X (fun _ _ _ => False))
    (ty : ∀ (pins : List (Addr × Obj)) (s : Shared) (σ : L2.St) (H : Hp) (y : V) (u : Value), Inv X pins σ H s → RelV y u → tyOk y H → ∃ tb, PySem.W.Looks (model X.prog X.w) s.heap (typeOf u) tb ∧ PySem.W.notFirst X.K C tb = true) :
    OpR X (compareOp .Eq) (rOwnEq C tyOk sp) := by
  intro pins s σ H x y v u Q I rx ry hq
  obtain ⟨a, dx, fs, rfl, ha, hy, hsp⟩ := hq
  cases rx
  obtain ⟨tb, ht, hn⟩ := ty pins s σ H y u I ry hy
  obtain ⟨mA, J, _⟩ := ins_get I.hok ha
  obtain ⟨od, J, _⟩ := J.look
  obtain ⟨m, hF⟩ := I.fr
  show wpAny (model X.prog X.w) X.A (richCompare .Eq (.ref a) u) (EP X pins σ Q) X.xe s
  refine PySem.W.cmp_K (op := .Eq) (tb := tb) hr.units0 hF I.ok.mod.kin J ht hn hs hf ?_
  have hl := F.len _ _ _ _ hsp
  have r2 : Vals [V.ref a, y] [Value.ref a, u] := .cons rfl (.cons ry .nil)
  refine wpAny_call (codeAny_mono (F.run X.A X.stack s H ⟨[.ref a, u], []⟩ [.ref a, u] [.ref a, y] _ _ hr I.env0 (by
    have := hb s [.ref a, u] I.kIn (by simpa using hl)
    simpa using this) r2 hsp) fun r s' hq => ?_)
  cases r with
  | error e => exact hx pins σ H s e s' I hq
  | ok fl =>
    cases fl with
    | ret w =>
      obtain ⟨z, H', I', rz, b, ez, q⟩ := I.after hq
      subst ez
      cases rz
      exact ⟨.bl b, H', I', rfl, q⟩
    | next => exact False.elim hq
    | brk => exact False.elim hq
    | cont => exact False.elim hq
end
end Mini

set_option Elab.async false
set_option linter.all false
set_option maxRecDepth 100000
set_option maxHeartbeats 4000000
/-! Mini's expressions: tests, fields, calls, built-ins. -/
namespace Mini
open PySem L2

/-- what a def of the text keeps: Mini's own account of it -/
def spM (N : Nm) (K : PySem.W.Frag) (C : Call) (f : Nat) : Sp := fun vs H Q E => ∃ ds A ρ, HR N K H ρ A ∧ Rps K H ρ ds vs ∧ RQ N K H ρ (C f ds A) Q E
section
variable {pg : Pg} {N : Nm} {C : Call} {W : WX} {X : Cx} {pos : Pos}
/-! ### tests -/
theorem t_val {e : Expr} {ee : E} (h : PE X e (tE pg N C X.K W ee)) (he : ∀ whole, isTrue e X.env whole = (do let v ← whole; standAt e.pos; holding [v] (truthy v))) : PT X e (tT pg N C X.K W ee) :=
  PT.wk (pt_truth h he) fun σ H Q ⟨v, A, ρ, er, hr, q⟩ => by
    refine ⟨v, A, ρ, er, hr, RQ.ofRG (q.bind.imp fun d A1 H1 ρ1 hr1 x1 g x rx => ?_)⟩
    unfold tru at g
    split at g
    · rename_i b hb
      exact ⟨b, truth_ok hr1 rx hb, g H1 ρ1 .refl hr1⟩
    · exact g.elim
theorem not_tru {e : E} {v : Env} {A : Hh} : (evE pg C (.not e) v A).bind tru = ((evE pg C e v A).bind tru).bind fun b A => .ok (!b) A := by
  rw [show evE pg C (.not e) v A = (evE pg C e v A).bind fun x A => (match truth A x with | some b => .ok (.bl (!b)) A | none => .bad) from by first | (rw [evE]; done) | (rw [evE]; rfl)]
  cases evE pg C e v A with
  | ok d A1 =>
    show R.bind (match truth A1 d with | some b => .ok (.bl (!b)) A1 | none => .bad) tru = R.bind (tru d A1) _
    unfold tru
    cases truth A1 d <;> rfl
  | exc c x A1 => rfl
  | bad => rfl
theorem t_not {a : Expr} {ea : E} (h : PT X a (tT pg N C X.K W ea)) : PT X (.UnaryOp .Not a pos) (tT pg N C X.K W (.not ea)) :=
  PT.wk (pt_not h) fun σ H Q ⟨v, A, ρ, er, hr, q⟩ => by
    rw [not_tru] at q
    exact use1T er hr q fun b A1 H1 ρ1 er1 hr1 x1 g => g H1 ρ1 .refl hr1
theorem and_tru {e f : E} {r : List E} {v : Env} {A : Hh} : (evAnd pg C (e :: f :: r) v A).bind tru = ((evE pg C e v A).bind tru).bind fun b A => if b then (evAnd pg C (f :: r) v A).bind tru else .ok false A := by
  rw [evAnd]
  cases evE pg C e v A with
  | ok d A1 =>
    show R.bind (match truth A1 d with | some true => evAnd pg C (f :: r) v A1 | some false => .ok d A1 | none => .bad) tru = R.bind (tru d A1) _
    unfold tru
    cases hb : truth A1 d with
    | none => rfl
    | some b =>
      cases b with
      | true => rfl
      | false => show tru d A1 = _; unfold tru; rw [hb]; rfl
  | exc c x A1 => rfl
  | bad => rfl
theorem or_tru {e f : E} {r : List E} {v : Env} {A : Hh} : (evOr pg C (e :: f :: r) v A).bind tru = ((evE pg C e v A).bind tru).bind fun b A => if b then .ok true A else (evOr pg C (f :: r) v A).bind tru := by
  rw [evOr]
  cases evE pg C e v A with
  | ok d A1 =>
    show R.bind (match truth A1 d with | some true => .ok d A1 | some false => evOr pg C (f :: r) v A1 | none => .bad) tru = R.bind (tru d A1) _
    unfold tru
    cases hb : truth A1 d with
    | none => rfl
    | some b =>
      cases b with
      | false => rfl
      | true => show tru d A1 = _; unfold tru; rw [hb]; rfl
  | exc c x A1 => rfl
  | bad => rfl
def tAndT' (pg : Pg) (N : Nm) (C : Call) (K : PySem.W.Frag) (W : WX) (es : List E) : TT := fun σ H Q => ∃ v A ρ, ER K H ρ v σ ∧ HR N K H ρ A ∧ RG N K H ρ ((evAnd pg C es v A).bind tru) (fun b _ H' _ => Q b H') (EX W σ)
def tOrT' (pg : Pg) (N : Nm) (C : Call) (K : PySem.W.Frag) (W : WX) (es : List E) : TT := fun σ H Q => ∃ v A ρ, ER K H ρ v σ ∧ HR N K H ρ A ∧ RG N K H ρ ((evOr pg C es v A).bind tru) (fun b _ H' _ => Q b H') (EX W σ)
theorem t_andL : ∀ {xs : List Expr} {es : List E}, Paired (fun x e => PT X x (tT pg N C X.K W e)) xs es → xs ≠ [] → PW X (.BoolOp .And xs pos) (tAndT' pg N C X.K W es)
  | [], _, _, h => absurd rfl h
  | [x], _, .cons h .nil, _ => PW.wk (pw_and1 h) fun σ H Q ⟨v, A, ρ, er, hr, q⟩ => by
    rw [evAnd] at q
    exact ⟨v, A, ρ, er, hr, q⟩
  | x :: y :: r, _, .cons h (.cons h2 t), _ => PW.wk (pw_and h (t_andL (.cons h2 t) (by simp))) fun σ H Q ⟨v, A, ρ, er, hr, q⟩ => by
    rw [and_tru] at q
    refine use1T er hr q fun b A1 H1 ρ1 er1 hr1 x1 g => ?_
    cases b with
    | true => rw [if_pos rfl] at g ⊢; exact ⟨v, A1, ρ1, er1, hr1, g⟩
    | false => rw [if_neg (by decide)] at g ⊢; exact g H1 ρ1 .refl hr1
theorem t_orL : ∀ {xs : List Expr} {es : List E}, Paired (fun x e => PT X x (tT pg N C X.K W e)) xs es → xs ≠ [] → PW X (.BoolOp .Or xs pos) (tOrT' pg N C X.K W es)
  | [], _, _, h => absurd rfl h
  | [x], _, .cons h .nil, _ => PW.wk (pw_or1 h) fun σ H Q ⟨v, A, ρ, er, hr, q⟩ => by
    rw [evOr] at q
    exact ⟨v, A, ρ, er, hr, q⟩
  | x :: y :: r, _, .cons h (.cons h2 t), _ => PW.wk (pw_or h (t_orL (.cons h2 t) (by simp))) fun σ H Q ⟨v, A, ρ, er, hr, q⟩ => by
    rw [or_tru] at q
    refine use1T er hr q fun b A1 H1 ρ1 er1 hr1 x1 g => ?_
    cases b with
    | true => rw [if_pos rfl] at g ⊢; exact g H1 ρ1 .refl hr1
    | false => rw [if_neg (by decide)] at g ⊢; exact ⟨v, A1, ρ1, er1, hr1, g⟩
theorem t_and {xs : List Expr} {es : List E} (h : Paired (fun x e => PT X x (tT pg N C X.K W e)) xs es) (n : xs ≠ []) : PT X (.BoolOp .And xs pos) (tT pg N C X.K W (.and es)) :=
  PT.wk (t_andL h n).pt fun σ H Q ⟨v, A, ρ, er, hr, q⟩ => ⟨v, A, ρ, er, hr, by rw [evE] at q; exact q⟩
theorem t_or {xs : List Expr} {es : List E} (h : Paired (fun x e => PT X x (tT pg N C X.K W e)) xs es) (n : xs ≠ []) : PT X (.BoolOp .Or xs pos) (tT pg N C X.K W (.or es)) :=
  PT.wk (t_orL h n).pt fun σ H Q ⟨v, A, ρ, er, hr, q⟩ => ⟨v, A, ρ, er, hr, by rw [evE] at q; exact q⟩

/-! ### a if c else b -/
theorem e_ife {c a b : Expr} {ec ea eb : E} (hc : PT X c (tT pg N C X.K W ec)) (ha : PE X a (tE pg N C X.K W ea)) (hb : PE X b (tE pg N C X.K W eb)) : PE X (.IfExp c a b pos) (tE pg N C X.K W (.ife ec ea eb)) :=
  PE.wk (pe_ifExp hc ha hb) fun σ H Q ⟨v, A, ρ, er, hr, q⟩ => by
    have e : evE pg C (.ife ec ea eb) v A = ((evE pg C ec v A).bind tru).bind fun b A => if b then evE pg C ea v A else evE pg C eb v A := by
      rw [evE, bind_assoc]
      congr 1
      funext d A1
      unfold tru
      cases truth A1 d with
      | none => rfl
      | some b => cases b <;> rfl
    rw [e] at q
    refine use1T er hr (RQ.rg q) fun b A1 H1 ρ1 er1 hr1 x1 g => ?_
    cases b with
    | true => rw [if_pos rfl] at g ⊢; exact ⟨v, A1, ρ1, er1, hr1, RQ.ofRG g⟩
    | false => rw [if_neg (by decide)] at g ⊢; exact ⟨v, A1, ρ1, er1, hr1, RQ.ofRG g⟩

/-! ### a < b < c -/
theorem chain_of {c1 c2 : Cm} {op op' : CmpOp} {r r' : R2} {a b c : Expr} {ea eb ec : E} (ho : OpR X (compareOp op) r) (ho' : OpR X (compareOp op') r') (ha : PE X a (tE pg N C X.K W ea)) (hb : PE X b (tE pg N C X.K W eb)) (hc : PE X c (tE pg N C X.K W ec))
    (hm : lastMarks [op, op'] [b, c] = false)
    (ok : ∀ {H : Hp} {ρ : List Addr} {A : Hh} {dx dy : D} {x y : V} {Q : VK} {E : XK}, HR N X.K H ρ A → Rp X.K H ρ dx x → Rp X.K H ρ dy y → RQ N X.K H ρ (ofB (cmpR c1 dx dy A) A) Q E → r x y H Q)
    (ok' : ∀ {H : Hp} {ρ : List Addr} {A : Hh} {dx dy : D} {x y : V} {Q : VK} {E : XK}, HR N X.K H ρ A → Rp X.K H ρ dx x → Rp X.K H ρ dy y → RQ N X.K H ρ (ofB (cmpR c2 dx dy A) A) Q E → r' x y H Q) :
    PE X (.Compare a [op, op'] [b, c] pos) (tE pg N C X.K W (.chain c1 c2 ea eb ec)) ∧ PT X (.Compare a [op, op'] [b, c] pos) (tT pg N C X.K W (.chain c1 c2 ea eb ec)) := by
  have imp : ∀ σ H Q, tE pg N C X.K W (.chain c1 c2 ea eb ec) σ H Q → tChain r r' (tE pg N C X.K W ea) (tE pg N C X.K W eb) (tE pg N C X.K W ec) σ H Q := fun σ H Q ⟨v, A, ρ, er, hr, q⟩ => by
    rw [evE] at q
    refine use1 er hr q fun d A1 x H1 ρ1 er1 hr1 rx x1 q1 => use1 er1 hr1 q1 fun d2 A2 y H2 ρ2 er2 hr2 ry x2 q2 => ok (E := EX W σ) hr2 (rx.ext x2) ry ?_
    cases e : cmpR c1 d d2 A2 with
    | none => rw [e] at q2; exact q2.elim
    | some b =>
      rw [e] at q2
      show RQ N X.K H2 ρ2 (.ok (.bl b) A2) _ _
      intro z H3 ρ3 x3 hr3 rz
      cases rz
      refine ⟨b, rfl, ?_⟩
      cases b with
      | true =>
        rw [if_pos rfl]
        exact use1 (er2.ext x3) hr3 (RQ.up hr3 x3 q2) fun d3 A3 w H4 ρ4 er4 hr4 rw x4 q4 => ok' hr4 ((ry.ext x3).ext x4) rw q4
      | false =>
        rw [if_neg (by decide)]
        exact q2 _ _ _ x3 hr3 rfl
  have isb : ∀ v A d A', evE pg C (.chain c1 c2 ea eb ec) v A = .ok d A' → ∃ b, d = .bl b := fun v A d A' h => by
    rw [evE] at h
    refine bind_isb (fun x A1 d A2 h => bind_isb (fun y A3 d A4 h => ?_) h) h
    split at h
    · exact bind_isb (fun z A5 d A6 h => ofB_bl h) h
    · cases h; exact ⟨_, rfl⟩
    · cases h
  exact ⟨PE.wk (pe_chain ho ho' ha hb hc hm) imp, PT.wk (pt_chain ho ho' ha hb hc hm) fun σ H Q h => imp σ H _ (te_of_tt isb h)⟩

/-! ### fields -/
theorem frs_get {K : PySem.W.Frag} {H : Hp} {ρ : List Addr} {fs : List (Nat × D)} {ws : List (Str × V)} {f : Nat} {d : D} (r : FRs N K H ρ fs ws) (e : get1 fs f = some d) : ∃ x, ws.lookup (N.fl f) = some x ∧ Rp K H ρ d x := by
  unfold FRs at r
  induction r with
  | nil => simp [get1] at e
  | @cons p q ps qs hp _ ih =>
    obtain ⟨a, d0⟩ := p
    obtain ⟨b, v0⟩ := q
    obtain ⟨h1, h2⟩ := hp
    simp only at h1 h2
    subst h1
    rw [get1] at e
    by_cases c : a = f
    · rw [if_pos c] at e
      cases e
      subst c
      exact ⟨v0, by simp [List.lookup_cons], h2⟩
    · rw [if_neg c] at e
      obtain ⟨x, h3, h4⟩ := ih e
      refine ⟨x, ?_, h4⟩
      rw [List.lookup_cons]
      have ne : (N.fl f == N.fl a) = false := beq_eq_false_iff_ne.mpr fun z => c (N.inj _ _ z).symm
      rw [ne]
      exact h3
theorem frs_put {K : PySem.W.Frag} {H : Hp} {ρ : List Addr} {fs : List (Nat × D)} {ws : List (Str × V)} {f : Nat} {d : D} {x : V} (r : FRs N K H ρ fs ws) (rx : Rp K H ρ d x) : FRs N K H ρ (put1 fs f d) (putF (N.fl f) x ws) := by
  unfold FRs at r ⊢
  induction r with
  | nil => exact .cons ⟨rfl, rx⟩ .nil
  | @cons p q ps qs hp ht ih =>
    obtain ⟨a, d0⟩ := p
    obtain ⟨b, v0⟩ := q
    obtain ⟨h1, h2⟩ := hp
    simp only at h1 h2
    subst h1
    rw [put1, putF]
    by_cases c : a = f
    · rw [if_pos c, if_pos (by rw [c])]
      exact .cons ⟨rfl, rx⟩ ht
    · rw [if_neg c, if_neg fun z => c (N.inj _ _ z)]
      exact .cons ⟨rfl, h2⟩ ih
theorem frs_no {K : PySem.W.Frag} {H : Hp} {ρ : List Addr} {fs : List (Nat × D)} {ws : List (Str × V)} {m : Str} (r : FRs N K H ρ fs ws) (hm : ∀ i, N.fl i ≠ m) : ws.lookup m = none := by
  unfold FRs at r
  induction r with
  | nil => rfl
  | @cons p q ps qs hp _ ih =>
    obtain ⟨b, v0⟩ := q
    obtain ⟨h1, h2⟩ := hp
    simp only at h1
    subst h1
    rw [List.lookup_cons]
    have ne : (m == N.fl p.1) = false := beq_eq_false_iff_ne.mpr fun z => hm p.1 z.symm
    rw [ne]
    exact ih
/-- the classes of a text: what is asked of each -/
structure ClsG (N : Nm) (K : PySem.W.Frag) (f : Nat) : Prop where
  cl : ∀ c, c < N.nc → Cls K (N.cl c)
  no : ∀ c, c < N.nc → NoAttr K (N.cl c) (N.fl f)
theorem e_fld {a : Expr} {ea : E} {f : Nat} (G : ClsG N X.K f) (ha : PE X a (tE pg N C X.K W ea)) (hb : attributeBase a (N.fl f) X.env (eval a X.env) = eval a X.env) : PE X (.Attribute a (N.fl f) pos) (tE pg N C X.K W (.fld ea f)) :=
  PE.wk (pe_fld ha hb) fun σ H Q ⟨v, A, ρ, er, hr, q⟩ => by
    rw [evE] at q
    refine use1 er hr q fun d A1 x H1 ρ1 er1 hr1 rx x1 q1 => ?_
    unfold fldD at q1
    split at q1 <;> try exact q1.elim
    split at q1 <;> try exact q1.elim
    rename_i c fs hn
    obtain ⟨a, dx, ws, rfl, _, ha, r, hc⟩ := hr1.ins rx hn
    cases e : get1 fs f with
    | none => rw [e] at q1; exact q1.elim
    | some d' =>
      rw [e] at q1
      obtain ⟨y, h1, h2⟩ := frs_get r e
      exact ⟨a, N.cl c, dx, ws, y, rfl, ha, G.cl c hc, G.no c hc, h1, RQ.ok (show RQ N X.K H1 ρ1 (.ok d' A1) Q _ from q1) hr1 h2⟩

/-! ### calls -/
variable {k : Nat} {fd : FuncData} {ps : List Str} {x m : Str} {p apos : Pos} {a : Expr} {as : List Expr} {es : List E} {f : Nat}
theorem e_call {ds : List D} {us : List Value} {dvs : List V} (F : FnOk X.prog X.w X.K X.mg X.base (L2.CX X.prog X.w) k (N.fa f) fd ps (spM N X.K C f)) (hr : Room k X.A) (tk : Takes X W) (hg : Gl X x) (hm : X.mg x = some (.ref (N.fa f))) (hk : PySem.W.keepIn X.K (.ref (N.fa f)) = true)
    (hb : Binds X.K fd ps us) (hd : Vals dvs us) (rd : ∀ H ρ, Rps X.K H ρ ds dvs) (ha : PA X (a :: as) (tA pg N C X.K W es)) (hdb : (x == ("__debug__" : Str)) = false) (he : starEach (a :: as) X.env = (false, eval a X.env) :: starEach as X.env)
    (hpl : (backTo pos (starEach as X.env)).any (·.1) = false) : PE X (.Call (.Name x p) (a :: as) [] pos) (tE pg N C X.K W (.call f es ds)) :=
  PE.wk (pe_callD F hr hg hm hk hb hd (fun σ => passAt tk σ) ha hdb he hpl) fun σ H Q ⟨v, A, ρ, er, hr, q⟩ => by
    rw [evE] at q
    exact useA er hr q fun zs A1 xs H1 ρ1 er1 hr1 rz x1 q1 => ⟨zs ++ ds, A1, ρ1, hr1, rps_app rz (rd H1 ρ1), q1⟩
theorem e_call0 (F : FnOk X.prog X.w X.K X.mg X.base (L2.CX X.prog X.w) k (N.fa f) fd ps (spM N X.K C f)) (hr : Room k X.A) (tk : Takes X W) (hg : Gl X x) (hm : X.mg x = some (.ref (N.fa f))) (hk : PySem.W.keepIn X.K (.ref (N.fa f)) = true)
    (hb : Binds X.K fd ps []) (hdb : (x == ("__debug__" : Str)) = false) : PE X (.Call (.Name x p) [] [] pos) (tE pg N C X.K W (.call f [] [])) :=
  PE.wk (pe_call0D F hr hg hm hk hb (fun σ => passAt tk σ) hdb) fun σ H Q ⟨v, A, ρ, er, hr, q⟩ => by
    rw [evE, evEs] at q
    exact ⟨[], A, ρ, hr, rps_nil, q⟩
theorem isIns_ok {A : Hh} {c : Nat} {d : D} (h : isIns A c d = true) : ∃ n fs, d = .ref n ∧ A[n]? = some (.ins c fs) := by
  unfold isIns at h
  split at h
  · rename_i n
    split at h
    · rename_i k fs hn
      have e := of_decide_eq_true h
      subst e
      exact ⟨n, fs, rfl, hn⟩
    · cases h
  · cases h
theorem e_meth {pl : Sem Bool} {o : Expr} {eo : E} {c : Nat} (ho : PE X o (tE pg N C X.K W eo)) (cl : Cls X.K (N.cl c)) (hm : Meth X.K (N.cl c) m (N.fa f)) (hno : ∀ i, N.fl i ≠ m) (F : FnOk X.prog X.w X.K X.mg X.base (L2.CX X.prog X.w) k (N.fa f) fd ps (spM N X.K C f)) (hr : Room k X.A)
    (tk : Takes X W) (hb : Binds X.K fd ps []) (ha : PA X (a :: as) (tA pg N C X.K W es)) (hst : starEach (a :: as) X.env = (false, eval a X.env) :: starEach as X.env) (hpl : (backTo pos (starEach as X.env)).any (·.1) = false)
    (ht : eval (.Call (.Attribute o m apos) (a :: as) [] pos) X.env = (do
      let ov ← eval o X.env
      standAt apos.atName
      let (f, first) ← holding [ov] (getMethod ov m pl)
      callWith pos f first (backTo pos (starEach (a :: as) X.env)) (backToKw pos (keywordEach [] X.env)))) :
    PE X (.Call (.Attribute o m apos) (a :: as) [] pos) (tE pg N C X.K W (.meth c f eo es)) :=
  PE.wk (pe_methD ho cl hm F hr hb (fun σ => passAt tk σ) ha hst hpl ht) fun σ H Q ⟨v, A, ρ, er, hr, q⟩ => by
    rw [evE] at q
    refine use1 er hr q fun d A1 x H1 ρ1 er1 hr1 rx x1 q1 => ?_
    split at q1
    · rename_i hi
      obtain ⟨n, fs, rfl, hn⟩ := isIns_ok hi
      obtain ⟨b, dx, ws, rfl, _, hb, r, hc⟩ := hr1.ins rx hn
      exact ⟨b, dx, ws, rfl, hb, frs_no r hno, useA er1 hr1 q1 fun zs A2 xs H2 ρ2 er2 hr2 rz x2 q2 => ⟨.ref n :: zs, A2, ρ2, hr2, rps_cons (rx.ext x2) rz, q2⟩⟩
    · exact q1.elim
theorem e_meth0 {pl : Sem Bool} {o : Expr} {eo : E} {c : Nat} (ho : PE X o (tE pg N C X.K W eo)) (cl : Cls X.K (N.cl c)) (hm : Meth X.K (N.cl c) m (N.fa f)) (hno : ∀ i, N.fl i ≠ m) (F : FnOk X.prog X.w X.K X.mg X.base (L2.CX X.prog X.w) k (N.fa f) fd ps (spM N X.K C f)) (hr : Room k X.A)
    (tk : Takes X W) (hb : Binds X.K fd ps [])
    (ht : eval (.Call (.Attribute o m apos) [] [] pos) X.env = (do
      let ov ← eval o X.env
      standAt apos.atName
      let (f, first) ← holding [ov] (getMethod ov m pl)
      callWith pos f first (backTo pos (starEach [] X.env)) (backToKw pos (keywordEach [] X.env)))) :
    PE X (.Call (.Attribute o m apos) [] [] pos) (tE pg N C X.K W (.meth c f eo [])) :=
  PE.wk (pe_meth0D ho cl hm F hr hb (fun σ => passAt tk σ) ht) fun σ H Q ⟨v, A, ρ, er, hr, q⟩ => by
    rw [evE] at q
    refine use1 er hr q fun d A1 x H1 ρ1 er1 hr1 rx x1 q1 => ?_
    split at q1
    · rename_i hi
      obtain ⟨n, fs, rfl, hn⟩ := isIns_ok hi
      obtain ⟨b, dx, ws, rfl, _, hb, r, hc⟩ := hr1.ins rx hn
      rw [evEs] at q1
      exact ⟨b, dx, ws, rfl, hb, frs_no r hno, [.ref n], A1, ρ1, hr1, rps_cons rx rps_nil, q1⟩
    · exact q1.elim
/-- a new instance: its own dict is nobody's -/
theorem mk_ok {c : Nat} (hcc : c < N.nc) {K : PySem.W.Frag} {H : Hp} {ρ : List Addr} {A : Hh} {zs : List D} {xs : List V} {Q : VK} {E : XK} (hr : HR N K H ρ A) (rz : Rps K H ρ zs xs)
    (q : RQ N K H ρ ((C f (.ref A.length :: zs) (A ++ [.ins c []])).bind fun r A' => (match r with | .non => .ok (.ref A.length) A' | _ => .bad)) Q E) (x dx : Addr) (nx : H x = none) (nd : H dx = none) (ne : dx ≠ x) :
    spM N K C f (.ref x :: xs) (upd (upd H dx (.own x)) x (.ins (N.cl c) dx [])) (fun v H2 => v = .non ∧ Q (.ref x) H2) E := by
  have hr1 : HR N K (upd H dx (.own x)) ρ A := hr.new nd
  have nx1 : (upd H dx (.own x)) x = none := by rw [upd_ne (Ne.symm ne)]; exact nx
  have hr2 : HR N K (upd (upd H dx (.own x)) x (.ins (N.cl c) dx [])) (ρ ++ [x]) (A ++ [.ins c []]) := hr1.alloc nx1 ⟨hcc, dx, [], rfl, .nil⟩
  have x12 : Ext H ρ (upd (upd H dx (.own x)) x (.ins (N.cl c) dx [])) (ρ ++ [x]) := hr1.trans (Ext.new nd) (Ext.alloc nx1)
  have rx : Rp K (upd (upd H dx (.own x)) x (.ins (N.cl c) dx [])) (ρ ++ [x]) (.ref A.length) (.ref x) := Rp.refNew hr1
  refine ⟨.ref A.length :: zs, A ++ [.ins c []], ρ ++ [x], hr2, rps_cons rx (Rps.ext x12 rz), ?_⟩
  refine RQ.ofRG ((RQ.up hr2 x12 q).bind.imp fun r A3 H3 ρ3 hr3 x3 g v rv => ?_)
  split at g
  · cases rv
    exact ⟨rfl, g.ok hr3 (rx.ext x3)⟩
  · exact g.elim
theorem e_mk {c : Nat} (hcc : c < N.nc) (hi : pg.init[c]? = some f) (M : Mk X.K (N.cl c) (N.fa f)) (F : FnOk X.prog X.w X.K X.mg X.base (L2.CX X.prog X.w) k (N.fa f) fd ps (spM N X.K C f)) (hr : Room (k + 1) X.A) (tk : Takes X W) (hg : Gl X x) (hm : X.mg x = some (.ref (N.cl c)))
    (hb : Binds X.K fd ps []) (ha : PA X (a :: as) (tA pg N C X.K W es)) (hdb : (x == ("__debug__" : Str)) = false) (he : starEach (a :: as) X.env = (false, eval a X.env) :: starEach as X.env)
    (hpl : (backTo pos (starEach as X.env)).any (·.1) = false) : PE X (.Call (.Name x p) (a :: as) [] pos) (tE pg N C X.K W (.mk c es)) :=
  PE.wk (pe_makeD M F hr hg hm hb (fun σ => passAt tk σ) ha hdb he hpl) fun σ H Q ⟨v, A, ρ, er, hr, q⟩ => by
    rw [evE] at q
    refine useA er hr q fun zs A1 xs H1 ρ1 er1 hr1 rz x1 q1 => ?_
    rw [hi] at q1
    exact mk_ok hcc hr1 rz q1
theorem e_mk0 {c : Nat} (hcc : c < N.nc) (hi : pg.init[c]? = some f) (M : Mk X.K (N.cl c) (N.fa f)) (F : FnOk X.prog X.w X.K X.mg X.base (L2.CX X.prog X.w) k (N.fa f) fd ps (spM N X.K C f)) (hr : Room (k + 1) X.A) (tk : Takes X W) (hg : Gl X x) (hm : X.mg x = some (.ref (N.cl c)))
    (hb : Binds X.K fd ps []) (hdb : (x == ("__debug__" : Str)) = false) : PE X (.Call (.Name x p) [] [] pos) (tE pg N C X.K W (.mk c [])) :=
  PE.wk (pe_make0D M F hr hg hm hb (fun σ => passAt tk σ) hdb) fun σ H Q ⟨v, A, ρ, er, hr, q⟩ => by
    rw [evE, evEs] at q
    show ∀ x dx, _
    change RQ N X.K H ρ (match pg.init[c]? with | some f => _ | none => _) Q _ at q
    rw [hi] at q
    exact mk_ok hcc hr rps_nil q
end
end Mini

set_option Elab.async false
set_option linter.all false
set_option maxRecDepth 100000
set_option maxHeartbeats 4000000
/-! Mini's expressions: built-in functions and methods, isinstance. -/
namespace Mini
open PySem L2
section
variable {pg : Pg} {N : Nm} {C : Call} {W : WX} {X : Cx} {pos : Pos}
variable {x : Str} {p apos : Pos} {a : Expr} {as : List Expr} {es : List E} {id T : String} {r : RC}
theorem bi_of {b : Bi} (hl : ∀ A xs, ownLen pg A b xs = none) (ok : ∀ {H : Hp} {ρ : List Addr} {A : Hh} {ds : List D} {xs : List V} {Q : VK} {E : XK}, HR N X.K H ρ A → Rps X.K H ρ ds xs → RQ N X.K H ρ (bi b ds A) Q E → r xs H Q) (σ : L2.St) (H : Hp) (Q : VK)
    (h : tE pg N C X.K W (.bi b es) σ H Q) : tCB r (tA pg N C X.K W es) σ H Q := by
  obtain ⟨v, A, ρ, er, hr, q⟩ := h
  rw [evE] at q
  refine useA er hr q fun zs A1 xs H1 ρ1 er1 hr1 rz x1 q1 => ?_
  rw [hl] at q1
  exact ok hr1 rz q1
/-- f(..), f a built-in function; a built-in type -/
theorem e_biB {b : Bi} (hc : CallR X (.builtin id) r) (hg : Gl X x) (hm : X.mg x = none) (hv : bootBuiltins x = some (.builtin id)) (hn : x ≠ "__name__") (hdb : (x == ("__debug__" : Str)) = false)
    (he : starEach (a :: as) X.env = (false, eval a X.env) :: starEach as X.env) (hpl : (backTo pos (starEach as X.env)).any (·.1) = false) (ha : PA X (a :: as) (tA pg N C X.K W es)) (hl : ∀ A xs, ownLen pg A b xs = none)
    (ok : ∀ {H : Hp} {ρ : List Addr} {A : Hh} {ds : List D} {xs : List V} {Q : VK} {E : XK}, HR N X.K H ρ A → Rps X.K H ρ ds xs → RQ N X.K H ρ (bi b ds A) Q E → r xs H Q) : PE X (.Call (.Name x p) (a :: as) [] pos) (tE pg N C X.K W (.bi b es)) :=
  PE.wk (pe_callB hc hg hm hv ha hn hdb he hpl) (bi_of hl ok)
theorem e_biT {b : Bi} (hc : CallR X (.type T) r) (hg : Gl X x) (hm : X.mg x = none) (hv : bootBuiltins x = some (.type T)) (hn : x ≠ "__name__") (hdb : (x == ("__debug__" : Str)) = false)
    (he : starEach (a :: as) X.env = (false, eval a X.env) :: starEach as X.env) (hpl : (backTo pos (starEach as X.env)).any (·.1) = false) (ha : PA X (a :: as) (tA pg N C X.K W es)) (hl : ∀ A xs, ownLen pg A b xs = none)
    (ok : ∀ {H : Hp} {ρ : List Addr} {A : Hh} {ds : List D} {xs : List V} {Q : VK} {E : XK}, HR N X.K H ρ A → Rps X.K H ρ ds xs → RQ N X.K H ρ (bi b ds A) Q E → r xs H Q) : PE X (.Call (.Name x p) (a :: as) [] pos) (tE pg N C X.K W (.bi b es)) :=
  PE.wk (pe_callTy hc hg hm hv ha hn hdb he hpl) (bi_of hl ok)
theorem boot_len' : bootBuiltins "len" = some (.builtin "len") := by decide +kernel
theorem boot_all' : bootBuiltins "all" = some (.builtin "all") := by decide +kernel
theorem boot_any' : bootBuiltins "any" = some (.builtin "any") := by decide +kernel
theorem boot_abs' : bootBuiltins "abs" = some (.builtin "abs") := by decide +kernel
theorem boot_max' : bootBuiltins "max" = some (.builtin "max") := by decide +kernel
theorem boot_min' : bootBuiltins "min" = some (.builtin "min") := by decide +kernel
theorem boot_sorted' : bootBuiltins "sorted" = some (.builtin "sorted") := by decide +kernel
theorem boot_isi' : bootBuiltins "isinstance" = some (.builtin "isinstance") := by decide +kernel
theorem boot_int' : bootBuiltins "int" = some (.type "int") := by decide +kernel
theorem boot_bool' : bootBuiltins "bool" = some (.type "bool") := by decide +kernel
theorem boot_str' : bootBuiltins "str" = some (.type "str") := by decide +kernel
theorem boot_list' : bootBuiltins "list" = some (.type "list") := by decide +kernel
theorem boot_tuple' : bootBuiltins "tuple" = some (.type "tuple") := by decide +kernel
theorem boot_dict' : bootBuiltins "dict" = some (.type "dict") := by decide +kernel
/-- what a call of a built-in asks of the text at its place -/
structure BltG (X : Cx) (x : Str) (pos : Pos) (a : Expr) (as : List Expr) : Prop where
  gl : Gl X x
  mg : X.mg x = none
  st : starEach (a :: as) X.env = (false, eval a X.env) :: starEach as X.env
  pl : (backTo pos (starEach as X.env)).any (·.1) = false
variable (ha : PA X (a :: as) (tA pg N C X.K W es))
include ha
theorem e_len (g : BltG X "len" pos a as) (hl : ∀ A xs, ownLen pg A .len xs = none) : PE X (.Call (.Name "len" p) (a :: as) [] pos) (tE pg N C X.K W (.bi .len es)) :=
  e_biB c_len g.gl g.mg boot_len' (by decide) (by decide) g.st g.pl ha hl fun h r q => len_ok h r q
theorem e_intF (g : BltG X "int" pos a as) : PE X (.Call (.Name "int" p) (a :: as) [] pos) (tE pg N C X.K W (.bi .int es)) :=
  e_biT c_int g.gl g.mg boot_int' (by decide) (by decide) g.st g.pl ha (fun _ _ => rfl) fun h r q => int_ok h r q
theorem e_listF (g : BltG X "list" pos a as) : PE X (.Call (.Name "list" p) (a :: as) [] pos) (tE pg N C X.K W (.bi .list es)) :=
  e_biT c_list g.gl g.mg boot_list' (by decide) (by decide) g.st g.pl ha (fun _ _ => rfl) fun h r q => list_ok h r q
theorem e_tupleF (g : BltG X "tuple" pos a as) : PE X (.Call (.Name "tuple" p) (a :: as) [] pos) (tE pg N C X.K W (.bi .tuple es)) :=
  e_biT c_tuple g.gl g.mg boot_tuple' (by decide) (by decide) g.st g.pl ha (fun _ _ => rfl) fun h r q => tuple_ok h r q
theorem e_allF (hc : X.calm = true) (g : BltG X "all" pos a as) : PE X (.Call (.Name "all" p) (a :: as) [] pos) (tE pg N C X.K W (.bi .all es)) :=
  e_biB (cr_all hc) g.gl g.mg boot_all' (by decide) (by decide) g.st g.pl ha (fun _ _ => rfl) fun h r q => all_ok h r q
theorem e_anyF (hc : X.calm = true) (g : BltG X "any" pos a as) : PE X (.Call (.Name "any" p) (a :: as) [] pos) (tE pg N C X.K W (.bi .any es)) :=
  e_biB (cr_any hc) g.gl g.mg boot_any' (by decide) (by decide) g.st g.pl ha (fun _ _ => rfl) fun h r q => any_ok h r q
theorem e_absF (g : BltG X "abs" pos a as) : PE X (.Call (.Name "abs" p) (a :: as) [] pos) (tE pg N C X.K W (.bi .abs es)) :=
  e_biB (r := rAbs) call_abs g.gl g.mg boot_abs' (by decide) (by decide) g.st g.pl ha (fun _ _ => rfl) fun h r q => abs_ok h r q
theorem e_maxF (hc : X.calm = true) (g : BltG X "max" pos a as) : PE X (.Call (.Name "max" p) (a :: as) [] pos) (tE pg N C X.K W (.bi .max2 es)) :=
  e_biB (r := rMax2) (call_max2 hc) g.gl g.mg boot_max' (by decide) (by decide) g.st g.pl ha (fun _ _ => rfl) fun h r q => max_ok h r q
theorem e_minF (hc : X.calm = true) (g : BltG X "min" pos a as) : PE X (.Call (.Name "min" p) (a :: as) [] pos) (tE pg N C X.K W (.bi .min1 es)) :=
  e_biB (cr_min hc) g.gl g.mg boot_min' (by decide) (by decide) g.st g.pl ha (fun _ _ => rfl) fun h r q => min_ok h r q
end
end Mini

set_option Elab.async false
set_option linter.all false
set_option maxRecDepth 100000
set_option maxHeartbeats 4000000
/-! Mini's expressions: types of values, isinstance, own ==, methods, the module's table, displays, reversed. -/
namespace Mini
open PySem L2

/-! ### types -/
/-- what isinstance asks of the classes as the top has made them -/
structure KitG (N : Nm) (K : PySem.W.Frag) : Prop where
  cl : ∀ c, c < N.nc → Cls K (N.cl c)
  ha : ∀ c, c < N.nc → PySem.W.findIn K (.ref (N.cl c)) "__class__" = some (some (.builtin "object.__class__"))
  hm : ∀ c, c < N.nc → PySem.W.mroIn K (N.cl c) (.type "object") = some true
  hn : PySem.W.specialIn K (.builtin "object.__class__") "__get__" = some (some (.builtin "getset_descriptor.__get__"))
  htk : PySem.W.takesIn K (.builtin "object.__class__") = some true
  bc : ∀ t ∈ ["NoneType", "bool", "int", "str", "tuple", "list", "dict"], ∀ c, c < N.nc → PySem.W.kitOne K (.type t) (.ref (N.cl c)) = some false
  cb : ∀ t ∈ ["int", "bool", "str", "tuple", "list", "dict"], ∀ c, c < N.nc → PySem.W.kitOne K (.ref (N.cl c)) (.type t) = some false
  cc : ∀ c d, c < N.nc → d < N.nc → PySem.W.kitOne K (.ref (N.cl c)) (.ref (N.cl d)) = some (decide (c = d))
/-- the kinds -/
inductive Kd where
  | b (n : String) | c (c : Nat)
def kd (A : Hh) : D → Option Kd
  | .non => some (.b "NoneType")
  | .bl _ => some (.b "bool")
  | .int _ => some (.b "int")
  | .str _ => some (.b "str")
  | .tup _ => some (.b "tuple")
  | .ref n => match A[n]? with
    | some (.lst _) => some (.b "list")
    | some (.dk _) => some (.b "dict")
    | some (.dt _) => some (.b "dict")
    | some (.ins c _) => some (.c c)
    | _ => none
  | .scr _ => none
def kdV (N : Nm) : Kd → Value
  | .b n => .type n
  | .c c => .ref (N.cl c)
theorem ty_ok {N : Nm} {K : PySem.W.Frag} {H : Hp} {ρ : List Addr} {A : Hh} {d : D} {x : V} {k : Kd} (G : KitG N K) (h : HR N K H ρ A) (r : Rp K H ρ d x) (e : kd A d = some k) : TyX K H x (kdV N k) ∧ (∀ c, k = .c c → c < N.nc) ∧ (∀ n, k = .b n → n ∈ ["NoneType", "bool", "int", "str", "tuple", "list", "dict"]) := by
  cases d with
  | non => cases e; cases r; exact ⟨.base .non, fun c z => (by cases z), fun n z => by cases z; simp⟩
  | bl b => cases e; cases r; exact ⟨.base (.bl _), fun c z => (by cases z), fun n z => by cases z; simp⟩
  | int i => cases e; cases r; exact ⟨.base (.int _), fun c z => (by cases z), fun n z => by cases z; simp⟩
  | str s => cases e; cases r; exact ⟨.base (.str _), fun c z => (by cases z), fun n z => by cases z; simp⟩
  | tup ds =>
    cases e
    unfold Rp at r
    obtain ⟨a, xs, rfl, t, _⟩ := r
    refine ⟨?_, fun c z => (by cases z), fun n z => by cases z; simp⟩
    rcases t with ⟨t, _⟩ | ⟨o, its, n, e1, e2, _⟩
    · exact .base (.tup t)
    · exact .kTuple e1 e2
  | ref n =>
    simp only [kd] at e
    split at e <;> try cases e
    · rename_i ds hn
      obtain ⟨a, xs, rfl, _, ha, _⟩ := h.lst r hn
      exact ⟨.base (.lst ha), fun c z => (by cases z), fun n z => by cases z; simp⟩
    · rename_i ds hn
      obtain ⟨a, xs, rfl, _, ha, _⟩ := h.dk r hn
      exact ⟨.base (.dK ha), fun c z => (by cases z), fun n z => by cases z; simp⟩
    · rename_i ds hn
      obtain ⟨a, rfl, ra⟩ := r.ref
      obtain ⟨u, _, z⟩ := h.look ra hn
      exact z.elim
    · rename_i c fs hn
      obtain ⟨a, dx, ws, rfl, _, ha, _, hc⟩ := h.ins r hn
      exact ⟨.base (.ins ha (G.cl c hc) (G.ha c hc) G.hn G.htk (G.hm c hc)), fun c' z => (by cases z; exact hc), fun n z => (by cases z)⟩
  | scr ns => cases e
/-- a type as Mini has it -/
def tyN : Ty → Kd
  | .int => .b "int"
  | .bool => .b "bool"
  | .str => .b "str"
  | .tuple => .b "tuple"
  | .list => .b "list"
  | .dict => .b "dict"
  | .cls c => .c c
theorem kit_bb : ∀ a ∈ ["NoneType", "bool", "int", "str", "tuple", "list", "dict"], ∀ b ∈ ["int", "bool", "str", "tuple", "list", "dict"], kitB a b = some (decide (a = b) || (decide (a = "bool") && decide (b = "int"))) := by decide +kernel
theorem tyN_mem {t : Ty} {n : String} (e : tyN t = .b n) : n ∈ ["int", "bool", "str", "tuple", "list", "dict"] := by
  cases t <;> simp only [tyN] at e <;> cases e <;> simp
def kdB (k t : Kd) : Bool := match k, t with
  | .b a, .b b => decide (a = b) || (decide (a = "bool") && decide (b = "int"))
  | .c c, .c d => decide (c = d)
  | _, _ => false
theorem isinR_eq {A : Hh} {d : D} {t : Ty} {b : Bool} (e : isinR A d t = some b) : ∃ k, kd A d = some k ∧ b = kdB k (tyN t) := by
  cases d with
  | non => cases e; exact ⟨_, rfl, by cases t <;> rfl⟩
  | bl x => cases e; exact ⟨_, rfl, by cases t <;> rfl⟩
  | int x => cases e; exact ⟨_, rfl, by cases t <;> rfl⟩
  | str x => cases e; exact ⟨_, rfl, by cases t <;> rfl⟩
  | tup x => cases e; exact ⟨_, rfl, by cases t <;> rfl⟩
  | scr x => cases e
  | ref n =>
    unfold isinR at e
    unfold kd
    simp only at e ⊢
    cases hn : A[n]? with
    | none => rw [hn] at e; cases e
    | some ob =>
      rw [hn] at e
      cases ob with
      | lst _ => cases e; exact ⟨_, rfl, by cases t <;> rfl⟩
      | dk _ => cases e; exact ⟨_, rfl, by cases t <;> rfl⟩
      | dt _ => cases e; exact ⟨_, rfl, by cases t <;> rfl⟩
      | ins c fs => cases e; exact ⟨_, rfl, by cases t <;> rfl⟩
      | lk o => cases e
theorem kit_ok {N : Nm} {K : PySem.W.Frag} (G : KitG N K) {k : Kd} {t : Ty} (hk : ∀ c, k = .c c → c < N.nc) (hb : ∀ n, k = .b n → n ∈ ["NoneType", "bool", "int", "str", "tuple", "list", "dict"]) (ht : ∀ c, t = .cls c → c < N.nc) :
    PySem.W.kitOne K (kdV N k) (kdV N (tyN t)) = some (kdB k (tyN t)) := by
  cases k with
  | b a =>
    have ha := hb a rfl
    cases et : tyN t with
    | b b => exact kit_ty (kit_bb a ha b (tyN_mem et))
    | c c =>
      have hc : t = .cls c := by cases t <;> simp only [tyN] at et <;> cases et; rfl
      exact G.bc a ha c (ht c hc)
  | c c =>
    have hc := hk c rfl
    cases et : tyN t with
    | b b => exact G.cb b (tyN_mem et) c hc
    | c d =>
      have hd : t = .cls d := by cases t <;> simp only [tyN] at et <;> cases et; rfl
      exact G.cc c d hc (ht d hd)
section
variable {pg : Pg} {N : Nm} {C : Call} {W : WX} {X : Cx} {pos : Pos}
variable {x : Str} {p apos : Pos} {a b : Expr} {ea eb : E}
theorem isB_of {v : Env} {A A' : Hh} {t : Ty} {d : D} (h : evE pg C (.isin ea t) v A = .ok d A') : ∃ b, d = .bl b := by
  rw [evE] at h
  exact bind_isb (fun x A1 d A2 h => ofB_bl h) h
/-- isinstance(a, T); T as a value -/
theorem e_isin {t : Ty} {vt : V} {u : Value} (G : KitG N X.K) (hg : Gl X "isinstance") (hm : X.mg "isinstance" = none) (ha : PE X a (tE pg N C X.K W ea)) (hb : PE X b (tC vt)) (cv : ClsV vt u) (eu : u = kdV N (tyN t)) (ht : ∀ c, t = .cls c → c < N.nc)
    (hs : starEach [a, b] X.env = (false, eval a X.env) :: starEach [b] X.env) (hs2 : starEach [b] X.env = [(false, eval b X.env)]) (hpl : (backTo pos (starEach [b] X.env)).any (·.1) = false) :
    PE X (.Call (.Name "isinstance" p) [a, b] [] pos) (tE pg N C X.K W (.isin ea t)) :=
  PE.wk (pe_callB call_isi hg hm boot_isi' (pa_cons ha (pa_cons hb pa_nil (by rw [hs2]; rfl)) hs) (by decide) (by decide) hs hpl) fun σ H Q ⟨v, A, ρ, er, hr, q⟩ => by
    rw [evE] at q
    refine use1 er hr q fun d A1 y H1 ρ1 er1 hr1 ry x1 q1 => ?_
    cases e : isinR A1 d t with
    | none => rw [e] at q1; exact q1.elim
    | some b =>
      rw [e] at q1
      obtain ⟨k, ek, rfl⟩ := isinR_eq e
      obtain ⟨ty, hk, hb'⟩ := ty_ok G hr1 ry ek
      refine ⟨y, vt, kdV N k, u, kdB k (tyN t), rfl, cv, ty, ?_, RQ.ok (show RQ N X.K H1 ρ1 (.ok (.bl (kdB k (tyN t))) A1) Q _ from q1) hr1 rfl⟩
      rw [eu]
      exact kit_ok G hk hb' ht

/-! ### == -/
/-- the own __eq__ of the classes -/
structure EqG (pg : Pg) (N : Nm) (C : Call) (X : Cx) : Prop where
  kit : KitG N X.K
  on : ∀ c f, c < N.nc → pg.eqm[c]? = some (some f) → ∃ k fd ps, FnOk X.prog X.w X.K X.mg X.base (L2.CX X.prog X.w) k (N.fa f) fd ps (spM N X.K C f) ∧ Room k X.A ∧ PySem.W.findIn X.K (.ref (N.cl c)) "__eq__" = some (some (.ref (N.fa f))) ∧ PySem.W.isFn X.K (.ref (N.fa f)) = true ∧ Binds X.K fd ps [] ∧
    PySem.W.notFirst X.K (N.cl c) (.type "tuple") = true ∧ PySem.W.notFirst X.K (N.cl c) (.type "int") = true ∧ PySem.W.notFirst X.K (N.cl c) (.ref (N.cl c)) = true
def rEqM (pg : Pg) (N : Nm) (C : Call) (K : PySem.W.Frag) : R2 := fun x y H Q => rEqAll K x y H Q ∨ ∃ c f, c < N.nc ∧ pg.eqm[c]? = some (some f) ∧ rOwnEq (N.cl c) (fun y H => ∃ t, TyX K H y t ∧ PySem.W.notFirst K (N.cl c) t = true) (spM N K C f) x y H Q
theorem op_eqM (hu : X.A.units + 64 < cLine) (G : EqG pg N C X) (hx : Passes (L2.CX X.prog X.w) X (fun _ _ _ => False)) : OpR X (compareOp .Eq) (rEqM pg N C X.K) := by
  refine OpR.or (op_eqAll hu) ?_
  intro pins s σ H x y v u Q I rx ry h
  obtain ⟨c, f, hc, hf, h⟩ := h
  obtain ⟨k, fd, ps, F, hr, e1, e2, hb, _⟩ := G.on c f hc hf
  refine op_ownEq F hr e1 e2 hb hx (fun pins s σ H y u I ry hy => ?_) pins s σ H x y v u Q I rx ry h
  obtain ⟨t, ht, hn⟩ := hy
  obtain ⟨P, Z, hp, _⟩ := kit_of I ry ht
  exact ⟨t, Z.ty _ _ I.kIn hp, hn⟩
theorem asB_ok {K : PySem.W.Frag} {H : Hp} {ρ : List Addr} {r : R D} {Q : VK} {E : XK} (q : RQ N K H ρ (asB r) Q E) : RQ N K H ρ r (fun z H' => ∃ b, z = .bl b ∧ Q (.bl b) H') (fun _ _ _ => False) := by
  unfold asB at q
  split at q
  · intro x H' ρ' y hr rp
    cases rp
    exact ⟨_, rfl, q _ H' ρ' y hr rfl⟩
  · exact q.elim
theorem ownEq_ok {A : Hh} {c : Cm} {x y : D} {f : Nat} (h : ownEq pg A c x y = some f) : c = .eq ∧ ∃ n k fs, x = .ref n ∧ A[n]? = some (.ins k fs) ∧ pg.eqm[k]? = some (some f) ∧ (kd A y = some (.b "tuple") ∨ kd A y = some (.b "int") ∨ kd A y = some (.c k)) := by
  unfold ownEq at h
  split at h
  · rename_i n
    split at h
    · rename_i k fs hn
      split at h
      · rename_i g hg
        split at h
        · cases h; exact ⟨rfl, n, k, fs, rfl, hn, hg, .inl rfl⟩
        · cases h; exact ⟨rfl, n, k, fs, rfl, hn, hg, .inr (.inl rfl)⟩
        · rename_i m
          split at h
          · rename_i j fs' hm
            split at h
            · rename_i e
              subst e
              cases h
              exact ⟨rfl, n, j, fs, rfl, hn, hg, .inr (.inr (by unfold kd; simp only; rw [hm]))⟩
            · cases h
          · cases h
        · cases h
      · cases h
    · cases h
  · cases h
theorem eqM_ok {H : Hp} {ρ : List Addr} {A : Hh} {dx dy : D} {x y : V} {Q : VK} {E : XK} (G : EqG pg N C X) (h : HR N X.K H ρ A) (rx : Rp X.K H ρ dx x) (ry : Rp X.K H ρ dy y)
    (q : RQ N X.K H ρ (match ownEq pg A .eq dx dy with | some f => asB (C f [dx, dy] A) | none => ofB (cmpR .eq dx dy A) A) Q E) : rEqM pg N C X.K x y H Q := by
  cases e : ownEq pg A .eq dx dy with
  | none =>
    rw [e] at q
    exact .inl (eq_ok h rx ry q)
  | some f =>
    rw [e] at q
    obtain ⟨_, n, k, fs, rfl, hn, hf, ht⟩ := ownEq_ok e
    obtain ⟨a, dx, ws, rfl, _, ha, r, hc⟩ := h.ins rx hn
    obtain ⟨_, _, _, _, _, _, _, _, n1, n2, n3⟩ := G.on k f hc hf
    refine .inr ⟨k, f, hc, hf, a, dx, ws, rfl, ha, ?_, [.ref n, dy], A, ρ, h, rps_cons rx (rps_cons ry rps_nil), asB_ok q⟩
    rcases ht with ht | ht | ht
    · exact ⟨_, (ty_ok G.kit h ry ht).1, n1⟩
    · exact ⟨_, (ty_ok G.kit h ry ht).1, n2⟩
    · exact ⟨_, (ty_ok G.kit h ry ht).1, n3⟩
theorem c_eq (hu : X.A.units + 64 < cLine) (G : EqG pg N C X) (hx : Passes (L2.CX X.prog X.w) X (fun _ _ _ => False)) (ha : PE X a (tE pg N C X.K W ea)) (hb : PE X b (tE pg N C X.K W eb)) :
    PE X (.Compare a [.Eq] [b] pos) (tE pg N C X.K W (.cmp .eq ea eb)) ∧ PT X (.Compare a [.Eq] [b] pos) (tT pg N C X.K W (.cmp .eq ea eb)) :=
  cmp_of (op_eqM hu G hx) ha hb (nomark _) fun h rx ry q => eqM_ok G h rx ry q

/-! ### methods of lists -/
theorem e_append (ha : PE X a (tE pg N C X.K W ea)) (hb : PE X b (tE pg N C X.K W eb)) (hbase : attributeBase a "append" X.env (eval a X.env) = eval a X.env)
    (hfew : ((backTo pos (starEach [b] X.env)).all (fun x => !x.1) && (backToKw pos (keywordEach [] X.env)).all (fun x => x.1.isSome)
      && decide ([b].length + ([] : List Keyword).length + (if ([] : List Keyword).isEmpty then 0 else 1) < 30)) = true)
    (hline : (apos.endLine == pos.line) = true) (hs : starEach [b] X.env = (false, eval b X.env) :: starEach [] X.env) (hplain : (backTo pos (starEach [] X.env)).any (·.1) = false) :
    PE X (.Call (.Attribute a "append" apos) [b] [] pos) (tE pg N C X.K W (.bm .append ea [eb])) :=
  PE.wk (pe_bm PySem.F.plainAttrs_list PySem.F.slot_list_append PySem.F.type_list_append mt_append ha (pa_cons hb pa_nil hs) hbase hfew hline hs hplain) fun σ H Q ⟨v, A, ρ, er, hr, q⟩ => by
    rw [evE] at q
    refine use1 er hr q fun d A1 y H1 ρ1 er1 hr1 ry x1 q1 => ?_
    split at q1
    · rename_i ho
      have ty : tyV X.K "list" y H1 := by
        unfold recvOk at ho
        split at ho <;> try (exact absurd ho (by decide))
        all_goals try (rename_i hh; cases hh; done)
        rename_i n
        split at ho
        · rename_i ds hn
          obtain ⟨a, xs, rfl, _, ha, _⟩ := hr1.lst ry hn
          exact .inl ⟨rfl, xs, SqL.of ha⟩
        · exact absurd ho (by decide)
      refine ⟨ty, ?_⟩
      have q1' : RQ N X.K H1 ρ1 ((evE pg C eb v A1).bind fun x A => bm .append d [x] A) Q (EX W σ) := by
        simp only [evEs, bind_assoc] at q1
        exact q1
      exact use1 er1 hr1 q1' fun d2 A2 z H2 ρ2 er2 hr2 rz x2 q2 => (append_ok hr2 (ry.ext x2) (rps_cons rz rps_nil) q2).2
    · exact q1.elim
theorem e_pop (ha : PE X a (tE pg N C X.K W ea)) (hbase : attributeBase a "pop" X.env (eval a X.env) = eval a X.env) (hline : (apos.endLine == pos.line) = true) : PE X (.Call (.Attribute a "pop" apos) [] [] pos) (tE pg N C X.K W (.bm .pop ea [])) :=
  PE.wk (pe_bm0 PySem.F.plainAttrs_list PySem.F.slot_list_pop PySem.F.type_list_pop mt_pop ha hbase hline) fun σ H Q ⟨v, A, ρ, er, hr, q⟩ => by
    rw [evE] at q
    refine use1 er hr q fun d A1 y H1 ρ1 er1 hr1 ry x1 q1 => ?_
    split at q1
    · rw [evEs] at q1
      exact pop_ok hr1 ry rps_nil q1
    · exact q1.elim
end
end Mini

set_option Elab.async false
set_option linter.all false
set_option maxRecDepth 100000
set_option maxHeartbeats 4000000
/-! Mini's expressions: dict displays, a list reversed, the module's table of groups. -/
namespace Mini
open PySem L2
section
variable {N : Nm} {K : PySem.W.Frag} {H : Hp} {ρ : List Addr}
theorem krs_any {kvs : List (S × D)} {ws : List (Key × V)} (r : KRs K H ρ kvs ws) (k : S) : (kvs.any fun kv => decide (kv.1 = k)) = (ws.any fun kv => decide (kv.1 = (Sum.inr (txt k) : Key))) := by
  unfold KRs at r
  induction r with
  | nil => rfl
  | @cons p q ps qs h _ ih =>
    rw [List.any_cons, List.any_cons, ih, h.1]
    congr 1
    by_cases c : p.1 = k
    · rw [decide_eq_true c, c]; exact (decide_eq_true rfl).symm
    · rw [decide_eq_false c]; exact (decide_eq_false fun z => c (txt_inj (Sum.inr.inj z))).symm
theorem krs_put {kvs : List (S × D)} {ws : List (Key × V)} {k : S} {d : D} {v : V} (r : KRs K H ρ kvs ws) (rv : Rp K H ρ d v) : KRs K H ρ (putD kvs k d) (putK ws (Sum.inr (txt k) : Key) v) := by
  unfold putD putK
  rw [krs_any r k]
  by_cases c : (ws.any fun kv => decide (kv.1 = (Sum.inr (txt k) : Key))) = true
  · rw [if_pos c, if_pos c]
    refine pr_map (fun p q h => ?_) r
    by_cases e : p.1 = k
    · rw [if_pos e, if_pos (by rw [h.1, e])]
      exact ⟨h.1, rv⟩
    · rw [if_neg e, if_neg (by rw [h.1]; exact fun z => e (txt_inj (Sum.inr.inj z)))]
      exact h
  · rw [if_neg c, if_neg c]
    exact pr_app r (.cons ⟨rfl, rv⟩ .nil)
theorem krs_merge : ∀ {more : List (S × D)} {ms : List (Key × V)} {kvs : List (S × D)} {ws : List (Key × V)}, KRs K H ρ kvs ws → KRs K H ρ more ms → KRs K H ρ (putAll kvs more) (mergeK ws ms)
  | _, _, _, _, r, .nil => r
  | _, _, kvs, ws, r, @Paired.cons _ _ _ p q ps qs h t => by
    obtain ⟨k, d⟩ := p
    obtain ⟨kk, v⟩ := q
    obtain ⟨h1, h2⟩ := h
    simp only at h1 h2
    subst h1
    exact krs_merge (kvs := putD kvs k d) (ws := putK ws (Sum.inr (txt k)) v) (krs_put r h2) t
theorem krs_zip : ∀ {ks : List Str} {ds : List D} {xs : List V}, Rps K H ρ ds xs → KRs K H ρ ((ks.map fun s => s.cps.toList).zip ds) ((ks.map Sum.inr : List Key).zip xs)
  | [], _, _, _ => .nil
  | k :: ks, [], xs, r => by
    unfold Rps at r
    subst r
    exact .nil
  | k :: ks, d :: ds, xs, r => by
    unfold Rps at r
    obtain ⟨x, t, rfl, h1, h2⟩ := r
    exact .cons ⟨rfl, h1⟩ (krs_zip h2)
end
section
variable {K : PySem.W.Frag} {H H' : Hp} {ρ ρ' : List Addr} (pre : ∀ (n : Nat) (a : Addr), ρ[n]? = some a → ρ'[n]? = some a) (kt : ∀ a xs, H a = some (.tup xs) → a ∉ ρ → H' a = some (.tup xs) ∧ a ∉ ρ') (kl : ∀ a o xs, H a = some (.frz o (.lst xs)) → a ∉ ρ → H' a = some (.frz o (.lst xs)) ∧ a ∉ ρ')
include pre kt kl
mutual
theorem Rp.stay : ∀ {d : D} {v : V}, Rp K H ρ d v → Rp K H' ρ' d v
  | .non, _, h => h
  | .bl _, _, h => h
  | .int _, _, h => h
  | .str _, _, h => h
  | .tup ds, v, h => by
    unfold Rp at h ⊢
    obtain ⟨a, xs, e, t, r⟩ := h
    refine ⟨a, xs, e, ?_, Rps.stay r⟩
    rcases t with ⟨t, n⟩ | t
    · exact .inl (kt _ _ t n)
    · exact .inr t
  | .ref n, v, h => by
    unfold Rp at h ⊢
    obtain ⟨a, e, t⟩ := h
    exact ⟨a, e, pre _ _ t⟩
  | .scr ns, v, h => by
    unfold Rp at h ⊢
    obtain ⟨a, e, t⟩ := h
    refine ⟨a, e, ?_⟩
    rcases t with ⟨⟨o, t⟩, n⟩ | t
    · obtain ⟨t1, t2⟩ := kl _ _ _ t n
      exact .inl ⟨⟨o, t1⟩, t2⟩
    · exact .inr t
theorem Rps.stay : ∀ {ds : List D} {xs : List V}, Rps K H ρ ds xs → Rps K H' ρ' ds xs
  | [], _, h => by unfold Rps at h ⊢; exact h
  | d :: ds, xs, h => by
    unfold Rps at h ⊢
    obtain ⟨y, r, e, h1, h2⟩ := h
    exact ⟨y, r, e, Rp.stay h1, Rps.stay h2⟩
end
end
theorem HoR.map {N : Nm} {K : PySem.W.Frag} {H H' : Hp} {ρ ρ' : List Addr} (f : ∀ d v, Rp K H ρ d v → Rp K H' ρ' d v) {ob : Ob} {u : HO} (h : HoR N K H ρ ob u) : HoR N K H' ρ' ob u := by
  cases ob with
  | lst ds => obtain ⟨xs, e, r⟩ := h; exact ⟨xs, e, rps_iff.mpr (pr_mono f (rps_iff.mp r))⟩
  | dk kvs => obtain ⟨xs, e, r⟩ := h; exact ⟨xs, e, pr_mono (fun _ _ z => ⟨z.1, f _ _ z.2⟩) r⟩
  | dt kvs => exact h
  | lk o => obtain ⟨ob, u', e, kvs, ws, e1, e2, r⟩ := h; exact ⟨ob, u', e, kvs, ws, e1, e2, pr_mono (fun _ _ z => ⟨z.1, f _ _ z.2⟩) r⟩
  | ins c fs => obtain ⟨hc, dx, ws, e, r⟩ := h; exact ⟨hc, dx, ws, e, pr_mono (fun _ _ z => ⟨z.1, f _ _ z.2⟩) r⟩
/-- what is not looked at when values are read -/
def Soft : HO → Prop
  | .tup _ => False
  | .frz _ _ => False
  | _ => True
theorem soft_stay {K : PySem.W.Frag} {H : Hp} {ρ e : List Addr} {p : Addr} {u u0 : HO} (np : p ∉ ρ) (hp : H p = some u0) (so : Soft u0) (he : ∀ a ∈ e, a = p) : ∀ d v, Rp K H ρ d v → Rp K (upd H p u) (ρ ++ e) d v := fun d v => Rp.stay (fun n a e => by
      have hl : n < ρ.length := (List.getElem?_eq_some_iff.mp e).1
      rw [List.getElem?_append_left hl]; exact e) (fun a xs e n => by
      have ne : a ≠ p := by intro z; subst z; rw [hp] at e; cases e; exact so
      exact ⟨by rw [upd_ne ne]; exact e, by rw [List.mem_append]; exact fun z => z.elim n fun z => ne (he a z)⟩) (fun a o xs e n => by
      have ne : a ≠ p := by intro z; subst z; rw [hp] at e; cases e; exact so
      exact ⟨by rw [upd_ne ne]; exact e, by rw [List.mem_append]; exact fun z => z.elim n fun z => ne (he a z)⟩)
/-- a thing of nobody's is written -/
theorem HR.poke {N : Nm} {K : PySem.W.Frag} {H : Hp} {ρ : List Addr} {A : Hh} {p : Addr} {u u0 : HO} (h : HR N K H ρ A) (np : p ∉ ρ) (hp : H p = some u0) (so : Soft u0) : HR N K (upd H p u) ρ A :=
  ⟨h.len, h.nd, fun n a ob e1 e2 => by
    obtain ⟨w, hw, r⟩ := h.at_ n a ob e1 e2
    have ne : a ≠ p := fun z => np (z ▸ List.mem_of_getElem? e1)
    refine ⟨w, by rw [upd_ne ne]; exact hw, r.map fun d v q => ?_⟩
    have z := soft_stay (u := u) (e := []) np hp so (by simp) d v q
    rwa [List.append_nil] at z⟩
theorem Rp.poke {K : PySem.W.Frag} {H : Hp} {ρ : List Addr} {p : Addr} {u u0 : HO} {d : D} {v : V} (np : p ∉ ρ) (hp : H p = some u0) (so : Soft u0) (r : Rp K H ρ d v) : Rp K (upd H p u) ρ d v := by
  have z := soft_stay (u := u) (e := []) np hp so (by simp) d v r
  rwa [List.append_nil] at z
/-- .. becomes a place -/
theorem HR.place {N : Nm} {K : PySem.W.Frag} {H : Hp} {ρ : List Addr} {A : Hh} {p : Addr} {u u0 : HO} {ob : Ob} (h : HR N K H ρ A) (np : p ∉ ρ) (hp : H p = some u0) (so : Soft u0) (r : HoR N K H ρ ob u) :
    HR N K (upd H p u) (ρ ++ [p]) (A ++ [ob]) ∧ Rp K (upd H p u) (ρ ++ [p]) (.ref A.length) (.ref p) := by
  have f : ∀ d v, Rp K H ρ d v → Rp K (upd H p u) (ρ ++ [p]) d v := soft_stay np hp so (by simp)
  refine ⟨⟨by simp [h.len], ?_, fun n a o e1 e2 => ?_⟩, ?_⟩
  · rw [List.nodup_append]
    refine ⟨h.nd, by simp, fun a ha b hb e => ?_⟩
    rw [List.mem_singleton.mp hb] at e
    exact np (e ▸ ha)
  · by_cases hn : n < ρ.length
    · rw [List.getElem?_append_left hn] at e1
      rw [List.getElem?_append_left (by rw [← h.len]; exact hn)] at e2
      obtain ⟨w, hw, r'⟩ := h.at_ n a o e1 e2
      have ne : a ≠ p := fun z => np (z ▸ List.mem_of_getElem? e1)
      exact ⟨w, by rw [upd_ne ne]; exact hw, r'.map f⟩
    · rw [List.getElem?_append_right (by omega)] at e1
      rw [List.getElem?_append_right (by rw [← h.len]; omega), ← h.len] at e2
      have z : n - ρ.length = 0 := by
        have := (List.getElem?_eq_some_iff.mp e1).1
        simp at this
        omega
      rw [z] at e1 e2
      simp at e1 e2
      subst e1 e2
      exact ⟨u, upd_same, r.map f⟩
  · unfold Rp
    exact ⟨p, rfl, by rw [← h.len, List.getElem?_append_right (Nat.le_refl _)]; simp⟩
theorem Ext.poke {H H2 : Hp} {ρ ρ2 : List Addr} {p : Addr} {u : HO} (x : Ext H ρ H2 ρ2) (hn : H p = none) : Ext H ρ (upd H2 p u) ρ2 :=
  ⟨x.pre, fun a o h n => by rw [upd_ne (ne_of_none h hn)]; exact x.keep a o h n⟩
/-- .. seen from ahead of it -/
theorem Ext.place {H H2 : Hp} {ρ ρ2 : List Addr} {p : Addr} {u : HO} (x : Ext H ρ H2 ρ2) (hn : H p = none) : Ext H ρ (upd H2 p u) (ρ2 ++ [p]) := by
  obtain ⟨e1, he1, hne⟩ := x.pre
  refine ⟨⟨e1 ++ [p], by rw [he1, List.append_assoc], fun a ha => ?_⟩, fun a o h n => ?_⟩
  · rcases List.mem_append.mp ha with z | z
    · exact hne a z
    · rw [List.mem_singleton.mp z]; exact hn
  · rw [upd_ne (ne_of_none h hn)]
    exact x.keep a o h n
section
variable {pg : Pg} {N : Nm} {C : Call} {W : WX} {X : Cx} {pos : Pos}
def trs (pg : Pg) (N : Nm) (C : Call) (K : PySem.W.Frag) (W : WX) (ks : List Str) (es : List E) : List (TE × TE) := (ks.zip es).map fun p => (tC (V.str p.1), tE pg N C K W p.2)
theorem pairs_of {K : PySem.W.Frag} : ∀ {ks : List Str} {es : List E} {σ : L2.St} {H : Hp} {ρ : List Addr} {v : Env} {A : Hh} {Q : List (V × V) → Hp → Prop}, ks.length = es.length → ER K H ρ v σ → HR N K H ρ A →
    RG N K H ρ (evEs pg C es v A) (fun ds _ H' ρ' => ∀ xs, Rps K H' ρ' ds xs → Q ((ks.map V.str).zip xs) H') (EX W σ) → tPairs (trs pg N C K W ks es) σ H Q
  | [], [], σ, H, ρ, v, A, Q, _, er, hr, q => by
    rw [evEs] at q
    exact q H ρ .refl hr [] rps_nil
  | k :: ks, e :: es, σ, H, ρ, v, A, Q, hl, er, hr, q => by
    rw [evEs] at q
    refine ⟨v, A, ρ, er, hr, RQ.ofRG (q.bind.imp fun d A1 H1 ρ1 hr1 x1 g y ry => ?_)⟩
    refine pairs_of (by simpa using hl) (er.ext x1) hr1 (g.bind.imp fun ds A2 H2 ρ2 hr2 x2 g2 xs rx => ?_)
    exact g2 H2 ρ2 .refl hr2 (y :: xs) (rps_cons (ry.ext x2) rx)
  | [], _ :: _, _, _, _, _, _, _, hl, _, _, _ => by cases hl
  | _ :: _, [], _, _, _, _, _, _, hl, _, _, _ => by cases hl
theorem zip_kV : ∀ (ks : List Str) (xs : List V), (ks.map V.str).zip xs = ((ks.map Sum.inr : List Key).zip xs).map fun kv => (kV kv.1, kv.2)
  | [], _ => rfl
  | _ :: _, [] => rfl
  | k :: ks, x :: xs => by
    show (V.str k, x) :: (ks.map V.str).zip xs = (kV (Sum.inr k), x) :: _
    rw [zip_kV ks xs]
    rfl
/-- {'a': .., ..} -/
theorem e_dic {ks : List Str} {kx : List (Option Expr)} {vs : List Expr} {es : List E} (hp : PPs X pos kx vs (trs pg N C X.K W ks es)) (hk : ks.length = es.length) (hall : kx.all (·.isSome) = true) (hl : kx.length = vs.length) (h0 : kx ≠ []) (h15 : kx.length ≤ 15) (hkx : ks.length = kx.length) :
    PE X (.Dict kx vs pos) (tE pg N C X.K W (.dic (ks.map fun s => s.cps.toList) es)) :=
  PE.wk (pe_disp hp hall hl h0 h15) fun σ H Q ⟨v, A, ρ, er, hr, q⟩ => by
    intro p hn
    have hr1 : HR N X.K (upd H p (.dK [])) ρ A := hr.new hn
    have x1 : Ext H ρ (upd H p (.dK [])) ρ := Ext.new hn
    rw [evE] at q
    refine pairs_of hk (er.ext x1) hr1 ?_
    cases e : evEs pg C es v A with
    | bad => rw [e] at q; exact q.elim
    | exc c d A2 =>
      rw [e] at q
      exact fun dd H2 ρ2 x2 hr2 ex => q dd H2 ρ2 (hr1.trans x1 x2) hr2 ex
    | ok ds A2 =>
      rw [e] at q
      intro H2 ρ2 x2 hr2 xs rx
      change RQ N X.K H ρ (if _ then _ else _) Q _ at q
      split at q
      · have hp2 : H2 p = some (.dK []) := x2.keep p _ upd_same (hr.fresh hn)
        have np2 : p ∉ ρ2 := x2.out upd_same (hr.fresh hn)
        refine ⟨hp2, (ks.map Sum.inr : List Key).zip xs, zip_kV ks xs, ?_, ?_⟩
        · rw [List.length_zip, List.length_map]
          omega
        · have x02 : Ext H ρ H2 ρ2 := hr1.trans x1 x2
          obtain ⟨g1, g2⟩ := hr2.place (ob := .dk (putAll [] ((ks.map fun s => s.cps.toList).zip ds))) (u := .dK (mergeK [] ((ks.map Sum.inr : List Key).zip xs))) np2 hp2 trivial ⟨_, rfl, krs_merge .nil (krs_zip rx)⟩
          exact q _ _ _ (x02.place hn) g1 g2
      · exact q.elim

/-! ### reversed -/
theorem e_rev {a : Expr} {ea : E} {k : Nat} {p1 p2 p3 : Pos} (ha : PE X a (tE pg N C X.K W ea)) : PE X (.Subscript a (.Slice none none (some (.UnaryOp .USub (.Constant (.int 1) k p1) p2)) p3) pos) (tE pg N C X.K W (.rev ea)) :=
  PE.wk (pe_revL ha) fun σ H Q ⟨v, A, ρ, er, hr, q⟩ => by
    rw [evE] at q
    refine use1 er hr q fun d A1 y H1 ρ1 er1 hr1 ry x1 q1 => ?_
    unfold revD at q1
    split at q1 <;> try exact q1.elim
    split at q1 <;> try exact q1.elim
    rename_i n xs hn
    obtain ⟨b, ws, rfl, _, hb, rs⟩ := hr1.lst ry hn
    exact ⟨b, ws, rfl, SqL.of hb, q1.obj hr1 (ho_lst (rps_iff.mpr (pr_rev (rps_iff.mp rs))))⟩

/-! ### the module's table -/
structure GrpG (grp : List (S × S)) (K : PySem.W.Frag) (w : World) (d : Addr) (es : Array DictEntry) (n : Nat) : Prop where
  kd : KDict K w d es n
  ent : Paired (fun (e : DictEntry) (p : S × S) => (∃ t, e.key = .str (txt p.1) t) ∧ ∃ t, e.val = .str (txt p.2) t) es.toList grp
theorem grp_find {es : List DictEntry} {grp : List (S × S)} (h : Paired (fun (e : DictEntry) (p : S × S) => (∃ t, e.key = .str (txt p.1) t) ∧ ∃ t, e.val = .str (txt p.2) t) es grp) (s : S) :
    (es.any (·.refKey) = false) ∧ (match grpG grp s with | some t => ∃ e k, es.find? (·.key.isStr (txt s)) = some e ∧ e.val = .str (txt t) k | none => es.find? (·.key.isStr (txt s)) = none) := by
  induction h with
  | nil => exact ⟨rfl, rfl⟩
  | @cons e p es ps hp _ ih =>
    obtain ⟨⟨t1, h1⟩, t2, h2⟩ := hp
    obtain ⟨a, b⟩ := p
    simp only at h1 h2
    refine ⟨by rw [List.any_cons, ih.1]; unfold DictEntry.refKey; rw [h1]; rfl, ?_⟩
    rw [grpG, List.find?_cons]
    have hk : e.key.isStr (txt s) = decide (a = s) := by
      rw [h1]
      show (txt a == txt s) = _
      by_cases c : a = s
      · rw [c, decide_eq_true rfl]; exact beq_self_eq_true _
      · rw [decide_eq_false c]; exact beq_eq_false_iff_ne.mpr fun z => c (txt_inj z)
    rw [hk]
    by_cases c : a = s
    · rw [if_pos c, decide_eq_true c]
      exact ⟨e, t2, rfl, h2⟩
    · rw [if_neg c, decide_eq_false c]
      exact ih.2
theorem GrpG.at_ {grp : List (S × S)} {K : PySem.W.Frag} {w : World} {d : Addr} {es : Array DictEntry} {n : Nat} (G : GrpG grp K w d es n) (s : S) :
    match grpG grp s with | some t => ∃ k, PySem.W.nsIn K d (txt s) = some (some (.str (txt t) k)) | none => PySem.W.nsIn K d (txt s) = some none := by
  obtain ⟨h1, h2⟩ := grp_find G.ent s
  unfold PySem.W.nsIn
  rw [G.kd.at_]
  dsimp only
  cases e : grpG grp s with
  | some t =>
    rw [e] at h2
    obtain ⟨en, k, h3, h4⟩ := h2
    exact ⟨k, by rw [h3]; exact congrArg (fun v => some (some v)) h4⟩
  | none =>
    rw [e] at h2
    show (match es.toList.find? (·.key.isStr (txt s)) with | some e => some (some e.val) | none => if es.toList.any (·.refKey) then none else some none) = some none
    rw [show es.toList.find? (·.key.isStr (txt s)) = none from h2]
    simp [h1]
variable {x : Str} {p apos : Pos} {a b : Expr} {ea eb : E} {d : Addr} {des : Array DictEntry} {n : Nat}
theorem gin_b {v : Env} {A A' : Hh} {z : D} (h : evE pg C (.gin ea) v A = .ok z A') : ∃ b, z = .bl b := by
  rw [evE] at h
  refine bind_isb (fun x A1 d A2 h => ?_) h
  unfold ginD at h
  split at h
  · cases h; exact ⟨_, rfl⟩
  · cases h
theorem c_gin (G : GrpG pg.grp X.K X.w d des n) (ha : PE X a (tE pg N C X.K W ea)) (hb : PE X b (tC (.ref d))) (hm : behindInMarks .In b = false) :
    PE X (.Compare a [.In] [b] pos) (tE pg N C X.K W (.gin ea)) ∧ PT X (.Compare a [.In] [b] pos) (tT pg N C X.K W (.gin ea)) := by
  have imp : ∀ σ H Q, tE pg N C X.K W (.gin ea) σ H Q → tOp (fun x y H Q => ∃ (z : Str) (r : Option Value), x = .str z ∧ y = .ref d ∧ PySem.W.nsIn X.K d z = some r ∧ Q (.bl r.isSome) H) (tE pg N C X.K W ea) (tC (.ref d)) σ H Q := fun σ H Q ⟨v, A, ρ, er, hr, q⟩ => by
    rw [evE] at q
    refine use1 er hr q fun z A1 y H1 ρ1 er1 hr1 ry x1 q1 => ?_
    unfold ginD at q1
    split at q1 <;> try exact q1.elim
    rename_i s
    cases ry
    have g := G.at_ s
    cases e : grpG pg.grp s with
    | some t =>
      rw [e] at g
      rw [e] at q1
      obtain ⟨k, g⟩ := g
      exact ⟨txt s, some (.str (txt t) k), rfl, rfl, g, RQ.ok (show RQ N X.K H1 ρ1 (.ok (.bl true) A1) Q _ from q1) hr1 rfl⟩
    | none =>
      rw [e] at g
      rw [e] at q1
      exact ⟨txt s, none, rfl, rfl, g, RQ.ok (show RQ N X.K H1 ρ1 (.ok (.bl false) A1) Q _ from q1) hr1 rfl⟩
  exact ⟨PE.wk (pe_cmpR (op_in_kd G.kd) ha hb hm) imp, PT.wk (pt_cmpR (op_in_kd G.kd) ha hb hm) fun σ H Q h => imp σ H _ (te_of_tt (fun v A d A' => gin_b) h)⟩
theorem e_gidx (G : GrpG pg.grp X.K X.w d des n) (ha : PE X a (tC (.ref d))) (hb : PE X b (tE pg N C X.K W eb)) (hs : PlainIx b) : PE X (.Subscript a b pos) (tE pg N C X.K W (.gidx eb)) :=
  PE.wk (pe_ix ix_kdict ha hb hs) fun σ H Q ⟨v, A, ρ, er, hr, q⟩ => by
    rw [evE] at q
    refine use1 er hr q fun z A1 y H1 ρ1 er1 hr1 ry x1 q1 => ?_
    unfold gidxD at q1
    split at q1 <;> try exact q1.elim
    rename_i s
    split at q1 <;> try exact q1.elim
    rename_i t ht
    cases ry
    have g := G.at_ s
    rw [ht] at g
    obtain ⟨k, g⟩ := g
    exact ⟨d, txt s, .str (txt t), rfl, rfl, ⟨des, n, _, G.kd.at_, G.kd.lit, g, ⟨k, rfl⟩⟩, RQ.ok (show RQ N X.K H1 ρ1 (.ok (.str t) A1) Q _ from q1) hr1 rfl⟩
theorem e_gget {o : Expr} (G : GrpG pg.grp X.K X.w d des n) (ho : PE X o (tC (.ref d))) (ha : PE X a (tE pg N C X.K W ea)) (hb : PE X b (tE pg N C X.K W eb)) (m : M2 X o "get" apos a b pos) :
    PE X (.Call (.Attribute o "get" apos) [a, b] [] pos) (tE pg N C X.K W (.gget ea eb)) := by
  refine ⟨fun pins s σ H Q I ⟨v, A, ρ, er, hr, q⟩ => ?_⟩
  rw [evE] at q
  have hmap := fun {s' : Shared} {σ' : L2.St} {H' : Hp} (I' : Inv X pins σ' H' s') => PySem.W.mapOf_K (prog := X.prog) (w := X.w) I'.kIn G.kd.at_ G.kd.lit
  refine wpAny_Call_method m.base m.few m.line PySem.F.plainAttrs_dict PySem.F.slot_dict_get PySem.F.type_dict_get (thn (ho.run pins s σ H (fun y H1 => y = .ref d ∧ H1 = H) I ⟨rfl, rfl⟩) fun u s1 ⟨y, H1, I1, ry, ey, eH⟩ => ?_)
  subst ey eH
  obtain rfl : u = Value.ref d := ry
  refine ⟨(hmap I1).typeIs, (hmap I1).noDict, ?_⟩
  rw [m.trees]
  have h1 : tE pg N C X.K W ea σ H1 (fun y H2 => tE pg N C X.K W eb σ H2 fun z H3 => ∃ s, y = .str (txt s) ∧ (match grpG pg.grp s with | some t => Q (.str (txt t)) H3 | none => Q z H3)) := by
    refine use1 er hr q fun z A1 y H2 ρ1 er1 hr1 ry x1 q1 => use1 er1 hr1 q1 fun z2 A2 y2 H3 ρ2 er2 hr2 ry2 x2 q2 => ?_
    unfold ggetD at q2
    split at q2 <;> try exact q2.elim
    rename_i s
    cases ry
    refine ⟨s, rfl, ?_⟩
    cases e : grpG pg.grp s with
    | some t => rw [e] at q2; exact q2.ok hr2 rfl
    | none => rw [e] at q2; exact q2.ok hr2 ry2
  refine Calls.callWith_builtin rfl (Calls.evalArgs_plain (Calls.spliced_cons (thn (ha.run pins s1 σ H1 _ I1 h1) fun iv s2 ⟨y, H2, I2, ry, q2⟩ =>
    Calls.spliced_cons (thn (hb.run pins s2 σ H2 _ I2 q2) fun fv s3 ⟨z, H3, I3, rz, s, ey, q3⟩ => Calls.spliced_nil ?_))))
  subst ey
  obtain ⟨t, rfl⟩ := ry
  refine call_meetsIn PySem.F.slot_dict_get (hmap I3).typeIs PySem.F.entry_dict_get (PySem.F.args_dict_get_3 _ _ _) (meets_dict_get_default (strKind X.prog X.w) d (strKind_is X.prog X.w (txt s) t) G.kd.low fv) ⟨_, hmap I3, ?_⟩
  have g := G.at_ s
  cases e : grpG pg.grp s with
  | some t' =>
    rw [e] at g q3
    obtain ⟨k, g⟩ := g
    rw [PySem.W.find_K G.kd.at_ g]
    exact ⟨.str (txt t'), H3, I3.tok _, ⟨k, rfl⟩, q3⟩
  | none =>
    rw [e] at g q3
    rw [PySem.W.find_K G.kd.at_ g]
    exact ⟨z, H3, I3.tok _, rz, q3⟩
end
end Mini

set_option Elab.async false
set_option linter.all false
set_option maxRecDepth 100000
set_option maxHeartbeats 4000000
/-! Texts: str, join, split, startswith. -/
namespace Mini
open PySem L2 PySem.Spec PyProof.Rows

/-! ### the same on lists of signs -/
theorem tl_txt (s : S) : (txt s).cps.toList = s := by simp
theorem split_ne (c : Nat) : ∀ s : S, splitS c s ≠ []
  | [] => by simp [splitS]
  | d :: r => by
    unfold splitS
    split
    · simp
    · split <;> simp
theorem split_own (c : Nat) : ∀ (s acc : S), TL.spl [c] 0 acc s = (match splitS c s with | w :: ws => (acc ++ w) :: ws | [] => [acc])
  | [], acc => by simp [TL.spl_nil, splitS]
  | d :: r, acc => by
    by_cases h : d = c
    · subst h
      rw [TL.spl_hit (by simp [TL.pre])]
      simp only [List.length_singleton]
      rw [show 1 - 1 = 0 from rfl, split_own d r []]
      simp only [splitS, if_true]
      cases e : splitS d r with
      | nil => exact absurd e (split_ne d r)
      | cons w ws => simp
    · rw [TL.spl_miss (by simp [TL.pre, h]), split_own c r]
      simp only [splitS, if_neg h]
      cases e : splitS c r with
      | nil => simp
      | cons w ws => simp
theorem split_txt {c : Nat} {s : S} (hc : c < 256) : Txt.split (txt s) (txt [c]) = (splitS c s).map txt := by
  refine TL.map_tl_inj ?_
  rw [TL.split_spl _ _ (by simp) (TL.kind_ok (by simp [hc]))]
  have e : TL.tl (txt [c]) = [c] := tl_txt _
  have e2 : TL.tl (txt s) = s := tl_txt _
  rw [e, e2, split_own]
  cases h : splitS c s with
  | nil => exact absurd h (split_ne c s)
  | cons w ws =>
    show w :: ws = _
    rw [List.map_map]
    conv => lhs; rw [← List.map_id (w :: ws)]
    refine List.map_congr_left fun x _ => ?_
    exact (tl_txt x).symm
theorem join_txt (sep : S) : ∀ ss : List S, Txt.join (txt sep) (ss.map txt) = txt (joinS sep ss) := fun ss => by
  rw [TL.join_eq]
  refine TL.ext_tl ?_
  rw [TL.tl_join, List.map_map]
  have e : TL.tl (txt sep) = sep := tl_txt _
  have e2 : TL.tl (txt (joinS sep ss)) = joinS sep ss := tl_txt _
  have e3 : (TL.tl ∘ txt) = (id : S → S) := funext fun x => tl_txt x
  rw [e, e2, e3, List.map_id]
  have go : ∀ l : List S, TL.joinL sep l = joinS sep l := by
    intro l
    induction l with
    | nil => rfl
    | cons x l ih =>
      cases l with
      | nil => rfl
      | cons y r =>
        show x ++ (sep ++ TL.joinL sep (y :: r)) = x ++ sep ++ joinS sep (y :: r)
        rw [ih, List.append_assoc]
  exact go ss
theorem starts_txt {s t : S} : Txt.startswith (txt s) (txt t) = t.isPrefixOf s := by
  unfold Txt.startswith
  rw [PySem.StrLaws.subAt_eq, Nat.zero_add, txt_len, txt_len]
  rw [tl_txt s, tl_txt t, List.drop_zero]
  by_cases h : t <+: s
  · have h1 := List.isPrefixOf_iff_prefix.mpr h
    rw [h1]
    obtain ⟨r, rfl⟩ := h
    simp
  · have h1 : t.isPrefixOf s = false := by
      cases q : t.isPrefixOf s with
      | false => rfl
      | true => exact absurd (List.isPrefixOf_iff_prefix.mp q) h
    rw [h1, Bool.and_eq_false_iff]
    right
    rw [beq_eq_false_iff_ne]
    intro z
    exact h ⟨s.drop t.length, by conv => lhs; lhs; rw [← z]
                                 rw [List.take_append_drop]⟩
theorem repr_toList (n : Nat) : n.repr.toList = Nat.toDigits 10 n := by
  show (String.ofList (Nat.toDigits 10 n)).toList = _
  simp
theorem str_int' (i : Int) : Str.ofString (toString i) = txt (intS i) := by
  refine TL.ext_tl ?_
  rw [show TL.tl (txt (intS i)) = intS i from tl_txt _, Str.ofString_eq_toList]
  show (((toString i).toList.map Char.toNat).toArray).toList = _
  rw [List.toList_toArray]
  cases i with
  | ofNat n =>
    have : ¬ (Int.ofNat n < 0) := by simp
    unfold intS
    rw [if_neg this]
    show (n.repr.toList).map Char.toNat = natS n
    rw [repr_toList]
    rfl
  | negSucc n =>
    unfold intS
    rw [if_pos (Int.negSucc_lt_zero n)]
    show (("-" ++ (n + 1).repr).toList).map Char.toNat = 45 :: natS (n + 1)
    rw [String.toList_append, List.map_append, repr_toList]
    rfl
section
variable {N : Nm} {K : PySem.W.Frag} {H : Hp} {ρ : List Addr} {A : Hh} {Q : VK} {E : XK}
def rStr : RC := fun xs H Q => (∃ a, xs = [.str a] ∧ Q (.str a) H) ∨ (∃ i : Int, xs = [.int i] ∧ i.natAbs.log2 < 1920 ∧ Q (.str (toString i)) H) ∨ (xs = [.non] ∧ Q (.str "None") H)
theorem call_str_none {X : Cx} : CallR X (.type "str") (fun xs H Q => xs = [.non] ∧ Q (.str "None") H) := by
  intro pins s σ H xs us Q I r h
  obtain ⟨rfl, q⟩ := h
  obtain ⟨u, rfl, rx⟩ := vals1 r
  cases rx
  exact PySem.P.str_of_none ⟨.str "None", H, I.tok _, ⟨_, rfl⟩, q⟩
theorem c_str {X : Cx} : CallR X (.type "str") rStr := by
  intro pins s σ H xs us Q I r h
  rcases h with h | h | h
  · exact SkE.call_str_str pins s σ H xs us Q I r h
  · exact call_str_int pins s σ H xs us Q I r h
  · exact call_str_none pins s σ H xs us Q I r h
theorem log_small {n : Nat} (h : n ≤ 1000) : n.log2 < 1920 := by
  by_cases e : n = 0
  · subst e; decide
  · have := Nat.log2_lt e (k := 10)
    have : n.log2 < 10 := this.mpr (by omega)
    omega
theorem str_ok {ds : List D} {xs : List V} (h : HR N K H ρ A) (r : Rps K H ρ ds xs) (q : RQ N K H ρ (bStr A ds) Q E) : rStr xs H Q := by
  unfold bStr at q
  split at q <;> try exact q.elim
  · obtain ⟨x, rfl, rx⟩ := rps1 r
    cases rx
    exact .inl ⟨_, rfl, q.ok h rfl⟩
  · obtain ⟨x, rfl, rx⟩ := rps1 r
    cases rx
    split at q
    · rename_i c
      exact .inr (.inl ⟨_, rfl, log_small (by simpa using c), q.ok h (by show V.str (Str.ofString (toString _)) = _; rw [str_int'])⟩)
    · exact q.elim
  · obtain ⟨x, rfl, rx⟩ := rps1 r
    cases rx
    exact .inr (.inr ⟨rfl, q.ok h rfl⟩)
theorem join_ok {dx : D} {x : V} {ds : List D} {xs : List V} (h : HR N K H ρ A) (rx : Rp K H ρ dx x) (r : Rps K H ρ ds xs) (q : RQ N K H ρ (mJoin A dx ds) Q E) :
    ∃ a p, ∃ ys : List Str, x = .str a ∧ xs = [.ref p] ∧ (SqL K H p (ys.map V.str) ∨ SqT K H p (ys.map V.str)) ∧ (ys.map (·.length)).sum + ys.length * a.length ≤ 16777216 ∧ Q (.str (Txt.join a ys)) H := by
  unfold mJoin at q
  split at q <;> try exact q.elim
  rename_i s n
  obtain ⟨y, rfl, ry⟩ := rps1 r
  cases rx
  split at q
  · rename_i zs hn
    obtain ⟨a, ws, rfl, _, ha, ra⟩ := h.lst ry hn
    split at q
    · rename_i ss e
      split at q
      · rename_i c
        rw [strs_of e ra] at ha
        refine ⟨txt s, a, ss.map txt, rfl, rfl, .inl (SqL.of ha), ?_, q.ok h (by rw [join_txt]; rfl)⟩
        rw [List.map_map, List.length_map, txt_len]
        have e2 : ((fun x : Str => x.length) ∘ txt) = (List.length : S → Nat) := funext fun x => txt_len x
        rw [show ((·.length) ∘ txt : S → Nat) = List.length from e2]
        exact Nat.le_of_ble_eq_true c
      · exact q.elim
    · exact q.elim
  · exact q.elim
theorem split_ok {dx : D} {x : V} {ds : List D} {xs : List V} (h : HR N K H ρ A) (rx : Rp K H ρ dx x) (r : Rps K H ρ ds xs) (q : RQ N K H ρ (mSplit A dx ds) Q E) :
    ∃ a b, x = .str a ∧ xs = [.str b] ∧ (b.length == 0) = false ∧ a.length + 2 ≤ sizeLine ∧ rNewStrs (Txt.split a b) H Q := by
  unfold mSplit at q
  split at q <;> try exact q.elim
  rename_i s c
  obtain ⟨y, rfl, ry⟩ := rps1 r
  cases rx; cases ry
  split at q
  · rename_i hc
    rw [Bool.and_eq_true] at hc
    refine ⟨txt s, txt [c], rfl, rfl, rfl, by rw [txt_len, sizeLine_eq]; exact Nat.le_of_ble_eq_true hc.1, ?_⟩
    rw [split_txt (by simpa using hc.2)]
    exact q.obj h (ho_lst (rps_strs _))
  · exact q.elim
end
section
variable {pg : Pg} {N : Nm} {C : Call} {W : WX} {X : Cx} {pos : Pos} {apos : Pos} {a b : Expr} {ea eb : E}
/-- o.m(e), o a text -/
theorem e_m1 {bmo : Bm} {name : Str} {id : String} {r : V → List V → Hp → VK → Prop} (slot : Slot "str" name id) (ty : typeOf (.builtin id) = pure (.type "method_descriptor")) (rule : MtR X id r) (ha : PE X a (tE pg N C X.K W ea)) (hb : PE X b (tE pg N C X.K W eb))
    (rcv : ∀ {A : Hh} {d : D}, recvOk A bmo d = true → ∃ s, d = .str s)
    (ok : ∀ {H : Hp} {ρ : List Addr} {A : Hh} {dx : D} {x : V} {ds : List D} {xs : List V} {Q : VK} {E : XK}, HR N X.K H ρ A → Rp X.K H ρ dx x → Rps X.K H ρ ds xs → RQ N X.K H ρ (bm bmo dx ds A) Q E → r x xs H Q)
    (hs : starEach [b] X.env = [(false, eval b X.env)]) (hbase : attributeBase a name X.env (eval a X.env) = eval a X.env) (hline : (apos.endLine == pos.line) = true) :
    PE X (.Call (.Attribute a name apos) [b] [] pos) (tE pg N C X.K W (.bm bmo ea [eb])) :=
  PE.wk (pe_m1 slot ty rule ha hb hs hbase hline) fun σ H Q ⟨v, A, ρ, er, hr, q⟩ => by
    rw [evE] at q
    refine use1 er hr q fun d A1 y H1 ρ1 er1 hr1 ry x1 q1 => ?_
    split at q1
    · rename_i ho
      obtain ⟨s, rfl⟩ := rcv ho
      cases ry
      refine ⟨⟨_, rfl⟩, ?_⟩
      have q1' : RQ N X.K H1 ρ1 ((evE pg C eb v A1).bind fun x A => bm bmo (.str s) [x] A) Q (EX W σ) := by
        simp only [evEs, bind_assoc] at q1
        exact q1
      exact use1 er1 hr1 q1' fun d2 A2 z H2 ρ2 er2 hr2 rz x2 q2 => ok hr2 (show Rp X.K H2 ρ2 (.str s) (.str (txt s)) from rfl) (rps_cons rz rps_nil) q2
    · exact q1.elim
theorem rc_join {A : Hh} {d : D} (h : recvOk A .join d = true) : ∃ s, d = .str s := by
  unfold recvOk at h
  cases d <;> first | exact ⟨_, rfl⟩ | cases h
theorem rc_split {A : Hh} {d : D} (h : recvOk A .split d = true) : ∃ s, d = .str s := by
  unfold recvOk at h
  cases d <;> first | exact ⟨_, rfl⟩ | cases h
theorem rc_starts {A : Hh} {d : D} (h : recvOk A .startswith d = true) : ∃ s, d = .str s := by
  unfold recvOk at h
  cases d <;> first | exact ⟨_, rfl⟩ | cases h
theorem e_join (ha : PE X a (tE pg N C X.K W ea)) (hb : PE X b (tE pg N C X.K W eb)) (hs : starEach [b] X.env = [(false, eval b X.env)]) (hbase : attributeBase a "join" X.env (eval a X.env) = eval a X.env) (hline : (apos.endLine == pos.line) = true) :
    PE X (.Call (.Attribute a "join" apos) [b] [] pos) (tE pg N C X.K W (.bm .join ea [eb])) :=
  e_m1 PySem.F.slot_str_join PySem.F.type_str_join mt_join ha hb rc_join (fun h rx r q => join_ok h rx r q) hs hbase hline
theorem e_split (ha : PE X a (tE pg N C X.K W ea)) (hb : PE X b (tE pg N C X.K W eb)) (hs : starEach [b] X.env = [(false, eval b X.env)]) (hbase : attributeBase a "split" X.env (eval a X.env) = eval a X.env) (hline : (apos.endLine == pos.line) = true) :
    PE X (.Call (.Attribute a "split" apos) [b] [] pos) (tE pg N C X.K W (.bm .split ea [eb])) :=
  e_m1 PySem.F.slot_str_split PySem.F.type_str_split mt_split ha hb rc_split (fun h rx r q => split_ok h rx r q) hs hbase hline
theorem e_starts (ha : PE X a (tE pg N C X.K W ea)) (hb : PE X b (tE pg N C X.K W eb)) (hs : starEach [b] X.env = [(false, eval b X.env)]) (hbase : attributeBase a "startswith" X.env (eval a X.env) = eval a X.env) (hline : (apos.endLine == pos.line) = true) :
    PE X (.Call (.Attribute a "startswith" apos) [b] [] pos) (tE pg N C X.K W (.bm .startswith ea [eb])) :=
  e_m1 PySem.F.slot_str_startswith PySem.F.type_str_startswith mt_startswith ha hb rc_starts (fun h rx r q => by
    obtain ⟨s, t, e1, e2, e3⟩ := starts_ok h rx r q
    exact ⟨txt s, txt t, e1, e2, by rw [starts_txt]; exact e3⟩) hs hbase hline
variable {p : Pos} {as : List Expr} {es : List E}
theorem e_strF (ha : PA X (a :: as) (tA pg N C X.K W es)) (g : BltG X "str" pos a as) : PE X (.Call (.Name "str" p) (a :: as) [] pos) (tE pg N C X.K W (.bi .str es)) :=
  e_biT c_str g.gl g.mg boot_str' (by decide) (by decide) g.st g.pl ha (fun _ _ => rfl) fun h r q => str_ok h r q
end
end Mini

set_option Elab.async false
set_option linter.all false
set_option maxRecDepth 100000
set_option maxHeartbeats 4000000
/-! list(zip(a, b)) of two lists (after KE.KDictItemsList's list(d.items())). -/
namespace PySem.W
open PySem PySem.Calls PyProof.Rows PyProof.V PySem.Spec
theorem zil_no_len : typeLookup (.type "zip") "__len__" = pure none := by rw [typeLookup_type, builtinLookup_eq_fast]; kernel_rfl
theorem zil_no_hint : typeLookup (.type "zip") "__length_hint__" = pure none := by rw [typeLookup_type, builtinLookup_eq_fast]; kernel_rfl
/-- a zip before turn i; what it gave out last stands above S -/
def ZilSt (h : Heap) (S z TI TO i1 i2 a b : Addr) (i : Nat) : Prop :=
  IsPair h TI (.ref i1) (.ref i2) ∧ h.IsListIter i1 a i ∧ h.IsListIter i2 b i ∧ ((∃ x y, IsZip h z TI TO .none ∧ IsPair h TO x y) ∨ ∃ T f oT, IsZipHeld h z TI TO T f ∧ h.get? T = some oT ∧ S < T)
structure ZilG (xs ys : Array Value) (lo : Addr) (h : Heap) (as : List Addr) : Prop where
  rise : as.Pairwise (· < ·)
  above : ∀ a ∈ as, lo < a
  pairs : ∀ (j : Nat) (a : Addr), as[j]? = some a → ∃ x y, xs[j]? = some x ∧ ys[j]? = some y ∧ IsPair h a x y
theorem ZilG.there {xs ys : Array Value} {lo : Addr} {h : Heap} {as : List Addr} (g : ZilG xs ys lo h as) {a : Addr} (ha : a ∈ as) : a < h.objs.size := by
  obtain ⟨j, hj⟩ := List.mem_iff_getElem?.mp ha
  obtain ⟨_, _, _, _, e⟩ := g.pairs j a hj
  exact Heap.lt_size e
structure ZilLt (S z TI TO i1 i2 a b : Addr) : Prop where
  z : z < S
  TI : TI < S
  TO : TO < S
  i1 : i1 < S
  i2 : i2 < S
  a : a < S
  b : b < S
section
variable {prog : Program} {w : World} {A : Around} {E : Value → Shared → Prop} {s : Shared} {S z TI TO i1 i2 a b : Addr} {xs ys : Array Value} {i : Nat}
theorem ZilSt.keep {h h' : Heap} (st : ZilSt h S z TI TO i1 i2 a b i) (L : ZilLt S z TI TO i1 i2 a b) (k : ∀ c o, c ≠ S → h.get? c = some o → h'.get? c = some o) : ZilSt h' S z TI TO i1 i2 a b i := by
  obtain ⟨h1, h2, h3, h4⟩ := st
  refine ⟨k _ _ (Nat.ne_of_lt L.TI) h1, h2.at fun o e => k _ o (Nat.ne_of_lt L.i1) e, h3.at fun o e => k _ o (Nat.ne_of_lt L.i2) e, ?_⟩
  rcases h4 with ⟨x, y, q1, q2⟩ | ⟨T, f, oT, q1, q2, q3⟩
  · exact .inl ⟨x, y, k _ _ (Nat.ne_of_lt L.z) q1, k _ _ (Nat.ne_of_lt L.TO) q2⟩
  · exact .inr ⟨T, f, oT, k _ _ (Nat.ne_of_lt L.z) q1, k _ _ (Nat.ne_of_gt q3) q2, q3⟩
theorem zil_item {Q : Option Value → Shared → Prop} {x y : Value} (D : ZipApart z TI TO i1 i2 a b) (L : ZilLt S z TI TO i1 i2 a b) (hS : S < s.heap.objs.size) (st : ZilSt s.heap S z TI TO i1 i2 a b i) (ha : s.heap.IsList a xs) (hb : s.heap.IsList b ys) (hx : xs[i]? = some x) (hy : ys[i]? = some y)
    (hQ : ∀ h', ZilSt h' S z TI TO i1 i2 a b (i + 1) → IsPair h' s.heap.objs.size x y → h'.objs.size = s.heap.objs.size + 1 → (∀ c o, c ≠ z → c ≠ TO → c ≠ i1 → c ≠ i2 → s.heap.get? c = some o → h'.get? c = some o) → Q (some (.ref s.heap.objs.size)) { s with heap := h' }) :
    wpAny (model prog w) A (pyNext (.ref z)) Q E s := by
  obtain ⟨h1, h2, h3, h4⟩ := st
  rcases h4 with ⟨u, v, q1, q2⟩ | ⟨T, f, oT, q1, q2, q3⟩
  · exact wpAny_pyNext_zip_item D q1 h1 q2 h2 h3 ha hb hx hy fun h' z' TO' a1 a2 p sz k => hQ h' ⟨k _ _ D.TIz D.TITO D.TIi1 D.TIi2 h1, a1, a2, .inr ⟨_, false, _, z', p, hS⟩⟩ p sz k
  · exact wpAny_pyNext_zip_item_held D q1 q2 h1 h2 h3 ha hb hx hy fun h' z' a1 a2 p sz k => hQ h' ⟨k _ _ D.TIz D.TIi1 D.TIi2 h1, a1, a2, .inr ⟨T, true, oT, z', k _ _ (Nat.ne_of_gt (Nat.lt_trans L.z q3)) (Nat.ne_of_gt (Nat.lt_trans L.i1 q3)) (Nat.ne_of_gt (Nat.lt_trans L.i2 q3)) q2, q3⟩⟩ p sz fun c o c1 _ c3 c4 e => k c o c1 c3 c4 e
theorem zil_done {Q : Option Value → Shared → Prop} (hh : A.handled = none) (D : ZipApart z TI TO i1 i2 a b) (st : ZilSt s.heap S z TI TO i1 i2 a b i) (ha : s.heap.IsList a xs) (hb : s.heap.IsList b ys) (hend : xs[i]? = none ∨ ys[i]? = none)
    (hQ : ∀ h', (∀ c o, c ≠ z → c ≠ TO → c ≠ i1 → c ≠ i2 → s.heap.get? c = some o → h'.get? c = some o) → Q none { s with heap := h' }) : wpAny (model prog w) A (pyNext (.ref z)) Q E s := by
  obtain ⟨h1, h2, h3, h4⟩ := st
  rcases h4 with ⟨u, v, q1, q2⟩ | ⟨T, f, oT, q1, q2, q3⟩
  · exact wpAny_pyNext_zip_end hh D q1 h1 q2 h2 h3 ha hb hend hQ
  · exact wpAny_pyNext_zip_end_held hh D q1 q2 h1 h2 h3 ha hb hend fun h' k => hQ h' fun c o c1 _ c3 c4 e => k c o c1 c3 c4 e
end
section
variable {prog : Program} {w : World} {A : Around} {s : Shared} {R : Result → Shared → Prop} {S z TI TO i1 i2 a b : Addr} {xs ys : Array Value}
theorem zil_loop (hh : A.handled = none) (D : ZipApart z TI TO i1 i2 a b) (L : ZilLt S z TI TO i1 i2 a b) (hn : xs.size ≤ sizeLine) (res : Value) {h₁ : Heap}
    (hR : ∀ h' tk acc c as, (∀ c o, c ≠ S → c ≠ z → c ≠ TO → c ≠ i1 → c ≠ i2 → h₁.get? c = some o → h'.get? c = some o) → h'.get? S = some { cls := .type "list", dict := none, data := .seq acc c, slots := #[] } → as.length = min xs.size ys.size → ZilG xs ys S h' as →
      acc.toList = as.map Value.ref → R (.ok (.ret res)) { s with heap := h', toks := tk }) :
    ∀ (k i : Nat) (h : Heap) (tk c : Nat) (acc : Array Value) (as : List Addr), min xs.size ys.size - i = k → i ≤ min xs.size ys.size → ZilSt h S z TI TO i1 i2 a b i → h.IsList a xs → h.IsList b ys → (∀ c o, c ≠ S → c ≠ z → c ≠ TO → c ≠ i1 → c ≠ i2 → h₁.get? c = some o → h.get? c = some o) →
      h.get? S = some { cls := .type "list", dict := none, data := .seq acc c, slots := #[] } → acc.toList = as.map Value.ref → as.length = i → ZilG xs ys S h as →
      codeAny (model prog w) A (.builtin "list.extend.loop" ⟨[.ref S, .ref z, res], []⟩) R { s with heap := h, toks := tk } := by
  have nz := Nat.ne_of_lt L.z
  have nTO := Nat.ne_of_lt L.TO
  have n1 := Nat.ne_of_lt L.i1
  have n2 := Nat.ne_of_lt L.i2
  have na := Nat.ne_of_lt L.a
  have nb := Nat.ne_of_lt L.b
  intro k
  induction k with
  | zero =>
    intro i h tk c acc as hk hi st hA hB hkeep hS hacc hal hG
    have hin : i = min xs.size ys.size := by omega
    refine codeAny_builtin PySem.F.entry_extend_loop ?_
    rw [Around.under_plainId PySem.F.plain_extend_loop _]
    show wpAny _ A.in1 (pyNext (.ref z) >>= _) _ _ _
    have hend : xs[i]? = none ∨ ys[i]? = none := by
      rcases Nat.le_total xs.size ys.size with q | q
      · exact .inl (Array.getElem?_eq_none (by omega))
      · exact .inr (Array.getElem?_eq_none (by omega))
    refine wpAny_bind (zil_done (s := { s with heap := h, toks := tk }) (A := A.in1) hh D st hA hB hend fun h' he => ?_)
    refine wpAny_pure (hR h' tk acc c as (fun c o e1 e2 e3 e4 e5 e => he c o e2 e3 e4 e5 (hkeep c o e1 e2 e3 e4 e5 e)) (he S _ (Ne.symm nz) (Ne.symm nTO) (Ne.symm n1) (Ne.symm n2) hS) (by omega) ⟨hG.rise, hG.above, fun j t hj => ?_⟩ hacc)
    obtain ⟨x, y, e1, e2, e3⟩ := hG.pairs j t hj
    have ht := hG.above t (List.mem_of_getElem? hj)
    exact ⟨x, y, e1, e2, he t _ (Nat.ne_of_gt (Nat.lt_trans L.z ht)) (Nat.ne_of_gt (Nat.lt_trans L.TO ht)) (Nat.ne_of_gt (Nat.lt_trans L.i1 ht)) (Nat.ne_of_gt (Nat.lt_trans L.i2 ht)) e3⟩
  | succ k ih =>
    intro i h tk c acc as hk hi st hA hB hkeep hS hacc hal hG
    have hlt : i < min xs.size ys.size := by omega
    have hsz : acc.size = i := by rw [← Array.length_toList, hacc, List.length_map, hal]
    have hx : xs[i]? = some (xs[i]'(by omega)) := Array.getElem?_eq_getElem (by omega)
    have hy : ys[i]? = some (ys[i]'(by omega)) := Array.getElem?_eq_getElem (by omega)
    refine codeAny_builtin PySem.F.entry_extend_loop ?_
    rw [Around.under_plainId PySem.F.plain_extend_loop _]
    show wpAny _ A.in1 (pyNext (.ref z) >>= _) _ _ _
    refine wpAny_bind (zil_item (s := { s with heap := h, toks := tk }) (S := S) D L (Heap.lt_size hS) st hA hB hx hy fun h' st' ht hz hkp => ?_)
    dsimp only at ht hz hkp ⊢
    have hS' := hkp S _ (Ne.symm nz) (Ne.symm nTO) (Ne.symm n1) (Ne.symm n2) hS
    have up : ∀ b o, b ≠ S → h'.get? b = some o → (h'.update S (Obj.mapSeq (·.push (Value.ref h.objs.size)))).get? b = some o := fun b o hb e => (Heap.get?_update_other _ _ (Ne.symm hb)).trans e
    have hSl : S < h.objs.size := Heap.lt_size hS
    show wpAny _ A.in1 (updateSeq S (·.push (Value.ref h.objs.size)) >>= _) _ _ _
    refine wpAny_bind ?_
    refine wpAny_updateSeq hS' rfl (wpAny_pure ⟨plainId_quiet PySem.F.plain_extend_loop _, ih (i + 1) _ tk _ (acc.push (Value.ref h.objs.size)) (as ++ [h.objs.size]) (by omega) hlt (st'.keep L up)
      (hA.at fun o e => up a o na (hkp a o D.l1z D.l1TO D.l1i1 D.l1i2 e)) (hB.at fun o e => up b o nb (hkp b o D.l2z D.l2TO D.l2i1 D.l2i2 e))
      (fun c o e1 e2 e3 e4 e5 e => up c o e1 (hkp c o e2 e3 e4 e5 (hkeep c o e1 e2 e3 e4 e5 e))) (Heap.get?_update_self _ hS' rfl) (by rw [Array.toList_push, hacc, List.map_append]; rfl) (by rw [List.length_append, hal]; rfl) ⟨?_, ?_, ?_⟩⟩) (by rw [hsz]; omega) (by show (acc.push (Value.ref h.objs.size)).size ≤ sizeLine + 1; rw [Array.size_push, hsz]; omega)
    · refine List.pairwise_append.mpr ⟨hG.rise, List.pairwise_singleton _ _, fun a ha b hb => ?_⟩
      rw [List.mem_singleton.mp hb]
      exact hG.there ha
    · intro a ha
      rcases List.mem_append.mp ha with ha | ha
      · exact hG.above a ha
      · rw [List.mem_singleton.mp ha]; exact hSl
    · intro j t hj
      rcases Nat.lt_trichotomy j as.length with h1 | h1 | h1
      · rw [List.getElem?_append_left h1] at hj
        obtain ⟨x, y, e1, e2, e3⟩ := hG.pairs j t hj
        have hb := hG.above t (List.mem_of_getElem? hj)
        exact ⟨x, y, e1, e2, up t _ (Nat.ne_of_gt hb) (hkp t _ (Nat.ne_of_gt (Nat.lt_trans L.z hb)) (Nat.ne_of_gt (Nat.lt_trans L.TO hb)) (Nat.ne_of_gt (Nat.lt_trans L.i1 hb)) (Nat.ne_of_gt (Nat.lt_trans L.i2 hb)) e3)⟩
      · subst h1
        have hb : h.objs.size = t := by simpa using hj
        subst hb
        subst hal
        exact ⟨_, _, hx, hy, up _ _ (Nat.ne_of_gt hSl) ht⟩
      · have hnone : (as ++ [h.objs.size])[j]? = none := List.getElem?_eq_none (by rw [List.length_append, List.length_singleton]; omega)
        rw [hnone] at hj; cases hj
theorem zil_extend (hh : A.handled = none) (D : ZipApart z TI TO i1 i2 a b) (L : ZilLt S z TI TO i1 i2 a b) (hn : xs.size ≤ sizeLine) {u v : Value} (h1 : IsPair s.heap TI (.ref i1) (.ref i2)) (h2 : s.heap.IsListIter i1 a 0) (h3 : s.heap.IsListIter i2 b 0) (h4 : IsZip s.heap z TI TO .none) (h5 : IsPair s.heap TO u v)
    (hA : s.heap.IsList a xs) (hB : s.heap.IsList b ys) (res : Value) (c₀ : Nat) (hS : s.heap.get? S = some { cls := .type "list", data := .seq #[] c₀ })
    (hR : ∀ h' tk acc c as, (∀ c o, c ≠ S → c ≠ z → c ≠ TO → c ≠ i1 → c ≠ i2 → s.heap.get? c = some o → h'.get? c = some o) → h'.get? S = some { cls := .type "list", dict := none, data := .seq acc c, slots := #[] } → as.length = min xs.size ys.size → ZilG xs ys S h' as →
      acc.toList = as.map Value.ref → R (.ok (.ret res)) { s with heap := h', toks := tk }) :
    wpAny (model prog w) A.in1 (Builtin.List.listExtendWith (.ref S) (.ref z) res)
      (fun fin s' => match fin with | .done f => R (.ok f) s' | .again c' => c'.quiet = true ∧ codeAny (model prog w) A c' R s') (fun e s' => R (.error e) s') s := by
  have hT : s.TypeIs (.ref z) "zip" := ⟨_, h4, rfl⟩
  unfold Builtin.List.listExtendWith
  refine wpAny_bind (wpAny_typeOf hT ?_)
  have e1 : Builtin.List.listSameRef (.ref S) (.ref z) = false := by simp [Builtin.List.listSameRef, Nat.ne_of_gt L.z]
  have e2 : (Value.type "zip" == Value.type "list") = false := by decide
  have e3 : (Value.type "zip" == Value.type "tuple") = false := by decide
  simp only [e1, e2, e3, Bool.or_false, Bool.false_eq_true, if_false]
  refine wpAny_bind (wpAny_pyIter_zip h4 ?_)
  refine wpAny_bind (wpAny_holding ?_)
  unfold Builtin.List.listLengthHint
  refine wpAny_bind (wpAny_specialOf hT zil_no_len ?_)
  show wpAny _ A.in1 (specialOf (Value.ref z) (Str.ofString "__length_hint__") >>= _) _ _ _
  refine wpAny_bind (wpAny_specialOf hT zil_no_hint ?_)
  refine wpAny_pure ?_
  show wpAny _ A.in1 (rule "list.extend.makes-room" >>= fun _ => Builtin.List.listTouch (.ref S) >>= fun _ =>
    again (.builtin "list.extend.loop" ⟨[.ref S, .ref z, res], []⟩)) _ _ _
  refine wpAny_bind (wpAny_rule ?_)
  refine wpAny_bind ?_
  show wpAny _ A.in1 (updateSeq S (·.push .none) >>= fun _ => updateSeq S (·.pop)) _ _ _
  refine wpAny_bind (wpAny_updateSeq hS rfl ?_)
  have hS₂ := Heap.get?_update_self (Obj.mapSeq (·.push Value.none)) hS rfl
  refine wpAny_updateSeq (hz := by seq_fits) hS₂ rfl ?_
  have hS₃ := Heap.get?_update_self (Obj.mapSeq (·.pop)) hS₂ rfl
  have oth : ∀ b o, b ≠ S → s.heap.get? b = some o → ((s.heap.update S (Obj.mapSeq (·.push Value.none))).update S (Obj.mapSeq (·.pop))).get? b = some o :=
    fun b o hb e => (Heap.get?_update_other _ _ (Ne.symm hb)).trans ((Heap.get?_update_other _ _ (Ne.symm hb)).trans e)
  have st : ZilSt s.heap S z TI TO i1 i2 a b 0 := ⟨h1, h2, h3, .inl ⟨u, v, h4, h5⟩⟩
  exact wpAny_pure ⟨plainId_quiet PySem.F.plain_extend_loop _, zil_loop (s := s) hh D L hn res hR (min xs.size ys.size) 0 _ _ _ #[] [] (Nat.sub_zero _) (Nat.zero_le _) (st.keep L oth) (hA.at fun o e => oth a o (Nat.ne_of_lt L.a) e) (hB.at fun o e => oth b o (Nat.ne_of_lt L.b) e) (fun c o q _ _ _ _ e => oth c o q e) hS₃ rfl rfl
    ⟨List.Pairwise.nil, (fun _ ha => nomatch ha), (fun j a hj => by simp at hj)⟩⟩
theorem zil_init (hh : A.handled = none) (D : ZipApart z TI TO i1 i2 a b) (L : ZilLt S z TI TO i1 i2 a b) (hn : xs.size ≤ sizeLine) {u v : Value} (h1 : IsPair s.heap TI (.ref i1) (.ref i2)) (h2 : s.heap.IsListIter i1 a 0) (h3 : s.heap.IsListIter i2 b 0) (h4 : IsZip s.heap z TI TO .none) (h5 : IsPair s.heap TO u v)
    (hA : s.heap.IsList a xs) (hB : s.heap.IsList b ys) (hS : s.heap.get? S = some { cls := .type "list", data := .seq #[] })
    (hR : ∀ h' tk acc c as, (∀ c o, c ≠ S → c ≠ z → c ≠ TO → c ≠ i1 → c ≠ i2 → s.heap.get? c = some o → h'.get? c = some o) → h'.get? S = some { cls := .type "list", dict := none, data := .seq acc c, slots := #[] } → as.length = min xs.size ys.size → ZilG xs ys S h' as →
      acc.toList = as.map Value.ref → R (.ok (.ret .none)) { s with heap := h', toks := tk }) :
    wpAny (model prog w) A.in1 (Builtin.«list.__init__» ⟨[.ref S, .ref z], []⟩)
      (fun fin s' => match fin with | .done f => R (.ok f) s' | .again c' => c'.quiet = true ∧ codeAny (model prog w) A c' R s') (fun e s' => R (.error e) s') s := by
  show wpAny _ _ (do let old ← Builtin.List.listItems (.ref S); Builtin.List.listUpdate (.ref S) (fun _ => #[]); letGo old.toList.reverse; Builtin.List.listExtendWith (.ref S) (.ref z) .none) _ _ s
  refine wpAny_bind ?_
  unfold Builtin.List.listItems
  refine wpAny_bind (wpAny_seqItems hS rfl (wpAny_pure ?_))
  show wpAny _ _ (updateSeq S (fun _ => #[]) >>= fun _ => letGo (#[] : Array Value).toList.reverse >>= fun _ => Builtin.List.listExtendWith (.ref S) (.ref z) .none) _ _ s
  refine wpAny_bind (wpAny_updateSeq hS rfl ?_)
  have hS₂ := Heap.get?_update_self (Obj.mapSeq (fun _ => (#[] : Array Value))) hS rfl
  have oth : ∀ b o, b ≠ S → s.heap.get? b = some o → (s.heap.update S (Obj.mapSeq (fun _ => (#[] : Array Value)))).get? b = some o :=
    fun b o hb e => (Heap.get?_update_other _ _ (Ne.symm hb)).trans e
  refine wpAny_bind (wpAny_letGo ?_)
  refine zil_extend hh D L hn (oth _ _ (Nat.ne_of_lt L.TI) h1) (h2.at fun o e => oth _ o (Nat.ne_of_lt L.i1) e) (h3.at fun o e => oth _ o (Nat.ne_of_lt L.i2) e) (oth _ _ (Nat.ne_of_lt L.z) h4) (oth _ _ (Nat.ne_of_lt L.TO) h5)
    (hA.at fun o e => oth _ o (Nat.ne_of_lt L.a) e) (hB.at fun o e => oth _ o (Nat.ne_of_lt L.b) e) .none _ hS₂ (fun h' tk acc c as hk hS' hl hG hacc => ?_)
  exact hR h' tk acc c as (fun c o q1 q2 q3 q4 q5 e => hk c o q1 q2 q3 q4 q5 (oth c o q1 e)) hS' hl hG hacc
theorem zil_call {E : Value → Shared → Prop} {Q : Value → Shared → Prop} (hh : A.handled = none) (D : ZipApart z TI TO i1 i2 a b) (L : ZilLt s.heap.objs.size z TI TO i1 i2 a b) (hn : xs.size ≤ sizeLine) {u v : Value} (h1 : IsPair s.heap TI (.ref i1) (.ref i2)) (h2 : s.heap.IsListIter i1 a 0) (h3 : s.heap.IsListIter i2 b 0) (h4 : IsZip s.heap z TI TO .none) (h5 : IsPair s.heap TO u v)
    (hA : s.heap.IsList a xs) (hB : s.heap.IsList b ys)
    (hQ : ∀ h' tk acc c as, (∀ c o, c ≠ z → c ≠ TO → c ≠ i1 → c ≠ i2 → s.heap.get? c = some o → h'.get? c = some o) → h'.get? s.heap.objs.size = some { cls := .type "list", dict := none, data := .seq acc c, slots := #[] } → as.length = min xs.size ys.size → ZilG xs ys s.heap.objs.size h' as →
      acc.toList = as.map Value.ref → Q (.ref s.heap.objs.size) { s with heap := h', toks := tk }) :
    wpAny (model prog w) A (call (.type "list") [.ref z]) Q E s := by
  refine callType_codes (Q₁ := fun obj s₁ => obj = .ref s.heap.objs.size ∧ s₁ = { s with heap := s.heap.push { cls := .type "list", data := .seq #[] } }) PySem.F.called_list (PySem.F.typeCall_list_1 _) PySem.F.entry_list_init
    (code_list_new _ ⟨rfl, rfl⟩) fun obj s₁ h₁ => ?_
  obtain ⟨rfl, rfl⟩ := h₁
  have hS : (s.heap.push { cls := .type "list", data := .seq #[] }).get? s.heap.objs.size = some { cls := .type "list", data := .seq #[] } := Heap.get?_push_size _ rfl
  have pu : ∀ c o, s.heap.get? c = some o → (s.heap.push { cls := .type "list", data := .seq #[] }).get? c = some o := fun c o e => Heap.get?_push_of_some _ e
  refine ⟨⟨_, hS, rfl⟩, PySem.F.args_list_init_2 _ _, zil_init (A := A.in1) (s := { s with heap := s.heap.push { cls := .type "list", data := .seq #[] } }) hh D L hn (pu _ _ h1) (h2.at fun o e => pu _ o e) (h3.at fun o e => pu _ o e) (pu _ _ h4) (pu _ _ h5) (hA.at fun o e => pu _ o e) (hB.at fun o e => pu _ o e) hS (fun h' tk acc c as hk hS' hl hG hacc => ?_)⟩
  exact ⟨rfl, hQ h' tk acc c as (fun c o q2 q3 q4 q5 e => hk c o (Nat.ne_of_lt (Heap.lt_size e)) q2 q3 q4 q5 (pu c o e)) hS' hl hG hacc⟩
end
end PySem.W

set_option Elab.async false
set_option linter.all false
set_option maxRecDepth 100000
set_option maxHeartbeats 4000000
/-! list(zip(a, b)): over the hand layer, and in Mini. -/
namespace Mini
open PySem L2 PySem.Spec PyProof.Rows PySem.W
/-- the pairs at their places -/
def putP : Hp → List Addr → List (V × V) → Hp
  | H, a :: as, p :: r => putP (upd H a (.tup [p.1, p.2])) as r
  | H, _, _ => H
theorem putP_off {b : Addr} : ∀ (as : List Addr) (r : List (V × V)) (H : Hp), b ∉ as → putP H as r b = H b
  | [], _, _, _ => rfl
  | _ :: _, [], _, _ => rfl
  | a :: as, p :: r, H, h => by
    show putP (upd H a (.tup [p.1, p.2])) as r b = H b
    rw [putP_off as r _ (fun z => h (List.mem_cons_of_mem _ z)), upd_ne (fun z => h (by rw [z]; exact List.mem_cons_self))]
theorem putP_at : ∀ (as : List Addr) (r : List (V × V)) (H : Hp), as.length = r.length → as.Nodup → Paired (fun (t : Addr) (p : V × V) => putP H as r t = some (.tup [p.1, p.2])) as r
  | [], [], _, _, _ => .nil
  | [], _ :: _, _, h, _ => by cases h
  | _ :: _, [], _, h, _ => by cases h
  | a :: as, p :: r, H, h, hn => by
    have hn' := List.nodup_cons.mp hn
    have ih := putP_at as r (upd H a (.tup [p.1, p.2])) (Nat.succ.inj h) hn'.2
    refine .cons ?_ ih
    show putP (upd H a (.tup [p.1, p.2])) as r a = some (.tup [p.1, p.2])
    rw [putP_off as r _ hn'.1, upd_same]
/-- what list(zip(..)) leaves -/
def rLz (K : PySem.W.Frag) : List V → Hp → VK → Prop := fun vs H Q => ∃ a b xs ys, vs = [.ref a, .ref b] ∧ SqL K H a xs ∧ SqL K H b ys ∧
  ∀ (H' : Hp) (p : Addr) (ts : List Addr), (∀ c o, H c = some o → H' c = some o) → H p = none → (∀ t ∈ ts, H t = none) → p ∉ ts → H' p = some (.lst (ts.map V.ref)) → Paired (fun (t : Addr) (q : V × V) => H' t = some (.tup [q.1, q.2])) ts (xs.zip ys) → Q (.ref p) H'
section
variable {X : Cx} {p qp cpos pos : Pos}
theorem lz_laid {pins : List (Addr × Obj)} {σ : L2.St} {H : Hp} {s : Shared} {h' : Heap} {tk : Nat} {xs ys : List V} {us vs : List Value} {acc : Array Value} {c S : Nat} {as : List Addr} (I : Inv X pins σ H s) (hz : xs.length ≤ sizeLine) (rx : Vals xs us) (ry : Vals ys vs) (hlo : s.heap.objs.size ≤ S)
    (hk : ∀ b o, s.heap.get? b = some o → h'.get? b = some o) (hS : h'.get? S = some { cls := .type "list", dict := none, data := .seq acc c, slots := #[] }) (hl : as.length = min us.length vs.length) (hG : ZilG us.toArray vs.toArray S h' as) (hacc : acc.toList = as.map Value.ref) :
    ∃ H' : Hp, (∀ b o, H b = some o → H' b = some o) ∧ H S = none ∧ (∀ t ∈ as, H t = none) ∧ S ∉ as ∧ H' S = some (.lst (as.map V.ref)) ∧ Paired (fun (t : Addr) (q : V × V) => H' t = some (.tup [q.1, q.2])) as (xs.zip ys) ∧ Inv X pins σ H' { s with heap := h', toks := tk } := by
  have lx := rx.length
  have ly := ry.length
  have hSn : S ∉ as := fun z => Nat.lt_irrefl _ (hG.above _ z)
  have nd : as.Nodup := List.Pairwise.imp (fun {a b} (h : a < b) => Nat.ne_of_lt h) hG.rise
  have new : ∀ t ∈ as, H t = none := fun t ht => I.hok.fresh (Nat.le_trans hlo (Nat.le_of_lt (hG.above t ht)))
  have newS : H S = none := I.hok.fresh hlo
  have lz : as.length = (xs.zip ys).length := by rw [List.length_zip]; omega
  have atP := putP_at as (xs.zip ys) (upd H S (.lst (as.map V.ref))) lz nd
  have off : ∀ b, b ∉ as → b ≠ S → putP (upd H S (.lst (as.map V.ref))) as (xs.zip ys) b = H b := fun b h1 h2 => by rw [putP_off as _ _ h1, upd_ne h2]
  have low : ∀ b o, s.heap.get? b = some o → b ∉ as ∧ b ≠ S := fun b o e => ⟨fun z => absurd (Heap.lt_size e) (Nat.not_lt.mpr (Nat.le_trans hlo (Nat.le_of_lt (hG.above b z)))), Nat.ne_of_lt (Nat.lt_of_lt_of_le (Heap.lt_size e) hlo)⟩
  have kp : ∀ b u, H b = some u → (putP (upd H S (.lst (as.map V.ref))) as (xs.zip ys)) b = some u := fun b u e => by
    rw [off b (fun z => by rw [new b z] at e; cases e) (fun z => by rw [z, newS] at e; cases e)]
    exact e
  have eS : putP (upd H S (.lst (as.map V.ref))) as (xs.zip ys) S = some (.lst (as.map V.ref)) := by rw [putP_off as _ _ hSn, upd_same]
  refine ⟨putP (upd H S (.lst (as.map V.ref))) as (xs.zip ys), kp, newS, new, hSn, eS, atP, ?_⟩
  refine I.call' (ch := []) rfl ⟨fun b o q _ _ _ => hk b o q, fun b o q _ _ _ => ⟨o.slots, hk b o q⟩, fun b o q n _ => ?_, fun b o q _ => ⟨o, hk b o q⟩, fun b xs q => kp b _ q, fun b o u q => kp b _ q, fun b ps q => ⟨#[], by rw [kp b _ q]; simp⟩⟩ (fun b u q => ?_) I.bare fun b z => by simp at z
  · obtain ⟨z1, z2⟩ := low b o q
    rw [off b z1 z2]
    exact n
  · by_cases hb : b ∈ as
    · obtain ⟨j, pk, e1, e2, e3⟩ := LiI.paired_ix atP hb
      rw [e3] at q
      cases q
      obtain ⟨x, y, f1, f2, f3⟩ := hG.pairs j b e1
      have f1 : us[j]? = some x := by simpa using f1
      have f2 : vs[j]? = some y := by simpa using f2
      rw [List.getElem?_zip_eq_some] at e2
      obtain ⟨x', g1, g2⟩ := rx.get e2.1
      obtain ⟨y', g3, g4⟩ := ry.get e2.2
      rw [f1] at g1; cases g1
      rw [f2] at g3; cases g3
      exact ⟨by show 2 ≤ sizeLine; decide, [x, y], .cons g2 (.cons g4 .nil), ⟨_, f3, rfl, _, rfl⟩⟩
    · by_cases hb2 : b = S
      · rw [hb2] at q ⊢
        rw [eS] at q
        cases q
        refine ⟨by rw [List.length_map]; omega, acc.toList, c, by rw [hacc]; exact LiI.vals_refs as, ?_⟩
        rw [Array.toArray_toList]
        exact hS
      · rw [off b hb hb2] at q
        exact (I.hok b u q).stay (fun d v _ y => hk d v y) (fun d y => kp d _ y) fun d xs y => kp d _ y
/-- list(zip(a, b)) -/
theorem pe_lz {ta : TA} {e e2 : Expr} (hc : X.calm = true) (ha : PA X [e, e2] ta) (hg : Gl X "list") (hm : X.mg "list" = none) (hg2 : Gl X "zip") (hm2 : X.mg "zip" = none)
    (hs2 : starEach [e, e2] X.env = (false, eval e X.env) :: starEach [e2] X.env) (hpl : (backTo cpos (starEach [e2] X.env)).any (·.1) = false)
    (hs : starEach [.Call (.Name "zip" qp) [e, e2] [] cpos] X.env = (false, eval (.Call (.Name "zip" qp) [e, e2] [] cpos) X.env) :: starEach [] X.env := by rfl) :
    PE X (.Call (.Name "list" p) [.Call (.Name "zip" qp) [e, e2] [] cpos] [] pos) (fun σ H Q => ta σ H fun vs H1 => rLz X.K vs H1 Q) := by
  refine ⟨fun pins s σ H Q I hq => ?_⟩
  refine wpAny_Call_Name_kw (ld_blt I hg hm boot_list' ?_)
  refine PyProof.Rows.callWith_type1 ?_ hs rfl
  rw [hs]
  show wpAny _ _ (spliced ((false, eval (.Call (.Name "zip" qp) [e, e2] [] cpos) X.env) :: backTo pos (starEach [] X.env))) _ _ s
  refine Calls.spliced_cons ?_
  refine Call_ (ld_blt I hg2 hm2 PyProof.Rows.boot_zip (PyProof.Rows.callWith_type1 (thn (ha.run cpos pins s σ H _ I hq) fun us s1 ⟨vs, H1, I1, r1, q1⟩ => ?_) hs2 hpl))
  obtain ⟨a, b, xs, ys, ex, hqx, hqy, q⟩ := q1
  subst ex
  cases r1 with
  | cons r rr =>
    cases rr with
    | cons r' rr =>
      cases rr
      cases r
      cases r'
      obtain ⟨its, rv, p1, hz1⟩ := I1.list hqx
      obtain ⟨its2, rv2, p2, _⟩ := I1.list hqy
      refine call_zip_2 p1.isList p2.isList fun h' hz hTI hTO h1 h2 hsz hk => ?_
      refine Calls.spliced_nil ?_
      have L : ZilLt h'.objs.size (s1.heap.objs.size + 4) (s1.heap.objs.size + 2) (s1.heap.objs.size + 3) s1.heap.objs.size (s1.heap.objs.size + 1) a b := by
        rw [hsz]
        exact ⟨Nat.lt_succ_self _, Nat.lt_trans (Nat.lt_succ_self _) (Nat.lt_trans (Nat.lt_succ_self _) (Nat.lt_succ_self _)), Nat.lt_trans (Nat.lt_succ_self _) (Nat.lt_succ_self _), Nat.lt_of_lt_of_le (Nat.lt_succ_self _) (Nat.add_le_add_left (by decide : 1 ≤ 5) _), Nat.add_lt_add_left (by decide : 1 < 5) _,
          Nat.lt_of_lt_of_le p1.lt (Nat.le_add_right _ _), Nat.lt_of_lt_of_le p2.lt (Nat.le_add_right _ _)⟩
      have old : ∀ c o, s1.heap.get? c = some o → c ≠ s1.heap.objs.size + 4 ∧ c ≠ s1.heap.objs.size + 3 ∧ c ≠ s1.heap.objs.size ∧ c ≠ s1.heap.objs.size + 1 := fun c o e =>
        have z := Heap.lt_size e
        ⟨Nat.ne_of_lt (Nat.lt_of_lt_of_le z (Nat.le_add_right _ _)), Nat.ne_of_lt (Nat.lt_of_lt_of_le z (Nat.le_add_right _ _)), Nat.ne_of_lt z, Nat.ne_of_lt (Nat.lt_of_lt_of_le z (Nat.le_add_right _ _))⟩
      have lx := rv.length
      refine zil_call (s := { s1 with heap := h' }) (I1.ok.hd hc) (PySem.W.ktu_apart s1.heap.objs.size a b p1.lt p2.lt) L (xs := its.toArray) (ys := its2.toArray) (by rw [List.size_toArray, ← lx]; exact hz1) hTI h1 h2 hz hTO (p1.isList.at fun o e => hk a o e) (p2.isList.at fun o e => hk b o e) fun h'' tk acc c as hk2 hS hl hG hacc => ?_
      have kk : ∀ c o, s1.heap.get? c = some o → h''.get? c = some o := fun c o e => have z := old c o e; hk2 c o z.1 z.2.1 z.2.2.1 z.2.2.2 (hk c o e)
      obtain ⟨H', k1, k2, k3, k4, k5, k6, J⟩ := lz_laid (tk := tk) I1 hz1 rv rv2 (by show s1.heap.objs.size ≤ h'.objs.size; rw [hsz]; exact Nat.le_add_right _ _) kk hS (by simpa using hl) hG hacc
      exact ⟨.ref _, H', J, rfl, q H' _ as k1 k2 k3 k4 k5 k6⟩
end
section
variable {N : Nm} {K : PySem.W.Frag} {H H' : Hp} {ρ : List Addr} {A : Hh} {Q : VK} {E : XK}
theorem HR.kept (h : HR N K H ρ A) (k : ∀ b o, H b = some o → H' b = some o) : HR N K H' ρ A :=
  ⟨h.len, h.nd, fun n a ob e1 e2 => by
    obtain ⟨w, hw, r⟩ := h.at_ n a ob e1 e2
    exact ⟨w, k _ _ hw, r.ext ⟨⟨[], by simp, by simp⟩, fun a o e _ => k a o e⟩⟩⟩
theorem rps_zip {H0 : Hp} : ∀ {dx dy : List D} {xs ys : List V} {ts : List Addr}, (∀ t ∈ ts, t ∉ ρ) → Paired (fun (t : Addr) (q : V × V) => H0 t = some (.tup [q.1, q.2])) ts (xs.zip ys) → Paired (Rp K H0 ρ) dx xs → Paired (Rp K H0 ρ) dy ys →
    Paired (Rp K H0 ρ) ((dx.zip dy).map fun p => D.tup [p.1, p.2]) (ts.map V.ref)
  | [], _, _, _, _, _, h, .nil, _ => by cases h; exact .nil
  | _ :: _, [], _, _, _, _, h, .cons _ _, .nil => by cases h; exact .nil
  | _ :: _, _ :: _, _, _, _, f, h, .cons h1 t1, .cons h2 t2 => by
    cases h with
    | cons z zs =>
      refine .cons ?_ (rps_zip (fun t ht => f t (List.mem_cons_of_mem _ ht)) zs t1 t2)
      unfold Rp
      exact ⟨_, _, rfl, .inl ⟨z, f _ List.mem_cons_self⟩, rps_cons h1 (rps_cons h2 rps_nil)⟩
theorem lz_ok {ds : List D} {xs : List V} (h : HR N K H ρ A) (r : Rps K H ρ ds xs) (q : RQ N K H ρ (bListzip A ds) Q E) : rLz K xs H Q := by
  unfold bListzip at q
  split at q <;> try exact q.elim
  rename_i n m
  split at q <;> try exact q.elim
  rename_i dx dy hn hm
  obtain ⟨v1, v2, rfl, r2, r3⟩ := rps2 r
  obtain ⟨a, vx, rfl, _, ha, ra⟩ := h.lst r2 hn
  obtain ⟨b, vy, rfl, _, hb, rb⟩ := h.lst r3 hm
  refine ⟨a, b, vx, vy, rfl, SqL.of ha, SqL.of hb, fun H' p ts kp hp hts hpt eS pr => ?_⟩
  have e : H' = upd (fun c => if c = p then none else H' c) p (.lst (ts.map V.ref)) := by
    funext c
    by_cases z : c = p
    · rw [z, upd_same, eS]
    · rw [upd_ne z, if_neg z]
  have k0 : ∀ c o, H c = some o → (fun c => if c = p then none else H' c) c = some o := fun c o ec => by
    have z : c ≠ p := fun z => by rw [z, hp] at ec; cases ec
    show (if c = p then none else H' c) = some o
    rw [if_neg z]
    exact kp c o ec
  have h0 := h.kept k0
  have x0 : Ext H ρ (fun c => if c = p then none else H' c) ρ := ⟨⟨[], by simp, by simp⟩, fun a o e _ => k0 a o e⟩
  have fr : ∀ t ∈ ts, t ∉ ρ := fun t ht hm => h.has hm (hts t ht)
  have pr0 : Paired (fun (t : Addr) (q : V × V) => (fun c => if c = p then none else H' c) t = some (.tup [q.1, q.2])) ts (vx.zip vy) := by
    clear eS e k0 h0 x0 fr hts q
    generalize vx.zip vy = zs at pr ⊢
    induction pr with
    | nil => exact .nil
    | cons z zs ih =>
      refine .cons ?_ (ih fun hm => hpt (List.mem_cons_of_mem _ hm))
      show (if _ = p then none else H' _) = _
      rw [if_neg (fun y => hpt (by rw [← y]; exact List.mem_cons_self))]
      exact z
  have rz := rps_iff.mpr (rps_zip (K := K) fr pr0 (rps_iff.mp (ra.ext x0)) (rps_iff.mp (rb.ext x0)))
  have al := h0.alloc (p := p) (if_pos rfl) (ho_lst rz)
  rw [← e] at al
  exact q (.ref p) H' (ρ ++ [p]) ⟨⟨[p], rfl, fun a ha => by rw [List.mem_singleton.mp ha]; exact hp⟩, fun a o e _ => kp a o e⟩ al (by unfold Rp; exact ⟨p, rfl, by rw [← h.len, List.getElem?_append_right (Nat.le_refl _)]; simp⟩)
end
section
variable {pg : Pg} {N : Nm} {C : Call} {W : WX} {X : Cx} {pos p qp cpos : Pos}
theorem e_lz {e e2 : Expr} {es : List E} (hc : X.calm = true) (ha : PA X [e, e2] (tA pg N C X.K W es)) (hg : Gl X "list") (hm : X.mg "list" = none) (hg2 : Gl X "zip") (hm2 : X.mg "zip" = none)
    (hs2 : starEach [e, e2] X.env = (false, eval e X.env) :: starEach [e2] X.env) (hpl : (backTo cpos (starEach [e2] X.env)).any (·.1) = false) :
    PE X (.Call (.Name "list" p) [.Call (.Name "zip" qp) [e, e2] [] cpos] [] pos) (tE pg N C X.K W (.bi .listzip es)) :=
  PE.wk (pe_lz hc ha hg hm hg2 hm2 hs2 hpl) (bi_of (fun _ _ => rfl) fun h r q => lz_ok h r q)
end
end Mini

set_option Elab.async false
set_option linter.all false
set_option maxRecDepth 100000
set_option maxHeartbeats 4000000
/-! Mini's walks: what is gone over. enumerate of a tuple; one rule for every value that Mini walks. -/
namespace Mini
open PySem L2 PySem.Spec PyProof.Rows

/-! ### enumerate(tuple) -/
theorem meets_enumT {v : Value} {o : Obj} {H : Heap → Prop} (B : Begins v o H) :
    Meets (Builtin.«enumerate.__new__» ⟨[.type "enumerate", v], []⟩) (fun _ R s => H s.heap ∧
      R (.ok (.ret (.ref (s.heap.push o).objs.size))) { s with heap := (s.heap.push o).push { cls := .type "enumerate", data := .fields #[.none, .bool false, .ref s.heap.objs.size, rawInt 0, .none, .none] } }) :=
  .of_wp fun prog w A R s h => by
    obtain ⟨hp, g, d, tk, os⟩ := s; obtain ⟨h1, h⟩ := h
    have hsub := sub_enumerate
    have q1 : ∀ {A' : Around} {E : Value → Shared → Prop} {Q : Value → Shared → Prop}, Q (.ref hp.objs.size) ⟨hp.push o, g, d, tk, os⟩ → wpAny (model prog w) A' (pyIter v) Q E ⟨hp, g, d, tk, os⟩ :=
      fun q => B.iter prog w _ _ ⟨hp, g, d, tk, os⟩ _ h1 q
    wp_walk using q1
    refine wpAny_stack_any fun st => wpAny_pure ?_
    split
    · rename_i c _ _ _ _ _
      cases (c == Value.type "enumerate")
      · wp_walk using q1
        exact ⟨_, rfl, h⟩
      · wp_walk using q1
        exact ⟨_, rfl, h⟩
    · wp_walk using q1
      exact ⟨_, rfl, h⟩
section
variable {prog : Program} {w : World} {A : Around} {E : Value → Shared → Prop} {s : Shared}
theorem call_enumT {v : Value} {o : Obj} {H : Heap → Prop} {Q : Value → Shared → Prop} (B : Begins v o H) (h1 : H s.heap)
    (h : ∀ h', IsEnum h' (s.heap.objs.size + 1) s.heap.objs.size 0 .none → h'.get? s.heap.objs.size = some o → h'.objs.size = s.heap.objs.size + 2 →
      (∀ b o, s.heap.get? b = some o → h'.get? b = some o) → Q (.ref (s.heap.objs.size + 1)) { s with heap := h' }) :
    wpAny (model prog w) A (call (.type "enumerate") [v]) Q E s := by
  refine callType_new F.called_enumerate (by decide) (F.typeCall_enumerate_1 _) (F.newCall_enumerate_1 _) (fun obj => F.args_object_init_2 obj _) F.entry_enumerate_new
    (meets_enumT B) ⟨h1, ?_⟩
  have hz : (s.heap.push o).objs.size = s.heap.objs.size + 1 := Heap.size_push ..
  show _ ∧ _
  rw [hz]
  have he : IsEnum ((s.heap.push o).push { cls := .type "enumerate", data := .fields #[.none, .bool false, .ref s.heap.objs.size, rawInt 0, .none, .none] }) (s.heap.objs.size + 1) s.heap.objs.size 0 .none := by
    have := Heap.get?_push_size (s.heap.push o) (o := { cls := .type "enumerate", data := .fields #[.none, .bool false, .ref s.heap.objs.size, rawInt 0, .none, .none] }) rfl
    rw [hz] at this; exact this
  refine ⟨⟨_, he, rfl⟩, h _ he (Heap.get?_push_of_some _ (Heap.get?_push_size _ B.free)) (by rw [Heap.size_push, hz]) fun b o x => Heap.get?_push_of_some _ (Heap.get?_push_of_some _ x)⟩
end
/-- the tuple at a, each item in a new pair -/
def Itet (K : PySem.W.Frag) (a : Addr) : L2.It :=
  ⟨fun i H => ∃ (xs : List V) (x : V), SqT K H a xs ∧ xs[i]? = some x, fun i H v H' => ∃ T x, v = .ref T ∧ H T = none ∧ H' = upd H T (.tup [.int (i : Nat), x]) ∧ ∀ xs, SqT K H a xs → xs[i]? = some x, fun i H => ∃ xs : List V, SqT K H a xs ∧ xs.length ≤ i⟩
theorem turn_enumT {P : Program} {w : World} {K : PySem.W.Frag} {elts : List Expr} {kk : Nat} {tpos : Pos} (a e it : Addr) :
    Turn P w K (.Tuple elts kk tpos) (Itet K a) [e, it] e (fun i h => (∃ old, IsEnum h e it ((i : Nat) : Int) old) ∧ h.IsTupleIter it a i ∧ e ≠ it) where
  mem := by simp
  obj := fun i h st b hb => by
    obtain ⟨⟨old, he⟩, ⟨o, ho, hc, hd⟩, _⟩ := st
    have e' : b = e ∨ b = it := by simpa using hb
    rcases e' with z | z
    · rw [z]; exact ⟨_, he, fun v q => nomatch q⟩
    · rw [z]; exact ⟨o, ho, fun v q => by rw [hd] at q; cases q⟩
  keep := fun i h h' st k => let ⟨⟨old, he⟩, hi, hne⟩ := st; ⟨⟨old, k e (by simp) _ he⟩, hi.at fun o q => k it (by simp) o q, hne⟩
  item := by
    intro X hP hw hK hc i pins s σ H E I hf st hg
    subst hP hw hK
    obtain ⟨⟨old, he⟩, hit, hne⟩ := st
    obtain ⟨xs, x, hq, hx⟩ := hg
    obtain ⟨its, rv, p, hz⟩ := I.tuple hq
    obtain ⟨u, hu, ru⟩ := rv.get hx
    have hel : e < s.heap.objs.size := Heap.lt_size he
    have hil : it < s.heap.objs.size := by obtain ⟨_, q, _⟩ := hit; exact Heap.lt_size q
    have ht : s.heap.IsTuple a its.toArray := p
    have nae : e ≠ a := fun z => by
      obtain ⟨o, ho, hcl, _⟩ := p
      rw [← z, he] at ho
      cases ho
      injection hcl with z2
      exact absurd z2 (by decide)
    have nait : a ≠ it := fun z => by
      obtain ⟨o, ho, hcl, _⟩ := p
      obtain ⟨o', ho', hcl', _⟩ := hit
      rw [z, ho'] at ho
      cases ho
      rw [hcl'] at hcl
      injection hcl with z2
      exact absurd z2 (by decide)
    refine wpAny_pyNext_enum_itemD (Draws.tuple (A := X.A.in1) (I.ok.hd hc) it a nait its.toArray) he ⟨hit, ht⟩ (i := i) (by
        have := (List.getElem?_eq_some_iff.mp hu).1
        simpa using this) hne (by simp [hne, nae]) fun x' h' tk hx' ho st' hT hsz hk => ?_
    obtain ⟨hit', ht'⟩ := st'
    have ex : x' = u := by
      have h1 : its.toArray[i]? = some x' := hx'
      have h2 : its.toArray[i]? = some u := by simpa using hu
      rw [h1] at h2
      exact Option.some.inj h2
    subst ex
    refine ⟨_, rfl, wpAny_letOwnedTupleGo_enum (s := { s with heap := h', toks := tk + 1 }) ho fun h'' he' sb => ?_⟩
    have hT2 : h''.get? s.heap.objs.size = some { cls := .type "tuple", data := .seq #[.int i tk, x'] } := (sb.2 _ (Nat.ne_of_gt hel)).trans hT
    have new : ObjOk X.prog X.w (upd H s.heap.objs.size (.tup [.int (i : Nat), x])) h'' s.heap.objs.size (.tup [.int (i : Nat), x]) :=
      ⟨by show 2 ≤ sizeLine; decide, [.int i tk, x'], .cons ⟨_, rfl⟩ (.cons ru .nil), ⟨_, hT2, rfl, _, rfl⟩⟩
    have I1 : Inv X pins σ (upd H s.heap.objs.size (.tup [.int (i : Nat), x])) { s with heap := h'', toks := tk + 1 } :=
      I.turnedNew (ch := [e, it]) (fun b ob hb q => (sb.2 b (fun z => hb (by simp [z]))).trans (hk b ob (fun z => hb (by simp [z])) (fun z => hb (by simp [z])) q)) hf (Nat.le_refl _) new
    refine ⟨.ref s.heap.objs.size, _, I1, rfl, ⟨_, x, rfl, I.hok.fresh (Nat.le_refl _), rfl, fun ys hy => by rw [I.tuple_inj hy hq]; exact hx⟩, ⟨⟨x', ?_⟩, hit'.at fun o q => (sb.2 it (Ne.symm hne)).trans q, hne⟩, fun b hb => ?_⟩
    · have e1 : ((i + 1 : Nat) : Int) = (i : Int) + 1 := by omega
      rw [e1]; exact he'
    · have hb' : b < s.heap.objs.size := by
        have e' : b = e ∨ b = it := by simpa using hb
        rcases e' with z | z
        · rw [z]; exact hel
        · rw [z]; exact hil
      rw [upd_ne (Nat.ne_of_lt hb')]
      exact (hf b hb).1
  done := by
    intro X hP hw hK hc i pins s σ H E I hf st hg
    subst hP hw hK
    obtain ⟨⟨old, he⟩, hit, hne⟩ := st
    obtain ⟨xs, hq, hx⟩ := hg
    obtain ⟨its, rv, p, hz⟩ := I.tuple hq
    obtain ⟨f0, f1, f2, f3, f4, f5⟩ := hf it (by simp)
    have hl := rv.length
    have ht : s.heap.IsTuple a its.toArray := p
    have hT : s.TypeIs (.ref e) "enumerate" := ⟨_, he, rfl⟩
    unfold pyNext
    refine wpAny_bind (wpAny_attempt (wpAny_callSpecial?_slot (name := Str.ofString "__next__") hT F.slot_enumerate_next
      (wpAny_call_entry F.slot_enumerate_next hT F.entry_enumerate_next ?_ (F.args_enumerate_next_1 _))))
    show wpAny _ _ (field (.ref e) 2 >>= _) _ _ _
    refine wpAny_bind (wpAny_field he rfl (x := .ref it) rfl ?_)
    refine wpAny_bind (wpAny_nextOf_tuple_end (I.ok.hd hc) hit ht (by simp; omega) fun h' x he' hx' => ?_)
    obtain ⟨o, ho, hco⟩ := hx'
    refine wpAny_bind (wpAny_isInstance (T := "StopIteration") (b := true) ⟨o, ho, hco⟩ isSubtype_stop ?_)
    exact wpAny_pure ⟨rfl, I.turned (t' := s.toks) (fun b o hb q => he' b o hb q) f0 f1 f3 f4 f5⟩
  self := fun A i s Q E st h => let ⟨⟨_, he⟩, _⟩ := st; wpAny_pyIter_enum he h
/-! ### whatever is walked -/
def iAny (K : PySem.W.Frag) (te : TE) : TI := fun σ H R => te σ H fun x H1 => (∃ a, x = .ref a ∧ (∃ xs, SqL K H1 a xs) ∧ R (Itl K a) H1) ∨ (∃ a, x = .ref a ∧ (∃ xs, SqT K H1 a xs) ∧ R (Itt K a) H1) ∨ ∃ z, x = .str z ∧ R (Its z) H1
theorem pi_any {X : Cx} {tg l : Expr} {tl : TE} (hl : PE X l tl) : PI X tg l (iAny X.K tl) := by
  refine ⟨fun pins s σ H R I h => ?_⟩
  refine thn (hl.run pins s σ H _ I h) fun v s1 ⟨x, H1, I1, r1, q1⟩ => ?_
  rcases q1 with ⟨a, e, ⟨xs, hq⟩, q⟩ | ⟨a, e, ⟨xs, hq⟩, q⟩ | ⟨z, e, q⟩
  · subst e
    cases r1
    obtain ⟨its, rv, p, hz⟩ := I1.list hq
    exact wpAny_pyIter_list p.isList (pi_one (tk := s1.toks) I1 _ (turn_list a _) ⟨_, Heap.get?_push_size _ rfl, rfl, rfl⟩ q)
  · subst e
    cases r1
    obtain ⟨its, rv, p, hz⟩ := I1.tuple hq
    exact wpAny_pyIter_tuple (show s1.heap.IsTuple a its.toArray from p) (pi_one (tk := s1.toks) I1 _ (turn_tuple a _) ⟨_, Heap.get?_push_size _ rfl, rfl, rfl⟩ q)
  · subst e
    obtain ⟨t, rfl⟩ := r1
    cases ha : z.cps.all (· < 128)
    · exact wpAny_pyIter_wide ha (pi_one (tk := s1.toks) I1 _ (turn_str _ z t "str_iterator" (.inr rfl)) ⟨_, Heap.get?_push_size _ rfl, rfl, rfl⟩ q)
    · exact wpAny_pyIter_ascii ha (pi_one (tk := s1.toks) I1 _ (turn_str _ z t "str_ascii_iterator" (.inl rfl)) ⟨_, Heap.get?_push_size _ rfl, rfl, rfl⟩ q)
def iEnumA (K : PySem.W.Frag) (ta : TA) : TI := fun σ H R => ta σ H fun vs H1 => ∃ a, vs = [.ref a] ∧ ((∃ xs, SqL K H1 a xs ∧ R (Ite K a) H1) ∨ ∃ xs, SqT K H1 a xs ∧ R (Itet K a) H1)
theorem pi_enumA {X : Cx} {e : Expr} {ta : TA} {p pos tpos : Pos} {elts : List Expr} {kk : Nat} (hg : Gl X "enumerate") (hm : X.mg "enumerate" = none) (ha : PA X [e] ta) (hs : starEach [e] X.env = [(false, eval e X.env)]) :
    PI X (.Tuple elts kk tpos) (.Call (.Name "enumerate" p) [e] [] pos) (iEnumA X.K ta) := by
  refine ⟨fun pins s σ H R I h => ?_⟩
  refine Call_ (ld_blt I hg hm boot_enumerate (PyProof.Rows.callWith_type1 (thn (ha.run pos pins s σ H _ I h) fun us s1 ⟨vs, H1, I1, r1, q1⟩ => ?_) hs rfl))
  obtain ⟨a, ex, q1⟩ := q1
  subst ex
  cases r1 with
  | cons r rr =>
    cases rr
    cases r
    have fp : ∀ b ∈ [s1.heap.objs.size + 1, s1.heap.objs.size], FpOk X pins H1 b := fun b hb => by
      have e' : b = s1.heap.objs.size + 1 ∨ b = s1.heap.objs.size := by simpa using hb
      have hle : s1.heap.objs.size ≤ b := by
        rcases e' with z | z
        · rw [z]; exact Nat.le_add_right _ _
        · rw [z]; exact Nat.le_refl _
      exact I1.fpOk hle (I1.hok.fresh hle)
    rcases q1 with ⟨xs, hq, q⟩ | ⟨xs, hq, q⟩
    · obtain ⟨its, rv, p', hz⟩ := I1.list hq
      refine call_enumerate_list p'.isList fun h' he hit hsz hk => wpAny_pyIter_enum he ?_
      have I2 : Inv X pins σ H1 { s1 with heap := h' } := I1.kept (t' := s1.toks) hk
      exact ⟨s1.heap.objs.size + 1, [s1.heap.objs.size + 1, s1.heap.objs.size], _, _, H1, rfl, I2, turn_enum a (s1.heap.objs.size + 1) s1.heap.objs.size, ⟨⟨.none, he⟩, hit, Nat.succ_ne_self _⟩, fp, q⟩
    · obtain ⟨its, rv, p', hz⟩ := I1.tuple hq
      refine call_enumT (begins_tuple a its.toArray) (show s1.heap.IsTuple a its.toArray from p') fun h' he hit hsz hk => wpAny_pyIter_enum he ?_
      have I2 : Inv X pins σ H1 { s1 with heap := h' } := I1.kept (t' := s1.toks) hk
      exact ⟨s1.heap.objs.size + 1, [s1.heap.objs.size + 1, s1.heap.objs.size], _, _, H1, rfl, I2, turn_enumT a (s1.heap.objs.size + 1) s1.heap.objs.size, ⟨⟨.none, he⟩, ⟨_, hit, rfl, rfl⟩, Nat.succ_ne_self _⟩, fp, q⟩

/-- what values lean on goes on -/
structure Xs (H : Hp) (ρ : List Addr) (H' : Hp) (ρ' : List Addr) : Prop where
  pre : ∀ (n : Nat) (a : Addr), ρ[n]? = some a → ρ'[n]? = some a
  kt : ∀ a xs, H a = some (.tup xs) → a ∉ ρ → H' a = some (.tup xs) ∧ a ∉ ρ'
  kl : ∀ a o xs, H a = some (.frz o (.lst xs)) → a ∉ ρ → H' a = some (.frz o (.lst xs)) ∧ a ∉ ρ'
theorem Xs.of {H H' : Hp} {ρ ρ' : List Addr} (x : Ext H ρ H' ρ') : Xs H ρ H' ρ' := ⟨fun _ _ e => x.get e, fun _ _ e n => ⟨x.keep _ _ e n, x.out e n⟩, fun _ _ _ e n => ⟨x.keep _ _ e n, x.out e n⟩⟩
theorem Xs.trans {H H1 H2 : Hp} {ρ ρ1 ρ2 : List Addr} (x : Xs H ρ H1 ρ1) (y : Xs H1 ρ1 H2 ρ2) : Xs H ρ H2 ρ2 :=
  ⟨fun n a e => y.pre n a (x.pre n a e), fun a xs e n => let ⟨e1, n1⟩ := x.kt a xs e n; y.kt a xs e1 n1, fun a o xs e n => let ⟨e1, n1⟩ := x.kl a o xs e n; y.kl a o xs e1 n1⟩
theorem Xs.poke {H : Hp} {ρ : List Addr} {p : Addr} {u u0 : HO} (hp : H p = some u0) (so : Soft u0) : Xs H ρ (upd H p u) ρ :=
  ⟨fun _ _ e => e, fun a xs e n => by
    have ne : a ≠ p := by intro z; subst z; rw [hp] at e; cases e; exact so
    exact ⟨by rw [upd_ne ne]; exact e, n⟩, fun a o xs e n => by
    have ne : a ≠ p := by intro z; subst z; rw [hp] at e; cases e; exact so
    exact ⟨by rw [upd_ne ne]; exact e, n⟩⟩
theorem Xs.tup {K : PySem.W.Frag} {H H' : Hp} {ρ ρ' : List Addr} {a : Addr} {xs : List V} (x : Xs H ρ H' ρ') (t : TupR K H ρ a xs) : TupR K H' ρ' a xs := by
  rcases t with ⟨t, n⟩ | t
  · exact .inl (x.kt _ _ t n)
  · exact .inr t
theorem Xs.rps {K : PySem.W.Frag} {H H' : Hp} {ρ ρ' : List Addr} {ds : List D} {xs : List V} (x : Xs H ρ H' ρ') (r : Rps K H ρ ds xs) : Rps K H' ρ' ds xs := Rps.stay x.pre x.kt x.kl r
theorem Xs.er {K : PySem.W.Frag} {H H' : Hp} {ρ ρ' : List Addr} {v : Env} {σ : L2.St} (x : Xs H ρ H' ρ') (r : ER K H ρ v σ) : ER K H' ρ' v σ := ⟨r.1, fun i d e => let ⟨y, h1, h2⟩ := r.2 i d e; ⟨y, h1, Rp.stay x.pre x.kt x.kl h2⟩⟩
/-- a walk of the layer does what a walk of Mini's does, from (H0, ρ0) on -/
def JR (N : Nm) (K : PySem.W.Frag) (H0 : Hp) (ρ0 : List Addr) (J : L2.It) (it : Mini.It) : Prop :=
  ∀ (H : Hp) (ρ : List Addr) (A : Hh) (i : Nat), Xs H0 ρ0 H ρ → HR N K H ρ A → (it.at A i = some none → J.stop i H) ∧
    ∀ d, it.at A i = some (some d) → J.go i H ∧ ∀ x H', J.yld i H x H' → Ext H ρ H' ρ ∧ HR N K H' ρ A ∧ Rp K H' ρ d x
section
variable {N : Nm} {K : PySem.W.Frag} {H0 : Hp} {ρ0 : List Addr}
theorem jr_lst {n : Nat} {a : Addr} (ha : ρ0[n]? = some a) : JR N K H0 ρ0 (Itl K a) (.lst n) := fun H ρ A i x h => by
  have ha' := x.pre _ _ ha
  unfold Mini.It.at
  simp only
  cases e : A[n]? with
  | none => exact ⟨fun z => (by cases z), fun d z => (by cases z)⟩
  | some ob =>
    cases ob with
    | lst ds =>
      obtain ⟨u, hu, xs, rfl, r⟩ := h.look ha' e
      refine ⟨fun z => ?_, fun d z => ?_⟩
      · have z := Option.some.inj z
        exact ⟨xs, SqL.of hu, by rw [← rps_len r]; exact List.getElem?_eq_none_iff.mp z⟩
      · have z := Option.some.inj z
        obtain ⟨v, hv, rv⟩ := pr_get (rps_iff.mp r) z
        refine ⟨⟨xs, v, SqL.of hu, hv⟩, fun y H' ⟨e1, e2⟩ => ?_⟩
        subst e1
        have e3 := e2 xs (SqL.of hu)
        rw [hv] at e3
        cases e3
        exact ⟨.refl, h, rv⟩
    | dk _ => exact ⟨fun z => (by cases z), fun d z => (by cases z)⟩
    | dt _ => exact ⟨fun z => (by cases z), fun d z => (by cases z)⟩
    | lk _ => exact ⟨fun z => (by cases z), fun d z => (by cases z)⟩
    | ins _ _ => exact ⟨fun z => (by cases z), fun d z => (by cases z)⟩
theorem jr_tup {ds : List D} {a : Addr} {xs : List V} (t : TupR K H0 ρ0 a xs) (r : Rps K H0 ρ0 ds xs) : JR N K H0 ρ0 (Itt K a) (.seq ds) := fun H ρ A i x h => by
  have t' := (x.tup t).sq
  have r' := x.rps r
  refine ⟨fun z => ?_, fun d z => ?_⟩
  · have z := Option.some.inj z
    exact ⟨xs, t', by rw [← rps_len r']; exact List.getElem?_eq_none_iff.mp z⟩
  · have z := Option.some.inj z
    obtain ⟨v, hv, rv⟩ := pr_get (rps_iff.mp r') z
    refine ⟨⟨xs, v, t', hv⟩, fun y H' ⟨e1, e2⟩ => ?_⟩
    subst e1
    have e3 := e2 xs t'
    rw [hv] at e3
    cases e3
    exact ⟨.refl, h, rv⟩
theorem jr_scr {ns : List Int} {a : Addr} (t : ((∃ o, H0 a = some (.frz o (.lst (ns.map V.int)))) ∧ a ∉ ρ0) ∨ WrL K a (ns.map V.int)) : JR N K H0 ρ0 (Itl K a) (.seq (ns.map .int)) := fun H ρ A i x h => by
  have t' : SqL K H a (ns.map V.int) := by
    rcases t with ⟨⟨o, t⟩, n⟩ | t
    · exact .inl (.inr ⟨o, (x.kl _ _ _ t n).1⟩)
    · exact .inr t
  refine ⟨fun z => ?_, fun d z => ?_⟩
  · have z := Option.some.inj z
    exact ⟨_, t', by rw [List.length_map]; have := List.getElem?_eq_none_iff.mp z; rwa [List.length_map] at this⟩
  · have z := Option.some.inj z
    obtain ⟨v, hv, rv⟩ := pr_get (rps_iff.mp (rps_ints ns)) z
    refine ⟨⟨_, v, t', hv⟩, fun y H' ⟨e1, e2⟩ => ?_⟩
    subst e1
    have e3 := e2 _ t'
    rw [hv] at e3
    cases e3
    exact ⟨.refl, h, rv⟩
theorem jr_chr {s : S} : JR N K H0 ρ0 (Its (txt s)) (.chr s) := fun H ρ A i x h => by
  have hs : (txt s).cps.size = s.length := txt_len s
  refine ⟨fun z => ?_, fun d z => ?_⟩
  · have z := Option.some.inj z
    show (txt s).cps.size ≤ i
    rw [hs]
    exact List.getElem?_eq_none_iff.mp (Option.map_eq_none_iff.mp z)
  · have z := Option.some.inj z
    obtain ⟨c, hc, rfl⟩ := Option.map_eq_some_iff.mp z
    refine ⟨?_, fun y H' ⟨e1, c', hc', ey⟩ => ?_⟩
    · show i < (txt s).cps.size
      rw [hs]
      exact (List.getElem?_eq_some_iff.mp hc).1
    · subst e1 ey
      have e2 : s[i]? = some c' := by
        have z : (s.toArray)[i]? = some c' := hc'
        simpa using z
      rw [hc] at e2
      cases e2
      exact ⟨.refl, h, rfl⟩
theorem jr_rng {n : Nat} : JR N K H0 ρ0 (Itr 0 n) (.rng n) := fun H ρ A i x h => by
  unfold Mini.It.at
  simp only
  by_cases c : i < n
  · rw [show Nat.blt i n = true from Nat.blt_eq.mpr c]
    refine ⟨fun z => (by cases z), fun d z => ⟨c, fun y H' ⟨e1, e2⟩ => ?_⟩⟩
    cases z
    subst e1 e2
    exact ⟨.refl, h, by rw [Int.zero_add]; rfl⟩
  · rw [show Nat.blt i n = false from by rw [Bool.eq_false_iff]; exact fun z => c (Nat.blt_eq.mp z)]
    exact ⟨fun _ => Nat.le_of_not_lt c, fun d z => (by cases z)⟩
theorem pair_new {H : Hp} {ρ : List Addr} {A : Hh} {T : Addr} {d e : D} {x y : V} (h : HR N K H ρ A) (hT : H T = none) (rd : Rp K H ρ d x) (re : Rp K H ρ e y) : Ext H ρ (upd H T (.tup [x, y])) ρ ∧ HR N K (upd H T (.tup [x, y])) ρ A ∧ Rp K (upd H T (.tup [x, y])) ρ (.tup [d, e]) (.ref T) :=
  ⟨Ext.new hT, h.new hT, Rp.tupNew h hT (rps_cons rd (rps_cons re rps_nil))⟩
theorem jr_enumL {n : Nat} {a : Addr} (ha : ρ0[n]? = some a) : JR N K H0 ρ0 (Ite K a) (.enumL n) := fun H ρ A i x h => by
  have ha' := x.pre _ _ ha
  unfold Mini.It.at
  simp only
  cases e : A[n]? with
  | none => exact ⟨fun z => (by cases z), fun d z => (by cases z)⟩
  | some ob =>
    cases ob with
    | lst ds =>
      obtain ⟨u, hu, xs, rfl, r⟩ := h.look ha' e
      refine ⟨fun z => ?_, fun d z => ?_⟩
      · have z := Option.some.inj z
        exact ⟨xs, SqL.of hu, by rw [← rps_len r]; exact List.getElem?_eq_none_iff.mp (Option.map_eq_none_iff.mp z)⟩
      · have z := Option.some.inj z
        obtain ⟨d', hd', rfl⟩ := Option.map_eq_some_iff.mp z
        obtain ⟨v, hv, rv⟩ := pr_get (rps_iff.mp r) hd'
        refine ⟨⟨xs, v, SqL.of hu, hv⟩, fun y H' ⟨T, y2, e1, hT, e2, e3⟩ => ?_⟩
        subst e1 e2
        have e4 := e3 xs (SqL.of hu)
        rw [hv] at e4
        cases e4
        exact pair_new h hT rfl rv
    | dk _ => exact ⟨fun z => (by cases z), fun d z => (by cases z)⟩
    | dt _ => exact ⟨fun z => (by cases z), fun d z => (by cases z)⟩
    | lk _ => exact ⟨fun z => (by cases z), fun d z => (by cases z)⟩
    | ins _ _ => exact ⟨fun z => (by cases z), fun d z => (by cases z)⟩
theorem jr_enumS {ds : List D} {a : Addr} {xs : List V} (t : TupR K H0 ρ0 a xs) (r : Rps K H0 ρ0 ds xs) : JR N K H0 ρ0 (Itet K a) (.enumS ds) := fun H ρ A i x h => by
  have t' := (x.tup t).sq
  have r' := x.rps r
  refine ⟨fun z => ?_, fun d z => ?_⟩
  · have z := Option.some.inj z
    exact ⟨xs, t', by rw [← rps_len r']; exact List.getElem?_eq_none_iff.mp (Option.map_eq_none_iff.mp z)⟩
  · have z := Option.some.inj z
    obtain ⟨d', hd', rfl⟩ := Option.map_eq_some_iff.mp z
    obtain ⟨v, hv, rv⟩ := pr_get (rps_iff.mp r') hd'
    refine ⟨⟨xs, v, t', hv⟩, fun y H' ⟨T, y2, e1, hT, e2, e3⟩ => ?_⟩
    subst e1 e2
    have e4 := e3 xs t'
    rw [hv] at e4
    cases e4
    exact pair_new h hT rfl rv
end

/-! ### what an iterable says -/
section
variable (pg : Pg) (N : Nm) (C : Call) (K : PySem.W.Frag) (W : WX)
def tI (i : I) : TI := fun σ H R => ∃ v A ρ, ER K H ρ v σ ∧ HR N K H ρ A ∧ RG N K H ρ (evI pg C i v A) (fun it _ H' ρ' => ∀ J, JR N K H' ρ' J it → R J H') (EX W σ)
end
theorem PI.wk {X : Cx} {tg l : Expr} {t t' : TI} (h : PI X tg l t) (f : ∀ σ H R, t' σ H R → t σ H R) : PI X tg l t' := ⟨fun pins s σ H R I q => h.run pins s σ H R I (f σ H R q)⟩
section
variable {pg : Pg} {N : Nm} {C : Call} {W : WX} {X : Cx} {pos p tpos : Pos} {tg a : Expr} {ea : E}
theorem use1G {α : Type} {H : Hp} {ρ : List Addr} {A : Hh} {v : Env} {σ : L2.St} {K : PySem.W.Frag} {e : E} {k : D → Hh → R α} {G : α → Hh → Hp → List Addr → Prop} {Q' : VK} (er : ER K H ρ v σ) (hr : HR N K H ρ A) (q : RG N K H ρ ((evE pg C e v A).bind k) G (EX W σ))
    (f : ∀ d A' x H' ρ', ER K H' ρ' v σ → HR N K H' ρ' A' → Rp K H' ρ' d x → Ext H ρ H' ρ' → RG N K H' ρ' (k d A') G (EX W σ) → Q' x H') : tE pg N C K W e σ H Q' :=
  ⟨v, A, ρ, er, hr, RQ.ofRG (q.bind.imp fun d A' H' ρ' hr' x g y ry => f d A' y H' ρ' (er.ext x) hr' ry x g)⟩
theorem RG.ok {α : Type} {K : PySem.W.Frag} {H : Hp} {ρ : List Addr} {A : Hh} {a : α} {G : α → Hh → Hp → List Addr → Prop} {E : XK} (q : RG N K H ρ (.ok a A) G E) (h : HR N K H ρ A) : G a A H ρ := q H ρ .refl h
theorem i_any (ha : PE X a (tE pg N C X.K W ea)) : PI X tg a (tI pg N C X.K W (.e ea)) :=
  PI.wk (pi_any ha) fun σ H R ⟨v, A, ρ, er, hr, q⟩ => by
    rw [evI] at q
    refine use1G er hr q fun d A1 y H1 ρ1 er1 hr1 ry x1 q1 => ?_
    unfold walkOf at q1
    cases d with
    | tup ds =>
      unfold Rp at ry
      obtain ⟨a, xs, rfl, t, r⟩ := ry
      exact .inr (.inl ⟨a, rfl, ⟨xs, t.sq⟩, RG.ok q1 hr1 _ (jr_tup t r)⟩)
    | str s =>
      cases ry
      exact .inr (.inr ⟨txt s, rfl, RG.ok q1 hr1 _ jr_chr⟩)
    | scr ns =>
      unfold Rp at ry
      obtain ⟨a, rfl, t⟩ := ry
      refine .inl ⟨a, rfl, ⟨ns.map V.int, ?_⟩, RG.ok q1 hr1 _ (jr_scr t)⟩
      rcases t with ⟨⟨o, t⟩, n⟩ | t
      · exact .inl (.inr ⟨o, t⟩)
      · exact .inr t
    | ref n =>
      simp only at q1
      cases e : A1[n]? with
      | none => rw [e] at q1; exact q1.elim
      | some ob =>
        rw [e] at q1
        cases ob with
        | lst ds =>
          obtain ⟨a, xs, rfl, ra, ha, r⟩ := hr1.lst ry e
          exact .inl ⟨a, rfl, ⟨xs, SqL.of ha⟩, RG.ok q1 hr1 _ (jr_lst ra)⟩
        | dk _ => exact q1.elim
        | dt _ => exact q1.elim
        | lk _ => exact q1.elim
        | ins _ _ => exact q1.elim
    | non => exact q1.elim
    | bl _ => exact q1.elim
    | int _ => exact q1.elim
theorem i_range (hg : Gl X "range") (hm : X.mg "range" = none) (ha : PE X a (tE pg N C X.K W ea)) (hs : starEach [a] X.env = (false, eval a X.env) :: starEach [] X.env) (hs2 : starEach [a] X.env = [(false, eval a X.env)]) : PI X tg (.Call (.Name "range" p) [a] [] pos) (tI pg N C X.K W (.range ea)) :=
  PI.wk (pi_range1 hg hm (pa_cons ha pa_nil hs) hs2) fun σ H R ⟨v, A, ρ, er, hr, q⟩ => by
    rw [evI] at q
    refine use1G er hr q fun d A1 y H1 ρ1 er1 hr1 ry x1 q1 => ?_
    split at q1 <;> try exact q1.elim
    split at q1 <;> try exact q1.elim
    rename_i i hb
    cases ry
    simp only [Bool.and_eq_true, decide_eq_true_eq] at hb
    exact ⟨i, rfl, by omega, by omega, RG.ok q1 hr1 _ jr_rng⟩
theorem i_enum {elts : List Expr} {kk : Nat} (hg : Gl X "enumerate") (hm : X.mg "enumerate" = none) (ha : PE X a (tE pg N C X.K W ea)) (hs : starEach [a] X.env = (false, eval a X.env) :: starEach [] X.env) (hs2 : starEach [a] X.env = [(false, eval a X.env)]) :
    PI X (.Tuple elts kk tpos) (.Call (.Name "enumerate" p) [a] [] pos) (tI pg N C X.K W (.enum ea)) :=
  PI.wk (pi_enumA hg hm (pa_cons ha pa_nil hs) hs2) fun σ H R ⟨v, A, ρ, er, hr, q⟩ => by
    rw [evI] at q
    refine use1G er hr q fun d A1 y H1 ρ1 er1 hr1 ry x1 q1 => ?_
    split at q1
    · unfold Rp at ry
      obtain ⟨a, xs, rfl, t, r⟩ := ry
      exact ⟨a, rfl, .inr ⟨xs, t.sq, RG.ok q1 hr1 _ (jr_enumS t r)⟩⟩
    · rename_i n
      split at q1
      · rename_i ds e
        obtain ⟨a, xs, rfl, ra, ha, r⟩ := hr1.lst ry e
        exact ⟨a, rfl, .inl ⟨xs, SqL.of ha, RG.ok q1 hr1 _ (jr_enumL ra)⟩⟩
      · exact q1.elim
    · exact q1.elim
end
end Mini

set_option Elab.async false
set_option linter.all false
set_option maxRecDepth 100000
set_option maxHeartbeats 4000000
/-! Mini's targets and comprehensions. -/
namespace Mini
open PySem L2

/-! ### targets -/
theorem set_set_ne {α : Type} (l : List α) {i j : Nat} (a b : α) (h : i ≠ j) : (l.set i a).set j b = (l.set j b).set i a := by
  apply List.ext_getElem?
  intro n
  by_cases h1 : j = n
  · subst h1
    by_cases hl : j < l.length
    · rw [List.getElem?_set_self (by rw [List.length_set]; exact hl), List.getElem?_set_ne h, List.getElem?_set_self hl]
    · rw [List.getElem?_eq_none (by simp; omega), List.getElem?_eq_none (by simp; omega)]
  · rw [List.getElem?_set_ne h1]
    by_cases h2 : i = n
    · subst h2
      by_cases hl : i < l.length
      · rw [List.getElem?_set_self hl, List.getElem?_set_self (by rw [List.length_set]; exact hl)]
      · rw [List.getElem?_eq_none (by simp; omega), List.getElem?_eq_none (by simp; omega)]
    · rw [List.getElem?_set_ne h2, List.getElem?_set_ne h2, List.getElem?_set_ne h1]
theorem set_wipe {σ : L2.St} {i : Nat} {x : Option V} : ∀ {vs : List Nat}, (i ∈ vs → L2.wipe (σ.set i x) vs = L2.wipe σ vs) ∧ (i ∉ vs → L2.wipe (σ.set i x) vs = (L2.wipe σ vs).set i x)
  | [] => ⟨fun h => by simp at h, fun _ => rfl⟩
  | j :: r => by
    obtain ⟨h1, h2⟩ := set_wipe (σ := σ) (i := i) (x := x) (vs := r)
    refine ⟨fun h => ?_, fun h => ?_⟩
    · unfold L2.wipe
      by_cases hr : i ∈ r
      · rw [h1 hr]
      · have e : i = j := (List.mem_cons.mp h).resolve_right hr
        subst e
        rw [h2 hr, List.set_set]
    · unfold L2.wipe
      have hj : i ≠ j := fun e => h (by rw [e]; exact List.mem_cons_self)
      have hr : i ∉ r := fun e => h (List.mem_cons_of_mem _ e)
      rw [h2 hr, set_set_ne _ _ _ hj]
def T.ixs : T → List Nat
  | .one i => [i]
  | .many is => is
def tG (N : Nm) (K : PySem.W.Frag) (t : T) : TG := fun x σ H Q => ∃ d A v ρ v', ER K H ρ v σ ∧ HR N K H ρ A ∧ Rp K H ρ d x ∧ t.put A v d = some v' ∧ ∀ σ', ER K H ρ v' σ' → (∀ vs, (∀ i ∈ t.ixs, i ∈ vs) → L2.wipe σ' vs = L2.wipe σ vs) → Q σ' H
theorem PG.wk {X : Cx} {tg : Expr} {t t' : TG} (h : PG X tg t) (f : ∀ x σ H Q, t' x σ H Q → t x σ H Q) : PG X tg t' := ⟨fun pins s σ H v u Q I r q => h.run pins s σ H v u Q I r (f v σ H Q q)⟩
theorem PG.or {X : Cx} {tg : Expr} {t t' : TG} (h : PG X tg t) (h' : PG X tg t') : PG X tg (fun x σ H Q => t x σ H Q ∨ t' x σ H Q) :=
  ⟨fun pins s σ H v u Q I r q => q.elim (fun q => h.run pins s σ H v u Q I r q) fun q => h'.run pins s σ H v u Q I r q⟩
section
variable {N : Nm} {X : Cx} {pos : Pos}
theorem g_one {i : Nat} {x : Str} (hN : X.N.Nodup) (hi : X.N[i]? = some x) (hx : Loc X.env.scope x) (hf : X.fn x = true ∨ X.env.scope.names.lookup x = some .local) : PG X (.Name x pos) (tG N X.K (.one i)) :=
  PG.wk (pg_name hN hi hx hf) fun x σ H Q ⟨d, A, v, ρ, v', er, hr, rx, e, q⟩ => by
    cases e
    exact q _ (er.set rx) fun vs hv => set_wipe.1 (hv i (List.mem_singleton.mpr rfl))
/-- names, one after another -/
def tGs (K : PySem.W.Frag) (is : List Nat) : TGs := fun xs σ H Q => ∃ ds v ρ v', ER K H ρ v σ ∧ Rps K H ρ ds xs ∧ setAll v is ds = some v' ∧ ∀ σ', ER K H ρ v' σ' → (∀ vs, (∀ i ∈ is, i ∈ vs) → L2.wipe σ' vs = L2.wipe σ vs) → Q σ' H
theorem PGs.wk {X : Cx} {es : List Expr} {t t' : TGs} (h : PGs X es t) (f : ∀ xs σ H Q, t' xs σ H Q → t xs σ H Q) : PGs X es t' := ⟨fun pins s σ H v u Q I r q => h.run pins s σ H v u Q I r (f v σ H Q q)⟩
theorem gs_all : ∀ {es : List Expr} {is : List Nat}, Paired (fun e i => PG X e (gName i) ∧ ∀ r, (assignEach (e :: r) X.env).map (·.2) = assign e X.env :: (assignEach r X.env).map (·.2)) es is → PGs X es (tGs X.K is)
  | _, _, .nil => PGs.wk pgs_nil fun xs σ H Q ⟨ds, v, ρ, v', er, rx, e, q⟩ => by
    cases ds with
    | nil =>
      cases e
      refine ⟨by unfold Rps at rx; exact rx, q σ er fun _ _ => rfl⟩
    | cons d r => cases e
  | x :: xs, i :: is, .cons h t => PGs.wk (pgs_cons h.1 (gs_all t) (h.2 xs)) fun ys σ H Q ⟨ds, v, ρ, v', er, rx, e, q⟩ => by
    cases ds with
    | nil => cases e
    | cons d r =>
      unfold Rps at rx
      obtain ⟨y, ws, rfl, r1, r2⟩ := rx
      refine ⟨y, ws, rfl, r, v.set i (some d), ρ, v', er.set r1, r2, e, fun σ' er' hw => q σ' er' fun vs hv => ?_⟩
      rw [hw vs fun j hj => hv j (List.mem_cons_of_mem _ hj)]
      exact set_wipe.1 (hv i List.mem_cons_self)
theorem g_many {es : List Expr} {is : List Nat} {k : Nat} (hc : X.calm = true) (h : PGs X es (tGs X.K is)) (hn : (assignEach es X.env).length = is.length) (hst : (assignEach es X.env).findIdx? (·.1) = none) : PG X (.Tuple es k pos) (tG N X.K (.many is)) :=
  PG.wk (PG.or (pg_tup hc h hn hst) (pg_lst hc h hn hst)) fun x σ H Q ⟨d, A, v, ρ, v', er, hr, rx, e, q⟩ => by
    have len : ∀ {is : List Nat} {ds : List D} {v v' : Env}, setAll v is ds = some v' → ds.length = is.length := by
      intro is
      induction is with
      | nil => intro ds v v' e; cases ds with
        | nil => rfl
        | cons _ _ => cases e
      | cons i r ih => intro ds v v' e; cases ds with
        | nil => cases e
        | cons d ds => simp [ih e]
    unfold T.put at e
    simp only at e
    split at e
    · rename_i ds
      obtain ⟨a, xs, rfl, ta, ra⟩ := rx.tupE
      exact .inl ⟨a, xs, rfl, ta, by rw [← rps_len ra]; exact len e, ds, v, ρ, v', er, ra, e, q⟩
    · rename_i n
      split at e
      · rename_i ds hn'
        obtain ⟨a, xs, rfl, _, ha, ra⟩ := hr.lst rx hn'
        exact .inr ⟨a, xs, rfl, SqL.of ha, by rw [← rps_len ra]; exact len e, ds, v, ρ, v', er, ra, e, q⟩
      · cases e
    · cases e
end

/-! ### [e for t in it if c] -/
abbrev WF : WX := fun _ _ _ _ => False
section
variable (pg : Pg) (N : Nm) (C : Call) (K : PySem.W.Frag) (W : WX)
def tCo (c : Option E) : TT := fun σ H Q => ∃ v A ρ, ER K H ρ v σ ∧ HR N K H ρ A ∧ RG N K H ρ (evC pg C c v A) (fun b _ H' _ => Q b H') (EX W σ)
end
section
variable {pg : Pg} {N : Nm} {C : Call} {W : WX} {X : Cx} {pos : Pos}
theorem PTs.wk {X : Cx} {es : List Expr} {t t' : TT} (h : PTs X es t) (f : ∀ σ H Q, t' σ H Q → t σ H Q) : PTs X es t' := ⟨fun pins s σ H Q I q => h.run pins s σ H Q I (f σ H Q q)⟩
theorem co_none : PTs X [] (tCo pg N C X.K W none) := PTs.wk pts_nil fun σ H Q ⟨v, A, ρ, er, hr, q⟩ => by rw [evC] at q; exact RG.ok q hr
theorem co_some {c : Expr} {ec : E} (h : PT X c (tT pg N C X.K W ec)) : PTs X [c] (tCo pg N C X.K W (some ec)) := PTs.wk (pts_one h) fun σ H Q ⟨v, A, ρ, er, hr, q⟩ => ⟨v, A, ρ, er, hr, by
  rw [evC] at q
  exact q⟩
/-- a hidden list's address as a place -/
theorem fin_lst {K : PySem.W.Frag} {H : Hp} {ρ : List Addr} {A : Hh} {D0 : Addr} {ys : List D} {xs : List V} (h : HR N K H ρ A) (np : D0 ∉ ρ) (hD : H D0 = some (.lst xs)) (r : Rps K H ρ ys xs) :
    HR N K H (ρ ++ [D0]) (A ++ [.lst ys]) ∧ Rp K H (ρ ++ [D0]) (.ref A.length) (.ref D0) := by
  have e : upd H D0 (.lst xs) = H := by
    funext b
    by_cases c : b = D0
    · rw [c, upd_same, hD]
    · rw [upd_ne c]
  have z := h.place (u := .lst xs) (ob := .lst ys) np hD trivial ⟨xs, rfl, r⟩
  rw [e] at z
  exact z
theorem ext_place {H H2 : Hp} {ρ ρ2 : List Addr} {p : Addr} (x : Ext H ρ H2 ρ2) (hn : H p = none) : Ext H ρ H2 (ρ2 ++ [p]) := by
  obtain ⟨e1, he1, hne⟩ := x.pre
  refine ⟨⟨e1 ++ [p], by rw [he1, List.append_assoc], fun a ha => ?_⟩, x.keep⟩
  rcases List.mem_append.mp ha with z | z
  · exact hne a z
  · rw [List.mem_singleton.mp z]; exact hn
theorem lcGo_exc {f : D → Hh → R (Option D)} {it : Mini.It} : ∀ {m i : Nat} {acc : List D} {A : Hh} {c : Nat} {x : Option D} {A' : Hh}, lcGo f it m i acc A = .exc c x A' → False
  | 0, _, _, _, _, _, _, h => by cases h
  | m + 1, i, acc, A, c, x, A', h => by
    rw [lcGo] at h
    split at h
    · cases h
    · cases h
    · split at h
      · split at h
        · exact lcGo_exc h
        · cases h
      · exact lcGo_exc h
      · cases h
/-- the turns of a list's block -/
theorem lcF_none {t : T} {own : List Nat} {v : Env} {fc : Env → Hh → R Bool} {fe : Env → Hh → R D} {d : D} {A : Hh} (e : t.put A (wipeE v own) d = none) : lcF t own v fc fe d A = .bad := by unfold lcF; rw [e]
theorem lcF_some {t : T} {own : List Nat} {v v' : Env} {fc : Env → Hh → R Bool} {fe : Env → Hh → R D} {d : D} {A : Hh} (e : t.put A (wipeE v own) d = some v') : lcF t own v fc fe d A = (fc v' A).bind fun b A => if b then (fe v' A).bind fun y A => .ok (some y) A else .ok none A := by unfold lcF; rw [e]
theorem wipe_wipe {σ : L2.St} {vs : List Nat} : ∀ {us : List Nat}, (∀ i ∈ us, i ∈ vs) → L2.wipe (L2.wipe σ us) vs = L2.wipe σ vs
  | [], _ => rfl
  | i :: r, h => by
    show L2.wipe ((L2.wipe σ r).set i none) vs = _
    rw [set_wipe.1 (h i List.mem_cons_self)]
    exact wipe_wipe fun j hj => h j (List.mem_cons_of_mem _ hj)
theorem lc_turns {K : PySem.W.Frag} {σ : L2.St} {v : Env} {t : T} {own : List Nat} {c : Option E} {e : E} {it : Mini.It} {J : L2.It} {H1 : Hp} {ρ1 : List Addr} {D0 : Addr} {Qd : Hp → Prop} {G : List D → Hh → Hp → List Addr → Prop}
    (ho : ∀ j ∈ t.ixs, j ∈ own) (er1 : ER K H1 ρ1 v σ) (hJ : JR N K H1 ρ1 J it) (hD : H1 D0 = none)
    (hG : ∀ ys A' H' ρ' ws, G ys A' H' ρ' → HR N K H' ρ' A' → H' D0 = some (.lst ws) → D0 ∉ ρ' → Rps K H' ρ' ys ws → Qd H') :
    ∀ i m H, (∃ acc ws A ρ, Ext H1 ρ1 H ρ ∧ HR N K H ρ A ∧ H D0 = some (.lst ws) ∧ D0 ∉ ρ ∧ Rps K H ρ acc ws ∧ RG N K H1 ρ1 (lcGo (lcF t own v (fun v A => evC pg C c v A) (fun v A => evE pg C e v A)) it m i acc A) G (fun _ _ _ => False)) →
      (J.stop i H ∧ Qd H) ∨ (J.go i H ∧ ∃ Nx : Hp → Prop, (∀ H', Nx H' → ∃ m', m' < m ∧ (∃ acc ws A ρ, Ext H1 ρ1 H' ρ ∧ HR N K H' ρ A ∧ H' D0 = some (.lst ws) ∧ D0 ∉ ρ ∧ Rps K H' ρ acc ws ∧ RG N K H1 ρ1 (lcGo (lcF t own v (fun v A => evC pg C c v A) (fun v A => evE pg C e v A)) it m' (i + 1) acc A) G (fun _ _ _ => False))) ∧ ∀ x H', J.yld i H x H' → tG N K t x (L2.wipe σ own) H' fun σ2 H2 => L2.wipe σ2 own = L2.wipe σ own ∧ tCo pg N C K WF c σ2 H2 fun b H3 =>
        if b = true then tE pg N C K WF e σ2 H3 fun y H4 => ∃ acc, H4 D0 = some (.lst acc) ∧ acc.length < sizeLine ∧ Nx (upd H4 D0 (.lst (acc ++ [y]))) else Nx H3) := by
  intro i m H ⟨acc, ws, A, ρ, x, hr, hd, np, ra, q⟩
  cases m with
  | zero => exact q.elim
  | succ m =>
    rw [lcGo] at q
    obtain ⟨j1, j2⟩ := hJ H ρ A i (Xs.of x) hr
    cases e1 : it.at A i with
    | none => rw [e1] at q; exact q.elim
    | some o =>
      rw [e1] at q
      cases o with
      | none => exact .inl ⟨j1 e1, hG _ _ _ _ _ (q H ρ x hr) hr hd np ra⟩
      | some d =>
        obtain ⟨g1, g2⟩ := j2 d e1
        refine .inr ⟨g1, fun H' => ∃ acc ws A ρ, Ext H1 ρ1 H' ρ ∧ HR N K H' ρ A ∧ H' D0 = some (.lst ws) ∧ D0 ∉ ρ ∧ Rps K H' ρ acc ws ∧ RG N K H1 ρ1 (lcGo (lcF t own v (fun v A => evC pg C c v A) (fun v A => evE pg C e v A)) it m (i + 1) acc A) G (fun _ _ _ => False), fun H' h => ⟨m, Nat.lt_succ_self m, h⟩, fun y H' hy => ?_⟩
        obtain ⟨x2, hr2, ry⟩ := g2 y H' hy
        have x12 : Ext H1 ρ1 H' ρ := by
          obtain ⟨e0, he0, hne⟩ := x.pre
          exact ⟨⟨e0, he0, hne⟩, fun a o h n => x2.keep a o (x.keep a o h n) (x.out h n)⟩
        have hd2 : H' D0 = some (.lst ws) := x2.keep _ _ hd np
        have ra2 := Rps.ext x2 ra
        dsimp only at q
        cases e2 : t.put A (wipeE v own) d with
        | none => rw [lcF_none e2] at q; exact q.elim
        | some v' =>
          rw [lcF_some e2] at q
          refine ⟨d, A, wipeE v own, ρ, v', (er1.ext x12).wipe own, hr2, ry, e2, fun σ2 er2 hw => ⟨?_, v', A, ρ, er2, hr2, ?_⟩⟩
          · rw [hw own ho, wipe_wipe fun _ h => h]
          · cases e3 : evC pg C c v' A with
            | bad => rw [e3] at q; exact q.elim
            | exc c d A2 => rw [e3] at q; exact q.elim
            | ok b A2 =>
              rw [e3] at q
              intro H3 ρ3 x3 hr3
              have x13 : Ext H1 ρ1 H3 ρ3 := (hr2).trans x12 x3
              have hd3 : H3 D0 = some (.lst ws) := x3.keep _ _ hd2 np
              have np3 : D0 ∉ ρ3 := x3.out hd2 np
              have ra3 := Rps.ext x3 ra2
              cases b with
              | false =>
                show if _ then _ else _
                rw [if_neg (by decide)]
                exact ⟨acc, ws, A2, ρ3, x13, hr3, hd3, np3, ra3, q⟩
              | true =>
                show if _ then _ else _
                rw [if_pos rfl]
                refine ⟨v', A2, ρ3, er2.ext x3, hr3, ?_⟩
                cases e4 : evE pg C e v' A2 with
                | bad => simp only [R.bind, e4] at q; exact q.elim
                | exc c d A2 => simp only [R.bind, e4] at q; exact q.elim
                | ok z A4 =>
                  simp only [R.bind, e4, if_true] at q
                  intro zv H4 ρ4 x4 hr4 rz
                  split at q
                  · rename_i hb
                    have hd4 : H4 D0 = some (.lst ws) := x4.keep _ _ hd3 np3
                    have np4 : D0 ∉ ρ4 := x4.out hd3 np3
                    have ra4 := Rps.ext x4 ra3
                    refine ⟨ws, hd4, by rw [← rps_len ra4, sizeLine_eq]; exact Nat.blt_eq.mp hb, acc ++ [z], ws ++ [zv], A4, ρ4, (hr3.trans x13 x4).poke hD, hr4.poke np4 hd4 trivial, upd_same, np4, ?_, q⟩
                    have pk : ∀ d v, Rp K H4 ρ4 d v → Rp K (upd H4 D0 (.lst (ws ++ [zv]))) ρ4 d v := fun d v r => r.poke np4 hd4 trivial
                    exact rps_app (rps_iff.mpr (pr_mono pk (rps_iff.mp ra4))) (rps_cons (pk _ _ rz) rps_nil)
                  · exact q.elim
theorem lc_ok {K : PySem.W.Frag} {own : List Nat} {t : T} {i : I} {c : Option E} {e : E} {σ : L2.St} {H : Hp} {Q : VK} (ho : ∀ j ∈ t.ixs, j ∈ own) (h : tE pg N C K W (.lc own t i c e) σ H Q) :
    tLc (tI pg N C K W i) (tG N K t) (tCo pg N C K WF c) (tE pg N C K WF e) own σ H Q := by
  obtain ⟨v, A, ρ, er, hr, q⟩ := h
  rw [evE] at q
  refine ⟨v, A, ρ, er, hr, q.rg.bind.imp fun it A1 H1 ρ1 hr1 x1 q1 J hJ D0 hD => ?_⟩
  have er1 := er.ext x1
  have np1 := hr1.fresh hD
  -- the end
  have q2 : RG N K H1 ρ1 (lcGo (lcF t own v (fun v A => evC pg C c v A) (fun v A => evE pg C e v A)) it (it.size A1 + 1) 0 [] A1)
      (fun ys A' H' ρ' => HR N K H' ρ' A' → ∀ ws, H' D0 = some (.lst ws) → D0 ∉ ρ' → Rps K H' ρ' ys ws → Q (.ref D0) H') (fun _ _ _ => False) := by
    cases e1 : (lcGo (lcF t own v (fun v A => evC pg C c v A) (fun v A => evE pg C e v A)) it (it.size A1 + 1) 0 [] A1) with
    | bad => rw [e1] at q1; exact q1.elim
    | exc c d A2 => exact (lcGo_exc e1).elim
    | ok ys A2 =>
      rw [e1] at q1
      intro H2 ρ2 x2 hr2 _ ws hw np rw'
      obtain ⟨f1, f2⟩ := fin_lst hr2 np hw rw'
      exact q1 H2 _ (ext_place x2 hD) f1 _ f2
  exact ⟨fun i m H => ∃ acc ws A ρ, Ext H1 ρ1 H ρ ∧ HR N K H ρ A ∧ H D0 = some (.lst ws) ∧ D0 ∉ ρ ∧ Rps K H ρ acc ws ∧ RG N K H1 ρ1 (lcGo (lcF t own v (fun v A => evC pg C c v A) (fun v A => evE pg C e v A)) it m i acc A) (fun ys A' H' ρ' => HR N K H' ρ' A' → ∀ ws, H' D0 = some (.lst ws) → D0 ∉ ρ' → Rps K H' ρ' ys ws → Q (.ref D0) H') (fun _ _ _ => False),
    ⟨_, [], [], A1, ρ1, Ext.new hD, hr1.new hD, upd_same, np1, rps_nil, q2⟩, lc_turns ho er1 hJ hD fun ys A' H' ρ' ws g h1 h2 h3 h4 => g h1 ws h2 h3 h4⟩
/-! ### [e for t in i for t1 in i1] -/
theorem lcF1_none {t : T} {own : List Nat} {v : Env} {fe : Env → Hh → R D} {d : D} {acc : List D} {A : Hh} (e : t.put A (wipeE v own) d = none) : lcF1 t own v fe d acc A = .bad := by unfold lcF1; rw [e]
theorem lcF1_some {t : T} {own : List Nat} {v v' : Env} {fe : Env → Hh → R D} {d : D} {acc : List D} {A : Hh} (e : t.put A (wipeE v own) d = some v') : lcF1 t own v fe d acc A = (fe v' A).bind fun y A => if Nat.blt acc.length 16777216 then .ok (acc ++ [y]) A else .bad := by unfold lcF1; rw [e]
theorem lcF2_none {t : T} {own : List Nat} {v : Env} {fi : Env → Hh → R Mini.It} {f1 : Env → D → List D → Hh → R (List D)} {d : D} {acc : List D} {A : Hh} (e : t.put A (wipeE v own) d = none) : lcF2 t own v fi f1 d acc A = .bad := by unfold lcF2; rw [e]
theorem lcF2_some {t : T} {own : List Nat} {v v' : Env} {fi : Env → Hh → R Mini.It} {f1 : Env → D → List D → Hh → R (List D)} {d : D} {acc : List D} {A : Hh} (e : t.put A (wipeE v own) d = some v') : lcF2 t own v fi f1 d acc A = (fi v' A).bind fun it1 A => lcGo2 (f1 v') it1 (it1.size A + 1) 0 acc A := by unfold lcF2; rw [e]
theorem lcGo2_exc {f : D → List D → Hh → R (List D)} {it : Mini.It} : ∀ {m i : Nat} {acc : List D} {A : Hh} {c : Nat} {x : Option D} {A' : Hh}, lcGo2 f it m i acc A = .exc c x A' → False
  | 0, _, _, _, _, _, _, h => by cases h
  | m + 1, i, acc, A, c, x, A', h => by
    rw [lcGo2] at h
    split at h
    · cases h
    · cases h
    · split at h
      · exact lcGo2_exc h
      · cases h
/-- how things stand ahead of a turn: the new list's items -/
def LcSt (N : Nm) (K : PySem.W.Frag) (H1 : Hp) (ρ1 : List Addr) (D0 : Addr) (H : Hp) (acc : List D) (ws : List V) (A : Hh) (ρ : List Addr) : Prop :=
  Ext H1 ρ1 H ρ ∧ HR N K H ρ A ∧ H D0 = some (.lst ws) ∧ D0 ∉ ρ ∧ Rps K H ρ acc ws
/-- the inner turns; Z: what stands behind the inner walk -/
theorem lc2_inner {K : PySem.W.Frag} {σ2 : L2.St} {v' : Env} {t1 : T} {own1 : List Nat} {e : E} {it1 : Mini.It} {J1 : L2.It} {H1 H4 : Hp} {ρ1 ρ4 : List Addr} {D0 : Addr} {Nx : Hp → Prop} {Z : List D → Hh → Prop}
    (ho : ∀ j ∈ t1.ixs, j ∈ own1) (hD : H1 D0 = none) (er4 : ER K H4 ρ4 v' σ2) (hJ : JR N K H4 ρ4 J1 it1)
    (hZ : ∀ acc ws A ρ H, Z acc A → LcSt N K H1 ρ1 D0 H acc ws A ρ → Nx H) (R0 : R (List D) → Prop) (hR0 : ∀ acc A, R0 (.ok acc A) → Z acc A) (hRb : R0 .bad → False) :
    ∀ j k H, (∃ acc ws A ρ, Xs H4 ρ4 H ρ ∧ LcSt N K H1 ρ1 D0 H acc ws A ρ ∧ R0 (lcGo2 (lcF1 t1 own1 v' (fun v A => evE pg C e v A)) it1 k j acc A)) →
      (J1.stop j H ∧ Nx H) ∨ (J1.go j H ∧ ∃ Nx1 : Hp → Prop, (∀ H', Nx1 H' → ∃ k', k' < k ∧ (∃ acc ws A ρ, Xs H4 ρ4 H' ρ ∧ LcSt N K H1 ρ1 D0 H' acc ws A ρ ∧ R0 (lcGo2 (lcF1 t1 own1 v' (fun v A => evE pg C e v A)) it1 k' (j + 1) acc A))) ∧
        ∀ x H', J1.yld j H x H' → tG N K t1 x (L2.wipe σ2 own1) H' fun σ3 H5 => L2.wipe σ3 own1 = L2.wipe σ2 own1 ∧ tYes σ3 H5 fun b H6 =>
        if b = true then tE pg N C K WF e σ3 H6 fun y H7 => ∃ acc, H7 D0 = some (.lst acc) ∧ acc.length < sizeLine ∧ Nx1 (upd H7 D0 (.lst (acc ++ [y]))) else Nx1 H6) := by
  intro j k H ⟨acc, ws, A, ρ, xs, ls, q⟩
  obtain ⟨x, hr, hd, np, ra⟩ := id ls
  cases k with
  | zero => exact (hRb q).elim
  | succ k =>
    rw [lcGo2] at q
    obtain ⟨j1, j2⟩ := hJ H ρ A j xs hr
    cases e1 : it1.at A j with
    | none => rw [e1] at q; exact (hRb q).elim
    | some o =>
      rw [e1] at q
      cases o with
      | none => exact .inl ⟨j1 e1, hZ _ _ _ _ _ (hR0 _ _ q) ls⟩
      | some d =>
        obtain ⟨g1, g2⟩ := j2 d e1
        refine .inr ⟨g1, fun H' => ∃ acc ws A ρ, Xs H4 ρ4 H' ρ ∧ LcSt N K H1 ρ1 D0 H' acc ws A ρ ∧ R0 (lcGo2 (lcF1 t1 own1 v' (fun v A => evE pg C e v A)) it1 k (j + 1) acc A), fun H' h => ⟨k, Nat.lt_succ_self k, h⟩, fun y H' hy => ?_⟩
        obtain ⟨x2, hr2, ry⟩ := g2 y H' hy
        have x12 : Ext H1 ρ1 H' ρ := by
          obtain ⟨e0, he0, hne⟩ := x.pre
          exact ⟨⟨e0, he0, hne⟩, fun a o h n => x2.keep a o (x.keep a o h n) (x.out h n)⟩
        have hd2 : H' D0 = some (.lst ws) := x2.keep _ _ hd np
        have ra2 := Rps.ext x2 ra
        dsimp only at q
        cases e2 : t1.put A (wipeE v' own1) d with
        | none => rw [lcF1_none e2] at q; exact (hRb q).elim
        | some v2 =>
          rw [lcF1_some e2] at q
          refine ⟨d, A, wipeE v' own1, ρ, v2, ((xs.trans (Xs.of x2)).er er4).wipe own1, hr2, ry, e2, fun σ3 er3 hw => ⟨?_, ?_⟩⟩
          · rw [hw own1 ho, wipe_wipe fun _ h => h]
          · simp only [tYes, if_true]
            refine ⟨v2, A, ρ, er3, hr2, ?_⟩
            cases e4 : evE pg C e v2 A with
            | bad => simp only [R.bind, e4] at q; exact (hRb q).elim
            | exc c d A2 => simp only [R.bind, e4] at q; exact (hRb q).elim
            | ok z A4 =>
              simp only [R.bind, e4] at q
              intro zv H7 ρ7 x7 hr7 rz
              by_cases hb : Nat.blt acc.length 16777216 = true
              · rw [if_pos hb] at q
                have hd7 : H7 D0 = some (.lst ws) := x7.keep _ _ hd2 np
                have np7 : D0 ∉ ρ7 := x7.out hd2 np
                have ra7 := Rps.ext x7 ra2
                refine ⟨ws, hd7, by rw [← rps_len ra7, sizeLine_eq]; exact Nat.blt_eq.mp hb, acc ++ [z], ws ++ [zv], A4, ρ7, ((xs.trans (Xs.of x2)).trans (Xs.of x7)).trans (Xs.poke hd7 trivial), ⟨(hr2.trans x12 x7).poke hD, hr7.poke np7 hd7 trivial, upd_same, np7, ?_⟩, q⟩
                have pk : ∀ d v, Rp K H7 ρ7 d v → Rp K (upd H7 D0 (.lst (ws ++ [zv]))) ρ7 d v := fun d v r => r.poke np7 hd7 trivial
                exact rps_app (rps_iff.mpr (pr_mono pk (rps_iff.mp ra7))) (rps_cons (pk _ _ rz) rps_nil)
              · rw [if_neg hb] at q
                exact (hRb q).elim
theorem lc2_ok {K : PySem.W.Frag} {own own1 : List Nat} {t t1 : T} {i i1 : I} {e : E} {σ : L2.St} {H : Hp} {Q : VK} (ho : ∀ j ∈ t.ixs, j ∈ own) (ho1 : ∀ j ∈ t1.ixs, j ∈ own1) (h : tE pg N C K W (.lc2 own own1 t i t1 i1 e) σ H Q) :
    tLc2 (tI pg N C K W i) (tG N K t) tYes (tI pg N C K WF i1) (tG N K t1) tYes (tE pg N C K WF e) own own1 σ H Q := by
  obtain ⟨v, A, ρ, er, hr, q⟩ := h
  rw [evE] at q
  refine ⟨v, A, ρ, er, hr, q.rg.bind.imp fun it A1 H1 ρ1 hr1 x1 q1 J hJ D0 hD => ?_⟩
  have er1 := er.ext x1
  have np1 := hr1.fresh hD
  generalize hF : lcF2 t own v (fun v A => evI pg C i1 v A) (fun v' => lcF1 t1 own1 v' (fun v A => evE pg C e v A)) = F at q1
  have q2 : RG N K H1 ρ1 (lcGo2 F it (it.size A1 + 1) 0 [] A1) (fun ys A' H' ρ' => HR N K H' ρ' A' → ∀ ws, H' D0 = some (.lst ws) → D0 ∉ ρ' → Rps K H' ρ' ys ws → Q (.ref D0) H') (fun _ _ _ => False) := by
    cases e1 : lcGo2 F it (it.size A1 + 1) 0 [] A1 with
    | bad => rw [e1] at q1; exact q1.elim
    | exc c d A2 => exact (lcGo2_exc e1).elim
    | ok ys A2 =>
      rw [e1] at q1
      intro H2 ρ2 x2 hr2 _ ws hw np rw'
      obtain ⟨f1, f2⟩ := fin_lst hr2 np hw rw'
      exact q1 H2 _ (ext_place x2 hD) f1 _ f2
  refine ⟨fun i m H => ∃ acc ws A ρ, LcSt N K H1 ρ1 D0 H acc ws A ρ ∧ RG N K H1 ρ1 (lcGo2 F it m i acc A) (fun ys A' H' ρ' => HR N K H' ρ' A' → ∀ ws, H' D0 = some (.lst ws) → D0 ∉ ρ' → Rps K H' ρ' ys ws → Q (.ref D0) H') (fun _ _ _ => False),
    ⟨_, [], [], A1, ρ1, ⟨Ext.new hD, hr1.new hD, upd_same, np1, rps_nil⟩, q2⟩, fun i m H ⟨acc, ws, A, ρ, ls, q⟩ => ?_⟩
  obtain ⟨x, hr, hd, np, ra⟩ := id ls
  cases m with
  | zero => exact q.elim
  | succ m =>
    rw [lcGo2] at q
    obtain ⟨j1, j2⟩ := hJ H ρ A i (Xs.of x) hr
    cases e1 : it.at A i with
    | none => rw [e1] at q; exact q.elim
    | some o =>
      rw [e1] at q
      cases o with
      | none => exact .inl ⟨j1 e1, q H ρ x hr hr ws hd np ra⟩
      | some d =>
        obtain ⟨g1, g2⟩ := j2 d e1
        refine .inr ⟨g1, fun H' => ∃ acc ws A ρ, LcSt N K H1 ρ1 D0 H' acc ws A ρ ∧ RG N K H1 ρ1 (lcGo2 F it m (i + 1) acc A) (fun ys A' H' ρ' => HR N K H' ρ' A' → ∀ ws, H' D0 = some (.lst ws) → D0 ∉ ρ' → Rps K H' ρ' ys ws → Q (.ref D0) H') (fun _ _ _ => False),
          fun H' h => ⟨m, Nat.lt_succ_self m, h⟩, fun y H' hy => ?_⟩
        obtain ⟨x2, hr2, ry⟩ := g2 y H' hy
        have x12 : Ext H1 ρ1 H' ρ := by
          obtain ⟨e0, he0, hne⟩ := x.pre
          exact ⟨⟨e0, he0, hne⟩, fun a o h n => x2.keep a o (x.keep a o h n) (x.out h n)⟩
        have hd2 : H' D0 = some (.lst ws) := x2.keep _ _ hd np
        have ra2 := Rps.ext x2 ra
        dsimp only at q
        have hFd : F d acc A = lcF2 t own v (fun v A => evI pg C i1 v A) (fun v' => lcF1 t1 own1 v' (fun v A => evE pg C e v A)) d acc A := by rw [← hF]
        rw [hFd] at q
        cases e2 : t.put A (wipeE v own) d with
        | none => rw [lcF2_none e2] at q; exact q.elim
        | some v' =>
          rw [lcF2_some e2] at q
          refine ⟨d, A, wipeE v own, ρ, v', (er1.ext x12).wipe own, hr2, ry, e2, fun σ2 er2 hw => ⟨?_, ?_⟩⟩
          · rw [hw own ho, wipe_wipe fun _ h => h]
          · simp only [tYes, if_true]
            refine ⟨v', A, ρ, er2, hr2, ?_⟩
            cases e4 : evI pg C i1 v' A with
            | bad => simp only [R.bind, e4] at q; exact q.elim
            | exc c d A2 => simp only [R.bind, e4] at q; exact q.elim
            | ok it1 A4 =>
              simp only [R.bind, e4] at q
              intro H4 ρ4 x4 hr4 J1 hJ1
              have hd4 : H4 D0 = some (.lst ws) := x4.keep _ _ hd2 np
              have np4 : D0 ∉ ρ4 := x4.out hd2 np
              exact ⟨fun j k H => ∃ acc ws A ρ, Xs H4 ρ4 H ρ ∧ LcSt N K H1 ρ1 D0 H acc ws A ρ ∧ RG N K H1 ρ1 (match lcGo2 (lcF1 t1 own1 v' (fun v A => evE pg C e v A)) it1 k j acc A with | .ok acc' A' => lcGo2 F it m (i + 1) acc' A' | _ => .bad) (fun ys A' H' ρ' => HR N K H' ρ' A' → ∀ ws, H' D0 = some (.lst ws) → D0 ∉ ρ' → Rps K H' ρ' ys ws → Q (.ref D0) H') (fun _ _ _ => False),
                ⟨it1.size A4 + 1, acc, ws, A4, ρ4, Xs.of .refl, ⟨hr2.trans x12 x4, hr4, hd4, np4, Rps.ext x4 ra2⟩, q⟩,
                lc2_inner (Z := fun acc A => RG N K H1 ρ1 (lcGo2 F it m (i + 1) acc A) (fun ys A' H' ρ' => HR N K H' ρ' A' → ∀ ws, H' D0 = some (.lst ws) → D0 ∉ ρ' → Rps K H' ρ' ys ws → Q (.ref D0) H') (fun _ _ _ => False)) ho1 hD (er2.ext x4) hJ1
                  (fun acc ws A ρ H z l => ⟨acc, ws, A, ρ, l, z⟩) (fun r => RG N K H1 ρ1 (match r with | .ok acc' A' => lcGo2 F it m (i + 1) acc' A' | _ => .bad) (fun ys A' H' ρ' => HR N K H' ρ' A' → ∀ ws, H' D0 = some (.lst ws) → D0 ∉ ρ' → Rps K H' ρ' ys ws → Q (.ref D0) H') (fun _ _ _ => False)) (fun acc A z => z) (fun z => z.elim)⟩

/-! ### {k: e for t in i} -/
theorem dcF_none {t : T} {own : List Nat} {v : Env} {fk fe : Env → Hh → R D} {d : D} {A : Hh} (e : t.put A (wipeE v own) d = none) : dcF t own v fk fe d A = .bad := by unfold dcF; rw [e]
theorem dcF_some {t : T} {own : List Nat} {v v' : Env} {fk fe : Env → Hh → R D} {d : D} {A : Hh} (e : t.put A (wipeE v own) d = some v') : dcF t own v fk fe d A = (fk v' A).bind fun y A => match y with
    | .str s => (fe v' A).bind fun z A => .ok (s, z) A
    | _ => .bad := by unfold dcF; first | (rw [e]; done) | (rw [e]; rfl)
theorem dcGo_exc {f : D → Hh → R (S × D)} {it : Mini.It} : ∀ {m i : Nat} {acc : List (S × D)} {A : Hh} {c : Nat} {x : Option D} {A' : Hh}, dcGo f it m i acc A = .exc c x A' → False
  | 0, _, _, _, _, _, _, h => by cases h
  | m + 1, i, acc, A, c, x, A', h => by
    rw [dcGo] at h
    split at h
    · cases h
    · cases h
    · split at h
      · split at h
        · exact dcGo_exc h
        · cases h
      · cases h
theorem fin_dk {K : PySem.W.Frag} {H : Hp} {ρ : List Addr} {A : Hh} {D0 : Addr} {ys : List (S × D)} {xs : List (Key × V)} (h : HR N K H ρ A) (np : D0 ∉ ρ) (hD : H D0 = some (.dK xs)) (r : KRs K H ρ ys xs) :
    HR N K H (ρ ++ [D0]) (A ++ [.dk ys]) ∧ Rp K H (ρ ++ [D0]) (.ref A.length) (.ref D0) := by
  have e : upd H D0 (.dK xs) = H := by
    funext b
    by_cases c : b = D0
    · rw [c, upd_same, hD]
    · rw [upd_ne c]
  have z := h.place (u := .dK xs) (ob := .dk ys) np hD trivial ⟨xs, rfl, r⟩
  rw [e] at z
  exact z
theorem dc_ok {K : PySem.W.Frag} {own : List Nat} {t : T} {i : I} {k e : E} {σ : L2.St} {H : Hp} {Q : VK} (ho : ∀ j ∈ t.ixs, j ∈ own) (h : tE pg N C K W (.dc own t i k e) σ H Q) :
    tDc (tI pg N C K W i) (tG N K t) tYes (tE pg N C K WF k) (tE pg N C K WF e) own σ H Q := by
  obtain ⟨v, A, ρ, er, hr, q⟩ := h
  rw [evE] at q
  refine ⟨v, A, ρ, er, hr, q.rg.bind.imp fun it A1 H1 ρ1 hr1 x1 q1 J hJ D0 hD => ?_⟩
  have er1 := er.ext x1
  have np1 := hr1.fresh hD
  have q2 : RG N K H1 ρ1 (dcGo (dcF t own v (fun v A => evE pg C k v A) (fun v A => evE pg C e v A)) it (it.size A1 + 1) 0 [] A1) (fun ys A' H' ρ' => HR N K H' ρ' A' → ∀ ws, H' D0 = some (.dK ws) → D0 ∉ ρ' → KRs K H' ρ' ys ws → Q (.ref D0) H') (fun _ _ _ => False) := by
    cases e1 : dcGo (dcF t own v (fun v A => evE pg C k v A) (fun v A => evE pg C e v A)) it (it.size A1 + 1) 0 [] A1 with
    | bad => rw [e1] at q1; exact q1.elim
    | exc c d A2 => exact (dcGo_exc e1).elim
    | ok ys A2 =>
      rw [e1] at q1
      intro H2 ρ2 x2 hr2 _ ws hw np rw'
      obtain ⟨f1, f2⟩ := fin_dk hr2 np hw rw'
      exact q1 H2 _ (ext_place x2 hD) f1 _ f2
  refine ⟨fun i m H => ∃ acc ws A ρ, Ext H1 ρ1 H ρ ∧ HR N K H ρ A ∧ H D0 = some (.dK ws) ∧ D0 ∉ ρ ∧ KRs K H ρ acc ws ∧ RG N K H1 ρ1 (dcGo (dcF t own v (fun v A => evE pg C k v A) (fun v A => evE pg C e v A)) it m i acc A) (fun ys A' H' ρ' => HR N K H' ρ' A' → ∀ ws, H' D0 = some (.dK ws) → D0 ∉ ρ' → KRs K H' ρ' ys ws → Q (.ref D0) H') (fun _ _ _ => False),
    ⟨_, [], [], A1, ρ1, Ext.new hD, hr1.new hD, upd_same, np1, .nil, q2⟩, fun i m H ⟨acc, ws, A, ρ, x, hr, hd, np, ra, q⟩ => ?_⟩
  cases m with
  | zero => exact q.elim
  | succ m =>
    rw [dcGo] at q
    obtain ⟨j1, j2⟩ := hJ H ρ A i (Xs.of x) hr
    cases e1 : it.at A i with
    | none => rw [e1] at q; exact q.elim
    | some o =>
      rw [e1] at q
      cases o with
      | none => exact .inl ⟨j1 e1, q H ρ x hr hr ws hd np ra⟩
      | some d =>
        obtain ⟨g1, g2⟩ := j2 d e1
        refine .inr ⟨g1, fun H' => ∃ acc ws A ρ, Ext H1 ρ1 H' ρ ∧ HR N K H' ρ A ∧ H' D0 = some (.dK ws) ∧ D0 ∉ ρ ∧ KRs K H' ρ acc ws ∧ RG N K H1 ρ1 (dcGo (dcF t own v (fun v A => evE pg C k v A) (fun v A => evE pg C e v A)) it m (i + 1) acc A) (fun ys A' H' ρ' => HR N K H' ρ' A' → ∀ ws, H' D0 = some (.dK ws) → D0 ∉ ρ' → KRs K H' ρ' ys ws → Q (.ref D0) H') (fun _ _ _ => False),
          fun H' h => ⟨m, Nat.lt_succ_self m, h⟩, fun y H' hy => ?_⟩
        obtain ⟨x2, hr2, ry⟩ := g2 y H' hy
        have x12 : Ext H1 ρ1 H' ρ := by
          obtain ⟨e0, he0, hne⟩ := x.pre
          exact ⟨⟨e0, he0, hne⟩, fun a o h n => x2.keep a o (x.keep a o h n) (x.out h n)⟩
        have hd2 : H' D0 = some (.dK ws) := x2.keep _ _ hd np
        have ra2 := ra.ext x2
        dsimp only at q
        cases e2 : t.put A (wipeE v own) d with
        | none => rw [dcF_none e2] at q; exact q.elim
        | some v' =>
          rw [dcF_some e2] at q
          refine ⟨d, A, wipeE v own, ρ, v', (er1.ext x12).wipe own, hr2, ry, e2, fun σ2 er2 hw => ⟨?_, ?_⟩⟩
          · rw [hw own ho, wipe_wipe fun _ h => h]
          · simp only [tYes, if_true]
            refine ⟨v', A, ρ, er2, hr2, ?_⟩
            cases e3 : evE pg C k v' A with
            | bad => simp only [R.bind, e3] at q; exact q.elim
            | exc c d A2 => simp only [R.bind, e3] at q; exact q.elim
            | ok kk A2 =>
              simp only [R.bind, e3] at q
              cases kk with
              | str s =>
                simp only at q
                intro kv H3 ρ3 x3 hr3 rk
                cases rk
                refine ⟨v', A2, ρ3, er2.ext x3, hr3, ?_⟩
                cases e4 : evE pg C e v' A2 with
                | bad => simp only [R.bind, e4] at q; exact q.elim
                | exc c d A2 => simp only [R.bind, e4] at q; exact q.elim
                | ok z A4 =>
                  simp only [R.bind, e4] at q
                  intro zv H4 ρ4 x4 hr4 rz
                  by_cases hb : Nat.blt acc.length 1000000 = true
                  · rw [if_pos hb] at q
                    have hd3 : H3 D0 = some (.dK ws) := x3.keep _ _ hd2 np
                    have np3 : D0 ∉ ρ3 := x3.out hd2 np
                    have hd4 : H4 D0 = some (.dK ws) := x4.keep _ _ hd3 np3
                    have np4 : D0 ∉ ρ4 := x4.out hd3 np3
                    have ra4 := (ra2.ext x3).ext x4
                    have hl : acc.length = ws.length := pr_len ra
                    refine ⟨ws, Sum.inr (txt s), rfl, hd4, ?_, putD acc s z, putK ws (Sum.inr (txt s)) zv, A4, ρ4, (hr3.trans (hr2.trans x12 x3) x4).poke hD, hr4.poke np4 hd4 trivial, upd_same, np4, ?_, q⟩
                    · have := Nat.blt_eq.mp hb
                      rw [sizeLine_eq]
                      omega
                    · have pk : ∀ d v, Rp K H4 ρ4 d v → Rp K (upd H4 D0 (.dK (putK ws (Sum.inr (txt s)) zv))) ρ4 d v := fun d v r => r.poke np4 hd4 trivial
                      exact krs_put (pr_mono (fun _ _ z => ⟨z.1, pk _ _ z.2⟩) ra4) (pk _ _ rz)
                  · rw [if_neg hb] at q
                    exact q.elim
              | non => exact q.elim
              | bl _ => exact q.elim
              | int _ => exact q.elim
              | tup _ => exact q.elim
              | ref _ => exact q.elim
              | scr _ => exact q.elim
end
end Mini

set_option Elab.async false
set_option linter.all false
set_option maxRecDepth 100000
set_option maxHeartbeats 4000000
/-! Mini's statements. -/
namespace Mini
open PySem L2

def RF (N : Nm) (K : PySem.W.Frag) (H : Hp) (ρ : List Addr) (r : F) (D : Ends) (W : WX) : Prop :=
  match r with
  | .nx v A => ∀ σ' H' ρ', Ext H ρ H' ρ' → HR N K H' ρ' A → ER K H' ρ' v σ' → D.nx σ' H'
  | .rt d A => ∀ x H' ρ', Ext H ρ H' ρ' → HR N K H' ρ' A → Rp K H' ρ' d x → D.rt x H'
  | .exc c x v A => ∀ dd σ' H' ρ', Ext H ρ H' ρ' → HR N K H' ρ' A → ER K H' ρ' v σ' → ExR K H' ρ' x dd → W (.ref (N.er c)) dd σ' H'
  | .bad => False
section
variable (pg : Pg) (N : Nm) (C : Call) (K : PySem.W.Frag) (W : WX)
def tS (s : Mini.St) : TS := fun D σ H => ∃ v A ρ, ER K H ρ v σ ∧ HR N K H ρ A ∧ RF N K H ρ (evS pg C s v A) D W
def tSs (ss : List Mini.St) : TS := fun D σ H => ∃ v A ρ, ER K H ρ v σ ∧ HR N K H ρ A ∧ RF N K H ρ (evSs pg C ss v A) D W
end
section
variable {pg : Pg} {N : Nm} {C : Call} {K : PySem.W.Frag} {W : WX} {H H1 : Hp} {ρ ρ1 : List Addr} {A A1 : Hh} {v : Env} {σ : L2.St} {D : Ends}
theorem RF.up {r : F} (h1 : HR N K H1 ρ1 A1) (x : Ext H ρ H1 ρ1) (h : RF N K H ρ r D W) : RF N K H1 ρ1 r D W := by
  cases r with
  | nx v A => exact fun σ' H' ρ' y hr er => h σ' H' ρ' (h1.trans x y) hr er
  | rt d A => exact fun z H' ρ' y hr rp => h z H' ρ' (h1.trans x y) hr rp
  | exc c z v A => exact fun dd σ' H' ρ' y hr er ex => h dd σ' H' ρ' (h1.trans x y) hr er ex
  | bad => exact h
theorem RF.nx {v : Env} {A : Hh} {σ : L2.St} (h : RF N K H ρ (.nx v A) D W) (hr : HR N K H ρ A) (er : ER K H ρ v σ) : D.nx σ H := h σ H ρ .refl hr er
theorem RF.rt {d : Mini.D} {A : Hh} {x : V} (h : RF N K H ρ (.rt d A) D W) (hr : HR N K H ρ A) (rx : Rp K H ρ d x) : D.rt x H := h x H ρ .refl hr rx
/-- a statement's expression -/
theorem useS {e : E} {k : Mini.D → Hh → F} {Q' : VK} (er : ER K H ρ v σ) (hr : HR N K H ρ A) (q : RF N K H ρ ((evE pg C e v A).toF v k) D W)
    (f : ∀ d A' x H' ρ', ER K H' ρ' v σ → HR N K H' ρ' A' → Rp K H' ρ' d x → Ext H ρ H' ρ' → RF N K H' ρ' (k d A') D W → Q' x H') : tE pg N C K W e σ H Q' := by
  refine ⟨v, A, ρ, er, hr, ?_⟩
  cases e1 : evE pg C e v A with
  | ok d A1 => rw [e1] at q; exact fun x H' ρ' y hr' rx => f d A1 x H' ρ' (er.ext y) hr' rx y (RF.up hr' y q)
  | exc c z A1 => rw [e1] at q; exact fun dd H' ρ' y hr' ex => q dd σ H' ρ' y hr' (er.ext y) ex
  | bad => rw [e1] at q; exact q.elim
/-- .. a test -/
theorem useST {e : E} {k : Bool → Hh → F} {Q' : Bool → Hp → Prop} (er : ER K H ρ v σ) (hr : HR N K H ρ A) (q : RF N K H ρ (R.toFB v (evE pg C e v A) k) D W)
    (f : ∀ b A' H' ρ', ER K H' ρ' v σ → HR N K H' ρ' A' → Ext H ρ H' ρ' → RF N K H' ρ' (k b A') D W → Q' b H') : tT pg N C K W e σ H Q' := by
  refine ⟨v, A, ρ, er, hr, ?_⟩
  unfold R.toFB at q
  cases e1 : evE pg C e v A with
  | ok d A1 =>
    rw [e1] at q
    change RF N K H ρ (match truth A1 d with | some b => k b A1 | none => .bad) D W at q
    show RG N K H ρ (tru d A1) _ _
    unfold tru
    cases e2 : truth A1 d with
    | none => rw [e2] at q; exact q.elim
    | some b => rw [e2] at q; exact fun H' ρ' y hr' => f b A1 H' ρ' (er.ext y) hr' y (RF.up hr' y q)
  | exc c z A1 => rw [e1] at q; exact fun dd H' ρ' y hr' ex => q dd σ H' ρ' y hr' (er.ext y) ex
  | bad => rw [e1] at q; exact q.elim
end
section
variable {pg : Pg} {N : Nm} {C : Call} {W : WX} {X : Cx} {pos pos' p1 : Pos} {e a b : Expr} {ee ea eb : E} {x : Str} {i : Nat}
theorem ss_bad {st : List Stmt} : PSs X st (tSs pg N C X.K W [.bad]) := ⟨fun _ _ _ _ _ _ ⟨_, _, _, _, _, q⟩ => q.elim⟩
theorem s_bad {st : Stmt} : PS X st (tS pg N C X.K W .bad) := ⟨fun _ _ _ _ _ _ ⟨_, _, _, _, _, q⟩ => q.elim⟩
theorem s_pass : PS X (.Pass pos) (tS pg N C X.K W .pass) := PS.wk ps_pass fun D σ H ⟨v, A, ρ, er, hr, q⟩ => by rw [evS] at q; exact q.nx hr er
/-- name = value, of any rule for the store -/
theorem set_ok {te : TE} (hte : ∀ σ H Q, tE pg N C X.K W ee σ H Q → te σ H Q) (D : Ends) (σ : L2.St) (H : Hp) (h : tS pg N C X.K W (.set i ee) D σ H) : tAsg te (gName i) D σ H := by
  obtain ⟨v, A, ρ, er, hr, q⟩ := h
  rw [evS] at q
  exact hte σ H _ (useS er hr q fun d A1 y H1 ρ1 er1 hr1 ry x1 q1 => q1.nx hr1 (er1.set ry))
theorem s_set (hN : X.N.Nodup) (hi : X.N[i]? = some x) (hx : Loc X.env.scope x) (he : PE X e (tE pg N C X.K W ee)) (hs : swapsWith e (some (.Name x pos')) pos.line X.env = pure false) (hf : X.fn x = true ∨ X.env.scope.names.lookup x = some .local) :
    PS X (.Assign [.Name x pos'] e pos) (tS pg N C X.K W (.set i ee)) :=
  PS.wk (ps_set hN hi hx he hs hf) (set_ok fun _ _ _ h => h)
theorem s_asg {tg : Expr} {is : List Nat} (he : PE X e (tE pg N C X.K W ee)) (hg : PG X tg (tG N X.K (.many is))) (hs : swapsWithSole [tg] e pos.line X.env = pure false) (hw : swappedStores [tg] e X.env = pure none)
    (h1 : (assignEach [tg] X.env).map (·.2) = [assign tg X.env]) : PS X (.Assign [tg] e pos) (tS pg N C X.K W (.unp is ee)) :=
  PS.wk (ps_asg he hg hs hw h1) fun D σ H ⟨v, A, ρ, er, hr, q⟩ => by
    rw [evS] at q
    refine useS er hr q fun d A1 y H1 ρ1 er1 hr1 ry x1 q1 => ?_
    split at q1
    · rename_i ds
      split at q1
      · rename_i v' e1
        exact ⟨_, A1, v, ρ1, v', er1, hr1, ry, e1, fun σ' er' _ => q1.nx hr1 er'⟩
      · exact q1.elim
    · rename_i n
      split at q1
      · rename_i ds hn
        split at q1
        · rename_i v' e1
          exact ⟨_, A1, v, ρ1, v', er1, hr1, ry, by unfold T.put; simp only [hn]; exact e1, fun σ' er' _ => q1.nx hr1 er'⟩
        · exact q1.elim
      · exact q1.elim
    · exact q1.elim
theorem s_par {j : Nat} {y : Str} {px py pt : Pos} {kt k2 pt2} (hc : X.calm = true) (hN : X.N.Nodup) (hi : X.N[i]? = some x) (hj : X.N[j]? = some y) (hij : i ≠ j) (hx : X.env.scope.names.lookup x = some .local) (hy : X.env.scope.names.lookup y = some .local)
    (ha : PE X a (tE pg N C X.K W ea)) (hb : PE X b (tE pg N C X.K W eb)) (h1 : starEach [a, b] X.env = (false, eval a X.env) :: starEach [b] X.env) (h2 : starEach [b] X.env = (false, eval b X.env) :: starEach [] X.env)
    (hw : swappedStores [.Tuple [.Name x px, .Name y py] kt pt] (.Tuple [a, b] k2 pt2) X.env = pure (some [x, y]))
    (hs : swapsWithSole [.Tuple [.Name x px, .Name y py] kt pt] (.Tuple [a, b] k2 pt2) pos.line X.env = pure false) :
    PS X (.Assign [.Tuple [.Name x px, .Name y py] kt pt] (.Tuple [a, b] k2 pt2) pos) (tS pg N C X.K W (.par i j ea eb)) :=
  PS.wk (ps_par hc hN hi hj hij hx hy (pa_cons ha (pa_cons hb pa_nil h2) h1) hw hs) fun D σ H ⟨v, A, ρ, er, hr, q⟩ => by
    rw [evS] at q
    exact useS er hr q fun d A1 y H1 ρ1 er1 hr1 ry x1 q1 => useS er1 hr1 q1 fun d2 A2 z H2 ρ2 er2 hr2 rz x2 q2 => ⟨y, z, rfl, q2.nx hr2 ((er2.set (ry.ext x2)).set rz)⟩
theorem s_expr (he : PE X e (tE pg N C X.K W ee)) (hs : swapsWith e none pos.line X.env = pure false) : PS X (.Expr e pos) (tS pg N C X.K W (.expr ee)) :=
  PS.wk (ps_expr he hs) fun D σ H ⟨v, A, ρ, er, hr, q⟩ => by
    rw [evS] at q
    exact useS er hr q fun d A1 y H1 ρ1 er1 hr1 ry x1 q1 => q1.nx hr1 er1
theorem s_ret (he : PE X e (tE pg N C X.K W ee)) : PS X (.Return (some e) pos) (tS pg N C X.K W (.ret ee)) :=
  PS.wk (ps_ret he) fun D σ H ⟨v, A, ρ, er, hr, q⟩ => by
    rw [evS] at q
    exact useS er hr q fun d A1 y H1 ρ1 er1 hr1 ry x1 q1 => q1.rt hr1 ry
theorem s_retN : PS X (.Return none pos) (tS pg N C X.K W .retN) := PS.wk ps_retN fun D σ H ⟨v, A, ρ, er, hr, q⟩ => by rw [evS] at q; exact q.rt hr rfl
theorem s_if {c : Expr} {ec : E} {p q : List Stmt} {sa sb : List Mini.St} (hc : PT X c (tT pg N C X.K W ec)) (ha : PSs X p (tSs pg N C X.K W sa)) (hb : PSs X q (tSs pg N C X.K W sb)) : PS X (.If c p q pos) (tS pg N C X.K W (.ife ec sa sb)) :=
  PS.wk (ps_if hc ha hb) fun D σ H ⟨v, A, ρ, er, hr, q⟩ => by
    rw [evS] at q
    refine useST er hr q fun k A1 H1 ρ1 er1 hr1 x1 q1 => ?_
    cases k with
    | true => rw [if_pos rfl] at q1 ⊢; exact ⟨v, A1, ρ1, er1, hr1, q1⟩
    | false => rw [if_neg (by decide)] at q1 ⊢; exact ⟨v, A1, ρ1, er1, hr1, q1⟩
theorem ss_nil : PSs X [] (tSs pg N C X.K W []) := PSs.wk pss_nil fun D σ H ⟨v, A, ρ, er, hr, q⟩ => by rw [evSs] at q; exact q.nx hr er
theorem ss_cons {st : Stmt} {r : List Stmt} {s : Mini.St} {ss : List Mini.St} (h1 : PS X st (tS pg N C X.K W s)) (h2 : PSs X r (tSs pg N C X.K W ss)) : PSs X (st :: r) (tSs pg N C X.K W (s :: ss)) :=
  PSs.wk (pss_cons h1 h2) fun D σ H ⟨v, A, ρ, er, hr, q⟩ => by
    rw [evSs] at q
    refine ⟨v, A, ρ, er, hr, ?_⟩
    cases e1 : evS pg C s v A with
    | nx v' A' => rw [e1] at q; exact fun σ' H' ρ' y hr' er' => ⟨v', A', ρ', er', hr', RF.up hr' y q⟩
    | rt d A' => rw [e1] at q; exact q
    | exc c z v' A' => rw [e1] at q; exact q
    | bad => rw [e1] at q; exact q.elim

/-! ### fields -/
theorem s_fld {f : Nat} (G : ClsG N X.K f) (ha : PE X a (tE pg N C X.K W ea)) (he : PE X e (tE pg N C X.K W ee)) (hs : swapsWith e (some (.Attribute a (N.fl f) pos')) pos.line X.env = pure false) : PS X (.Assign [.Attribute a (N.fl f) pos'] e pos) (tS pg N C X.K W (.sfld ea f ee)) :=
  PS.wk (ps_fld ha he hs) fun D σ H ⟨v, A, ρ, er, hr, q⟩ => by
    rw [evS] at q
    refine useS er hr q fun d A1 y H1 ρ1 er1 hr1 ry x1 q1 => useS er1 hr1 q1 fun d2 A2 z H2 ρ2 er2 hr2 rz x2 q2 => ?_
    split at q2 <;> try exact q2.elim
    split at q2 <;> try exact q2.elim
    split at q2 <;> try exact q2.elim
    rename_i n c fs hn hl
    obtain ⟨o, dx, ws, rfl, ho, ha, r, hc⟩ := hr2.ins rz hn
    have hlen : fs.length = ws.length := pr_len r
    refine ⟨o, N.cl c, dx, ws, rfl, ha, G.cl c hc, G.no c hc, ?_, ?_⟩
    · have := Nat.blt_eq.mp hl
      omega
    · exact q2 _ _ ρ2 (Ext.write (List.mem_of_getElem? ho)) (hr2.write ho ⟨hc, dx, _, rfl, frs_put r (ry.ext x2)⟩) (er2.ext (Ext.write (List.mem_of_getElem? ho)))
theorem s_augF {f : Nat} (G : ClsG N X.K f) (ha : PE X a (tE pg N C X.K W ea)) (he : PE X e (tE pg N C X.K W ee)) : PS X (.AugAssign (.Attribute a (N.fl f) pos') .Add e pos) (tS pg N C X.K W (.augF ea f ee)) :=
  PS.wk (ps_fldaug ha he in_add) fun D σ H ⟨v, A, ρ, er, hr, q⟩ => by
    rw [evS] at q
    refine useS er hr q fun d A1 y H1 ρ1 er1 hr1 ry x1 q1 => ?_
    split at q1 <;> try exact q1.elim
    split at q1 <;> try exact q1.elim
    split at q1 <;> try exact q1.elim
    rename_i n _ c0 fs hn _ i hi
    obtain ⟨o, dx, ws, rfl, ho, ha, r, hc⟩ := hr1.ins ry hn
    obtain ⟨w, hw, rw'⟩ := frs_get r hi
    cases rw'
    refine ⟨o, N.cl c0, dx, ws, .int i, rfl, ha, G.cl c0 hc, G.no c0 hc, hw, useS er1 hr1 q1 fun d2 A2 z H2 ρ2 er2 hr2 rz x2 q2 => ?_⟩
    split at q2 <;> try exact q2.elim
    split at q2 <;> try exact q2.elim
    split at q2 <;> try exact q2.elim
    rename_i l _ c fs2 hn2 hl
    simp only [Bool.and_eq_true, decide_eq_true_eq] at hl
    obtain ⟨hcc, hl⟩ := hl
    cases rz
    have ry2 := ry.ext x2
    obtain ⟨o2, dx2, ws2, eo, ho2, ha2, r2, hc2⟩ := hr2.ins ry2 hn2
    cases eo
    subst hcc
    have hlen : fs2.length = ws2.length := pr_len r2
    refine ⟨i, l, rfl, rfl, dx2, ws2, ha2, ?_, ?_⟩
    · have := Nat.blt_eq.mp hl
      omega
    · exact q2 _ _ ρ2 (Ext.write (List.mem_of_getElem? ho2)) (hr2.write ho2 ⟨hc2, dx2, _, rfl, frs_put r2 rfl⟩) (er2.ext (Ext.write (List.mem_of_getElem? ho2)))
end
end Mini

set_option Elab.async false
set_option linter.all false
set_option maxRecDepth 100000
set_option maxHeartbeats 4000000
/-! Mini's statements: places of lists and dicts, loops, errors. -/
namespace Mini
open PySem L2 PySem.Spec PyProof.Rows
section
variable {pg : Pg} {N : Nm} {C : Call} {W : WX} {X : Cx} {pos pos' p1 p2 p3 : Pos} {e a b : Expr} {ee ea eb : E} {x : Str} {i : Nat}
/-! ### a[b] = e -/
theorem PSet.or {t t' : TSet} (h : PSet X t) (h' : PSet X t') : PSet X (fun o i v H Q => t o i v H Q ∨ t' o i v H Q) := fun pins s σ H o i v ov iv u Q I r1 r2 r3 q =>
  q.elim (fun q => h pins s σ H o i v ov iv u Q I r1 r2 r3 q) fun q => h' pins s σ H o i v ov iv u Q I r1 r2 r3 q
theorem s_sub (hu : X.A.units + 1 < cLine) (ha : PE X a (tE pg N C X.K W ea)) (hb : PE X b (tE pg N C X.K W eb)) (he : PE X e (tE pg N C X.K W ee))
    (hasg : ∀ v, assign (.Subscript a b pos') X.env v = (do
      let ov ← holding [v] (eval a X.env)
      let iv ← holding [v, ov] (eval b X.env)
      standAt pos'
      holding [v, ov, iv] (setItem ov iv v)
      release [v, ov, iv] []))
    (hs : swapsWithSole [.Subscript a b pos'] e pos.line X.env = pure false) (hw : swappedStores [.Subscript a b pos'] e X.env = pure none) (h1 : (assignEach [.Subscript a b pos'] X.env).map (·.2) = [assign (.Subscript a b pos') X.env]) :
    PS X (.Assign [.Subscript a b pos'] e pos) (tS pg N C X.K W (.ssub ea eb ee)) :=
  PS.wk (ps_asg he (pg_sub ha hb (PSet.or set_list (set_dict hu)) hasg) hs hw h1) fun D σ H ⟨v, A, ρ, er, hr, q⟩ => by
    rw [evS] at q
    refine useS er hr q fun d A1 y H1 ρ1 er1 hr1 ry x1 q1 => useS er1 hr1 q1 fun d2 A2 o H2 ρ2 er2 hr2 ro x2 q2 => useS er2 hr2 q2 fun d3 A3 k H3 ρ3 er3 hr3 rk x3 q3 => ?_
    have ry3 := (ry.ext x2).ext x3
    have ro3 := ro.ext x3
    split at q3
    · rename_i n k
      cases rk
      split at q3 <;> try exact q3.elim
      rename_i ds hn
      split at q3 <;> try exact q3.elim
      rename_i j hj
      obtain ⟨p, ws, rfl, hp, hH, r⟩ := hr3.lst ro3 hn
      have hl := rps_len r
      refine .inl ⟨p, ws, k, j, rfl, rfl, hH, ?_, ?_⟩
      · rw [← hl]; exact hj
      · exact q3 _ _ ρ3 (Ext.write (List.mem_of_getElem? hp)) (hr3.write hp (ho_lst (rps_iff.mpr (pr_set ry3 j (rps_iff.mp r))))) (er3.ext (Ext.write (List.mem_of_getElem? hp)))
    · rename_i n k
      cases rk
      split at q3 <;> try exact q3.elim
      rename_i kvs hn
      split at q3 <;> try exact q3.elim
      rename_i hb
      obtain ⟨p, ws, rfl, hp, hH, r⟩ := hr3.dk ro3 hn
      have hl : kvs.length = ws.length := pr_len r
      refine .inr ⟨p, _, rfl, DPut.k (k := Sum.inr (txt k)) hH ?_, ?_⟩
      · have := Nat.blt_eq.mp hb
        rw [sizeLine_eq]
        omega
      · exact q3 _ _ ρ3 (Ext.write (List.mem_of_getElem? hp)) (hr3.write hp ⟨_, rfl, krs_put r ry3⟩) (er3.ext (Ext.write (List.mem_of_getElem? hp)))
    · rename_i n ks
      split at q3
      · rename_i kvs k hn _
        obtain ⟨p, rfl, hp⟩ := ro3.ref
        obtain ⟨u, _, z⟩ := hr3.look hp hn
        exact z.elim
      · exact q3.elim
    · exact q3.elim
/-! ### name += e -/
theorem s_aug (hN : X.N.Nodup) (hi : X.N[i]? = some x) (hx : Loc X.env.scope x) (he : PE X e (tE pg N C X.K W ee)) (hf : X.fn x = true ∨ X.env.scope.names.lookup x = some .local) : PS X (.AugAssign (.Name x pos') .Add e pos) (tS pg N C X.K W (.aug i .add ee)) :=
  PS.wk (ps_aug hN hi hx he ip_add hf) fun D σ H ⟨v, A, ρ, er, hr, q⟩ => by
    rw [evS] at q
    split at q <;> try exact q.elim
    rename_i d hd
    obtain ⟨y, h1, ry⟩ := er.2 i d hd
    refine ⟨y, h1, useS er hr q fun d2 A2 z H2 ρ2 er2 hr2 rz x2 q2 => ?_⟩
    split at q2 <;> try exact q2.elim
    rename_i k l _
    cases rz
    cases ry
    exact ⟨k, l, rfl, rfl, RF.nx q2 hr2 (er2.set rfl)⟩
/-! ### for -/
theorem s_for {tg it : Expr} {t : T} {ii : I} {body : List Stmt} {sb : List Mini.St} (hp : PassesOwn (model X.prog X.w) X.A X.env X.xe) (hc : X.calm = true) (hi : PI X tg it (tI pg N C X.K W ii)) (hg : PG X tg (tG N X.K t)) (hb : PSs X body (tSs pg N C X.K W sb))
    (hs : ∀ x, foldedSetIterable it X.env x = pure x) : PS X (.For tg it body [] pos) (tS pg N C X.K W (.for_ t ii sb)) :=
  PS.wk (ps_for hp hc hi hg hb hs) fun D σ H ⟨v, A, ρ, er, hr, q⟩ => by
    rw [evS] at q
    refine ⟨v, A, ρ, er, hr, ?_⟩
    cases e1 : evI pg C ii v A with
    | bad => rw [e1] at q; exact q.elim
    | exc c z A1 => rw [e1] at q; exact fun dd H' ρ' y hr' ex => q dd σ H' ρ' y hr' (er.ext y) ex
    | ok it A1 =>
      rw [e1] at q
      intro H1 ρ1 x1 hr1 J hJ
      have q1 := RF.up hr1 x1 q
      refine ⟨fun i m σ H => ∃ v A ρ, Ext H1 ρ1 H ρ ∧ HR N X.K H ρ A ∧ ER X.K H ρ v σ ∧ RF N X.K H1 ρ1 (forGo t (fun v A => evSs pg C sb v A) it m i v A) D W, ⟨_, v, A1, ρ1, .refl, hr1, er.ext x1, q1⟩, fun i m σ2 H2 ⟨v2, A2, ρ2, x2, hr2, er2, q2⟩ => ?_⟩
      cases m with
      | zero => exact q2.elim
      | succ m =>
        rw [forGo] at q2
        obtain ⟨j1, j2⟩ := hJ H2 ρ2 A2 i (Xs.of x2) hr2
        cases e2 : it.at A2 i with
        | none => rw [e2] at q2; exact q2.elim
        | some o =>
          rw [e2] at q2
          cases o with
          | none => exact .inl ⟨j1 e2, q2 σ2 H2 ρ2 x2 hr2 er2⟩
          | some d =>
            obtain ⟨g1, g2⟩ := j2 d e2
            dsimp only at q2
            refine .inr ⟨g1, fun σ H => ∃ v A ρ, Ext H1 ρ1 H ρ ∧ HR N X.K H ρ A ∧ ER X.K H ρ v σ ∧ RF N X.K H1 ρ1 (forGo t (fun v A => evSs pg C sb v A) it m (i + 1) v A) D W, fun σ' H' h => ⟨m, Nat.lt_succ_self m, h⟩, fun y H' hy => ?_⟩
            obtain ⟨x3, hr3, ry⟩ := g2 y H' hy
            have x13 : Ext H1 ρ1 H' ρ2 := hr2.trans x2 x3
            cases e3 : t.put A2 v2 d with
            | none => rw [e3] at q2; exact q2.elim
            | some v' =>
              rw [e3] at q2
              dsimp only at q2
              refine ⟨d, A2, v2, ρ2, v', er2.ext x3, hr3, ry, e3, fun σ' er' _ => ⟨v', A2, ρ2, er', hr3, ?_⟩⟩
              cases e4 : evSs pg C sb v' A2 with
              | bad => rw [e4] at q2; exact q2.elim
              | nx v3 A3 => rw [e4] at q2; exact fun σ3 H3 ρ3 x4 hr4 er4 => ⟨v3, A3, ρ3, hr3.trans x13 x4, hr4, er4, q2⟩
              | rt d3 A3 => rw [e4] at q2; exact fun z H3 ρ3 x4 hr4 rz => q2 z H3 ρ3 (hr3.trans x13 x4) hr4 rz
              | exc c z v3 A3 => rw [e4] at q2; exact fun dd σ3 H3 ρ3 x4 hr4 er4 ex => q2 dd σ3 H3 ρ3 (hr3.trans x13 x4) hr4 er4 ex
/-! ### while -/
theorem s_while {c : Expr} {ec : E} {body : List Stmt} {sb : List Mini.St} (hp : PassesOwn (model X.prog X.w) X.A X.env X.xe) (hc : PT X c (tT pg N C X.K W ec)) (hb : PSs X body (tSs pg N C X.K W sb)) : PS X (.While c body [] pos) (tS pg N C X.K W (.while_ ec sb)) :=
  PS.wk (ps_while hp hc hb) fun D σ H ⟨v, A, ρ, er, hr, q⟩ => by
    rw [evS] at q
    refine ⟨fun m σ1 H1 => ∃ v A ρ1, Ext H ρ H1 ρ1 ∧ HR N X.K H1 ρ1 A ∧ ER X.K H1 ρ1 v σ1 ∧ RF N X.K H ρ (whileGo (evE pg C ec) (fun v A => evSs pg C sb v A) m v A) D W, ⟨_, v, A, ρ, .refl, hr, er, q⟩, fun m σ1 H1 ⟨v1, A1, ρ1, x1, hr1, er1, q1⟩ => ?_⟩
    cases m with
    | zero => exact q1.elim
    | succ m =>
      rw [whileGo] at q1
      refine ⟨v1, A1, ρ1, er1, hr1, ?_⟩
      cases e2 : evE pg C ec v1 A1 with
      | bad => simp only [e2, R.toFB, R.toF] at q1; exact q1.elim
      | exc c z A2 => simp only [e2, R.toFB, R.toF] at q1; exact fun dd H2 ρ2 x2 hr2 ex => q1 dd σ1 H2 ρ2 (hr1.trans x1 x2) hr2 (er1.ext x2) ex
      | ok d A2 =>
        simp only [e2, R.toFB, R.toF] at q1
        show RG N X.K H1 ρ1 (tru d A2) _ _
        unfold tru
        cases e3 : truth A2 d with
        | none => rw [e3] at q1; exact q1.elim
        | some b =>
          rw [e3] at q1
          dsimp only at q1
          intro H2 ρ2 x2 hr2
          have er2 := er1.ext x2
          have x12 := hr1.trans x1 x2
          cases b with
          | false =>
            show if _ then _ else _
            rw [if_neg (by decide)]
            exact q1 σ1 H2 ρ2 x12 hr2 er2
          | true =>
            show if _ then _ else _
            rw [if_pos rfl]
            rw [if_pos rfl] at q1
            refine ⟨fun σ1 H1 => ∃ v A ρ1, Ext H ρ H1 ρ1 ∧ HR N X.K H1 ρ1 A ∧ ER X.K H1 ρ1 v σ1 ∧ RF N X.K H ρ (whileGo (evE pg C ec) (fun v A => evSs pg C sb v A) m v A) D W, fun σ' H' h => ⟨m, Nat.lt_succ_self m, h⟩, ⟨v1, A2, ρ2, er2, hr2, ?_⟩⟩
            cases e4 : evSs pg C sb v1 A2 with
            | bad => rw [e4] at q1; exact q1.elim
            | nx v3 A3 => rw [e4] at q1; exact fun σ3 H3 ρ3 x4 hr4 er4 => ⟨v3, A3, ρ3, hr2.trans x12 x4, hr4, er4, q1⟩
            | rt d3 A3 => rw [e4] at q1; exact fun z H3 ρ3 x4 hr4 rz => q1 z H3 ρ3 (hr2.trans x12 x4) hr4 rz
            | exc c z v3 A3 => rw [e4] at q1; exact fun dd σ3 H3 ρ3 x4 hr4 er4 ex => q1 dd σ3 H3 ρ3 (hr2.trans x12 x4) hr4 er4 ex
/-! ### raise C() -/
theorem pmk_own0 {Cc : Addr} {bmB : List Value} {B newId initId : String} {p : Pos} (F : ExcBaseFacts B newId initId bmB) (q : PySem.W.excIn X.K Cc bmB newId = true) (gC : X.mg x = some (.ref Cc)) (kC : PySem.W.keepIn X.K (.ref Cc) = true) (r : Raises X (.ref Cc)) (hg : Gl X x) (hdb : (x == ("__debug__" : Str)) = false) :
    PMk X (.Call (.Name x p) [] [] pos) (fun σ H Q => Q (.ref Cc) none H) := by
  intro pins s σ H Q I h
  refine wpAny_Call_Name_kw (ld_glob I hg gC ?_ hdb)
  refine PySem.W.callWith_K0 I.kIn kC ?_
  show wpAny _ _ (call (.ref Cc) []) _ _ _
  obtain ⟨bm, N, nm, qn, bs, hdct, sn, sub, ab, col, dd, k0, k1, k2, k3, k5, mN, hC, hN, hni, T⟩ := exc_obj I.kIn q
  refine wpAny_call_exc_subT F T hC hN hni (fun h' e hm => ?_) (by show 0 ≤ sizeLine; omega)
  exact mk_of I hm r h (I.hok.gone hm.new)
theorem s_raise0 {c : Nat} {bmB : List Value} {B newId initId : String} {p : Pos} (hc : X.calm = true) (tk : Takes X W) (F : ExcBaseFacts B newId initId bmB) (q : PySem.W.excIn X.K (N.er c) bmB newId = true) (gC : X.mg x = some (.ref (N.er c))) (kC : PySem.W.keepIn X.K (.ref (N.er c)) = true)
    (r : Raises X (.ref (N.er c))) (hg : Gl X x) (hdb : (x == ("__debug__" : Str)) = false) : PS X (.Raise (some (.Call (.Name x p) [] [] pos)) none pos') (tS pg N C X.K W (.raise_ c none)) :=
  PS.wk (ps_raise hc tk (pmk_own0 F q gC kC r hg hdb)) fun D σ H ⟨v, A, ρ, er, hr, q⟩ => by
    rw [evS] at q
    exact q none σ H ρ .refl hr er rfl
/-! ### try .. except X: name = constant -/
/-- clauses that take no name, each one store of a constant -/
def simpleH (hs : List (Nat × Option Nat × Hk)) : Option (List (Nat × Nat × Mini.D)) :=
  match hs with
  | [] => some []
  | (k, none, .con i d) :: r => (simpleH r).map ((k, i, d) :: ·)
  | _ :: _ => none
structure TryG (pg : Pg) (N : Nm) (K : PySem.W.Frag) : Prop where
  ex : ∀ c k, c < pg.sup.length → k < pg.sup.length → PySem.W.exmOne K (.ref (N.er c)) (.ref (N.er k)) = some (((pg.sup[c]?).getD []).contains k)
def hdl (pg : Pg) (N : Nm) (C : Call) (K : PySem.W.Frag) (l : List (Nat × Nat × Mini.D)) : List (Value × (Addr → Value → Option Addr → TS)) := l.map fun q => (.ref (N.er q.1), fun _ _ _ => tSs pg N C K WF [.set q.2.1 (.con q.2.2)])
theorem many_ok {K : PySem.W.Frag} (G : TryG pg N K) {D : Ends} {c : Nat} {z : Option Mini.D} {v : Env} {A : Hh} {H : Hp} {ρ : List Addr} {dd : Option Addr} {σ : L2.St} {Wout : WX} (hcl : c < pg.sup.length) (hr : HR N K H ρ A) (er : ER K H ρ v σ) (ex : ExR K H ρ z dd) :
    ∀ {hs : List (Nat × Option Nat × Hk)} {l : List (Nat × Nat × Mini.D)}, simpleH hs = some l → (∀ q ∈ l, q.1 < pg.sup.length) →
      RF N K H ρ (match clause pg c hs with | none => .exc c z v A | some (n, h) => (match suite n h z v with | some v'' => .nx v'' A | none => .bad)) D Wout → wMany K Wout D (hdl pg N C K l) (.ref (N.er c)) dd σ H
  | [], l, e, _, q => by
    cases e
    exact q dd σ H ρ .refl hr er ex
  | (k, n, h) :: r, l, e, hl, q => by
    cases n with
    | some _ => cases e
    | none =>
      cases h with
      | line _ _ => cases e
      | con i d =>
        rw [simpleH] at e
        obtain ⟨l', e', rfl⟩ := Option.map_eq_some_iff.mp e
        refine ⟨_, G.ex c k hcl (hl _ List.mem_cons_self), fun hb a ha => ?_, fun hb => ?_⟩
        · rw [clause, if_pos hb] at q
          refine ⟨v, A, ρ, er, hr, ?_⟩
          have e2 : evSs pg C [.set i (.con d)] v A = .nx (v.set i (some d)) A := by simp only [evSs, evS, evE, R.toF]
          rw [e2]
          exact q
        · rw [clause, if_neg (by rw [hb]; decide)] at q
          exact many_ok G hcl hr er ex e' (fun q hq => hl q (List.mem_cons_of_mem _ hq)) q
theorem s_try {body : List Stmt} {sb : List Mini.St} {h₀ : ExceptHandler} {hds : List ExceptHandler} {hs : List (Nat × Option Nat × Hk)} {l : List (Nat × Nat × Mini.D)} (G : TryG pg N X.K) (hst : X.stack = X.env :: X.outer) (hf : X.env.frame = some X.env.locals) (tk : Takes X W)
    (hb : ∀ (W : WX) (pn : List (Addr × Obj)) (xe : Value → Shared → Prop), Takes (X.tr pn xe) W → PassesOwn (model X.prog X.w) X.A X.env xe → PSs (X.tr pn xe) body (tSs pg N C X.K W sb))
    (hl : simpleH hs = some l) (hk : ∀ q ∈ l, q.1 < pg.sup.length) (hh : HdsOk X (h₀ :: hds) (hdl pg N C X.K l)) : PS X (.Try body (h₀ :: hds) [] [] pos) (tS pg N C X.K W (.try_ sb hs)) :=
  PS.wk (ps_try_many (tb := fun W => tSs pg N C X.K W sb) hst hf tk hb hh) fun D σ H ⟨v, A, ρ, er, hr, q⟩ => by
    rw [evS] at q
    refine ⟨v, A, ρ, er, hr, ?_⟩
    cases e1 : evSs pg C sb v A with
    | bad => rw [e1] at q; exact q.elim
    | nx v3 A3 => rw [e1] at q; exact q
    | rt d3 A3 => rw [e1] at q; exact q
    | exc c z v3 A3 =>
      rw [e1] at q
      intro dd σ' H' ρ' x1 hr1 er1 ex
      dsimp only at q
      split at q
      · rename_i hcl
        exact many_ok G (Nat.blt_eq.mp hcl) hr1 er1 ex hl hk (RF.up hr1 x1 q)
      · exact q.elim
end
end Mini

set_option Elab.async false
set_option linter.all false
set_option maxRecDepth 100000
set_option maxHeartbeats 4000000
/-! An own error with a field of its own (after a worked proof of the kit, turned to this program's class). -/
namespace PySem
namespace LowX
open PySem.W PySem.Calls PyProof.Rows PySem.HandSPX
/-! ### the text of __init__ -/
def iA (p1 p2 : Pos) : Arguments := { posonlyargs := [], args := [{ arg := "self", annotation := none, pos := p1 }, { arg := "line", annotation := none, pos := p2 }], vararg := none, kwonlyargs := [], kw_defaults := [], kwarg := none, defaults := [] }
def iB (q1 q2 q3 q4 : Pos) : List Stmt := [.Assign [.Attribute (.Name "self" q1) "line" q2] (.Name "line" q3) q4]
def iS : Scope := { kind := .function, names := [(PySem.Str.ofString "self", .local), (PySem.Str.ofString "line", .local)], isGenerator := false, isCoroutine := false, more := [] }
/-- what the written part says of Low, at C, and of its __init__, at fI -/
structure LowTxt (K : Frag) (mg : Str → Option Value) (C fI : Addr) : Prop where
  gC : mg "BadLine" = some (.ref C)
  cls : ∃ nm q N bs bm sn sub ab col dd k0 k1 k2 k3 k5, K.lookup C = some (excClassObj nm q C N bs bm true sn sub ab col dd k0 k1 k2 k3 k5 "ValueError.__new__") ∧ refsVE bm = true
  sa : findIn K (.ref C) "__setattr__" = some (some (.builtin "object.__setattr__"))
  ga : findIn K (.ref C) "__getattribute__" = some (some (.builtin "BaseException.__getattribute__"))
  gg : findIn K (.ref C) "__getattr__" = some none
  noN : findIn K (.ref C) "line" = some none
  iC : findIn K (.ref C) "__init__" = some (some (.ref fI))
  tC : typeIn K (.ref fI) = some (.type "function")
  kC : keepIn K (.ref C) = true
  exC : subIn K (.ref C) (.type "BaseException") = some true
  tyC : typeIn K (.ref C) = some (.type "type")
  hdC : hasDictIn K C = true
  te : exmOne K (.ref C) (.ref C) = some true
  fn : ∃ (oc : Value) (od : Option Addr) (doc pm : Value) (an : Option Addr) (cdv ct : Value) (osl : Array (Option Value)) (p1 p2 q1 q2 q3 q4 : Pos),
    K.lookup fI = some ⟨oc, od, .func (fnOf "__init__" "BadLine.__init__" (iA p1 p2) (iB q1 q2 q3 q4) iS .none .none doc pm an cdv ct), osl⟩ ∧ codeIn K cdv "BadLine.__init__" = true
theorem one_size (v : Value) : [v].length ≤ sizeLine := by
  rw [sizeLine_eq]
  exact (by decide : 1 ≤ 16777216)
theorem kept_but {K : Frag} {h h' : Heap} {x : Addr} (X : K.In h) (hx : K.lookup x = none) (k : ∀ b o, b ≠ x → h.get? b = some o → h'.get? b = some o) : K.In h' := fun a o e =>
  k a o (fun z => by rw [z, hx] at e; cases e) (X a o e)
theorem ldC {M : Model} {s : Shared} {name : Str} {scope : Scope} {L a : Addr} {cd : Value} {m : Str → Option Value} {x : Str} {pos : Pos} {v : Value} {Q : Value → Shared → Prop} {A : Around} {E : Value → Shared → Prop} (hn : s.heap.Ns L m) (hv : m x = some v) (h : Q v s)
    (hk : scope.kind = .function := by rfl) (hl : (envOfC name scope L a cd).kindOf x = some .local := by rfl) (hd : (x == ("__debug__" : Str)) = false := by decide) :
    wpAny M A (eval (.Name x pos) (envOfC name scope L a cd)) Q E s := wpAny_Name (wpAny_loadName_local hk hl hn hv h) hd
/-- what __init__ leaves of a fresh exception at x -/
structure InitEnd (h h' : Heap) (x C dx t1 : Addr) (v : Value) : Prop where
  keep : ∀ b o, b ≠ x → h.get? b = some o → h'.get? b = some o
  obj : h'.get? x = some { cls := .ref C, dict := some dx, data := .fields #[.ref t1, .none, .none, .none, .bool false, .none] }
  dbig : h.objs.size ≤ dx
  dne : dx ≠ x
  ns : h'.Ns1 dx (fun y => if y = "line" then some v else none)
/-- a made Low -/
structure OwnMade (h h' : Heap) (e C d : Addr) (v : Value) : Prop where
  keep : ∀ b o, h.get? b = some o → h'.get? b = some o
  new : h.objs.size ≤ e
  obj : ∃ oe vs, h'.get? e = some oe ∧ oe.cls = .ref C ∧ oe.dict = some d ∧ oe.data = .fields vs ∧ vs[1]? = some .none
  dbig : h.objs.size ≤ d
  dne : d ≠ e
  ns : h'.Ns1 d (fun y => if y = "line" then some v else none)
section
variable {prog : Program} {w : World} {A : Around} {E : Value → Shared → Prop} {R : Result → Shared → Prop} {s : Shared} {K : Frag} {mg : Str → Option Value} {C fI : Addr}
theorem low_init (T : LowTxt K mg C fI) {x t0 : Addr} {v : Value} (X : K.In s.heap) (hlim : s.heap.NoLimit) (hx : s.heap.get? x = some (excO C t0)) (hnx : K.lookup x = none) (hroom : A.depth < recursionLimit)
    (hq : ∀ h' tk dx, InitEnd s.heap h' x C dx t0 v → R (.ok (.ret .none)) { s with heap := h', toks := tk }) :
    codeAny (model prog w) A (.call (.ref fI) ⟨[.ref x, v], []⟩) R s := by
  obtain ⟨oc, od, doc, pm, an, cdv, ct, osl, p1, p2, q1, q2, q3, q4, ho, hcd⟩ := T.fn
  obtain ⟨nm, q, N, bs, bm, sn, sub, ab, col, dd, k0, k1, k2, k3, k5, hC, hbm⟩ := T.cls
  have hcl : clsIn K C = some { name := nm, bases := bs, mro := .ref C :: bm, ns := N, qualname := q, hasDict := true, slotNames := sn, subclasses := sub, abstract := ab, collection := col, hasDel := false } := by unfold clsIn; rw [hC] <;> rfl
  refine Att.call_fn (binds := [("self", .ref x), ("line", v)]) X hlim ho hcd hroom (BindsTo.of_eq (by first | rfl | with_unfolding_all rfl)) (by first | rfl | decide | with_unfolding_all rfl) (fun s₁ IC => ?_) rfl rfl rfl
  obtain ⟨h₁, tk₁, rfl⟩ := IC.toInCall.same
  have k : ∀ b o, s.heap.get? b = some o → h₁.get? b = some o := IC.toInCall.keep
  have hn := IC.toInCall.ns
  have hxL : s.heap.objs.size ≠ x := Nat.ne_of_gt (Heap.lt_size hx)
  have X₁ : K.In h₁ := X.keeps k
  have hx₁ := k _ _ hx
  -- self.by = by
  show wpAny _ _ (execs _ _) _ _ _
  refine wpAny_execs_cons (plainObj_wpAny_Assign_Attribute ?_)
  refine ldC (v := v) hn (by first | rfl | with_unfolding_all rfl | kernel_rfl) (ldC (v := .ref x) hn (by first | rfl | with_unfolding_all rfl | kernel_rfl) ?_)
  refine set_plain X₁ (ox := excO C t0) (od := none) ⟨hx₁, rfl, rfl, trivial⟩ T.sa ?_
  refine exc_osa X₁ hx₁ hcl (show refsVE (.ref C :: bm) = true from hbm) rfl T.noN (fun h₃ tk₃ dx k₃ dn dne hx₃ hn₃ => ?_)
  show wpAny _ _ (execs _ _) _ _ _
  have z : s.heap.objs.size < h₁.objs.size := hn.lt
  exact wpAny_execs_nil (hq h₃ tk₃ dx ⟨fun b o hb e => k₃ b o hb (k b o e), hx₃, Nat.le_of_lt (Nat.lt_of_lt_of_le z dn), dne, hn₃⟩)
theorem low_made (T : LowTxt K mg C fI) {v : Value} (X : K.In s.heap) (hlim : s.heap.NoLimit) (hroom : A.depth + 1 < recursionLimit)
    (hq : ∀ h' tk e d, OwnMade s.heap h' e C d v → R (.ok (.ret (.ref e))) { s with heap := h', toks := tk }) :
    codeAny (model prog w) A (.call (.ref C) ⟨[v], []⟩) R s := by
  obtain ⟨nm, q, N, bs, bm, sn, sub, ab, col, dd, k0, k1, k2, k3, k5, hC, hbm⟩ := T.cls
  obtain ⟨hp, g, dr, tk, os⟩ := s
  have k : ∀ b o, hp.get? b = some o → ((hp.push (kdv_tup [v])).push (excO C hp.objs.size)).get? b = some o := fun b o e => Heap.get?_push_of_some _ (Heap.get?_push_of_some _ e)
  have hget : ((hp.push (kdv_tup [v])).push (excO C hp.objs.size)).get? (hp.objs.size + 1) = some (excO C hp.objs.size) := by heap_get
  have hnx : K.lookup (hp.objs.size + 1) = none := by
    cases e : K.lookup (hp.objs.size + 1) with
    | none => rfl
    | some o =>
      have z : hp.get? (hp.objs.size + 1) = some o := X _ _ e
      exact absurd (Nat.lt_of_succ_lt (Heap.lt_size z)) (Nat.lt_irrefl _)
  refine call_own F.excBase_ValueError (fun X => refsVE_contains X bm hbm) (X _ _ hC) (looks_findIn X T.iC) (fun self => bind_fn X self T.tC) (one_size v) ?_
  refine low_init (s := ⟨(hp.push (kdv_tup [v])).push (excO C hp.objs.size), g, dr, tk, os⟩) T (X.keeps k) (hlim.keeps k) hget hnx ?_ fun h' tk' dx ⟨k', hx, dn, dne, hns⟩ => ?_
  · show A.depth + 1 < recursionLimit
    exact hroom
  · have old : ∀ b o, hp.get? b = some o → h'.get? b = some o := fun b o e => k' b o (Nat.ne_of_lt (Nat.lt_succ_of_lt (Heap.lt_size e))) (k b o e)
    have z : hp.objs.size + 1 + 1 ≤ dx := by
      first
        | (simpa only [Heap.size_push] using dn)
        | exact dn
        | (have q := dn; rw [Heap.size_push, Heap.size_push] at q; exact q)
    exact ⟨rfl, hq h' tk' (hp.objs.size + 1) dx ⟨old, Nat.le_succ _, ⟨_, _, hx, rfl, rfl, rfl, rfl⟩, Nat.le_trans (Nat.le_trans (Nat.le_succ _) (Nat.le_succ _)) z, dne, hns⟩⟩
end
end LowX
end PySem
namespace L2
open PySem PySem.Spec PyProof.Rows
theorem relO_low {v : V} {v' : Value} (r : RelV v v') (f : Str) : RelO (List.lookup f [(("line" : Str), v)]) (if f = "line" then some v' else none) := by
  by_cases hw : f = "line"
  · subst hw
    rw [if_pos rfl]
    have q : List.lookup ("line" : Str) [(("line" : Str), v)] = some v := by simp [List.lookup]
    rw [q]
    exact r
  · rw [if_neg hw]
    have qw : (f == ("line" : Str)) = false := by simpa using hw
    have q2 : List.lookup f [(("line" : Str), v)] = none := by simp [List.lookup, qw]
    rw [q2]
    trivial
section
variable {X : Cx} {C fI : Addr}
/-- Low(e) -/
def tMkLow (C : Addr) (ta : TA) : St → Hp → XK → Prop := fun σ H Q => ta σ H fun vs H1 => ∃ v, vs = [v] ∧ ∀ d, H1 d = none → Q (.ref C) (some d) (upd H1 d (.xd [(("line" : Str), v)]))
theorem pmk_low {a : Expr} {ta : TA} {p pos : Pos} {k : Nat} (T : PySem.LowX.LowTxt X.K X.mg C fI) (hr : Room k X.A) (ha : PA X [a] ta) (hg : Gl X "BadLine" := by rfl)
    (he : starEach (a :: []) X.env = (false, eval a X.env) :: starEach [] X.env := by rfl) (hpl : (backTo pos (starEach [] X.env)).any (·.1) = false := by rfl) :
    PMk X (.Call (.Name "BadLine" p) [a] [] pos) (tMkLow C ta) := by
  intro pins s σ H Q I h
  refine wpAny_Call_Name_kw (ld_glob I hg T.gC ?_)
  refine PySem.W.callWith_K (h₀ := X.base) I.ok.mod.kin T.kC (thn (ha.run pos pins s σ H _ I h) fun us s1 hh => ?_) he hpl
  obtain ⟨vs, H1, I1, r1, v, ev, q1⟩ := hh
  subst ev
  refine ⟨I1.kIn, ?_⟩
  cases r1 with
  | cons rv rn =>
    rename_i v' us'
    cases rn
    show wpAny _ _ (call (.ref C) [v']) _ _ _
    have hlim := I1.nolimit
    obtain ⟨hp, g, dr, tk, os⟩ := s1
    refine wpAny_call (PySem.LowX.low_made T I1.kIn hlim (by have := hr.dp; omega) fun h' tk' e d M => ?_)
    show MkP X pins σ Q (.ref e) ⟨h', g, dr, tk', os⟩
    obtain ⟨oe, fv, hoe, hc, hd, hdat, h1⟩ := M.obj
    have hns := M.ns
    obtain ⟨G', g1, g2⟩ := restrict h' fun b => decide (b ≠ e)
    have gk : ∀ b, b ≠ e → G'.get? b = h'.get? b := fun b hb => g1 b (decide_eq_true hb)
    have ge : G'.get? e = none := g2 e (by simp)
    have old : ∀ b o, hp.get? b = some o → G'.get? b = some o := fun b o q => (gk b (Nat.ne_of_lt (Nat.lt_of_lt_of_le (Heap.lt_size q) M.new))).trans (M.keep b o q)
    have ob : ObjOk X.prog X.w (upd H1 d (.xd [(("line" : Str), v)])) G' d (.xd [(("line" : Str), v)]) :=
      ⟨_, hns.at (fun o q => (gk d M.dne).trans q), fun f => relO_low rv f⟩
    have J : Inv X pins σ (upd H1 d (.xd [(("line" : Str), v)])) ⟨G', g, dr, tk', os⟩ := I1.laid (t' := tk') old M.dbig ob
    refine ⟨e, oe, fv, ⟨G', g, dr, tk', os⟩, _, .ref C, some d, rfl, J, fun b o q => ?_, ge, hoe, ⟨hc, hd⟩, hdat, h1, ?_, rfl, I1.bare, raises_own T.exC T.tyC, q1 d (I1.hok.fresh M.dbig)⟩
    · by_cases hb : b = e
      · have q' : G'.get? b = some o := q
        rw [hb, ge] at q'; cases q'
      · exact (gk b hb).symm.trans q
    · rw [upd_ne (Ne.symm M.dne)]
      exact I1.hok.fresh M.new
/-- raise Low(e) -/
def tRaiseLow (C : Addr) (W : WX) (ta : TA) : TS := fun _ σ H => tMkLow C ta σ H fun cls d H' => W cls d σ H'
theorem ps_raiseLow {a : Expr} {ta : TA} {W : WX} {p pos pos2 : Pos} {k : Nat} (hc : X.calm = true) (T : PySem.LowX.LowTxt X.K X.mg C fI) (hr : Room k X.A) (tk : Takes X W) (ha : PA X [a] ta) (hg : Gl X "BadLine" := by rfl)
    (he : starEach (a :: []) X.env = (false, eval a X.env) :: starEach [] X.env := by rfl) (hpl : (backTo pos (starEach [] X.env)).any (·.1) = false := by rfl) :
    PS X (.Raise (some (.Call (.Name "BadLine" p) [a] [] pos)) none pos2) (tRaiseLow C W ta) := ps_raise hc tk (pmk_low T hr ha hg he hpl)
/-- low.by, low the exception that the suite holds (at a; its class cls, its dict d) -/
def tByLow (C : Addr) (a : Addr) (cls : Value) (d : Option Addr) (te : TE) : TE := fun σ H Q => te σ H fun x H1 => x = .ref a ∧ cls = .ref C ∧ ∃ (dd : Addr) (v : V), d = some dd ∧ H1 dd = some (.xd [(("line" : Str), v)]) ∧ Q v H1
theorem pe_byLow {a : Addr} {oe : Obj} {cls : Value} {d : Option Addr} {pn : List (Addr × Obj)} {e : Expr} {te : TE} {pos : Pos} (T : PySem.LowX.LowTxt X.K X.mg C fI) (hz : Zc cls d oe) (hf : ∃ vs, oe.data = .fields vs) (he : PE (X.suite a ((a, oe) :: pn)) e te)
    (hb : attributeBase e "line" X.env (eval e X.env) = eval e X.env := by rfl) :
    PE (X.suite a ((a, oe) :: pn)) (.Attribute e "line" pos) (tByLow C a cls d te) := by
  refine ⟨fun pins s σ H Q I h => ?_⟩
  refine attr_of hb (thn (he.run pins s σ H _ I h) fun u s1 hh => ?_)
  obtain ⟨x, H1, I1, rx, ex, ec, dd, v, ed, ea, q⟩ := hh
  subst ex
  obtain rfl : u = Value.ref a := rx
  subst ec
  subst ed
  obtain ⟨ha, _⟩ := I1.pin (a, oe) (List.mem_append_left _ List.mem_cons_self)
  obtain ⟨vs, hd⟩ := hf
  have hx : ObjOk X.prog X.w H1 s1.heap dd (.xd [(("line" : Str), v)]) := I1.hok dd _ ea
  obtain ⟨mA, hns, hr⟩ := hx
  obtain ⟨od, ho, hl⟩ := lookIn_ns hns
  have l : List.lookup ("line" : Str) [(("line" : Str), v)] = some v := by simp [List.lookup]
  obtain ⟨u, hu, ru⟩ := RelO.some_of (v := v) (o := mA "line") (by rw [← l]; exact hr "line")
  have J : PySem.W.InstAt s1.heap a oe C (some od) := ⟨ha, hz.1, by unfold PySem.W.notCls; rw [hd] <;> rfl, by rw [hz.2]; exact ho⟩
  exact HandSPX.exc_get I1.kIn J T.ga T.gg T.exC (PySem.W.findObj_own T.hdC T.noN rfl (by rw [hl, hu])) (handed_of ru) ⟨v, H1, I1.tok _, ru, q⟩
end
end L2

set_option Elab.async false
set_option linter.all false
set_option maxRecDepth 100000
set_option maxHeartbeats 4000000
/-! raise X(e), except X as n: y = n.line. -/
namespace Mini
open PySem L2 PySem.Spec PyProof.Rows
section
variable {pg : Pg} {N : Nm} {C : Call} {W : WX} {X : Cx} {pos pos' p1 : Pos} {a : Expr} {ea : E} {c : Nat} {fI : Addr}
theorem s_raise1 {p : Pos} {k : Nat} (hc : X.calm = true) (T : PySem.LowX.LowTxt X.K X.mg (N.er c) fI) (hr : Room k X.A) (tk : Takes X W) (ha : PE X a (tE pg N C X.K W ea)) (hg : Gl X "BadLine")
    (he : starEach (a :: []) X.env = (false, eval a X.env) :: starEach [] X.env) (hpl : (backTo pos (starEach [] X.env)).any (·.1) = false) :
    PS X (.Raise (some (.Call (.Name "BadLine" p) [a] [] pos)) none pos') (tS pg N C X.K W (.raise_ c (some ea))) :=
  PS.wk (ps_raiseLow hc T hr tk (pa_cons ha pa_nil he) hg he hpl) fun D σ H ⟨v, A, ρ, er, hr, q⟩ => by
    rw [evS] at q
    refine useS er hr q fun d A1 y H1 ρ1 er1 hr1 ry x1 q1 => ?_
    refine ⟨y, rfl, fun dx hd => ?_⟩
    have xx : Ext H1 ρ1 (upd H1 dx (.xd [(("line" : Str), y)])) ρ1 := Ext.new hd
    exact q1 (some dx) σ _ ρ1 xx (hr1.new hd) (er1.ext xx) ⟨dx, y, rfl, upd_same, ry.ext xx⟩
/-- what is wanted of the error behind an except X as n: y = n.line -/
theorem line_ok {i j k : Nat} (G : TryG pg N X.K) (hk : k < pg.sup.length) (hu : ∀ c', c' < pg.sup.length → ((pg.sup[c']?).getD []).contains k = true → c' = k) {D : Ends} {z : Option Mini.D} {v : Env} {A : Hh} {H : Hp} {ρ : List Addr} {dd : Option Addr} {σ : L2.St} (hij : i ≠ j)
    (hcl : c < pg.sup.length) (hr : HR N X.K H ρ A) (er : ER X.K H ρ v σ) (ex : ExR X.K H ρ z dd)
    (q : RF N X.K H ρ (match clause pg c [(k, some j, .line i 0)] with | none => .exc c z v A | some (n, h) => (match suite n h z v with | some v'' => .nx v'' A | none => .bad)) D W) :
    wAs X.K (.ref (N.er k)) j (fun a cls d => tAsg (tByLow (N.er k) a cls d (tVar j)) (gName i)) W D (.ref (N.er c)) dd σ H := by
  refine ⟨_, G.ex c k hcl hk, fun hb a ha => ?_, fun hb => ?_⟩
  · have ec := hu c hcl hb
    subst ec
    rw [clause, if_pos hb] at q
    dsimp only at q
    cases z with
    | none => exact q.elim
    | some d =>
      cases d <;> try exact q.elim
      case int l =>
        obtain ⟨dx, x, rfl, hx, rx⟩ := ex
        cases rx
        have q : RF N X.K H ρ (match (if Nat.blt j v.length then some ((v.set i (some (.int (l + 0)))).set j none) else none) with | some v'' => .nx v'' A | none => .bad) D W := q
        have hj : j < σ.length := by
          cases e : Nat.blt j v.length with
          | false => rw [e] at q; exact q.elim
          | true => rw [er.1]; exact Nat.blt_eq.mp e
        have q : RF N X.K H ρ (.nx ((v.set i (some (.int (l + 0)))).set j none) A) D W := by
          rw [if_pos (by rw [← er.1]; exact Nat.blt_eq.mpr hj)] at q
          exact q
        rw [Int.add_zero] at q
        refine ⟨.ref a, ?_, rfl, rfl, dx, .int l, rfl, hx, ?_⟩
        · show (σ.set j (some (.ref a)))[j]? = some (some (.ref a))
          rw [List.getElem?_set_self hj]
        · show D.nx (((σ.set j (some (.ref a))).set i (some (.int l))).set j none) H
          have e1 : ((σ.set j (some (V.ref a))).set i (some (V.int l))).set j none = (σ.set i (some (V.int l))).set j none := by
            rw [List.set_comm _ _ (Ne.symm hij), List.set_set]
          rw [e1]
          exact q.nx hr ((er.set (show Rp X.K H ρ (.int l) (.int l) from rfl)).clr)
  · rw [clause, if_neg (by rw [hb]; decide), clause] at q
    exact q dd σ H ρ .refl hr er ex
end
end Mini

set_option Elab.async false
set_option linter.all false
set_option maxRecDepth 100000
set_option maxHeartbeats 4000000
/-! From the syntax to Mini's form; what is left out becomes .bad. -/
namespace Mini
open PySem L2

/-- the module's names -/
structure Tb where
  fn : List (Str × (Nat × Nat × List D))
  cl : List (Str × Nat)
  er : List (Str × Nat)
  gl : List (Str × Nat)
  me : List ((Str × Nat) × (Nat × Nat))
  fl : List Str
  gr : Option Str
  lo : Option Nat
/-- a def's names, or a block's; raw: the block's own scope, where not a def -/
structure Gm where
  N : List Str
  sc : Scope
  raw : Option Scope
def ixOf (N : List Str) (x : Str) : Option Nat := N.findIdx? fun y => decide (y = x)
theorem ixOf_ok {N : List Str} {x : Str} {i : Nat} (h : ixOf N x = some i) : N[i]? = some x := by
  unfold ixOf at h
  obtain ⟨hl, hp, _⟩ := List.findIdx?_eq_some_iff_getElem.mp h
  rw [List.getElem?_eq_getElem hl, of_decide_eq_true hp]
def visB (sc : Scope) (x : Str) : Bool := match sc.names.lookup x with
  | some .local => true
  | some .cell => true
  | some .free => true
  | _ => false
theorem visB_ok {sc : Scope} {x : Str} (h : visB sc x = true) : Vis sc x := by
  unfold visB at h
  unfold Vis
  split at h
  · exact .inl (by assumption)
  · exact .inr (.inl (by assumption))
  · exact .inr (.inr (by assumption))
  · cases h
def gloB (sc : Scope) (x : Str) : Bool := (match sc.names.lookup x with | some .globalImplicit => true | _ => false) && !(x == ("__debug__" : Str))
/-- a name that is stored here -/
def locB (G : Gm) (x : Str) : Bool := match G.sc.names.lookup x with
  | some .local => true
  | some .cell => (match G.raw with | none => true | some r => decide (r.names.lookup x = some .cell))
  | _ => false
def plainE : Expr → Bool
  | .Starred _ _ => false
  | _ => true
theorem star_ok {e : Expr} (h : plainE e = true) (r : List Expr) (env : PySem.Env) : starEach (e :: r) env = (false, eval e env) :: starEach r env := by
  cases e <;> first | rfl | cases h
theorem star_pl {es : List Expr} (h : es.all plainE = true) (pos : Pos) (env : PySem.Env) : (backTo pos (starEach es env)).any (·.1) = false := by
  induction es with
  | nil => rfl
  | cons e r ih =>
    rw [List.all_cons, Bool.and_eq_true] at h
    rw [star_ok h.1]
    show (false || (backTo pos (starEach r env)).any (·.1)) = false
    rw [ih h.2]
    rfl
/-- a receiver whose attribute is asked in the plain way -/
def recvE : Expr → Bool
  | .Name _ _ => true
  | .Attribute _ _ _ => true
  | .Subscript _ _ _ => true
  | .Constant _ _ _ => true
  | .Call (.Attribute _ _ _) _ _ _ => true
  | .Call (.Name _ _) (_ :: _) _ _ => true
  | _ => false
theorem base_ok {o : Expr} (h : recvE o = true) (m : Str) (env : PySem.Env) : attributeBase o m env (eval o env) = eval o env := by
  unfold recvE at h
  split at h <;> first | rfl | cases h
def noSet : Expr → Bool
  | .Set _ _ _ => false
  | _ => true
theorem fold_ok {e : Expr} (h : noSet e = true) (env : PySem.Env) : ∀ x, foldedSetIterable e env x = pure x := by
  intro x
  cases e <;> first | rfl | cases h
theorem marks_ok {e : Expr} (h : noSet e = true) (op : CmpOp) : behindInMarks op e = false := by
  cases e <;> first | rfl | cases h
theorem lastm_ok {e b : Expr} (h : noSet e = true) (op op' : CmpOp) : lastMarks [op, op'] [b, e] = false := marks_ok h op'
def noComp : Expr → Bool
  | .ListComp _ _ _ _ => false
  | .SetComp _ _ _ _ => false
  | .DictComp _ _ _ _ _ => false
  | _ => true
theorem swap_ok {e : Expr} (h : noComp e = true) (t : Option Expr) (l : Nat) (env : PySem.Env) : swapsWith e t l env = pure false := by
  cases e <;> first | rfl | cases h
def noSlice : Expr → Bool
  | .Slice _ _ _ _ => false
  | _ => true
theorem plainIx_ok {b : Expr} (h : noSlice b = true) : PlainIx b := by
  intro o i
  cases b <;> first | rfl | cases h
theorem meth_eq {o : Expr} {m : Str} {apos pos : Pos} {args : List Expr} {env : PySem.Env} (hb : recvE o = true) (ha : args.all plainE = true) (hn : args.length < 30) (hl : (apos.endLine == pos.line) = true) :
    eval (.Call (.Attribute o m apos) args [] pos) env = (do
      let ov ← eval o env
      standAt apos.atName
      let (f, first) ← holding [ov] (getMethod ov m (do return (← importBound o env).getD true))
      callWith pos f first (backTo pos (starEach args env)) (backToKw pos (keywordEach [] env))) := by
  have hform : methodCallForm (args.length + ([] : List Keyword).length) (backTo pos (starEach args env)) (backToKw pos (keywordEach [] env)) = true := by
    unfold methodCallForm
    have h1 : (backTo pos (starEach args env)).all (fun x => !x.1) = true := by
      have := star_pl ha pos env
      rw [List.all_eq_not_any_not]
      simp only [Bool.not_not]
      rw [this]
      rfl
    rw [Bool.and_eq_true, Bool.and_eq_true]
    refine ⟨⟨h1, rfl⟩, ?_⟩
    exact decide_eq_true (by show args.length + 0 + 0 < 30; omega)
  have hpos : methodCallPos true o env apos pos = pure pos := by unfold methodCallPos; simp [hl]
  rw [arm_eval_Call, base_ok hb]
  unfold methodCall
  rw [hform, hpos]
  rfl
theorem few_ok {args : List Expr} {pos : Pos} {env : PySem.Env} (ha : args.all plainE = true) (hn : args.length < 30) :
    ((backTo pos (starEach args env)).all (fun x => !x.1) && (backToKw pos (keywordEach [] env)).all (fun x => x.1.isSome) && decide (args.length + ([] : List Keyword).length + (if ([] : List Keyword).isEmpty then 0 else 1) < 30)) = true := by
  have h1 : (backTo pos (starEach args env)).all (fun x => !x.1) = true := by
    have := star_pl ha pos env
    rw [List.all_eq_not_any_not]
    simp only [Bool.not_not]
    rw [this]
    rfl
  rw [Bool.and_eq_true, Bool.and_eq_true]
  refine ⟨⟨h1, rfl⟩, ?_⟩
  exact decide_eq_true (by show args.length + 0 + 0 < 30; omega)
/-- a test that is its value's truth -/
def valT : Expr → Bool
  | .UnaryOp _ _ _ => false
  | .BoolOp _ _ _ => false
  | .IfExp _ _ _ _ => false
  | .Compare _ _ _ _ => false
  | _ => true
theorem valT_ok {e : Expr} (h : valT e = true) (env : PySem.Env) : ∀ whole, isTrue e env whole = (do let v ← whole; standAt e.pos; holding [v] (truthy v)) := by
  intro whole
  cases e <;> first | rfl | cases h
end Mini

set_option Elab.async false
set_option linter.all false
set_option maxRecDepth 100000
set_option maxHeartbeats 4000000
/-! The compiler of expressions. -/
namespace Mini
open PySem L2

def cName (tb : Tb) (G : Gm) (x : Str) : E :=
  if (x == ("__debug__" : Str)) || (x == ("__classdict__" : Str)) then .bad
  else if visB G.sc x then (match ixOf G.N x with | some i => .var i | none => .bad)
  else if gloB G.sc x then (match tb.gl.lookup x with | some g => .glo g | none => .bad) else .bad
def cConst : Const → E
  | .none => .con .non
  | .bool b => .con (.bl b)
  | .int i => .con (.int i)
  | .str s => .con (.str s.cps.toList)
  | _ => .bad
def isGr (tb : Tb) (G : Gm) : Expr → Bool
  | .Name x _ => gloB G.sc x && decide (tb.gr = some x)
  | _ => false
def cBin (op : Operator) (a b : E) : E := match op with
  | .Add => .op2 .add a b
  | .Sub => .op2 .sub a b
  | .Mult => .op2 .mul a b
  | .FloorDiv => .op2 .fdiv a b
  | .Mod => .op2 .mod a b
  | .Pow => .op2 .pow a b
  | _ => .bad
def cCmp (op : CmpOp) (r : Expr) (gr : Bool) (a b : E) : E := match op with
  | .Eq => .cmp .eq a b
  | .NotEq => .cmp .ne a b
  | .Lt => .cmp .lt a b
  | .LtE => .cmp .le a b
  | .Gt => .cmp .gt a b
  | .GtE => .cmp .ge a b
  | .Is => .cmp .isN a b
  | .IsNot => .cmp .notN a b
  | .In => if noSet r then (if gr then .gin a else .cmp .inn a b) else .bad
  | .NotIn => if noSet r then (if gr then .bad else .cmp .notin a b) else .bad
def cmOf : CmpOp → Option Cm
  | .Eq => some .eq
  | .NotEq => some .ne
  | .Lt => some .lt
  | .LtE => some .le
  | .Gt => some .gt
  | .GtE => some .ge
  | _ => none
def cUn (op : UnaryOp) (a : E) : E := match op with
  | .USub => .neg a
  | .Not => .not a
  | _ => .bad
/-- a type's name -/
def tyOf (tb : Tb) (x : Str) : Option Ty :=
  if x = ("int" : Str) then some .int else if x = ("bool" : Str) then some .bool else if x = ("str" : Str) then some .str else if x = ("tuple" : Str) then some .tuple
  else if x = ("list" : Str) then some .list else if x = ("dict" : Str) then some .dict else (tb.cl.lookup x).map .cls
/-- built-in functions, by how many arguments -/
def biOf (x : Str) (n : Nat) : Option Bi :=
  if x = ("len" : Str) ∧ n = 1 then some .len else if x = ("int" : Str) ∧ n = 1 then some .int else if x = ("list" : Str) ∧ n = 1 then some .list else if x = ("tuple" : Str) ∧ n = 1 then some .tuple
  else if x = ("all" : Str) ∧ n = 1 then some .all else if x = ("any" : Str) ∧ n = 1 then some .any else if x = ("abs" : Str) ∧ n = 1 then some .abs else if x = ("max" : Str) ∧ n = 2 then some .max2
  else if x = ("min" : Str) ∧ n = 1 then some .min1 else if x = ("str" : Str) ∧ n = 1 then some .str else none
/-- list(zip(a, b)) -/
def zipB (G : Gm) (x : Str) : List Expr → Bool
  | [.Call (.Name z _) [a, b] [] _] => gloB G.sc x && gloB G.sc z && decide (x = ("list" : Str)) && decide (z = ("zip" : Str)) && plainE a && plainE b
  | _ => false
def zipEs : List Expr → List Expr
  | [.Call _ as _ _] => as
  | _ => []
def cCallN (tb : Tb) (G : Gm) (x : Str) (args : List Expr) (ea : List E) : E :=
  if gloB G.sc x && args.all plainE then
    (match tb.fn.lookup x with
    | some (f, np, ds) => if decide (args.length ≤ np) && decide (np - args.length ≤ ds.length) && (!args.isEmpty || decide (np = 0)) then .call f ea (ds.drop (ds.length - (np - args.length))) else .bad
    | none => match tb.cl.lookup x with
      | some c => .mk c ea
      | none => if x = ("isinstance" : Str) then (match args, ea with
          | [_, .Name t _], [a, _] => if gloB G.sc t then (match tyOf tb t with | some ty => .isin a ty | none => .bad) else .bad
          | _, _ => .bad)
        else (match biOf x args.length with | some b => .bi b ea | none => .bad))
  else .bad
def cCallA (tb : Tb) (G : Gm) (o : Expr) (m : Str) (args : List Expr) (line : Bool) (eo : E) (ea : List E) : E :=
  if recvE o && args.all plainE && line && decide (args.length < 30) then
    if isGr tb G o then (match args, ea with | [_, _], [a, b] => if m = ("get" : Str) then .gget a b else .bad | _, _ => .bad)
    else (match tb.me.lookup (m, args.length) with
      | some (c, f) => .meth c f eo ea
      | none => match args, ea with
        | [_], [a] => if m = ("append" : Str) then .bm .append eo [a] else if m = ("join" : Str) then .bm .join eo [a] else if m = ("split" : Str) then .bm .split eo [a] else if m = ("startswith" : Str) then .bm .startswith eo [a] else .bad
        | [], [] => if m = ("pop" : Str) then .bm .pop eo [] else .bad
        | _, _ => .bad)
  else .bad
def cFld (tb : Tb) (o : Expr) (a : Str) (eo : E) : E := if recvE o then (match ixOf tb.fl a with | some f => .fld eo f | none => .bad) else .bad
/-- the places of a target -/
def tName (G : Gm) : Expr → Option Nat
  | .Name x _ => if locB G x then ixOf G.N x else none
  | _ => none
def cT (G : Gm) : Expr → Option T
  | .Tuple es _ _ => (es.mapM (tName G)).map .many
  | t => (tName G t).map .one
def tgNames : Expr → List Str
  | .Name x _ => [x]
  | .Tuple es _ _ => es.filterMap fun | .Name x _ => some x | _ => none
  | _ => []
def ownOf (N : List Str) (xs : List Str) : List (Str × Nat) := xs.filterMap fun x => (ixOf N x).map fun i => (x, i)
def blkGm (G : Gm) (scope : Scope) : Gm := ⟨G.N, { scope with names := scope.names.map fun (n, k) => if (k == NameKind.free && G.sc.kind == .function && G.sc.names.lookup n == some .cell) then (n, NameKind.cell) else (n, k) }, some scope⟩
def subB (a b : List Nat) : Bool := a.all fun i => b.contains i
def isTup : Expr → Bool
  | .Tuple _ _ _ => true
  | _ => false
/-- a display's keys -/
def keyS : Option Expr → Option Str
  | some (.Constant (.str s) _ _) => some s
  | _ => none
def cX (tb : Tb) (f : Gm → Expr → E) (fi : Gm → Expr → Expr → I) (G : Gm) (e : Expr) : E :=
  match e with
    | .Name x _ => cName tb G x
    | .Constant c _ _ => cConst c
    | .Tuple es _ _ => if es.all plainE then .tup (es.map (f G)) else .bad
    | .List es _ => if es.all plainE then .lst (es.map (f G)) else .bad
    | .Dict ks vs _ => (match ks.mapM keyS with
      | some ss => if decide (ks.length = vs.length) && decide (0 < ks.length) && decide (ks.length ≤ 15) then .dic (ss.map fun s => s.cps.toList) (vs.map (f G)) else .bad
      | none => .bad)
    | .BinOp a op b _ => cBin op (f G a) (f G b)
    | .UnaryOp op a _ => cUn op (f G a)
    | .BoolOp op es _ => (match es with
      | [] => .bad
      | _ :: _ => match op with | .And => .and (es.map (f G)) | .Or => .or (es.map (f G)))
    | .Compare a ops rs _ => (match ops, rs with
      | [op], [r] => cCmp op r (isGr tb G r) (f G a) (f G r)
      | [op, op'], [r, r'] => (match cmOf op, cmOf op' with
        | some c, some c' => if noSet r' then .chain c c' (f G a) (f G r) (f G r') else .bad
        | _, _ => .bad)
      | _, _ => .bad)
    | .IfExp c a b _ => .ife (f G c) (f G a) (f G b)
    | .Subscript a s _ => (match s with
      | .Slice none none (some (.UnaryOp .USub (.Constant (.int 1) _ _) _)) _ => .rev (f G a)
      | .Slice (some lo) none none _ => .sl1 (f G a) (f G lo)
      | .Slice none (some hi) none _ => .sl2 (f G a) (f G hi)
      | .Slice (some lo) (some hi) none _ => .sl3 (f G a) (f G lo) (f G hi)
      | .Slice _ _ _ _ => .bad
      | s => if isGr tb G a then .gidx (f G s) else .idx (f G a) (f G s))
    | .Attribute o a _ => cFld tb o a (f G o)
    | .Call (.Name x _) args [] _ => if zipB G x args then .bi .listzip ((zipEs args).map (f G)) else cCallN tb G x args (args.map (f G))
    | .Call (.Attribute o m apos) args [] pos => cCallA tb G o m args (apos.endLine == pos.line) (f G o) (args.map (f G))
    | .ListComp elt gens scope _ => (match gens with
      | [⟨tg, it, ifs, 0⟩] =>
        let own := ownOf G.N (tgNames tg)
        let G' := blkGm G scope
        (match cT G' tg with
        | some t => if blkC G.N G.sc scope own && subB t.ixs (own.map (·.2)) && noSet it then (match ifs with
            | [] => .lc (own.map (·.2)) t (fi G tg it) none (f G' elt)
            | [c] => .lc (own.map (·.2)) t (fi G tg it) (some (f G' c)) (f G' elt)
            | _ => .bad) else .bad
        | none => .bad)
      | [⟨tg, it, [], 0⟩, ⟨tg1, it1, [], 0⟩] =>
        let own := ownOf G.N (tgNames tg ++ tgNames tg1)
        let own1 := ownOf G.N (tgNames tg1)
        let G' := blkGm G scope
        (match cT G' tg, cT G' tg1 with
        | some t, some t1 => if blkC G.N G.sc scope own && subB t.ixs (own.map (·.2)) && subB t1.ixs (own1.map (·.2)) && subB (own1.map (·.2)) (own.map (·.2)) && noSet it && noSet it1 then
            .lc2 (own.map (·.2)) (own1.map (·.2)) t (fi G tg it) t1 (fi G' tg1 it1) (f G' elt) else .bad
        | _, _ => .bad)
      | _ => .bad)
    | .DictComp k v gens scope _ => (match gens with
      | [⟨tg, it, [], 0⟩] =>
        let own := ownOf G.N (tgNames tg)
        let G' := blkGm G scope
        (match cT G' tg with
        | some t => if blkC G.N G.sc scope own && subB t.ixs (own.map (·.2)) && noSet it then .dc (own.map (·.2)) t (fi G tg it) (f G' k) (f G' v) else .bad
        | none => .bad)
      | _ => .bad)
    | _ => .bad
def cIx (tb : Tb) (f : Gm → Expr → E) (G : Gm) (tg it : Expr) : I :=
  match it with
  | .Call (.Name x _) [a] [] _ =>
    if gloB G.sc x && plainE a && decide (x = ("range" : Str)) then .range (f G a)
    else if gloB G.sc x && plainE a && decide (x = ("enumerate" : Str)) && isTup tg then .enum (f G a)
    else .e (f G it)
  | it => .e (f G it)
mutual
def cE (tb : Tb) : Nat → Gm → Expr → E
  | 0, _, _ => .bad
  | n + 1, G, e => cX tb (fun G e => cE tb n G e) (fun G tg it => cI tb n G tg it) G e
def cI (tb : Tb) : Nat → Gm → Expr → Expr → I
  | 0, _, _, _ => .e .bad
  | n + 1, G, tg, it => cIx tb (fun G e => cE tb n G e) G tg it
end
end Mini

set_option Elab.async false
set_option linter.all false
set_option maxRecDepth 100000
set_option maxHeartbeats 4000000
/-! The compiler of expressions is sound. -/
namespace Mini
open PySem L2

def bltNames : List Str := ["len", "int", "list", "tuple", "all", "any", "abs", "max", "min", "isinstance", "range", "enumerate", "bool", "str", "dict", "zip"]
/-- what is known of the module, and of the calls at this level -/
structure GF (pg : Pg) (N : Nm) (tb : Tb) (C : Call) (k : Nat) (X : Cx) : Prop where
  room : Room (k + 1) X.A
  fn : ∀ x f np ds, tb.fn.lookup x = some (f, np, ds) → X.mg x = some (.ref (N.fa f)) ∧ PySem.W.keepIn X.K (.ref (N.fa f)) = true ∧ ∀ m, m ≤ ds.length → ∃ fd ps us dvs,
    FnOk X.prog X.w X.K X.mg X.base (L2.CX X.prog X.w) k (N.fa f) fd ps (spM N X.K C f) ∧ Binds X.K fd ps us ∧ Vals dvs us ∧ (∀ H ρ, Rps X.K H ρ (ds.drop (ds.length - m)) dvs) ∧ (m = 0 → us = [])
  glo : ∀ x g, tb.gl.lookup x = some g → ∃ u y d, X.mg x = some u ∧ RelV y u ∧ pg.glo[g]? = some d ∧ ∀ H ρ, Rp X.K H ρ d y
  cls : ∀ x c, tb.cl.lookup x = some c → c < N.nc ∧ X.mg x = some (.ref (N.cl c)) ∧ ∃ f fd ps, pg.init[c]? = some f ∧ Mk X.K (N.cl c) (N.fa f) ∧ FnOk X.prog X.w X.K X.mg X.base (L2.CX X.prog X.w) k (N.fa f) fd ps (spM N X.K C f) ∧ Binds X.K fd ps []
  meth : ∀ m n c f, tb.me.lookup (m, n) = some (c, f) → c < N.nc ∧ Meth X.K (N.cl c) m (N.fa f) ∧ (∀ i, N.fl i ≠ m) ∧ ∃ fd ps, FnOk X.prog X.w X.K X.mg X.base (L2.CX X.prog X.w) k (N.fa f) fd ps (spM N X.K C f) ∧ Binds X.K fd ps []
  fld : ∀ a f, ixOf tb.fl a = some f → N.fl f = a ∧ ClsG N X.K f
  kit : KitG N X.K
  eq : EqG pg N C X
  grp : ∀ x, tb.gr = some x → ∃ d es n, X.mg x = some (.ref d) ∧ GrpG pg.grp X.K X.w d es n
  blt : ∀ x ∈ bltNames, X.mg x = none
  len : ∀ A xs, ownLen pg A .len xs = none
structure CO (pg : Pg) (N : Nm) (tb : Tb) (C : Call) (k : Nat) (X : Cx) (W : WX) (G : Gm) : Prop where
  g : GF pg N tb C k X
  tk : Takes X W
  hN : X.N = G.N
  nd : X.N.Nodup
  sc : X.env.scope = G.sc
  calm : X.calm = true
  fnc : ∀ x, locB G x = true → Loc X.env.scope x ∧ (X.fn x = true ∨ X.env.scope.names.lookup x = some .local)
theorem pair_map {α β : Type} {F : α → β → Prop} {f : α → β} : ∀ {l : List α}, (∀ a ∈ l, F a (f a)) → Paired F l (l.map f)
  | [], _ => .nil
  | a :: r, h => .cons (h a List.mem_cons_self) (pair_map fun b hb => h b (List.mem_cons_of_mem _ hb))
section
variable {pg : Pg} {N : Nm} {tb : Tb} {C : Call} {k : Nat} {X : Cx} {W : WX} {G : Gm} {pos p : Pos}
theorem CO.gl (h : CO pg N tb C k X W G) {x : Str} (hx : gloB G.sc x = true) : Gl X x ∧ (x == ("__debug__" : Str)) = false := by
  unfold gloB at hx
  rw [Bool.and_eq_true] at hx
  obtain ⟨h1, h2⟩ := hx
  refine ⟨?_, by simpa using h2⟩
  unfold Gl
  show X.env.scope.names.lookup x = some .globalImplicit
  rw [h.sc]
  split at h1
  · assumption
  · cases h1
theorem CO.hu (h : CO pg N tb C k X W G) : X.A.units + 65 < cLine := by have := h.g.room.un; omega
theorem CO.rk (h : CO pg N tb C k X W G) : Room k X.A := h.g.room.mono (Nat.le_succ k)
theorem CO.blk (h : CO pg N tb C k X W G) {s : Shared} {H : Hp} {scope : Scope} {cl : List (Str × Addr)} {Ca : Addr} {fp : List Addr} : CO pg N tb C k (X.blk s H scope (compEnvC scope cl Ca X.env) fp) WF (blkGm G scope) where
  g := ⟨h.g.room, h.g.fn, h.g.glo, h.g.cls, h.g.meth, h.g.fld, h.g.kit, ⟨h.g.eq.kit, h.g.eq.on⟩, h.g.grp, h.g.blt, h.g.len⟩
  tk := takes0
  hN := h.hN
  nd := h.nd
  sc := by
    show relabel scope X.env = (blkGm G scope).sc
    unfold relabel blkGm
    simp only
    rw [← h.sc]
    rfl
  calm := h.calm
  fnc := by
    intro x hx
    have hsc : (relabel scope X.env) = (blkGm G scope).sc := by
      unfold relabel blkGm
      simp only
      rw [← h.sc]
      rfl
    unfold locB at hx
    show Loc (relabel scope X.env) x ∧ ((scope.names.lookup x == some .cell) = true ∨ (relabel scope X.env).names.lookup x = some .local)
    rw [hsc]
    split at hx
    · exact ⟨.inl (by assumption), .inr (by assumption)⟩
    · rename_i e
      have z : scope.names.lookup x = some .cell := of_decide_eq_true hx
      exact ⟨.inr e, .inl (by rw [z]; rfl)⟩
    · cases hx
/-- as a value and as a test -/
def Bo (pg : Pg) (N : Nm) (C : Call) (X : Cx) (W : WX) (e : Expr) (ee : E) : Prop := PE X e (tE pg N C X.K W ee) ∧ PT X e (tT pg N C X.K W ee)
theorem bo_bad {e : Expr} : Bo pg N C X W e .bad := ⟨e_bad, t_bad⟩
theorem bo_val {e : Expr} {ee : E} (hv : valT e = true) (h : PE X e (tE pg N C X.K W ee)) : Bo pg N C X W e ee := ⟨h, t_val h (valT_ok hv _)⟩
theorem o_name (h : CO pg N tb C k X W G) (x : Str) : Bo pg N C X W (.Name x pos) (cName tb G x) := by
  unfold cName
  split
  · exact bo_bad
  · rename_i hd
    simp only [Bool.or_eq_true, not_or, Bool.not_eq_true] at hd
    split
    · rename_i hv
      split
      · rename_i i hi
        exact bo_val rfl (e_var (by rw [h.hN]; exact ixOf_ok hi) (by rw [h.sc]; exact visB_ok hv) hd.1 hd.2)
      · exact bo_bad
    · split
      · rename_i hg
        split
        · rename_i g e
          obtain ⟨u, y, d, h1, h2, h3, h4⟩ := h.g.glo x g e
          exact bo_val rfl (e_glo (h.gl hg).1 h1 h2 h3 h4 hd.1)
        · exact bo_bad
      · exact bo_bad
theorem o_const (c : Const) (j : Nat) : Bo pg N C X W (.Constant c j pos) (cConst c) := by
  cases c with
  | none => exact bo_val rfl e_non
  | bool b => exact bo_val rfl e_bl
  | int i => exact bo_val rfl e_int
  | str s => exact bo_val rfl e_str
  | float _ => exact bo_bad
  | complex _ _ => exact bo_bad
  | bytes _ => exact bo_bad
  | ellipsis => exact bo_bad
theorem o_bin {a b : Expr} {ea eb : E} (op : Operator) (ha : PE X a (tE pg N C X.K W ea)) (hb : PE X b (tE pg N C X.K W eb)) : Bo pg N C X W (.BinOp a op b pos) (cBin op ea eb) := by
  cases op <;> first
    | exact bo_val rfl (e_add ha hb)
    | exact bo_val rfl (e_sub ha hb)
    | exact bo_val rfl (e_mul ha hb)
    | exact bo_val rfl (e_fdiv ha hb)
    | exact bo_val rfl (e_mod ha hb)
    | exact bo_val rfl (e_pow ha hb)
    | exact bo_bad
theorem o_un {a : Expr} {ea : E} (op : UnaryOp) (h : Bo pg N C X W a ea) : Bo pg N C X W (.UnaryOp op a pos) (cUn op ea) := by
  cases op with
  | USub => exact ⟨e_neg h.1, t_val (e_neg h.1) fun _ => rfl⟩
  | Not => exact ⟨e_not h.1, t_not h.2⟩
  | UAdd => exact bo_bad
  | Invert => exact bo_bad
theorem gr_ok (h : CO pg N tb C k X W G) {r : Expr} (hg : isGr tb G r = true) : ∃ d es n, PE X r (tC (.ref d)) ∧ GrpG pg.grp X.K X.w d es n := by
  unfold isGr at hg
  split at hg
  · rename_i x p
    rw [Bool.and_eq_true] at hg
    obtain ⟨g1, g2⟩ := h.gl hg.1
    obtain ⟨d, es, n, h1, h2⟩ := h.g.grp x (of_decide_eq_true hg.2)
    exact ⟨d, es, n, pe_glob g1 h1 (v := V.ref d) rfl g2, h2⟩
  · cases hg
theorem o_cmp (h : CO pg N tb C k X W G) {a r : Expr} {ea er : E} (op : CmpOp) (ha : PE X a (tE pg N C X.K W ea)) (hr : PE X r (tE pg N C X.K W er)) : Bo pg N C X W (.Compare a [op] [r] pos) (cCmp op r (isGr tb G r) ea er) := by
  have hu := h.hu
  cases op with
  | Eq => exact c_eq (by omega) h.g.eq passL ha hr
  | NotEq => exact c_ne (by omega) ha hr
  | Lt => exact c_lt ha hr
  | LtE => exact c_le ha hr
  | Gt => exact c_gt ha hr
  | GtE => exact c_ge ha hr
  | Is => exact c_isN ha hr
  | IsNot => exact c_notN ha hr
  | In =>
    unfold cCmp
    simp only
    split
    · rename_i hs
      split
      · rename_i hg
        obtain ⟨d, es, n, h1, h2⟩ := gr_ok h hg
        exact c_gin h2 ha h1 (marks_ok hs _)
      · exact c_in hu ha hr (marks_ok hs _)
    · exact bo_bad
  | NotIn =>
    unfold cCmp
    simp only
    split
    · rename_i hs
      split
      · exact bo_bad
      · exact c_notin hu ha hr (marks_ok hs _)
    · exact bo_bad
end
end Mini

set_option Elab.async false
set_option linter.all false
set_option maxRecDepth 100000
set_option maxHeartbeats 4000000
/-! The compiler of expressions is sound: the rest of the constructs, the whole. -/
namespace Mini
open PySem L2
section
variable {pg : Pg} {N : Nm} {tb : Tb} {C : Call} {k : Nat} {X : Cx} {W : WX} {G : Gm} {pos p apos : Pos}
/-- a chain's part -/
structure CmR (X : Cx) (N : Nm) (op : CmpOp) (c : Cm) (r : R2) : Prop where
  op : OpR X (compareOp op) r
  ok : ∀ {H : Hp} {ρ : List Addr} {A : Hh} {dx dy : D} {x y : V} {Q : VK} {E : XK}, HR N X.K H ρ A → Rp X.K H ρ dx x → Rp X.K H ρ dy y → RQ N X.K H ρ (ofB (cmpR c dx dy A) A) Q E → r x y H Q
theorem cmr (h : CO pg N tb C k X W G) {op : CmpOp} {c : Cm} (e : cmOf op = some c) : ∃ r, CmR X N op c r := by
  have hu := h.hu
  cases op <;> simp only [cmOf] at e <;> cases e
  · exact ⟨_, op_eqAll (by omega), fun h rx ry q => eq_ok h rx ry q⟩
  · exact ⟨_, op_neAll (by omega), fun h rx ry q => ne_ok h rx ry q⟩
  · exact ⟨_, op_lt, fun h rx ry q => lt_ok h rx ry q⟩
  · exact ⟨_, op_le, fun h rx ry q => le_ok h rx ry q⟩
  · exact ⟨_, op_gt, fun h rx ry q => gt_ok h rx ry q⟩
  · exact ⟨_, op_ge, fun h rx ry q => ge_ok h rx ry q⟩
theorem o_chain (h : CO pg N tb C k X W G) {a b c : Expr} {ea eb ec : E} {op op' : CmpOp} {c1 c2 : Cm} (e1 : cmOf op = some c1) (e2 : cmOf op' = some c2) (hs : noSet c = true) (ha : PE X a (tE pg N C X.K W ea)) (hb : PE X b (tE pg N C X.K W eb)) (hc : PE X c (tE pg N C X.K W ec)) :
    Bo pg N C X W (.Compare a [op, op'] [b, c] pos) (.chain c1 c2 ea eb ec) := by
  obtain ⟨r, R⟩ := cmr h e1
  obtain ⟨r', R'⟩ := cmr h e2
  exact chain_of R.op R'.op ha hb hc (lastm_ok hs op op') R.ok R'.ok
theorem o_attr (h : CO pg N tb C k X W G) {o : Expr} {a : Str} {eo : E} (ho : PE X o (tE pg N C X.K W eo)) : Bo pg N C X W (.Attribute o a pos) (cFld tb o a eo) := by
  unfold cFld
  split
  · rename_i hr
    split
    · rename_i f e
      obtain ⟨rfl, g⟩ := h.g.fld a f e
      exact bo_val rfl (e_fld g ho (base_ok hr _ _))
    · exact bo_bad
  · exact bo_bad
theorem o_idx (h : CO pg N tb C k X W G) {a s : Expr} {ea es : E} (hs : noSlice s = true) (ha : PE X a (tE pg N C X.K W ea)) (hb : PE X s (tE pg N C X.K W es)) : Bo pg N C X W (.Subscript a s pos) (if isGr tb G a then .gidx es else .idx ea es) := by
  have hu := h.hu
  split
  · rename_i hg
    obtain ⟨d, des, n, h1, h2⟩ := gr_ok h hg
    exact bo_val rfl (e_gidx h2 h1 hb (plainIx_ok hs))
  · exact bo_val rfl (e_idx (by omega) ha hb (plainIx_ok hs))
theorem args_ok {as : List Expr} {es : List E} (hp : as.all plainE = true) (ha : Paired (fun x e => PE X x (tE pg N C X.K W e)) as es) : PA X as (tA pg N C X.K W es) := by
  refine a_all ?_
  induction ha with
  | nil => exact .nil
  | cons h1 t ih =>
    rw [List.all_cons, Bool.and_eq_true] at hp
    exact .cons ⟨h1, fun r => star_ok hp.1 r _⟩ (ih hp.2)
theorem blt_g (h : CO pg N tb C k X W G) {x : Str} {a : Expr} {as : List Expr} (hg : gloB G.sc x = true) (hx : x ∈ bltNames) (hp : (a :: as).all plainE = true) : BltG X x pos a as := by
  rw [List.all_cons, Bool.and_eq_true] at hp
  exact ⟨(h.gl hg).1, h.g.blt x hx, star_ok hp.1 as _, star_pl hp.2 _ _⟩
theorem ty_pe (h : CO pg N tb C k X W G) {t : Str} {ty : Ty} (hg : gloB G.sc t = true) (e : tyOf tb t = some ty) : ∃ vt u, PE X (.Name t p) (tC vt) ∧ ClsV vt u ∧ u = kdV N (tyN ty) ∧ ∀ c, ty = .cls c → c < N.nc := by
  obtain ⟨g1, g2⟩ := h.gl hg
  unfold tyOf at e
  split at e
  · rename_i e1; cases e; subst e1
    exact ⟨.ty "int", .type "int", pe_bltn g1 (h.g.blt _ (by decide)) boot_int' rfl (by decide) g2, .ty _, rfl, fun c z => by cases z⟩
  split at e
  · rename_i e1; cases e; subst e1
    exact ⟨.ty "bool", .type "bool", pe_bltn g1 (h.g.blt _ (by decide)) boot_bool' rfl (by decide) g2, .ty _, rfl, fun c z => by cases z⟩
  split at e
  · rename_i e1; cases e; subst e1
    exact ⟨.ty "str", .type "str", pe_bltn g1 (h.g.blt _ (by decide)) boot_str' rfl (by decide) g2, .ty _, rfl, fun c z => by cases z⟩
  split at e
  · rename_i e1; cases e; subst e1
    exact ⟨.ty "tuple", .type "tuple", pe_bltn g1 (h.g.blt _ (by decide)) boot_tuple' rfl (by decide) g2, .ty _, rfl, fun c z => by cases z⟩
  split at e
  · rename_i e1; cases e; subst e1
    exact ⟨.ty "list", .type "list", pe_bltn g1 (h.g.blt _ (by decide)) boot_list' rfl (by decide) g2, .ty _, rfl, fun c z => by cases z⟩
  split at e
  · rename_i e1; cases e; subst e1
    exact ⟨.ty "dict", .type "dict", pe_bltn g1 (h.g.blt _ (by decide)) boot_dict' rfl (by decide) g2, .ty _, rfl, fun c z => by cases z⟩
  · obtain ⟨c, e1, rfl⟩ := Option.map_eq_some_iff.mp e
    obtain ⟨hc, hm, _⟩ := h.g.cls t c e1
    exact ⟨.ref (N.cl c), .ref (N.cl c), pe_glob g1 hm (v := V.ref (N.cl c)) rfl g2, .own _, rfl, fun d z => by cases z; exact hc⟩
theorem isin_bo {e : Expr} {ea : E} {t : Ty} (hv : valT e = true) (h : PE X e (tE pg N C X.K W (.isin ea t))) : Bo pg N C X W e (.isin ea t) := bo_val hv h
theorem o_zip (h : CO pg N tb C k X W G) {x : Str} {args : List Expr} {ea : List E} (hz : zipB G x args = true) (ha : Paired (fun x e => PE X x (tE pg N C X.K W e)) (zipEs args) ea) : Bo pg N C X W (.Call (.Name x p) args [] pos) (.bi .listzip ea) := by
  unfold zipB at hz
  split at hz
  · rename_i z pz a b pc
    simp only [Bool.and_eq_true, decide_eq_true_eq] at hz
    obtain ⟨⟨⟨⟨⟨a1, a2⟩, rfl⟩, rfl⟩, a3⟩, a4⟩ := hz
    have hp : ([a, b] : List Expr).all plainE = true := by rw [List.all_cons, List.all_cons, List.all_nil, a3, a4]; rfl
    exact bo_val rfl (e_lz h.calm (args_ok hp ha) (h.gl a1).1 (h.g.blt _ (by decide)) (h.gl a2).1 (h.g.blt _ (by decide)) (star_ok a3 _ _) (star_pl (by rw [List.all_cons, List.all_nil, a4]; rfl) _ _))
  · cases hz
theorem o_callN (h : CO pg N tb C k X W G) {x : Str} {args : List Expr} {ea : List E} (ha : Paired (fun x e => PE X x (tE pg N C X.K W e)) args ea) : Bo pg N C X W (.Call (.Name x p) args [] pos) (cCallN tb G x args ea) := by
  refine bo_val rfl ?_
  unfold cCallN
  split
  · rename_i hc
    rw [Bool.and_eq_true] at hc
    obtain ⟨hg, hp⟩ := hc
    obtain ⟨g1, g2⟩ := h.gl hg
    have hA := args_ok hp ha
    split
    · rename_i f np ds e1
      split
      · rename_i hb
        simp only [Bool.and_eq_true, decide_eq_true_eq, Bool.or_eq_true, Bool.not_eq_true'] at hb
        obtain ⟨⟨b1, b2⟩, b3⟩ := hb
        obtain ⟨m1, m2, m3⟩ := h.g.fn x f np ds e1
        obtain ⟨fd, ps, us, dvs, F, B, V, R, Z⟩ := m3 _ b2
        cases ha with
        | nil =>
          have z : np = 0 := by
            rcases b3 with b3 | b3
            · cases b3
            · exact b3
          subst z
          have eu : us = [] := Z rfl
          subst eu
          have ed : ds.drop (ds.length - (0 - ([] : List Expr).length)) = [] := by simp
          rw [ed]
          exact e_call0 F h.rk h.tk g1 m1 m2 B g2
        | cons h1 t =>
          rw [List.all_cons, Bool.and_eq_true] at hp
          exact e_call F h.rk h.tk g1 m1 m2 B V R hA g2 (star_ok hp.1 _ _) (star_pl hp.2 _ _)
      · exact e_bad
    · rename_i e1
      split
      · rename_i c e2
        obtain ⟨hc, hm, f, fd, ps, hi, M, F, B⟩ := h.g.cls x c e2
        cases ha with
        | nil => exact e_mk0 hc hi M F h.g.room h.tk g1 hm B g2
        | cons h1 t =>
          rw [List.all_cons, Bool.and_eq_true] at hp
          exact e_mk hc hi M F h.g.room h.tk g1 hm B hA g2 (star_ok hp.1 _ _) (star_pl hp.2 _ _)
      · split
        · rename_i ex
          subst ex
          split
          · rename_i a0 t tp a1 a2
            split
            · rename_i hgt
              split
              · rename_i ty et
                obtain ⟨vt, u, h1, h2, h3, h4⟩ := ty_pe (p := tp) h hgt et
                rw [List.all_cons, Bool.and_eq_true] at hp
                cases ha with
                | cons q1 t1 => exact e_isin h.g.kit g1 (h.g.blt _ (by decide)) q1 h1 h2 h3 h4 (star_ok hp.1 _ _) rfl rfl
              · exact e_bad
            · exact e_bad
          · exact e_bad
        · split
          · rename_i b eb
            have hm : ∀ {y : Str}, y ∈ bltNames → X.mg y = none := fun hy => h.g.blt _ hy
            unfold biOf at eb
            cases ha with
            | nil =>
              simp only [List.length_nil] at eb
              simp at eb
            | @cons a1 b1 as bs q1 t1 =>
              have bg : ∀ {y : Str}, gloB G.sc y = true → y ∈ bltNames → BltG X y pos a1 as := fun hy hx => blt_g h hy hx hp
              split at eb
              · rename_i ex; cases eb; obtain ⟨rfl, _⟩ := ex; exact e_len hA (bg hg (by decide)) h.g.len
              split at eb
              · rename_i ex; cases eb; obtain ⟨rfl, _⟩ := ex; exact e_intF hA (bg hg (by decide))
              split at eb
              · rename_i ex; cases eb; obtain ⟨rfl, _⟩ := ex; exact e_listF hA (bg hg (by decide))
              split at eb
              · rename_i ex; cases eb; obtain ⟨rfl, _⟩ := ex; exact e_tupleF hA (bg hg (by decide))
              split at eb
              · rename_i ex; cases eb; obtain ⟨rfl, _⟩ := ex; exact e_allF hA h.calm (bg hg (by decide))
              split at eb
              · rename_i ex; cases eb; obtain ⟨rfl, _⟩ := ex; exact e_anyF hA h.calm (bg hg (by decide))
              split at eb
              · rename_i ex; cases eb; obtain ⟨rfl, _⟩ := ex; exact e_absF hA (bg hg (by decide))
              split at eb
              · rename_i ex; cases eb; obtain ⟨rfl, _⟩ := ex; exact e_maxF hA h.calm (bg hg (by decide))
              split at eb
              · rename_i ex; cases eb; obtain ⟨rfl, _⟩ := ex; exact e_minF hA h.calm (bg hg (by decide))
              split at eb
              · rename_i ex; cases eb; obtain ⟨rfl, _⟩ := ex; exact e_strF hA (bg hg (by decide))
              · cases eb
          · exact e_bad
  · exact e_bad
theorem o_callA (h : CO pg N tb C k X W G) {o : Expr} {m : Str} {args : List Expr} {eo : E} {ea : List E} (ho : PE X o (tE pg N C X.K W eo)) (ha : Paired (fun x e => PE X x (tE pg N C X.K W e)) args ea) :
    Bo pg N C X W (.Call (.Attribute o m apos) args [] pos) (cCallA tb G o m args (apos.endLine == pos.line) eo ea) := by
  refine bo_val rfl ?_
  unfold cCallA
  split
  · rename_i hc
    simp only [Bool.and_eq_true, decide_eq_true_eq] at hc
    obtain ⟨⟨⟨hr, hp⟩, hl⟩, hn⟩ := hc
    have hl : (apos.endLine == pos.line) = true := by simpa using hl
    have hA := args_ok hp ha
    split
    · rename_i hgr
      split
      · rename_i a1 b1 ea1 eb1
        split
        · rename_i em
          subst em
          obtain ⟨d, des, n, h1, h2⟩ := gr_ok h hgr
          cases ha with
          | cons q1 t1 =>
            cases t1 with
            | cons q2 t2 =>
              rw [List.all_cons, Bool.and_eq_true, List.all_cons, Bool.and_eq_true] at hp
              refine e_gget h2 h1 q1 q2 ⟨base_ok hr _ _, few_ok (by rw [List.all_cons, List.all_cons, hp.1, hp.2.1]; rfl) hn, hl, ?_⟩
              rw [star_ok hp.1, star_ok hp.2.1]
              rfl
        · exact e_bad
      · exact e_bad
    · split
      · rename_i c f e1
        obtain ⟨hcn, hm, hno, fd, ps, F, B⟩ := h.g.meth m _ c f e1
        cases ha with
        | nil => exact e_meth0 ho (h.g.kit.cl c hcn) hm hno F h.rk h.tk B (meth_eq hr hp hn hl)
        | cons q1 t1 =>
          have hp' := hp
          rw [List.all_cons, Bool.and_eq_true] at hp'
          exact e_meth ho (h.g.kit.cl c hcn) hm hno F h.rk h.tk B hA (star_ok hp'.1 _ _) (star_pl hp'.2 _ _) (meth_eq hr hp hn hl)
      · split
        · split
          · rename_i em
            subst em
            cases ha with
            | cons q1 t1 =>
              have hp' := hp
              rw [List.all_cons, Bool.and_eq_true] at hp'
              exact e_append ho q1 (base_ok hr _ _) (few_ok hp hn) hl (star_ok hp'.1 _ _) rfl
          split
          · rename_i em
            subst em
            cases ha with
            | cons q1 t1 =>
              have hp' := hp
              rw [List.all_cons, Bool.and_eq_true] at hp'
              exact e_join ho q1 ((star_ok hp'.1 _ _).trans rfl) (base_ok hr _ _) hl
          split
          · rename_i em
            subst em
            cases ha with
            | cons q1 t1 =>
              have hp' := hp
              rw [List.all_cons, Bool.and_eq_true] at hp'
              exact e_split ho q1 ((star_ok hp'.1 _ _).trans rfl) (base_ok hr _ _) hl
          split
          · rename_i em
            subst em
            cases ha with
            | cons q1 t1 =>
              have hp' := hp
              rw [List.all_cons, Bool.and_eq_true] at hp'
              exact e_starts ho q1 ((star_ok hp'.1 _ _).trans rfl) (base_ok hr _ _) hl
          · exact e_bad
        · split
          · rename_i em
            subst em
            exact e_pop ho (base_ok hr _ _) hl
          · exact e_bad
        · exact e_bad
  · exact e_bad
end
end Mini

set_option Elab.async false
set_option linter.all false
set_option maxRecDepth 100000
set_option maxHeartbeats 4000000
/-! The compiler of expressions is sound: comprehensions, the whole. -/
namespace Mini
open PySem L2
section
variable {pg : Pg} {N : Nm} {tb : Tb} {C : Call} {k : Nat} {X : Cx} {W : WX} {G : Gm} {pos p apos : Pos}
theorem subB_ok {a b : List Nat} (h : subB a b = true) : ∀ j ∈ a, j ∈ b := fun j hj => by
  unfold subB at h
  have := List.all_eq_true.mp h j hj
  exact List.contains_iff_mem.mp this
theorem tName_ok (h : CO pg N tb C k X W G) {e : Expr} {i : Nat} (e1 : tName G e = some i) : ∃ x q, e = .Name x q ∧ X.N[i]? = some x ∧ Loc X.env.scope x ∧ (X.fn x = true ∨ X.env.scope.names.lookup x = some .local) := by
  unfold tName at e1
  split at e1
  · rename_i x q
    split at e1
    · rename_i hl
      obtain ⟨l1, l2⟩ := h.fnc x hl
      exact ⟨x, q, rfl, by rw [h.hN]; exact ixOf_ok e1, l1, l2⟩
    · cases e1
  · cases e1
theorem t_ok (h : CO pg N tb C k X W G) {tg : Expr} {t : T} (e : cT G tg = some t) : PG X tg (tG N X.K t) := by
  have one : ∀ {tg : Expr}, (tName G tg).map .one = some t → PG X tg (tG N X.K t) := fun {tg} e => by
    obtain ⟨i, e1, rfl⟩ := Option.map_eq_some_iff.mp e
    obtain ⟨x, q, rfl, h1, h2, h3⟩ := tName_ok h e1
    exact g_one h.nd h1 h2 h3
  unfold cT at e
  split at e
  · rename_i es k p
    obtain ⟨is, e1, rfl⟩ := Option.map_eq_some_iff.mp e
    have pr : ∀ {es : List Expr} {is : List Nat}, es.mapM (tName G) = some is → Paired (fun e i => PG X e (gName i) ∧ ∀ r, (assignEach (e :: r) X.env).map (·.2) = assign e X.env :: (assignEach r X.env).map (·.2)) es is ∧ (assignEach es X.env).length = is.length ∧ (assignEach es X.env).findIdx? (·.1) = none := by
      intro es
      induction es with
      | nil => intro is e; cases e; exact ⟨.nil, rfl, rfl⟩
      | cons a r ih =>
        intro is e
        rw [List.mapM_cons] at e
        cases e2 : tName G a with
        | none => rw [e2] at e; cases e
        | some i =>
          rw [e2] at e
          cases e3 : r.mapM (tName G) with
          | none => rw [e3] at e; cases e
          | some js =>
            rw [e3] at e
            cases e
            obtain ⟨x, q, rfl, h1, h2, h3⟩ := tName_ok h e2
            obtain ⟨i1, i2, i3⟩ := ih e3
            refine ⟨.cons ⟨pg_name h.nd h1 h2 h3, fun _ => rfl⟩ i1, by show (assignEach r X.env).length + 1 = js.length + 1; rw [i2], ?_⟩
            show ((false, assign (.Name x q) X.env) :: assignEach r X.env).findIdx? (·.1) = none
            rw [List.findIdx?_cons]
            simp [i3]
    obtain ⟨p1, p2, p3⟩ := pr e1
    exact g_many h.calm (gs_all p1) p2 p3
  · exact one e
theorem o_lc (h : CO pg N tb C k X W G) {tg it elt : Expr} {ifs : List Expr} {scope : Scope} {own : List (Str × Nat)} {t : T} {ii : I} {c : Option E} {ee : E} (hb : blkC G.N G.sc scope own = true) (ho : subB t.ixs (own.map (·.2)) = true) (hs : noSet it = true) (ht : cT (blkGm G scope) tg = some t)
    (hi : PI X tg it (tI pg N C X.K W ii)) (hc : ∀ {Y : Cx}, CO pg N tb C k Y WF (blkGm G scope) → PTs Y ifs (tCo pg N C Y.K WF c)) (he : ∀ {Y : Cx}, CO pg N tb C k Y WF (blkGm G scope) → PE Y elt (tE pg N C Y.K WF ee)) :
    PE X (.ListComp elt [⟨tg, it, ifs, 0⟩] scope pos) (tE pg N C X.K W (.lc (own.map (·.2)) t ii c ee)) :=
  PE.wk (pe_lc h.calm h.nd hi (blkOk_by (by rw [h.hN, h.sc]; exact hb)) (fun s H Ca cl fp => t_ok (N := N) h.blk ht) (fun s H Ca cl fp => hc h.blk) (fun s H Ca cl fp => he h.blk) (fold_ok hs _)) fun σ H Q q => lc_ok (subB_ok ho) q
theorem o_lc2 (h : CO pg N tb C k X W G) {tg it tg1 it1 elt : Expr} {scope : Scope} {own : List (Str × Nat)} {own1 : List Nat} {t t1 : T} {ii ii1 : I} {ee : E} (hb : blkC G.N G.sc scope own = true) (ho : subB t.ixs (own.map (·.2)) = true) (ho1 : subB t1.ixs own1 = true) (hv : subB own1 (own.map (·.2)) = true)
    (hs : noSet it = true) (hs1 : noSet it1 = true) (ht : cT (blkGm G scope) tg = some t) (ht1 : cT (blkGm G scope) tg1 = some t1)
    (hi : PI X tg it (tI pg N C X.K W ii)) (hi1 : ∀ {Y : Cx}, CO pg N tb C k Y WF (blkGm G scope) → PI Y tg1 it1 (tI pg N C Y.K WF ii1)) (he : ∀ {Y : Cx}, CO pg N tb C k Y WF (blkGm G scope) → PE Y elt (tE pg N C Y.K WF ee)) :
    PE X (.ListComp elt [⟨tg, it, [], 0⟩, ⟨tg1, it1, [], 0⟩] scope pos) (tE pg N C X.K W (.lc2 (own.map (·.2)) own1 t ii t1 ii1 ee)) :=
  PE.wk (pe_lc2 h.calm h.nd hi (blkOk_by (by rw [h.hN, h.sc]; exact hb)) (subB_ok hv) (fun s H Ca cl fp => t_ok (N := N) h.blk ht) (fun s H Ca cl fp => pts_nil) (fun s H Ca cl fp => hi1 h.blk) (fun s H Ca cl fp => t_ok (N := N) h.blk ht1) (fun s H Ca cl fp => pts_nil)
    (fun s H Ca cl fp => he h.blk) (fold_ok hs _) (fun env => fold_ok hs1 env)) fun σ H Q q => lc2_ok (subB_ok ho) (subB_ok ho1) q
theorem o_dc (h : CO pg N tb C k X W G) {tg it kx vx : Expr} {scope : Scope} {own : List (Str × Nat)} {t : T} {ii : I} {ek ee : E} (hb : blkC G.N G.sc scope own = true) (ho : subB t.ixs (own.map (·.2)) = true) (hs : noSet it = true) (ht : cT (blkGm G scope) tg = some t)
    (hi : PI X tg it (tI pg N C X.K W ii)) (hk : ∀ {Y : Cx}, CO pg N tb C k Y WF (blkGm G scope) → PE Y kx (tE pg N C Y.K WF ek)) (he : ∀ {Y : Cx}, CO pg N tb C k Y WF (blkGm G scope) → PE Y vx (tE pg N C Y.K WF ee)) :
    PE X (.DictComp kx vx [⟨tg, it, [], 0⟩] scope pos) (tE pg N C X.K W (.dc (own.map (·.2)) t ii ek ee)) :=
  PE.wk (pe_dc h.calm h.nd hi (blkOk_by (by rw [h.hN, h.sc]; exact hb)) (fun s H Ca cl fp => t_ok (N := N) h.blk ht) (fun s H Ca cl fp => pts_nil) (fun s H Ca cl fp => hk h.blk) (fun s H Ca cl fp => he h.blk) (fold_ok hs _)) fun σ H Q q => dc_ok (subB_ok ho) q
theorem pps_of {ks : List (Option Expr)} {ss : List Str} {vs : List Expr} {es : List E} (hk : ks.mapM keyS = some ss) (hv : Paired (fun x e => PE X x (tE pg N C X.K W e)) vs es) (hl : ks.length = vs.length) : PPs X pos ks vs (trs pg N C X.K W ss es) ∧ ss.length = ks.length ∧ ks.all (·.isSome) = true := by
  induction hv generalizing ks ss with
  | nil =>
    cases ks with
    | nil => cases hk; exact ⟨pps_nil, rfl, rfl⟩
    | cons _ _ => cases hl
  | @cons v e vs es h1 t ih =>
    cases ks with
    | nil => cases hl
    | cons kk ks =>
      rw [List.mapM_cons] at hk
      cases e2 : keyS kk with
      | none => rw [e2] at hk; cases hk
      | some s =>
        rw [e2] at hk
        cases e3 : ks.mapM keyS with
        | none => rw [e3] at hk; cases hk
        | some ss' =>
          rw [e3] at hk
          cases hk
          obtain ⟨i1, i2, i3⟩ := ih e3 (by simpa using hl)
          unfold keyS at e2
          split at e2
          · cases e2
            exact ⟨pps_cons pe_str h1 i1, by show ss'.length + 1 = ks.length + 1; rw [i2], i3⟩
          · cases e2
theorem o_iter (h : CO pg N tb C k X W G) {f : Gm → Expr → E} (ih : ∀ e, PE X e (tE pg N C X.K W (f G e))) (tg it : Expr) : PI X tg it (tI pg N C X.K W (cIx tb f G tg it)) := by
  have def_ : PI X tg it (tI pg N C X.K W (.e (f G it))) := i_any (ih it)
  unfold cIx
  split
  · rename_i x q a p
    split
    · rename_i hc
      simp only [Bool.and_eq_true, decide_eq_true_eq] at hc
      obtain ⟨⟨hg, hp⟩, rfl⟩ := hc
      exact i_range (h.gl hg).1 (h.g.blt _ (by decide)) (ih a) (star_ok hp _ _) (star_ok hp _ _)
    · split
      · rename_i hc
        simp only [Bool.and_eq_true, decide_eq_true_eq] at hc
        obtain ⟨⟨⟨hg, hp⟩, rfl⟩, ht⟩ := hc
        unfold isTup at ht
        split at ht
        · exact i_enum (h.gl hg).1 (h.g.blt _ (by decide)) (ih a) (star_ok hp _ _) (star_ok hp _ _)
        · cases ht
      · exact def_
  · exact def_
theorem t_ife {c a b : Expr} {ec ea eb : E} (hc : PT X c (tT pg N C X.K W ec)) (ha : PT X a (tT pg N C X.K W ea)) (hb : PT X b (tT pg N C X.K W eb)) : PT X (.IfExp c a b pos) (tT pg N C X.K W (.ife ec ea eb)) := by
  refine ⟨fun pins s σ H Q I ⟨v, A, ρ, er, hr, q⟩ => ?_⟩
  have e : (evE pg C (.ife ec ea eb) v A).bind tru = ((evE pg C ec v A).bind tru).bind fun b A => if b then (evE pg C ea v A).bind tru else (evE pg C eb v A).bind tru := by
    rw [evE, bind_assoc, bind_assoc]
    congr 1
    funext d A1
    unfold tru
    cases truth A1 d with
    | none => rfl
    | some b => cases b <;> rfl
  rw [e] at q
  show wpAny _ _ (do if ← isTrue c X.env (eval c X.env) then isTrue a X.env (eval a X.env) else isTrue b X.env (eval b X.env)) _ _ s
  have hq : tT pg N C X.K W ec σ H (fun k H1 => if k = true then tT pg N C X.K W ea σ H1 Q else tT pg N C X.K W eb σ H1 Q) := use1T er hr q fun k A1 H1 ρ1 er1 hr1 x1 g => by
    cases k with
    | true => rw [if_pos rfl] at g ⊢; exact ⟨v, A1, ρ1, er1, hr1, g⟩
    | false => rw [if_neg (by decide)] at g ⊢; exact ⟨v, A1, ρ1, er1, hr1, g⟩
  refine wpAny_bind (thn (hc.run pins s σ H _ I hq) fun k s1 ⟨H1, I1, q1⟩ => ?_)
  cases k with
  | true => rw [if_pos rfl] at q1 ⊢; exact ha.run pins s1 σ H1 Q I1 q1
  | false => rw [if_neg (by decide)] at q1 ⊢; exact hb.run pins s1 σ H1 Q I1 q1
theorem cX_ok (h : CO pg N tb C k X W G) {f : Gm → Expr → E} {fi : Gm → Expr → Expr → I} (ihB : ∀ {Y : Cx} {W' : WX} {G' : Gm}, CO pg N tb C k Y W' G' → ∀ e, Bo pg N C Y W' e (f G' e))
    (ihI : ∀ {Y : Cx} {W' : WX} {G' : Gm}, CO pg N tb C k Y W' G' → ∀ tg it, PI Y tg it (tI pg N C Y.K W' (fi G' tg it))) (e : Expr) : Bo pg N C X W e (cX tb f fi G e) := by
  have ih : ∀ e, PE X e (tE pg N C X.K W (f G e)) := fun e => (ihB h e).1
  have ihE : ∀ {Y : Cx} {W' : WX} {G' : Gm}, CO pg N tb C k Y W' G' → ∀ e, PE Y e (tE pg N C Y.K W' (f G' e)) := fun hY e => (ihB hY e).1
  have mp : ∀ es : List Expr, Paired (fun x e => PE X x (tE pg N C X.K W e)) es (es.map (f G)) := fun es => pair_map fun a _ => ih a
  cases e with
  | Name x p => exact o_name h x
  | Constant c j p => exact o_const c j
  | Tuple es j p =>
    dsimp only [cX]
    split
    · rename_i hp; exact bo_val rfl (e_tup (args_ok hp (mp es)))
    · exact bo_bad
  | List es p =>
    dsimp only [cX]
    split
    · rename_i hp; exact bo_val rfl (e_lst (args_ok hp (mp es)))
    · exact bo_bad
  | Dict ks vs p =>
    dsimp only [cX]
    split
    · rename_i ss hk
      split
      · rename_i hb
        simp only [Bool.and_eq_true, decide_eq_true_eq] at hb
        obtain ⟨⟨b1, b2⟩, b3⟩ := hb
        obtain ⟨q1, q2, q3⟩ := pps_of (pos := p) hk (mp vs) b1
        exact bo_val rfl (e_dic q1 (by rw [List.length_map]; omega) q3 b1 (by intro z; rw [z] at b2; simp at b2) b3 q2)
      · exact bo_bad
    · exact bo_bad
  | BinOp a op b p => exact o_bin op (ih a) (ih b)
  | UnaryOp op a p => exact o_un op (ihB h a)
  | BoolOp op es p =>
    cases es with
    | nil => exact bo_bad
    | cons a r =>
      have mT : Paired (fun x e => PT X x (tT pg N C X.K W e)) (a :: r) ((a :: r).map (f G)) := pair_map fun b _ => (ihB h b).2
      cases op with
      | And => exact ⟨e_and (mp _) (by simp), t_and mT (by simp)⟩
      | Or => exact ⟨e_or (mp _) (by simp), t_or mT (by simp)⟩
  | Compare a ops rs p =>
    dsimp only [cX]
    split
    · exact o_cmp h _ (ih a) (ih _)
    · split
      · rename_i e1 e2
        split
        · rename_i hs; exact o_chain h e1 e2 hs (ih a) (ih _) (ih _)
        · exact bo_bad
      · exact bo_bad
    · exact bo_bad
  | IfExp c a b p => exact ⟨e_ife (ihB h c).2 (ih a) (ih b), t_ife (ihB h c).2 (ihB h a).2 (ihB h b).2⟩
  | Subscript a s p =>
    dsimp only [cX]
    split
    · exact bo_val rfl (e_rev (ih a))
    · exact bo_val rfl (e_sl1 (ih a) (ih _))
    · exact bo_val rfl (e_sl2 (ih a) (ih _))
    · exact bo_val rfl (e_sl3 (ih a) (ih _) (ih _))
    · exact bo_bad
    · rename_i h5
      refine o_idx h ?_ (ih a) (ih s)
      cases s <;> first | rfl | (exact absurd rfl (h5 _ _ _ _))
  | Attribute o a p => exact o_attr h (ih o)
  | Call g args kws p =>
    cases kws with
    | cons _ _ => cases g <;> exact bo_bad
    | nil =>
      cases g with
      | Name x px =>
        dsimp only [cX]
        split
        · rename_i hz
          exact o_zip h hz (mp _)
        · exact o_callN h (mp _)
      | _ => first | exact o_callA h (ih _) (mp _) | exact bo_bad
  | ListComp elt gens scope p =>
    dsimp only [cX]
    split
    · rename_i tg it ifs
      split
      · rename_i t ht
        split
        · rename_i hb
          simp only [Bool.and_eq_true] at hb
          obtain ⟨⟨b1, b2⟩, b3⟩ := hb
          split
          · exact bo_val rfl (o_lc h b1 b2 b3 ht (ihI h _ _) (fun _ => co_none) (fun hY => ihE hY _))
          · exact bo_val rfl (o_lc h b1 b2 b3 ht (ihI h _ _) (fun hY => co_some (ihB hY _).2) (fun hY => ihE hY _))
          · exact bo_bad
        · exact bo_bad
      · exact bo_bad
    · rename_i tg it tg1 it1
      split
      · rename_i t t1 ht ht1
        split
        · rename_i hb
          simp only [Bool.and_eq_true] at hb
          obtain ⟨⟨⟨⟨⟨b1, b2⟩, b3⟩, b4⟩, b5⟩, b6⟩ := hb
          exact bo_val rfl (o_lc2 h b1 b2 b3 b4 b5 b6 ht ht1 (ihI h _ _) (fun hY => ihI hY _ _) (fun hY => ihE hY _))
        · exact bo_bad
      · exact bo_bad
    · exact bo_bad
  | DictComp kx vx gens scope p =>
    dsimp only [cX]
    split
    · rename_i tg it
      split
      · rename_i t ht
        split
        · rename_i hb
          simp only [Bool.and_eq_true] at hb
          obtain ⟨⟨b1, b2⟩, b3⟩ := hb
          exact bo_val rfl (o_dc h b1 b2 b3 ht (ihI h _ _) (fun hY => ihE hY _) (fun hY => ihE hY _))
        · exact bo_bad
      · exact bo_bad
    · exact bo_bad
  | _ => exact bo_bad
/-- the compiler of expressions, of iterables -/
theorem cE_ok : ∀ (n : Nat) {X : Cx} {W : WX} {G : Gm}, CO pg N tb C k X W G → (∀ e, Bo pg N C X W e (cE tb n G e)) ∧ ∀ tg it, PI X tg it (tI pg N C X.K W (cI tb n G tg it))
  | 0, X, W, G, h => ⟨fun e => by rw [cE]; exact bo_bad, fun tg it => by rw [cI]; exact i_any e_bad⟩
  | n + 1, X, W, G, h => ⟨fun e => by rw [cE]; exact cX_ok h (fun hY => (cE_ok n hY).1) (fun hY => (cE_ok n hY).2) e,
      fun tg it => by rw [cI]; exact o_iter (f := fun G e => cE tb n G e) h (fun e => ((cE_ok n h).1 e).1) tg it⟩
end
end Mini

set_option Elab.async false
set_option linter.all false
set_option maxRecDepth 100000
set_option maxHeartbeats 4000000
/-! The compiler of statements. -/
namespace Mini
open PySem L2

/-- a comprehension's own scope -/
def compS : Expr → Option Scope
  | .ListComp _ _ s _ => some s
  | .SetComp _ _ s _ => some s
  | .DictComp _ _ _ s _ => some s
  | _ => none
/-- name = comprehension, by an exchange of the stores -/
def swB (G : Gm) (e : Expr) (y : Str) (p : Pos) : Bool := match compS e with
  | none => false
  | some s => decide (G.sc.names.lookup y = some .local) && p.line == e.pos.line && !(s.names.any fun (n, k) => n == y && (k == .local || k == .cell))
def isTupE : Expr → Bool
  | .Tuple _ _ _ => true
  | _ => false
/-- two local names at once -/
def parB (G : Gm) (x y : Str) (px py : Pos) (a b : Expr) : Bool :=
  plainE a && plainE b && decide (G.sc.names.lookup x = some .local) && decide (G.sc.names.lookup y = some .local) && px.line == py.line && decide (x ≠ y) && !((foldedForSure 8 a) && (foldedForSure 8 b)) && !((constantsAlone 8 a) && (constantsAlone 8 b))
def cHd (tb : Tb) (G : Gm) : ExceptHandler → Option (Nat × Nat × D)
  | .ExceptHandler (some (.Name x _)) none [.Assign [.Name y _] (.Constant c _ _) _] _ =>
    if gloB G.sc x && locB G y then (match tb.er.lookup x, ixOf G.N y, cConst c with
      | some k, some i, .con d => some (k, i, d)
      | _, _, _ => none) else none
  | _ => none
/-- except BadLine as n: y = n.line -/
def cHdL (tb : Tb) (G : Gm) : ExceptHandler → Option (Nat × Nat × Nat)
  | .ExceptHandler (some (.Name x _)) (some n) [.Assign [.Name y _] (.Attribute (.Name z _) a _) _] _ =>
    if gloB G.sc x && decide (G.sc.names.lookup n = some .local) && visB G.sc z && !((z == ("__debug__" : Str)) || (z == ("__classdict__" : Str))) && decide (z = n) && decide (a = "line") && locB G y && decide (x = "BadLine") then (match tb.lo, ixOf G.N y, ixOf G.N n with
      | some k, some i, some j => if i = j then none else some (k, j, i)
      | _, _, _ => none) else none
  | _ => none
def cSX (tb : Tb) (fe : Expr → E) (fi : Expr → Expr → I) (f : Stmt → St) (G : Gm) (st : Stmt) : St :=
  match st with
  | .Pass _ => .pass
  | .Assign [.Name x p] e _ => if locB G x then (match ixOf G.N x with | some i => .set i (fe e) | none => .bad) else .bad
  | .Assign [.Tuple ts _ _] e _ => (match e with
    | .Tuple [a, b] _ _ => (match ts with
      | [.Name x px, .Name y py] => if parB G x y px py a b then (match ixOf G.N x, ixOf G.N y with | some i, some j => if i = j then .bad else .par i j (fe a) (fe b) | _, _ => .bad) else .bad
      | _ => .bad)
    | e => if noComp e && !isTupE e then (match ts.mapM (tName G) with | some is => .unp is (fe e) | none => .bad) else .bad)
  | .Assign [.Attribute o a _] e _ => if noComp e then (match ixOf tb.fl a with | some g => .sfld (fe o) g (fe e) | none => .bad) else .bad
  | .Assign [.Subscript o i _] e _ => if noComp e && noSlice i then .ssub (fe o) (fe i) (fe e) else .bad
  | .AugAssign (.Name x _) .Add e _ => if locB G x then (match ixOf G.N x with | some i => .aug i .add (fe e) | none => .bad) else .bad
  | .AugAssign (.Attribute o a _) .Add e _ => (match ixOf tb.fl a with | some g => .augF (fe o) g (fe e) | none => .bad)
  | .Expr e _ => if noComp e then .expr (fe e) else .bad
  | .Return none _ => .retN
  | .Return (some e) _ => .ret (fe e)
  | .If c a b _ => .ife (fe c) (a.map f) (b.map f)
  | .For tg it body [] _ => if noSet it then (match cT G tg with | some t => .for_ t (fi tg it) (body.map f) | none => .bad) else .bad
  | .While c body [] _ => .while_ (fe c) (body.map f)
  | .Raise (some (.Call (.Name x _) [] [] _)) none _ => if gloB G.sc x then (match tb.er.lookup x with | some c => if tb.lo = some c then .bad else .raise_ c none | none => .bad) else .bad
  | .Raise (some (.Call (.Name x _) [a] [] _)) none _ => if gloB G.sc x && plainE a && decide (x = "BadLine") then (match tb.lo with | some c => .raise_ c (some (fe a)) | none => .bad) else .bad
  | .Try body (h :: hs) [] [] _ => (match (h :: hs).mapM (cHd tb G) with
    | some l => .try_ (body.map f) (l.map fun q => (q.1, none, .con q.2.1 q.2.2))
    | none => (match hs with
      | [] => (match cHdL tb G h with | some q => .try_ (body.map f) [(q.1, some q.2.1, .line q.2.2 0)] | none => .bad)
      | _ => .bad))
  | _ => .bad
def cS (tb : Tb) (m : Nat) : Nat → Gm → Stmt → St
  | 0, _, _ => .bad
  | n + 1, G, st => cSX tb (fun e => cE tb m G e) (fun tg it => cI tb m G tg it) (fun s => cS tb m n G s) G st
def cSs (tb : Tb) (m n : Nat) (G : Gm) (ss : List Stmt) : List St := ss.map fun s => cS tb m n G s

/-! ### sound -/
structure EF (pg : Pg) (N : Nm) (tb : Tb) (X : Cx) : Prop where
  er : ∀ x c, tb.er.lookup x = some c → c < pg.sup.length ∧ X.mg x = some (.ref (N.er c)) ∧ PySem.W.keepIn X.K (.ref (N.er c)) = true ∧ PySem.W.subIn X.K (.ref (N.er c)) (.type "BaseException") = some true ∧ PySem.W.typeIn X.K (.ref (N.er c)) = some (.type "type") ∧
    (tb.lo ≠ some c → ∃ (bmB : List Value) (B newId initId : String), ExcBaseFacts B newId initId bmB ∧ PySem.W.excIn X.K (N.er c) bmB newId = true)
  lo : ∀ c, tb.lo = some c → c < pg.sup.length ∧ (∃ fI, PySem.LowX.LowTxt X.K X.mg (N.er c) fI) ∧ ∀ c', c' < pg.sup.length → ((pg.sup[c']?).getD []).contains c = true → c' = c
  tr : TryG pg N X.K
structure CS (pg : Pg) (N : Nm) (tb : Tb) (C : Call) (k : Nat) (X : Cx) (W : WX) (G : Gm) : Prop where
  o : CO pg N tb C k X W G
  e : EF pg N tb X
  kd : G.sc.kind = .function
  po : PassesOwn (model X.prog X.w) X.A X.env X.xe
  st : X.stack = X.env :: X.outer
  fr : X.env.frame = some X.env.locals
section
variable {pg : Pg} {N : Nm} {tb : Tb} {C : Call} {k : Nat} {X : Cx} {W : WX} {G : Gm} {pos p pos' : Pos}
theorem CS.tr (h : CS pg N tb C k X W G) {W' : WX} {pn : List (Addr × Obj)} {xe : Value → Shared → Prop} (tk : Takes (X.tr pn xe) W') (po : PassesOwn (model X.prog X.w) X.A X.env xe) : CS pg N tb C k (X.tr pn xe) W' G where
  o := ⟨⟨h.o.g.room, h.o.g.fn, h.o.g.glo, h.o.g.cls, h.o.g.meth, h.o.g.fld, h.o.g.kit, ⟨h.o.g.eq.kit, h.o.g.eq.on⟩, h.o.g.grp, h.o.g.blt, h.o.g.len⟩, tk, h.o.hN, h.o.nd, h.o.sc, h.o.calm, h.o.fnc⟩
  e := ⟨h.e.er, h.e.lo, h.e.tr⟩
  kd := h.kd
  po := po
  st := h.st
  fr := h.fr
theorem swB_ok (h : CS pg N tb C k X W G) (e : Expr) (y : Str) (l : Nat) : swapsWith e (some (.Name y p)) l X.env = pure (swB G e y p) := by
  have hk : X.env.scope.kind = .function := by rw [h.o.sc]; exact h.kd
  have hb : X.env.blockKind = .function := by unfold Env.blockKind; rw [hk]; rfl
  have ky : ∀ {z : Option NameKind}, X.env.kindOf y = G.sc.names.lookup y := by
    intro z
    show X.env.scope.names.lookup y = _
    rw [h.o.sc]
  unfold swB
  cases e <;> first
    | rfl
    | (unfold swapsWith
       simp only [hb, ky (z := none), compS]
       congr 1
       first
       | rfl
       | (by_cases c : G.sc.names.lookup y = some .local <;> simp [c] <;> rfl))
end
end Mini

set_option Elab.async false
set_option linter.all false
set_option maxRecDepth 100000
set_option maxHeartbeats 4000000
/-! The compiler of statements is sound. -/
namespace Mini
open PySem L2 PySem.Spec PyProof.Rows
/-- name = {k: v for ..} on one line, the name a local -/
theorem ps_setDc {X : Cx} {i : Nat} {y : Str} {py : Pos} {kx vx tg iter : Expr} {ifs : List Expr} {scope : Scope} {own : List (Str × Nat)} {pos spos : Pos} {wi : TI} {g : TG} {tt : TT} {tk tv : TE} (hc : X.calm = true) (hN : X.N.Nodup) (hy : X.N[i]? = some y) (hyl : X.env.scope.names.lookup y = some .local)
    (hsw : swapsWith (.DictComp kx vx [⟨tg, iter, ifs, 0⟩] scope pos) (some (.Name y py)) spos.line X.env = pure true) (hi : PI X tg iter wi) (ok : BlkOk X.N X.env.scope scope own)
    (hg : ∀ (s : Shared) (H : Hp) (C : Addr) (cl : List (Str × Addr)) (fp : List Addr), PG (X.blk s H scope (compEnvC scope cl C X.env) fp) tg g) (ht : ∀ (s : Shared) (H : Hp) (C : Addr) (cl : List (Str × Addr)) (fp : List Addr), PTs (X.blk s H scope (compEnvC scope cl C X.env) fp) ifs tt)
    (hk : ∀ (s : Shared) (H : Hp) (C : Addr) (cl : List (Str × Addr)) (fp : List Addr), PE (X.blk s H scope (compEnvC scope cl C X.env) fp) kx tk)
    (he : ∀ (s : Shared) (H : Hp) (C : Addr) (cl : List (Str × Addr)) (fp : List Addr), PE (X.blk s H scope (compEnvC scope cl C X.env) fp) vx tv) (hs : ∀ x, foldedSetIterable iter X.env x = pure x) :
    PS X (.Assign [.Name y py] (.DictComp kx vx [⟨tg, iter, ifs, 0⟩] scope pos) spos) (tAsg (tDc wi g tt tk tv (own.map (·.2))) (gName i)) := by
  refine ⟨fun pins s σ H D I h => ?_⟩
  rw [exec_Assign_Name_used _ _ _ _ hsw]
  refine wpAny_bind (wpAny_standAt (wpAny_bind ?_))
  show wpAny _ X.A (do let _ ← comprehension (.DictComp kx vx [⟨tg, iter, ifs, 0⟩] scope pos) scope X.env (firstIterPos [⟨tg, iter, ifs, 0⟩] pos) newDict false (eval iter X.env) (some (assign (.Name y py) X.env))) _ _ s
  have h : tDc wi g tt tk tv (own.map (·.2)) σ H (fun x H1 => gName i x σ H1 D.nx) := h
  refine wpAny_bind (thn (dc_core (Qf := fun _ s' => SP X pins D .next s') hc hN I hi ok hg ht hk he hs h fun L C s' m H' I' q hn f => ?_) fun _ s' hq => wpAny_pure (wpAny_pure hq))
  show wpAny _ _ (assign (.Name y py) X.env (.ref L)) _ _ _
  refine wpAny_assign_Name (store_ok2 (v := V.ref L) I' hN hy (.inl hyl) rfl (fun s2 I2 ⟨a, sb, ha⟩ => ?_) (.inr hyl))
  obtain ⟨f0, f1, f2, f3, f4, f5⟩ := f
  have haC : C ≠ a := by
    rcases ha with z | z
    · rw [z]; exact f1
    · exact fun e => f4 y a z e.symm
  refine ⟨m, hn.sameBut sb haC, fun h3 sb3 => ?_⟩
  exact ⟨_, H', I2.turned (t' := s2.toks) (fun b o hb e => (sb3.2 b hb).trans e) f0 f1 f3 f4 f5, q⟩
section
variable {pg : Pg} {N : Nm} {tb : Tb} {C : Call} {k : Nat} {X : Cx} {W : WX} {G : Gm} {pos p pos' py spos : Pos} {y : Str} {i : Nat}
theorem s_never {st : Stmt} {s : Mini.St} (h : ∀ v A, evS pg C s v A = .bad) : PS X st (tS pg N C X.K W s) := ⟨fun _ _ _ _ _ _ ⟨v, A, _, _, _, q⟩ => by rw [h] at q; exact q.elim⟩
theorem set_bad {st : Stmt} : PS X st (tS pg N C X.K W (.set i .bad)) := s_never fun v A => by rw [evS, evE]; rfl
/-- name = comprehension, the stores exchanged -/
theorem cX_set (h : CO pg N tb C k X W G) {f : Gm → Expr → E} {fi : Gm → Expr → Expr → I} (ihB : ∀ {Y : Cx} {W' : WX} {G' : Gm}, CO pg N tb C k Y W' G' → ∀ e, Bo pg N C Y W' e (f G' e))
    (ihI : ∀ {Y : Cx} {W' : WX} {G' : Gm}, CO pg N tb C k Y W' G' → ∀ tg it, PI Y tg it (tI pg N C Y.K W' (fi G' tg it))) (e : Expr) (hy : X.N[i]? = some y) (hyl : X.env.scope.names.lookup y = some .local) (hsw : swapsWith e (some (.Name y py)) spos.line X.env = pure true) (hc : compS e ≠ none) :
    PS X (.Assign [.Name y py] e spos) (tS pg N C X.K W (.set i (cX tb f fi G e))) := by
  have ihE : ∀ {Y : Cx} {W' : WX} {G' : Gm}, CO pg N tb C k Y W' G' → ∀ e, PE Y e (tE pg N C Y.K W' (f G' e)) := fun hY e => (ihB hY e).1
  cases e with
  | ListComp elt gens scope p =>
    dsimp only [cX]
    split
    · rename_i tg it ifs
      split
      · rename_i t ht
        split
        · rename_i hb
          simp only [Bool.and_eq_true] at hb
          obtain ⟨⟨b1, b2⟩, b3⟩ := hb
          have go : ∀ {c : Option E}, (∀ {Y : Cx}, CO pg N tb C k Y WF (blkGm G scope) → PTs Y ifs (tCo pg N C Y.K WF c)) → PS X (.Assign [.Name y py] (.ListComp elt [⟨tg, it, ifs, 0⟩] scope p) spos) (tS pg N C X.K W (.set i (.lc ((ownOf G.N (tgNames tg)).map (·.2)) t (fi G tg it) c (f (blkGm G scope) elt)))) := fun {c} hcc =>
            PS.wk (ps_setLc h.calm h.nd hy hyl hsw (ihI h _ _) (blkOk_by (by rw [h.hN, h.sc]; exact b1)) (fun s H Ca cl fp => t_ok (N := N) h.blk ht) (fun s H Ca cl fp => hcc h.blk) (fun s H Ca cl fp => ihE h.blk _) (fold_ok b3 _)) (set_ok fun σ H Q q => lc_ok (subB_ok b2) q)
          split
          · exact go fun _ => co_none
          · exact go fun hY => co_some (ihB hY _).2
          · exact set_bad
        · exact set_bad
      · exact set_bad
    · rename_i tg it tg1 it1
      split
      · rename_i t t1 ht ht1
        split
        · rename_i hb
          simp only [Bool.and_eq_true] at hb
          obtain ⟨⟨⟨⟨⟨b1, b2⟩, b3⟩, b4⟩, b5⟩, b6⟩ := hb
          exact PS.wk (ps_setLc2 h.calm h.nd hy hyl hsw (ihI h _ _) (blkOk_by (by rw [h.hN, h.sc]; exact b1)) (subB_ok b4) (fun s H Ca cl fp => t_ok (N := N) h.blk ht) (fun s H Ca cl fp => pts_nil) (fun s H Ca cl fp => ihI h.blk _ _) (fun s H Ca cl fp => t_ok (N := N) h.blk ht1) (fun s H Ca cl fp => pts_nil)
            (fun s H Ca cl fp => ihE h.blk _) (fold_ok b5 _) (fun env => fold_ok b6 env)) (set_ok fun σ H Q q => lc2_ok (subB_ok b2) (subB_ok b3) q)
        · exact set_bad
      · exact set_bad
    · exact set_bad
  | DictComp kx vx gens scope p =>
    dsimp only [cX]
    split
    · rename_i tg it
      split
      · rename_i t ht
        split
        · rename_i hb
          simp only [Bool.and_eq_true] at hb
          obtain ⟨⟨b1, b2⟩, b3⟩ := hb
          exact PS.wk (ps_setDc h.calm h.nd hy hyl hsw (ihI h _ _) (blkOk_by (by rw [h.hN, h.sc]; exact b1)) (fun s H Ca cl fp => t_ok (N := N) h.blk ht) (fun s H Ca cl fp => pts_nil) (fun s H Ca cl fp => ihE h.blk _) (fun s H Ca cl fp => ihE h.blk _) (fold_ok b3 _)) (set_ok fun σ H Q q => dc_ok (subB_ok b2) q)
        · exact set_bad
      · exact set_bad
    · exact set_bad
  | SetComp elt gens scope p => exact set_bad
  | _ => exact absurd rfl hc
theorem cE_set (n : Nat) (h : CO pg N tb C k X W G) (e : Expr) (hy : X.N[i]? = some y) (hyl : X.env.scope.names.lookup y = some .local) (hsw : swapsWith e (some (.Name y py)) spos.line X.env = pure true) (hc : compS e ≠ none) :
    PS X (.Assign [.Name y py] e spos) (tS pg N C X.K W (.set i (cE tb n G e))) := by
  cases n with
  | zero => rw [cE]; exact set_bad
  | succ n => rw [cE]; exact cX_set h (fun hY => (cE_ok n hY).1) (fun hY => (cE_ok n hY).2) e hy hyl hsw hc
/-- what the statements' compiler is given -/
structure FX (pg : Pg) (N : Nm) (tb : Tb) (C : Call) (k : Nat) (fe : Expr → E) (fi : Expr → Expr → I) (f : Stmt → Mini.St) (G : Gm) : Prop where
  e : ∀ {Y : Cx} {W' : WX}, CO pg N tb C k Y W' G → ∀ e, Bo pg N C Y W' e (fe e)
  i : ∀ {Y : Cx} {W' : WX}, CO pg N tb C k Y W' G → ∀ tg it, PI Y tg it (tI pg N C Y.K W' (fi tg it))
  s : ∀ {Y : Cx} {W' : WX}, CS pg N tb C k Y W' G → ∀ st, PS Y st (tS pg N C Y.K W' (f st))
  set : ∀ {Y : Cx} {W' : WX} {e : Expr} {i : Nat} {y : Str} {py spos : Pos}, CO pg N tb C k Y W' G → Y.N[i]? = some y → Y.env.scope.names.lookup y = some .local → swapsWith e (some (.Name y py)) spos.line Y.env = pure true → compS e ≠ none → PS Y (.Assign [.Name y py] e spos) (tS pg N C Y.K W' (.set i (fe e)))
theorem ss_map {f : Stmt → Mini.St} (h : ∀ st, PS X st (tS pg N C X.K W (f st))) : ∀ ss : List Stmt, PSs X ss (tSs pg N C X.K W (ss.map f))
  | [] => ss_nil
  | s :: r => ss_cons (h s) (ss_map h r)
theorem local_of {x : Str} {G : Gm} (h : locB G x = true) : True := trivial
theorem par_ok (h : CS pg N tb C k X W G) {x y : Str} {px py pt : Pos} {a b : Expr} {kt k2 : Nat} {pt2 : Pos} (hb : parB G x y px py a b = true) :
    swappedStores [.Tuple [.Name x px, .Name y py] kt pt] (.Tuple [a, b] k2 pt2) X.env = pure (some [x, y]) := by
  unfold parB at hb
  simp only [Bool.and_eq_true, decide_eq_true_eq, Bool.not_eq_true', Bool.and_eq_false_imp] at hb
  obtain ⟨⟨⟨⟨⟨⟨⟨h1, h2⟩, h3⟩, h4⟩, h5⟩, h6⟩, h7⟩, h8⟩ := hb
  have hk : X.env.scope.kind = .function := by rw [h.o.sc]; exact h.kd
  have hbk : X.env.blockKind = .function := by unfold Env.blockKind; rw [hk]; rfl
  have kx : X.env.kindOf x = some .local := by show X.env.scope.names.lookup x = _; rw [h.o.sc]; exact h3
  have ky : X.env.kindOf y = some .local := by show X.env.scope.names.lookup y = _; rw [h.o.sc]; exact h4
  have hl : px.line = py.line := by simpa using h5
  have na : ∀ e : Expr, plainE e = true → (match e with | .Starred .. => true | _ => false) = false := fun e he => by cases e <;> first | rfl | cases he
  have n1 := na a h1
  have n2 := na b h2
  have hd : ([x, y] : List Str).eraseDups.length = 2 := by
    have hxy : (x == y) = false := beq_eq_false_iff_ne.mpr h6
    have hyx : (y == x) = false := beq_eq_false_iff_ne.mpr (Ne.symm h6)
    simp [List.eraseDups, List.eraseDupsBy, List.eraseDupsBy.loop, hxy, hyx]
  have e7 : ([a, b] : List Expr).all (foldedForSure 8) = false := by
    rw [List.all_cons, List.all_cons, List.all_nil, Bool.and_true]
    cases q : foldedForSure 8 a with
    | false => rfl
    | true => rw [h7 q]; rfl
  have e8 : ([a, b] : List Expr).all (constantsAlone 8) = false := by
    rw [List.all_cons, List.all_cons, List.all_nil, Bool.and_true]
    cases q : constantsAlone 8 a with
    | false => rfl
    | true => rw [h8 q]; rfl
  have e1 : ([.Name x px, .Name y py] : List Expr).filterMap (fun
    | .Name id pos => if X.env.kindOf id == some .local && pos.line == px.line then some id else none
    | _ => none) = [x, y] := by
    simp [kx, ky, hl]
  unfold swappedStores
  simp only [hbk]
  have f0 : ∀ {α : Type} (u v : α), (if (!([Expr.Name x px, Expr.Name y py].length == 2 || [Expr.Name x px, Expr.Name y py].length == 3) || [a, b].length != [Expr.Name x px, Expr.Name y py].length || ScopeKind.function != ScopeKind.function) = true then u else v) = v := fun u v => if_neg (by simp)
  have f1 : ([a, b] : List Expr).any (fun x => match x with | .Starred .. => true | x => false) = false := by
    rw [List.any_cons, List.any_cons, List.any_nil, n1, n2]
    rfl
  rw [f0]
  split
  · rename_i z
    exact absurd (f1.symm.trans z) (by decide)
  · have hd2 : ([x, y] : List Str).eraseDups = [x, y] := by
      have hxy : (x == y) = false := beq_eq_false_iff_ne.mpr h6
      have hyx : (y == x) = false := beq_eq_false_iff_ne.mpr (Ne.symm h6)
      simp [List.eraseDups, List.eraseDupsBy, List.eraseDupsBy.loop, hxy, hyx]
    rw [e7, e8]
    have hp : (Expr.Name x px).pos = px := rfl
    simp [kx, ky, hl, hd2, hp, List.filterMap_cons]
end
end Mini

set_option Elab.async false
set_option linter.all false
set_option maxRecDepth 100000
set_option maxHeartbeats 4000000
/-! The compiler of statements is sound: the whole. -/
namespace Mini
open PySem L2 PySem.Spec PyProof.Rows
section
variable {pg : Pg} {N : Nm} {tb : Tb} {C : Call} {k : Nat} {X : Cx} {W : WX} {G : Gm} {pos p pos' py spos : Pos} {y : Str} {i : Nat}
def isLstE : Expr → Bool
  | .List _ _ => true
  | _ => false
theorem swPlain {e : Expr} {tg : Expr} (h : noComp e = true) : swapsWithSole [tg] e pos.line X.env = pure false := swap_ok h _ _ _
theorem store1 {e : Expr} {t : Expr} (ht : isTupE t = false) (hl : isLstE t = false) : swappedStores [t] e X.env = pure none := by
  cases t <;> first | rfl | (cases hl; done) | (cases ht; done)
theorem store2 {e : Expr} {ts : List Expr} {kk : Nat} (he : isTupE e = false) : swappedStores [.Tuple ts kk p] e X.env = pure none := by
  cases e <;> first | rfl | cases he
theorem asg_sub {o i : Expr} (h : noSlice i = true) : ∀ v, assign (.Subscript o i pos') X.env v = (do
      let ov ← holding [v] (eval o X.env)
      let iv ← holding [v, ov] (eval i X.env)
      standAt pos'
      holding [v, ov, iv] (setItem ov iv v)
      release [v, ov, iv] []) := by
  intro v
  cases i <;> first | rfl | cases h
/-- X, its clauses -/
theorem hds_ok (h : CS pg N tb C k X W G) : ∀ {hs : List ExceptHandler} {l : List (Nat × Nat × D)}, hs.mapM (cHd tb G) = some l → HdsOk X hs (hdl pg N C X.K l) ∧ ∀ q ∈ l, q.1 < pg.sup.length
  | [], l, e => by cases e; exact ⟨.nil, fun q hq => by cases hq⟩
  | a :: r, l, e => by
    rw [List.mapM_cons] at e
    cases e2 : cHd tb G a with
    | none => rw [e2] at e; cases e
    | some q =>
      rw [e2] at e
      cases e3 : r.mapM (cHd tb G) with
      | none => rw [e3] at e; cases e
      | some l' =>
        rw [e3] at e
        cases e
        obtain ⟨i1, i2⟩ := hds_ok h e3
        unfold cHd at e2
        split at e2 <;> try cases e2
        rename_i x px y qy c j pc ps ph
        split at e2 <;> try cases e2
        rename_i hg
        rw [Bool.and_eq_true] at hg
        split at e2 <;> try cases e2
        rename_i kk ii d hk hi hc
        obtain ⟨g1, g2⟩ := h.o.gl hg.1
        obtain ⟨b1, b2, b3, b4, b5, _⟩ := h.e.er x kk hk
        obtain ⟨l1, l2⟩ := h.o.fnc y hg.2
        refine ⟨.cons ⟨g1, g2, .inl b2⟩ (fun a oe cls dd pn _ _ => ?_) i1, fun q hq => ?_⟩
        · have he : PE (X.suite a ((a, oe) :: pn)) (.Constant c j pc) (tE pg N C X.K WF (.con d)) := by
            have z := (o_const (pg := pg) (N := N) (C := C) (X := X.suite a ((a, oe) :: pn)) (W := WF) (pos := pc) c j).1
            rw [hc] at z
            exact z
          exact ss_cons (s_set (X := X.suite a ((a, oe) :: pn)) h.o.nd (by rw [h.o.hN]; exact ixOf_ok hi) l1 he (swap_ok rfl _ _ _) l2) ss_nil
        · rcases List.mem_cons.mp hq with rfl | hq
          · exact b1
          · exact i2 q hq
theorem simple_map : ∀ l : List (Nat × Nat × D), simpleH (l.map fun q => (q.1, none, Hk.con q.2.1 q.2.2)) = some l
  | [] => rfl
  | q :: r => by
    show ((simpleH (r.map fun q => (q.1, none, Hk.con q.2.1 q.2.2))).map ((q.1, q.2.1, q.2.2) :: ·)) = _
    rw [simple_map r]
    rfl
/-- except BadLine as n: y = n.line -/
theorem s_tryL (h : CS pg N tb C k X W G) {body : List Stmt} {sb : List Mini.St} {h₀ : ExceptHandler} {q : Nat × Nat × Nat} (hq : cHdL tb G h₀ = some q)
    (hb : ∀ (W : WX) (pn : List (Addr × Obj)) (xe : Value → Shared → Prop), Takes (X.tr pn xe) W → PassesOwn (model X.prog X.w) X.A X.env xe → PSs (X.tr pn xe) body (tSs pg N C X.K W sb)) :
    PS X (.Try body [h₀] [] [] pos) (tS pg N C X.K W (.try_ sb [(q.1, some q.2.1, .line q.2.2 0)])) := by
  unfold cHdL at hq
  split at hq <;> try cases hq
  rename_i x px n y py z pz a pa pst ph
  split at hq <;> try cases hq
  rename_i hg
  simp only [Bool.and_eq_true, decide_eq_true_eq, Bool.not_eq_true', Bool.or_eq_false_iff] at hg
  obtain ⟨⟨⟨⟨⟨⟨⟨a1, a2⟩, a3⟩, a5, a6⟩, rfl⟩, rfl⟩, a4⟩, rfl⟩ := hg
  split at hq <;> try cases hq
  rename_i kk i j hk hi hj
  split at hq <;> try cases hq
  rename_i hij
  obtain ⟨b1, ⟨fI, T⟩, b3⟩ := h.e.lo kk hk
  obtain ⟨g1, g2⟩ := h.o.gl a1
  obtain ⟨l1, l2⟩ := h.o.fnc y a4
  have m2 : Vis X.env.scope z := by rw [h.o.sc]; exact visB_ok a3
  have hNi : X.N[i]? = some y := by rw [h.o.hN]; exact ixOf_ok hi
  have hNj : X.N[j]? = some z := by rw [h.o.hN]; exact ixOf_ok hj
  refine PS.wk (ps_try_as (tb := fun W => tSs pg N C X.K W sb) (ts := fun a cls d => tAsg (tByLow (N.er kk) a cls d (tVar j)) (gName i)) h.st h.fr h.o.nd hNj (by show X.env.scope.names.lookup z = _; rw [h.o.sc]; exact a2) ⟨g1, g2, .inl T.gC⟩ h.o.tk hb
    (fun a oe cls d pn hz hf => pss_one (ps_set (X := X.suite a ((a, oe) :: pn)) h.o.nd hNi l1 (pe_byLow T hz hf (pe_var (X := X.suite a ((a, oe) :: pn)) hNj m2 a5 a6))))) fun D σ H ⟨v, A, ρ, er, hr, q⟩ => ?_
  rw [evS] at q
  refine ⟨v, A, ρ, er, hr, ?_⟩
  cases e1 : evSs pg C sb v A with
  | bad => rw [e1] at q; exact q.elim
  | nx v3 A3 => rw [e1] at q; exact q
  | rt d3 A3 => rw [e1] at q; exact q
  | exc c z v3 A3 =>
    rw [e1] at q
    intro dd σ' H' ρ' x1 hr1 er1 ex
    dsimp only at q
    split at q
    · rename_i hcl
      exact line_ok h.e.tr b1 b3 hij (Nat.blt_eq.mp hcl) hr1 er1 ex (RF.up hr1 x1 q)
    · exact q.elim
theorem cSX_ok (h : CS pg N tb C k X W G) {fe : Expr → E} {fi : Expr → Expr → I} {f : Stmt → Mini.St} (F : FX pg N tb C k fe fi f G) (st : Stmt) : PS X st (tS pg N C X.K W (cSX tb fe fi f G st)) := by
  have hu := h.o.hu
  have ihB : ∀ e, Bo pg N C X W e (fe e) := F.e h.o
  have ih : ∀ e, PE X e (tE pg N C X.K W (fe e)) := fun e => (ihB e).1
  have ihs : ∀ ss, PSs X ss (tSs pg N C X.K W (ss.map f)) := ss_map (F.s h)
  unfold cSX
  split
  · exact s_pass
  · rename_i x px e ps
    split
    · rename_i hl
      split
      · rename_i i hi
        obtain ⟨l1, l2⟩ := h.o.fnc x hl
        have hN : X.N[i]? = some x := by rw [h.o.hN]; exact ixOf_ok hi
        have hsw := swB_ok (p := px) h e x ps.line
        cases q : swB G e x px with
        | false => rw [q] at hsw; exact s_set h.o.nd hN l1 (ih e) hsw l2
        | true =>
          rw [q] at hsw
          have hc : compS e ≠ none := by
            intro z
            unfold swB at q
            rw [z] at q
            cases q
          have hyl : X.env.scope.names.lookup x = some .local := by
            unfold swB at q
            cases z : compS e with
            | none => exact absurd z hc
            | some sc =>
              rw [z] at q
              simp only [Bool.and_eq_true, decide_eq_true_eq] at q
              rw [h.o.sc]
              exact q.1.1
          exact F.set h.o hN hyl hsw hc
      · exact s_bad
    · exact s_bad
  · rename_i ts kk pt e ps
    split
    · rename_i a b k2 p2
      split
      · rename_i x px y py
        split
        · rename_i hb
          split
          · rename_i i j hi hj
            split
            · exact s_bad
            · rename_i hij
              have hw := par_ok (pt := pt) (kt := kk) (k2 := k2) (pt2 := p2) h hb
              unfold parB at hb
              simp only [Bool.and_eq_true, decide_eq_true_eq] at hb
              obtain ⟨⟨⟨⟨⟨⟨⟨h1, h2⟩, h3⟩, h4⟩, h5⟩, h6⟩, h7⟩, h8⟩ := hb
              exact s_par h.o.calm h.o.nd (by rw [h.o.hN]; exact ixOf_ok hi) (by rw [h.o.hN]; exact ixOf_ok hj) hij (by rw [h.o.sc]; exact h3) (by rw [h.o.sc]; exact h4) (ih a) (ih b) (star_ok h1 _ _) (star_ok h2 _ _) hw rfl
          · exact s_bad
        · exact s_bad
      · exact s_bad
    · split
      · rename_i hc
        simp only [Bool.and_eq_true, Bool.not_eq_true'] at hc
        split
        · rename_i is hm
          have ht : cT G (.Tuple ts kk pt) = some (.many is) := by
            show (ts.mapM (tName G)).map T.many = _
            rw [hm]
            rfl
          exact s_asg (ih _) (t_ok h.o ht) (swPlain hc.1) (store2 hc.2) rfl
        · exact s_bad
      · exact s_bad
  · rename_i o a pa e ps
    split
    · rename_i hc
      split
      · rename_i g hg
        obtain ⟨rfl, cg⟩ := h.o.g.fld a g hg
        exact s_fld cg (ih o) (ih e) (swap_ok hc _ _ _)
      · exact s_bad
    · exact s_bad
  · rename_i o i pa e ps
    split
    · rename_i hc
      rw [Bool.and_eq_true] at hc
      exact s_sub (by omega) (ih o) (ih i) (ih e) (asg_sub hc.2) (swPlain hc.1) (store1 rfl rfl) rfl
    · exact s_bad
  · rename_i x px e ps
    split
    · rename_i hl
      split
      · rename_i i hi
        obtain ⟨l1, l2⟩ := h.o.fnc x hl
        exact s_aug h.o.nd (by rw [h.o.hN]; exact ixOf_ok hi) l1 (ih e) l2
      · exact s_bad
    · exact s_bad
  · rename_i o a pa e ps
    split
    · rename_i g hg
      obtain ⟨rfl, cg⟩ := h.o.g.fld a g hg
      exact s_augF cg (ih o) (ih e)
    · exact s_bad
  · rename_i e ps
    split
    · rename_i hc; exact s_expr (ih e) (swap_ok hc _ _ _)
    · exact s_bad
  · exact s_retN
  · exact s_ret (ih _)
  · exact s_if (ihB _).2 (ihs _) (ihs _)
  · rename_i tg it body ps
    split
    · rename_i hs
      split
      · rename_i t ht
        exact s_for h.po h.o.calm (F.i h.o tg it) (t_ok h.o ht) (ihs body) (fold_ok hs _)
      · exact s_bad
    · exact s_bad
  · exact s_while h.po (ihB _).2 (ihs _)
  · rename_i x px pc ps
    split
    · rename_i hg
      split
      · rename_i c hc
        obtain ⟨g1, g2⟩ := h.o.gl hg
        obtain ⟨b1, b2, b3, b4, b5, bb⟩ := h.e.er x c hc
        split
        · exact s_bad
        · rename_i hlo
          obtain ⟨bmB, B, nI, iI, EB, q⟩ := bb hlo
          exact s_raise0 h.o.calm h.o.tk EB q b2 b3 (raises_own b4 b5) g1 g2
      · exact s_bad
    · exact s_bad
  · rename_i x px a pc ps
    split
    · rename_i hg
      simp only [Bool.and_eq_true, decide_eq_true_eq] at hg
      obtain ⟨⟨h1, h2⟩, rfl⟩ := hg
      split
      · rename_i c hc
        obtain ⟨b1, ⟨fI, T⟩, b3⟩ := h.e.lo c hc
        obtain ⟨g1, g2⟩ := h.o.gl h1
        exact s_raise1 h.o.calm T h.o.g.room h.o.tk (ih a) g1 (star_ok h2 _ _) rfl
      · exact s_bad
    · exact s_bad
  · rename_i body h0 hs ps
    split
    · rename_i l hl
      obtain ⟨i1, i2⟩ := hds_ok h hl
      exact s_try h.e.tr h.st h.fr h.o.tk (fun W' pn xe tk po => ss_map (F.s (h.tr tk po)) body) (simple_map l) i2 i1
    · split
      · split
        · rename_i q hq
          exact s_tryL h hq (fun W' pn xe tk po => ss_map (F.s (h.tr tk po)) body)
        · exact s_bad
      · exact s_bad
  · exact s_bad
theorem fx_ok (m : Nat) : ∀ n, FX pg N tb C k (fun e => cE tb m G e) (fun tg it => cI tb m G tg it) (fun s => cS tb m n G s) G
  | 0 => ⟨fun h => (cE_ok m h).1, fun h => (cE_ok m h).2, fun h st => by rw [cS]; exact s_bad, fun h hy hyl hsw hc => cE_set m h _ hy hyl hsw hc⟩
  | n + 1 => ⟨fun h => (cE_ok m h).1, fun h => (cE_ok m h).2, fun h st => by rw [cS]; exact cSX_ok h (fx_ok m n) st, fun h hy hyl hsw hc => cE_set m h _ hy hyl hsw hc⟩
/-- a def's body -/
theorem cSs_ok (m n : Nat) (h : CS pg N tb C k X W G) (ss : List Stmt) : PSs X ss (tSs pg N C X.K W (cSs tb m n G ss)) := ss_map ((fx_ok m n).s h) ss
end
end Mini

set_option Elab.async false
set_option linter.all false
set_option maxRecDepth 100000
set_option maxHeartbeats 4000000
/-! Every def of a text does what Mini reckons, to any depth of calls. -/
namespace Mini
open PySem L2 PySem.Spec PyProof.Rows

/-- a def as the top has made it, and its form -/
structure DefOk (pg : Pg) (N : Nm) (tb : Tb) (K : PySem.W.Frag) (m n f : Nat) (fd : FuncData) (ps : List Str) : Prop where
  ex : ∃ (name qual : Str) (params : Arguments) (body : List Stmt) (scope : Scope) (oc dV kV doc pm cd ct : Value) (od an : Option Addr) (osl : Array (Option Value)) (Ns : List Str) (fn : Fn),
    fd = PySem.W.fnOf name qual params body scope dV kV doc pm an cd ct ∧ K.lookup (N.fa f) = some ⟨oc, od, .func fd, osl⟩ ∧ PySem.W.codeIn K cd qual = true ∧ FnScope Ns ps scope ∧
    pg.fns[f]? = some fn ∧ fn.np = ps.length ∧ fn.nl = Ns.length ∧ fn.body = cSs tb m n ⟨Ns, scope, none⟩ body
/-- what is known of the module -/
structure MG (pg : Pg) (N : Nm) (tb : Tb) (w : World) (K : PySem.W.Frag) (mg : Str → Option Value) (fdo : Nat → FuncData) (pso : Nat → List Str) (m n : Nat) : Prop where
  df : ∀ f, f < pg.fns.length → DefOk pg N tb K m n f (fdo f) (pso f)
  fn : ∀ x f np ds, tb.fn.lookup x = some (f, np, ds) → f < pg.fns.length ∧ mg x = some (.ref (N.fa f)) ∧ PySem.W.keepIn K (.ref (N.fa f)) = true ∧ ∀ m, m ≤ ds.length → ∃ us dvs, Binds K (fdo f) (pso f) us ∧ Vals dvs us ∧ (∀ H ρ, Rps K H ρ (ds.drop (ds.length - m)) dvs) ∧ (m = 0 → us = [])
  glo : ∀ x g, tb.gl.lookup x = some g → ∃ u y d, mg x = some u ∧ RelV y u ∧ pg.glo[g]? = some d ∧ ∀ H ρ, Rp K H ρ d y
  cls : ∀ x c, tb.cl.lookup x = some c → c < N.nc ∧ mg x = some (.ref (N.cl c)) ∧ ∃ f, f < pg.fns.length ∧ pg.init[c]? = some f ∧ Mk K (N.cl c) (N.fa f) ∧ Binds K (fdo f) (pso f) []
  meth : ∀ m n c f, tb.me.lookup (m, n) = some (c, f) → c < N.nc ∧ f < pg.fns.length ∧ Meth K (N.cl c) m (N.fa f) ∧ (∀ i, N.fl i ≠ m) ∧ Binds K (fdo f) (pso f) []
  fld : ∀ a f, ixOf tb.fl a = some f → N.fl f = a ∧ ClsG N K f
  kit : KitG N K
  eq : ∀ c f, c < N.nc → pg.eqm[c]? = some (some f) → f < pg.fns.length ∧ PySem.W.findIn K (.ref (N.cl c)) "__eq__" = some (some (.ref (N.fa f))) ∧ PySem.W.isFn K (.ref (N.fa f)) = true ∧ Binds K (fdo f) (pso f) [] ∧
    PySem.W.notFirst K (N.cl c) (.type "tuple") = true ∧ PySem.W.notFirst K (N.cl c) (.type "int") = true ∧ PySem.W.notFirst K (N.cl c) (.ref (N.cl c)) = true
  grp : ∀ x, tb.gr = some x → ∃ d es n, mg x = some (.ref d) ∧ GrpG pg.grp K w d es n
  blt : ∀ x ∈ bltNames, mg x = none
  len : ∀ A xs, ownLen pg A .len xs = none
  er : ∀ x c, tb.er.lookup x = some c → c < pg.sup.length ∧ mg x = some (.ref (N.er c)) ∧ PySem.W.keepIn K (.ref (N.er c)) = true ∧ PySem.W.subIn K (.ref (N.er c)) (.type "BaseException") = some true ∧ PySem.W.typeIn K (.ref (N.er c)) = some (.type "type") ∧
    (tb.lo ≠ some c → ∃ (bmB : List Value) (B newId initId : String), ExcBaseFacts B newId initId bmB ∧ PySem.W.excIn K (N.er c) bmB newId = true)
  lo : ∀ c, tb.lo = some c → c < pg.sup.length ∧ (∃ fI, PySem.LowX.LowTxt K mg (N.er c) fI) ∧ ∀ c', c' < pg.sup.length → ((pg.sup[c']?).getD []).contains c = true → c' = c
  tr : TryG pg N K
section
variable {pg : Pg} {N : Nm} {tb : Tb} {P : Program} {w : World} {K : PySem.W.Frag} {mg : Str → Option Value} {base : Heap} {fdo : Nat → FuncData} {pso : Nat → List Str} {m n : Nat}
theorem MG.gf (M : MG pg N tb w K mg fdo pso m n) {C : Call} {k : Nat} {X : Cx} (hw : X.w = w) (hK : X.K = K) (hm : X.mg = mg) (L : ∀ f, f < pg.fns.length → FnOk X.prog X.w X.K X.mg X.base (L2.CX X.prog X.w) k (N.fa f) (fdo f) (pso f) (spM N X.K C f)) (hr : Room (k + 1) X.A) : GF pg N tb C k X := by
  subst hw hK hm
  refine ⟨hr, fun x f np ds e => ?_, M.glo, fun x c e => ?_, fun m n c f e => ?_, M.fld, M.kit, ⟨M.kit, fun c f hc e => ?_⟩, M.grp, M.blt, M.len⟩
  · obtain ⟨h1, h2, h3, h4⟩ := M.fn x f np ds e
    refine ⟨h2, h3, fun m hm => ?_⟩
    obtain ⟨us, dvs, b1, b2, b3, b4⟩ := h4 m hm
    exact ⟨_, _, us, dvs, L f h1, b1, b2, b3, b4⟩
  · obtain ⟨h1, h2, f, h3, h4, h5, h6⟩ := M.cls x c e
    exact ⟨h1, h2, f, _, _, h4, h5, L f h3, h6⟩
  · obtain ⟨h1, h2, h3, h4, h5⟩ := M.meth m n c f e
    exact ⟨h1, h3, h4, _, _, L f h2, h5⟩
  · obtain ⟨h1, h2, h3, h4, h5, h6, h7⟩ := M.eq c f hc e
    exact ⟨k, _, _, L f h1, hr.mono (Nat.le_succ k), h2, h3, h4, h5, h6, h7⟩
theorem er_start {H : Hp} {ρ : List Addr} {ds : List D} {vs : List V} {nl : Nat} {Ns : List Str} (r : Rps K H ρ ds vs) (hn : nl = Ns.length) : ER K H ρ (ds.map some ++ List.replicate (nl - ds.length) none) (L2.start Ns vs) := by
  have hl := rps_len r
  unfold L2.start
  subst hn
  refine ⟨by simp [hl], fun i d e => ?_⟩
  by_cases hi : i < ds.length
  · rw [List.getElem?_append_left (by simpa using hi), List.getElem?_map] at e
    obtain ⟨d', e1, e2⟩ := Option.map_eq_some_iff.mp e
    cases e2
    obtain ⟨x, hx, rx⟩ := pr_get (rps_iff.mp r) e1
    exact ⟨x, by rw [List.getElem?_append_left (by simp; omega), List.getElem?_map, hx]; rfl, rx⟩
  · rw [List.getElem?_append_right (by simpa using hi), List.getElem?_replicate] at e
    split at e <;> cases e
theorem level (M : MG pg N tb w K mg fdo pso m n) : ∀ (d f : Nat), f < pg.fns.length → FnOk P w K mg base (L2.CX P w) (2 * d) (N.fa f) (fdo f) (pso f) (spM N K (callN pg d) f)
  | 0, f, _ => ⟨fun vs H Q E ⟨_, _, _, _, _, q⟩ => q.elim, fun A outer s H args us vs Q E _ _ _ _ ⟨_, _, _, _, _, q⟩ => q.elim⟩
  | d + 1, f, hf => by
    obtain ⟨name, qual, params, body, scope, oc, dV, kV, doc, pm, cd, ct, od, an, osl, Ns, fn, efd, lk, hcd, S, hfn, hnp, hnl, hb⟩ := (M.df f hf).ex
    have len : ∀ vs H Q E, spM N K (callN pg (d + 1)) f vs H Q E → vs.length = (pso f).length := fun vs H Q E ⟨ds, A, ρ, hr, r, q⟩ => by
      rw [callN] at q
      unfold runFn at q
      rw [hfn] at q
      dsimp only at q
      split at q
      · rename_i e
        rw [← rps_len r, e, hnp]
      · exact q.elim
    have e2 : 2 * (d + 1) = (2 * d + 1) + 1 := by omega
    rw [e2, efd]
    rw [efd] at lk
    refine fn_of lk hcd S len fun A outer s H vs Q E hr hsp => ?_
    refine ⟨tSs pg N (callN pg d) K (fun cls d _ H => E cls d H) fn.body, ?_, ?_⟩
    · rw [hb]
      have g : GF pg N tb (callN pg d) (2 * d) (cxOf (L2.CX P w) P w K mg base Ns qual scope (N.fa f) cd A outer s H E) := M.gf rfl rfl rfl (fun f hf => level M d f hf) hr
      exact cSs_ok (X := cxOf (L2.CX P w) P w K mg base Ns qual scope (N.fa f) cd A outer s H E) m n ⟨⟨g, takes_of rfl rfl rfl rfl, rfl, S.nd, rfl, rfl, fun x hx => by
        unfold locB at hx
        split at hx
        · exact ⟨.inl (by assumption), .inr (by assumption)⟩
        · exact ⟨.inr (by assumption), .inl rfl⟩
        · cases hx⟩, ⟨M.er, M.lo, M.tr⟩, S.kind, passes_of rfl, rfl, rfl⟩ body
    · obtain ⟨ds, A1, ρ, hr1, r, q⟩ := hsp
      rw [callN] at q
      unfold runFn at q
      rw [hfn] at q
      dsimp only at q
      split at q
      · refine ⟨_, A1, ρ, er_start r hnl, hr1, ?_⟩
        cases e1 : evSs pg (callN pg d) fn.body (ds.map some ++ List.replicate (fn.nl - ds.length) none) A1 with
        | bad => rw [e1] at q; exact q.elim
        | nx v2 A2 => rw [e1] at q; exact fun σ' H' ρ' x hr' er' => q .non H' ρ' x hr' rfl
        | rt d2 A2 => rw [e1] at q; exact q
        | exc c z v2 A2 => rw [e1] at q; exact fun dd σ' H' ρ' x hr' er' ex => q dd H' ρ' x hr' ex
      · exact q.elim
end
end Mini

set_option Elab.async false
set_option linter.all false
set_option maxRecDepth 100000
set_option maxHeartbeats 4000000
/-! The law's end: the text's top, a module's facts, Mini's value on every script. -/
namespace Mini
open PySem L2 PySem.Spec PyProof.Rows
section
variable {pg : Pg} {N : Nm} {K : PySem.W.Frag}
theorem script_ok {H : Hp} {a : Addr} {ns : List Int} {C : Call} {f : Nat} {A' : Hh} (hO : Only H) (hS : SqL K H a (ns.map V.int)) (h : C f [.scr ns] [] = .ok (.bl true) A') : spM N K C f [.ref a] H (fun v _ => v = .bl true) (fun _ _ _ => False) := by
  refine ⟨[.scr ns], [], [], ⟨rfl, List.nodup_nil, fun n a ob e _ => by simp at e⟩, rps_cons ?_ rps_nil, ?_⟩
  · unfold Rp
    refine ⟨a, rfl, ?_⟩
    rcases hS with (h1 | ⟨o, h1⟩) | h1
    · rcases hO a with z | ⟨o, xs, z⟩
      · rw [h1] at z; cases z
      · rw [h1] at z; cases z
    · exact .inl ⟨⟨o, h1⟩, by simp⟩
    · exact .inr h1
  · rw [h]
    intro x H' ρ' _ _ rx
    cases rx
    rfl
end
theorem walkM {pg : Pg} {N : World → Nm} {tb : Tb} {m n lv law : Nat} {l : PySem.W.OpenLaw} {q : Program} {loose : List Str} {XP : (Str → Option Value) → Heap → Prop} {YP : World → Heap → Prop} {d : DefRec} {K : Params → PySem.W.Frag} {x : Str}
    (hn : l.most = some 63) (hdf : d.params.defaults = []) (hr : Room (2 * lv) callerA) (hY : ∀ (w : World) (h : Heap), YP w h → (K w.params).In h)
    (F : ∀ (w : World) (mg : Str → Option Value) (fa : Addr) (h : Heap), (K w.params).In h → h.Ns mainGlobals mg → mg d.name = some (.ref fa) →
      ∃ (fdo : Nat → FuncData) (pso : Nat → List Str), MG pg (N w) tb w (K w.params) mg fdo pso m n ∧ law < pg.fns.length ∧ (N w).fa law = fa ∧ pso law = [x] ∧ ∀ (s : Shared) (u : Value), BindsTo s (fdo law) ⟨[u], []⟩ [(x, u)])
    (hlaw : ∀ ns : List Int, ns.length ≤ 63 → ∃ A', callN pg lv law [.scr ns] [] = .ok (.bl true) A') : PySem.W.WalkO q loose XP YP l.row.toRowW d [] (fun f vs => PySem.call f vs) :=
  L2.walk_of (n := 63) (k := 2 * lv) (x := x) (CX := fun w => L2.CX l.prog w) (sp := fun w => spM (N w) (K w.params) (callN pg lv) law) hn (by decide) hdf hr hY
    (fun w mg fa h hK G hm => by
      obtain ⟨fdo, pso, M, hl, e1, e2, hb⟩ := F w mg fa h hK G hm
      refine ⟨fdo law, hb, fun base hKb hGb => ?_⟩
      have z := level (P := l.prog) (base := base) M lv law hl
      rw [e1, e2] at z
      exact z)
    (fun w H a ns hl hO hS => by
      obtain ⟨A', hA⟩ := hlaw ns hl
      exact script_ok hO hS hA)
    (fun w H s e s' h => by
      obtain ⟨_, _, _, _, _, _, _, _, _, _, _, _, z⟩ := h
      exact z.elim)
theorem room60 : Room 120 callerA := ⟨rfl, by decide, by decide⟩
end Mini

set_option Elab.async false
set_option linter.all false
set_option maxRecDepth 100000
set_option maxHeartbeats 4000000
/-! A module's facts, checked on the part that the top has written. -/
namespace Mini
open PySem L2 PySem.Spec PyProof.Rows

def gaN (K : PySem.W.Frag) (x : Str) : Addr := match PySem.W.nsIn K mainGlobals x with | some (some (.ref a)) => a | _ => 0
def fiN (K : PySem.W.Frag) (C : Addr) (m : Str) : Addr := match PySem.W.findIn K (.ref C) m with | some (some (.ref a)) => a | _ => 0
/-- a field's name; others', no text of the program -/
def flN (fl : List Str) (i : Nat) : Str := match fl[i]? with | some x => x | none => ⟨#[2000000 + i]⟩
theorem flN_inj {fl : List Str} (nd : fl.Nodup) (hb : (fl.all fun x => decide (x.cps.size ≠ 1)) = true) : ∀ i j, flN fl i = flN fl j → i = j := by
  intro i j h
  unfold flN at h
  have big : ∀ {i j : Nat} {x : Str}, fl[i]? = some x → x ≠ ⟨#[2000000 + j]⟩ := fun {i j x} e z => by
    have h1 := List.all_eq_true.mp hb x (List.mem_of_getElem? e)
    rw [z] at h1
    exact absurd rfl (of_decide_eq_true h1)
  split at h
  · rename_i x hx
    split at h
    · rename_i y hy
      rw [h] at hx
      exact L2.nd_ix nd hx hy
    · exact absurd h (big hx)
  · split at h
    · rename_i y hy
      exact absurd h.symm (big hy)
    · injection h with h1
      have h2 : (2000000 + i) = 2000000 + j := by
        have := congrArg (fun a : Array Nat => a[0]?) h1
        simpa using this
      omega
/-- a def's place: its name, its class -/
structure FD where
  x : Str
  cls : Option Str
structure Md where
  fns : List FD
  cls : List Str
  ers : List Str
  fl : List Str
  nd : fl.Nodup
  nb : (fl.all fun x => decide (x.cps.size ≠ 1)) = true
def faN (K : PySem.W.Frag) (M : Md) (i : Nat) : Addr := match M.fns[i]? with
  | none => 0
  | some d => match d.cls with
    | none => gaN K d.x
    | some c => fiN K (gaN K c) d.x
def NmOf (M : Md) (K : PySem.W.Frag) : Nm where
  nc := M.cls.length
  fa := faN K M
  cl c := match M.cls[c]? with | some x => gaN K x | none => 0
  er c := match M.ers[c]? with | some x => gaN K x | none => 0
  fl := flN M.fl
  inj := flN_inj M.nd M.nb

/-! ### constants -/
def conV (K : PySem.W.Frag) : Nat → D → Value → Bool
  | 0, _, _ => false
  | n + 1, d, v => match d, v with
    | .non, .none => true
    | .bl b, .bool c => b == c
    | .int i, .int j _ => decide (i = j)
    | .str s, .str x _ => decide (txt s = x)
    | .tup ds, .ref a => (match K.lookup a with
      | some ⟨.type "tuple", _, .seq its _, _⟩ => decide (its.size ≤ 1000) && decide (ds.length = its.size) && (ds.zip its.toList).all fun p => conV K n p.1 p.2
      | _ => false)
    | _, _ => false
theorem zip_pair {α β : Type} {F : α → β → Prop} : ∀ {l : List α} {r : List β}, l.length = r.length → (∀ p ∈ l.zip r, F p.1 p.2) → Paired F l r
  | [], [], _, _ => .nil
  | a :: l, b :: r, h, f => .cons (f (a, b) List.mem_cons_self) (zip_pair (by simpa using h) fun p hp => f p (List.mem_cons_of_mem _ hp))
  | [], _ :: _, h, _ => by cases h
  | _ :: _, [], h, _ => by cases h
theorem conV_ok {K : PySem.W.Frag} : ∀ {n : Nat} {d : D} {v : Value}, conV K n d v = true → ∃ y, RelV y v ∧ ∀ H ρ, Rp K H ρ d y
  | 0, _, _, h => by cases h
  | n + 1, d, v, h => by
    unfold conV at h
    split at h
    · exact ⟨.non, rfl, fun _ _ => rfl⟩
    · rename_i b c
      have e : b = c := by simpa using h
      subst e
      exact ⟨.bl b, rfl, fun _ _ => rfl⟩
    · rename_i i j t
      have e := of_decide_eq_true h
      subst e
      exact ⟨.int i, ⟨t, rfl⟩, fun _ _ => rfl⟩
    · rename_i s x t
      have e := of_decide_eq_true h
      subst e
      exact ⟨.str (txt s), ⟨t, rfl⟩, fun _ _ => rfl⟩
    · rename_i ds a
      split at h
      · rename_i dd its nn sl e
        simp only [Bool.and_eq_true, decide_eq_true_eq, List.all_eq_true] at h
        obtain ⟨⟨h1, h2⟩, h3⟩ := h
        have all : ∀ p ∈ ds.zip its.toList, ∃ y, RelV y p.2 ∧ ∀ H ρ, Rp K H ρ p.1 y := fun p hp => conV_ok (h3 p hp)
        have ex : ∀ {ds : List D} {us : List Value}, ds.length = us.length → (∀ p ∈ ds.zip us, ∃ y, RelV y p.2 ∧ ∀ H ρ, Rp K H ρ p.1 y) → ∃ xs : List V, Vals xs us ∧ ∀ H ρ, Rps K H ρ ds xs := by
          intro ds
          induction ds with
          | nil => intro us hl _; cases us with
            | nil => exact ⟨[], .nil, fun _ _ => rps_nil⟩
            | cons _ _ => cases hl
          | cons d ds ih => intro us hl f; cases us with
            | nil => cases hl
            | cons u us =>
              obtain ⟨y, r1, r2⟩ := f (d, u) List.mem_cons_self
              obtain ⟨xs, r3, r4⟩ := ih (by simpa using hl) fun p hp => f p (List.mem_cons_of_mem _ hp)
              exact ⟨y :: xs, .cons r1 r3, fun H ρ => rps_cons (r2 H ρ) (r4 H ρ)⟩
        obtain ⟨xs, r1, r2⟩ := ex (by rw [Array.length_toList]; exact h2) all
        refine ⟨.ref a, rfl, fun H ρ => ?_⟩
        unfold Rp
        exact ⟨a, xs, rfl, .inr ⟨_, its, nn, e, rfl, rfl, by rw [sizeLine_eq]; omega, r1⟩, r2 H ρ⟩
      · cases h
    · cases h
end Mini

set_option Elab.async false
set_option linter.all false
set_option maxRecDepth 100000
set_option maxHeartbeats 4000000
/-! A module's facts: the check, and what it gives. -/
namespace Mini
open PySem L2 PySem.Spec PyProof.Rows

abbrev veB : List Value := [.type "ValueError", .type "Exception", .type "BaseException", .type "object"]
def isRef (o : Option (Option Value)) (a : Addr) : Bool := match o with | some (some (.ref b)) => b == a | _ => false
def isNo (o : Option (Option Value)) : Bool := match o with | some none => true | _ => false
def isBlt (o : Option (Option Value)) (s : String) : Bool := match o with | some (some (.builtin t)) => t == s | _ => false
def isTr (o : Option Bool) (b : Bool) : Bool := match o with | some c => c == b | _ => false
theorem isRef_ok {o : Option (Option Value)} {a : Addr} (h : isRef o a = true) : o = some (some (.ref a)) := by
  unfold isRef at h
  split at h
  · rw [beq_iff_eq.mp h]
  · cases h
theorem isNo_ok {o : Option (Option Value)} (h : isNo o = true) : o = some none := by
  unfold isNo at h
  split at h
  · rfl
  · cases h
theorem isBlt_ok {o : Option (Option Value)} {s : String} (h : isBlt o s = true) : o = some (some (.builtin s)) := by
  unfold isBlt at h
  split at h
  · rw [beq_iff_eq.mp h]
  · cases h
theorem isTr_ok {o : Option Bool} {b : Bool} (h : isTr o b = true) : o = some b := by
  unfold isTr at h
  split at h
  · rw [beq_iff_eq.mp h]
  · cases h
def kindN : List String := ["NoneType", "bool", "int", "str", "tuple", "list", "dict"]
def kindT : List String := ["int", "bool", "str", "tuple", "list", "dict"]
/-- the classes -/
def clsB (K : PySem.W.Frag) (C : Addr) : Bool := PySem.W.plainGet K C Str.empty && PySem.W.hasDictIn K C && PySem.W.plainOver K C && isBlt (PySem.W.findIn K (.ref C) "__setattr__") "object.__setattr__" && isBlt (PySem.W.findIn K (.ref C) "__class__") "object.__class__" &&
  isTr (PySem.W.mroIn K C (.type "object")) true && kindN.all (fun t => isTr (PySem.W.kitOne K (.type t) (.ref C)) false) && kindT.all (fun t => isTr (PySem.W.kitOne K (.ref C) (.type t)) false)
theorem clsB_cl {K : PySem.W.Frag} {C : Addr} (h : clsB K C = true) : Cls K C := by
  unfold clsB at h
  simp only [Bool.and_eq_true] at h
  obtain ⟨⟨⟨⟨⟨⟨⟨h1, h2⟩, h3⟩, h4⟩, h5⟩, h6⟩, h7⟩, h8⟩ := h
  exact ⟨h1, h2, h3, isBlt_ok h4⟩
def kitB2 (K : PySem.W.Frag) (N : Nm) : Bool := (List.range N.nc).all (fun c => clsB K (N.cl c) && (List.range N.nc).all fun d => isTr (PySem.W.kitOne K (.ref (N.cl c)) (.ref (N.cl d))) (decide (c = d))) &&
  isBlt (PySem.W.specialIn K (.builtin "object.__class__") "__get__") "getset_descriptor.__get__" && isTr (PySem.W.takesIn K (.builtin "object.__class__")) true
theorem kitB2_ok {K : PySem.W.Frag} {N : Nm} (h : kitB2 K N = true) : KitG N K := by
  unfold kitB2 at h
  simp only [Bool.and_eq_true, List.all_eq_true, List.mem_range] at h
  obtain ⟨⟨h1, h2⟩, h3⟩ := h
  have hc : ∀ c, c < N.nc → clsB K (N.cl c) = true := fun c hc => (h1 c hc).1
  have hx := fun c hcl => by
    have z := hc c hcl
    unfold clsB at z
    simp only [Bool.and_eq_true, List.all_eq_true] at z
    exact z
  refine ⟨fun c q => clsB_cl (hc c q), fun c q => isBlt_ok (hx c q).1.1.1.2, fun c q => isTr_ok (hx c q).1.1.2, isBlt_ok h2, isTr_ok h3, fun t ht c q => isTr_ok ((hx c q).1.2 t ht), fun t ht c q => isTr_ok ((hx c q).2 t ht), fun c d q1 q2 => isTr_ok ((h1 c q1).2 d q2)⟩
end Mini

set_option Elab.async false
set_option linter.all false
set_option maxRecDepth 100000
set_option maxHeartbeats 4000000
/-! A module's facts: the whole. -/
namespace Mini
open PySem L2 PySem.Spec PyProof.Rows

theorem lookup_mem {α β : Type} [BEq α] [LawfulBEq α] : ∀ {l : List (α × β)} {x : α} {y : β}, l.lookup x = some y → (x, y) ∈ l
  | (a, b) :: r, x, y, h => by
    rw [List.lookup_cons] at h
    split at h
    · rename_i e
      cases h
      rw [beq_iff_eq.mp e]
      exact List.mem_cons_self
    · exact List.mem_cons_of_mem _ (lookup_mem h)
/-- the tables, checked -/
def modB (pg : Pg) (N : Nm) (tb : Tb) (K : PySem.W.Frag) : Bool :=
  kitB2 K N &&
  (tb.fn.all fun e => decide (e.2.1 < pg.fns.length) && isRef (PySem.W.nsIn K mainGlobals e.1) (N.fa e.2.1) && PySem.W.keepIn K (.ref (N.fa e.2.1))) &&
  (tb.gl.all fun e => match PySem.W.nsIn K mainGlobals e.1, pg.glo[e.2]? with | some (some v), some d => conV K 20 d v | _, _ => false) &&
  (tb.cl.all fun e => decide (e.2 < N.nc) && isRef (PySem.W.nsIn K mainGlobals e.1) (N.cl e.2) && (match pg.init[e.2]? with
    | some f => decide (f < pg.fns.length) && PySem.W.makesIn K (N.cl e.2) && isRef (PySem.W.findIn K (.ref (N.cl e.2)) "__init__") (N.fa f) && PySem.W.isFn K (.ref (N.fa f)) && PySem.W.keepIn K (.ref (N.cl e.2))
    | none => false)) &&
  (tb.me.all fun e => decide (e.2.1 < N.nc) && decide (e.2.2 < pg.fns.length) && isRef (PySem.W.findIn K (.ref (N.cl e.2.1)) e.1.1) (N.fa e.2.2) && PySem.W.isFn K (.ref (N.fa e.2.2)) && PySem.W.keepIn K (.ref (N.fa e.2.2)) && !tb.fl.contains e.1.1 && decide (e.1.1.cps.size ≠ 1)) &&
  (tb.fl.all fun a => (List.range N.nc).all fun c => isNo (PySem.W.findIn K (.ref (N.cl c)) a)) &&
  ((List.range N.nc).all fun c => match pg.eqm[c]? with
    | some (some f) => decide (f < pg.fns.length) && isRef (PySem.W.findIn K (.ref (N.cl c)) "__eq__") (N.fa f) && PySem.W.isFn K (.ref (N.fa f)) && PySem.W.notFirst K (N.cl c) (.type "tuple") && PySem.W.notFirst K (N.cl c) (.type "int") && PySem.W.notFirst K (N.cl c) (.ref (N.cl c))
    | _ => true) &&
  (bltNames.all fun x => isNo (PySem.W.nsIn K mainGlobals x)) &&
  (pg.lenm.all fun o => o.isNone) &&
  (tb.er.all fun e => decide (e.2 < pg.sup.length) && isRef (PySem.W.nsIn K mainGlobals e.1) (N.er e.2) && PySem.W.keepIn K (.ref (N.er e.2)) && isTr (PySem.W.subIn K (.ref (N.er e.2)) (.type "BaseException")) true &&
    (match PySem.W.typeIn K (.ref (N.er e.2)) with | some (.type s) => s == "type" | _ => false) && (decide (tb.lo = some e.2) || PySem.W.excIn K (N.er e.2) veB "ValueError.__new__")) &&
  (match tb.lo with | none => true | some c => decide (c < pg.sup.length) && (List.range pg.sup.length).all fun k => !(((pg.sup[k]?).getD []).contains c) || decide (k = c)) &&
  ((List.range pg.sup.length).all fun c => (List.range pg.sup.length).all fun k => isTr (PySem.W.exmOne K (.ref (N.er c)) (.ref (N.er k))) (((pg.sup[c]?).getD []).contains k))
theorem modB_ok {pg : Pg} {M : Md} {tb : Tb} {K : PySem.W.Frag} {w : World} {h : Heap} {mg : Str → Option Value} {fdo : Nat → FuncData} {pso : Nat → List Str} {m n : Nat} (KX : K.In h) (G : h.Ns mainGlobals mg) (chk : modB pg (NmOf M K) tb K = true) (efl : tb.fl = M.fl)
    (df : ∀ f, f < pg.fns.length → DefOk pg (NmOf M K) tb K m n f (fdo f) (pso f)) (bn : ∀ f, f < pg.fns.length → Binds K (fdo f) (pso f) []) (nod : (tb.fn.all fun e => e.2.2.2.isEmpty) = true)
    (grp : ∀ x, tb.gr = some x → ∃ d es n, mg x = some (.ref d) ∧ GrpG pg.grp K w d es n) (low : ∀ c, tb.lo = some c → ∃ fI, PySem.LowX.LowTxt K mg ((NmOf M K).er c) fI) : MG pg (NmOf M K) tb w K mg fdo pso m n := by
  unfold modB at chk
  simp only [Bool.and_eq_true] at chk
  obtain ⟨⟨⟨⟨⟨⟨⟨⟨⟨⟨⟨c1, c2⟩, c3⟩, c4⟩, c5⟩, c6⟩, c7⟩, c8⟩, c9⟩, c10⟩, c12⟩, c11⟩ := chk
  have kit := kitB2_ok c1
  refine ⟨df, fun x f np ds e => ?_, fun x g e => ?_, fun x c e => ?_, fun mm nn c f e => ?_, fun a f e => ?_, kit, fun c f hc e => ?_, grp, fun x hx => ?_, fun A xs => ?_, fun x c e => ?_, fun c e => ?_, ⟨fun c k hc hk => ?_⟩⟩
  · have z := List.all_eq_true.mp c2 _ (lookup_mem e)
    simp only [Bool.and_eq_true, decide_eq_true_eq] at z
    have y := List.all_eq_true.mp nod _ (lookup_mem e)
    have ed : ds = [] := by simpa using y
    subst ed
    refine ⟨z.1.1, PySem.W.mg_of KX G (isRef_ok z.1.2), z.2, fun m hm => ⟨[], [], bn f z.1.1, .nil, fun _ _ => by simp; exact rps_nil, fun _ => rfl⟩⟩
  · have z := List.all_eq_true.mp c3 _ (lookup_mem e)
    dsimp only at z
    split at z
    · rename_i v d e1 e2
      obtain ⟨y, r1, r2⟩ := conV_ok z
      exact ⟨v, y, d, PySem.W.mg_of KX G e1, r1, e2, r2⟩
    · cases z
  · have z := List.all_eq_true.mp c4 _ (lookup_mem e)
    simp only [Bool.and_eq_true, decide_eq_true_eq] at z
    obtain ⟨⟨z1, z2⟩, z3⟩ := z
    split at z3
    · rename_i f e1
      simp only [Bool.and_eq_true, decide_eq_true_eq] at z3
      obtain ⟨⟨⟨⟨y1, y2⟩, y3⟩, y4⟩, y5⟩ := z3
      exact ⟨z1, PySem.W.mg_of KX G (isRef_ok z2), f, y1, e1, ⟨y2, isRef_ok y3, y4, y5⟩, bn f y1⟩
    · cases z3
  · have z := List.all_eq_true.mp c5 _ (lookup_mem e)
    simp only [Bool.and_eq_true, decide_eq_true_eq, Bool.not_eq_true'] at z
    obtain ⟨⟨⟨⟨⟨⟨z1, z2⟩, z3⟩, z4⟩, z5⟩, z6⟩, z7⟩ := z
    refine ⟨z1, z2, ⟨isRef_ok z3, z4, z5⟩, fun i he => ?_, bn f z2⟩
    have he : flN M.fl i = mm := he
    unfold flN at he
    split at he
    · rename_i x hx
      subst he
      rw [efl] at z6
      have : M.fl.contains x = true := List.contains_iff_mem.mpr (List.mem_of_getElem? hx)
      rw [this] at z6
      cases z6
    · subst he
      exact z7 rfl
  · have h1 := ixOf_ok e
    have h2 : (NmOf M K).fl f = a := by
      show flN M.fl f = a
      unfold flN
      rw [← efl, h1]
    refine ⟨h2, kit.cl, fun c hc => ?_⟩
    rw [h2]
    have z := List.all_eq_true.mp c6 a (List.mem_of_getElem? h1)
    exact isNo_ok (List.all_eq_true.mp z c (List.mem_range.mpr hc))
  · have z := List.all_eq_true.mp c7 c (List.mem_range.mpr hc)
    rw [e] at z
    simp only [Bool.and_eq_true, decide_eq_true_eq] at z
    obtain ⟨⟨⟨⟨⟨z1, z2⟩, z3⟩, z4⟩, z5⟩, z6⟩ := z
    exact ⟨z1, isRef_ok z2, z3, bn f z1, z4, z5, z6⟩
  · exact PySem.W.mg_none_of KX G (isNo_ok (List.all_eq_true.mp c8 x hx))
  · unfold ownLen
    split
    · split
      · split
        · rename_i q
          have := List.all_eq_true.mp c9 _ (List.mem_of_getElem? q)
          cases this
        · rfl
      · rfl
    · rfl
  · have z := List.all_eq_true.mp c10 _ (lookup_mem e)
    simp only [Bool.and_eq_true, decide_eq_true_eq] at z
    obtain ⟨⟨⟨⟨⟨z1, z2⟩, z3⟩, z4⟩, z5⟩, z6⟩ := z
    refine ⟨z1, PySem.W.mg_of KX G (isRef_ok z2), z3, isTr_ok z4, ?_, fun hlo => ⟨veB, "ValueError", "ValueError.__new__", "ValueError.__init__", PySem.F.excBase_ValueError, ?_⟩⟩
    · split at z5
      · rename_i s e1
        rw [e1, beq_iff_eq.mp z5]
      · cases z5
    · rw [Bool.or_eq_true] at z6
      rcases z6 with z6 | z6
      · exact absurd (of_decide_eq_true z6) hlo
      · exact z6
  · rw [e] at c12
    simp only [Bool.and_eq_true, decide_eq_true_eq] at c12
    refine ⟨c12.1, low c e, fun k hk hb => ?_⟩
    have z := List.all_eq_true.mp c12.2 k (List.mem_range.mpr hk)
    rw [hb] at z
    simpa using z
  · exact isTr_ok (List.all_eq_true.mp (List.all_eq_true.mp c11 c (List.mem_range.mpr hc)) k (List.mem_range.mpr hk))
end Mini

set_option Elab.async false
set_option linter.all false
set_option maxRecDepth 100000
set_option maxHeartbeats 4000000
/-! A def's facts. -/
namespace Mini
open PySem L2 PySem.Spec PyProof.Rows
/-- a def without defaults, as the written part has it -/
def DefK (K : PySem.W.Frag) (a : Addr) (x qual : Str) (st : Stmt) : Prop := ∃ (oc kV doc pm cd ct : Value) (od an : Option Addr) (osl : Array (Option Value)),
  K.lookup a = some ⟨oc, od, .func (PySem.W.fnOf x qual (defArgs st) (defBody st) (defScope st) .none kV doc pm an cd ct), osl⟩ ∧ PySem.W.codeIn K cd qual = true
def fdK (K : PySem.W.Frag) (a : Addr) : FuncData := match K.lookup a with
  | some ⟨_, _, .func fd, _⟩ => fd
  | _ => PySem.W.fnOf "" "" { posonlyargs := [], args := [], vararg := none, kwonlyargs := [], kw_defaults := [], kwarg := none, defaults := [] } [] { kind := .function, names := [], isGenerator := false, isCoroutine := false } .none .none .none .none none .none .none
theorem defK_ok {pg : Pg} {M : Md} {tb : Tb} {K : PySem.W.Frag} {m n f : Nat} {a : Addr} {x qual : Str} {st : Stmt} {Ns ps : List Str} {fn : Fn} (ha : faN K M f = a) (h : DefK K a x qual st) (S : FnScope Ns ps (defScope st)) (e1 : pg.fns[f]? = some fn) (e2 : fn.np = ps.length) (e3 : fn.nl = Ns.length)
    (e4 : cSs tb m n ⟨Ns, defScope st, none⟩ (defBody st) = fn.body) (hb : ∀ (kV doc pm : Value) (an : Option Addr) (cdv ct : Value) (us : List Value), us.length = ps.length → bindArgs (PySem.W.fnOf x qual (defArgs st) (defBody st) (defScope st) .none kV doc pm an cdv ct) ⟨us, []⟩ = pure (ps.zip us)) :
    DefOk pg (NmOf M K) tb K m n f (fdK K a) ps ∧ Binds K (fdK K a) ps [] ∧ ∀ us : List Value, us.length = ps.length → bindArgs (fdK K a) ⟨us, []⟩ = pure (ps.zip us) := by
  obtain ⟨oc, kV, doc, pm, cd, ct, od, an, osl, lk, hc⟩ := h
  have ef : fdK K a = PySem.W.fnOf x qual (defArgs st) (defBody st) (defScope st) .none kV doc pm an cd ct := by
    unfold fdK
    rw [lk]
  rw [ef]
  refine ⟨⟨x, qual, defArgs st, defBody st, defScope st, oc, .none, kV, doc, pm, cd, ct, od, an, osl, Ns, fn, rfl, ?_, hc, S, e1, e2, e3, e4.symm⟩, Binds.all (hb kV doc pm an cd ct), hb kV doc pm an cd ct⟩
  show K.lookup (faN K M f) = _
  rw [ha]
  exact lk
/-- the law's end, the names by the written part -/
theorem walkN {pg : Pg} {M : Md} {tb : Tb} {m n lv law : Nat} {l : PySem.W.OpenLaw} {q : Program} {loose : List Str} {XP : (Str → Option Value) → Heap → Prop} {YP : World → Heap → Prop} {d : DefRec} {K : Params → PySem.W.Frag} {x : Str}
    (hn : l.most = some 63) (hdf : d.params.defaults = []) (hr : Room (2 * lv) callerA) (hY : ∀ (w : World) (h : Heap), YP w h → (K w.params).In h)
    (F : ∀ (w : World) (mg : Str → Option Value) (fa : Addr) (h : Heap), (K w.params).In h → h.Ns mainGlobals mg → mg d.name = some (.ref fa) →
      ∃ (fdo : Nat → FuncData) (pso : Nat → List Str), MG pg (NmOf M (K w.params)) tb w (K w.params) mg fdo pso m n ∧ law < pg.fns.length ∧ (NmOf M (K w.params)).fa law = fa ∧ pso law = [x] ∧ ∀ (s : Shared) (u : Value), BindsTo s (fdo law) ⟨[u], []⟩ [(x, u)])
    (hlaw : ∀ ns : List Int, ns.length ≤ 63 → ∃ A', callN pg lv law [.scr ns] [] = .ok (.bl true) A') : PySem.W.WalkO q loose XP YP l.row.toRowW d [] (fun f vs => PySem.call f vs) :=
  walkM (N := fun w => NmOf M (K w.params)) hn hdf hr hY F hlaw
theorem defK_fn {K : PySem.W.Frag} {M : Md} {i : Nat} {a : Addr} {x : Str} {st : Stmt} {oc kV doc pm cd ct : Value} {od an : Option Addr} {osl : Array (Option Value)} (hM : M.fns[i]? = some ⟨x, none⟩) (h1 : PySem.W.nsIn K mainGlobals x = some (some (.ref a)))
    (h2 : K.lookup a = some ⟨oc, od, .func (PySem.W.fnOf x x (defArgs st) (defBody st) (defScope st) .none kV doc pm an cd ct), osl⟩) (h3 : PySem.W.codeIn K cd x = true) : DefK K (faN K M i) x x st := by
  have e : faN K M i = a := by
    unfold faN
    rw [hM]
    show gaN K x = a
    unfold gaN
    rw [h1]
  rw [e]
  exact ⟨oc, kV, doc, pm, cd, ct, od, an, osl, h2, h3⟩
theorem defK_me {K : PySem.W.Frag} {M : Md} {i : Nat} {a C : Addr} {x c q : Str} {st : Stmt} {oc kV doc pm cd ct : Value} {od an : Option Addr} {osl : Array (Option Value)} (hM : M.fns[i]? = some ⟨x, some c⟩) (h0 : PySem.W.nsIn K mainGlobals c = some (some (.ref C)))
    (h1 : PySem.W.findIn K (.ref C) x = some (some (.ref a)))
    (h2 : K.lookup a = some ⟨oc, od, .func (PySem.W.fnOf x q (defArgs st) (defBody st) (defScope st) .none kV doc pm an cd ct), osl⟩) (h3 : PySem.W.codeIn K cd q = true) : DefK K (faN K M i) x q st := by
  have e : faN K M i = a := by
    unfold faN
    rw [hM]
    show fiN K (gaN K c) x = a
    have : gaN K c = C := by unfold gaN; rw [h0]
    rw [this]
    unfold fiN
    rw [h1]
  rw [e]
  exact ⟨oc, kV, doc, pm, cd, ct, od, an, osl, h2, h3⟩
/-- the module's table of texts, as the written part has it -/
theorem grpG_of {K : PySem.W.Frag} {w : World} {h : Heap} {mg : Str → Option Value} {grp : List (S × S)} {x : Str} {d : Addr} {es : Array DictEntry} {n : Nat} (KX : K.In h) (G : h.Ns mainGlobals mg) (h1 : PySem.W.nsIn K mainGlobals x = some (some (.ref d)))
    (h2 : K.lookup d = some ⟨.type "dict", none, .dict es n, #[]⟩) (h3 : PySem.W.KeysLit w.params es.toList) (h4 : (d == sysModules) = false)
    (h5 : (es.toList.length == grp.length && (es.toList.zip grp).all fun p => (match p.1.key, p.1.val with | .str a _, .str b _ => decide (a = txt p.2.1) && decide (b = txt p.2.2) | _, _ => false)) = true) :
    ∃ d es n, mg x = some (.ref d) ∧ GrpG grp K w d es n := by
  refine ⟨d, es, n, PySem.W.mg_of KX G h1, ⟨h2, h3, h4⟩, ?_⟩
  rw [Bool.and_eq_true, beq_iff_eq, List.all_eq_true] at h5
  refine zip_pair h5.1 fun p hp => ?_
  have z := h5.2 p hp
  obtain ⟨e, q⟩ := p
  dsimp only at z ⊢
  split at z
  · rename_i a t b u e1 e2
    simp only [Bool.and_eq_true, decide_eq_true_eq] at z
    exact ⟨⟨t, by rw [e1, z.1]⟩, ⟨u, by rw [e2, z.2]⟩⟩
  · cases z
/-- an error of the class at S is what «except S» names -/
theorem exm_self {K : PySem.W.Frag} {S : Addr} (h1 : PySem.W.subIn K (.ref S) (.type "BaseException") = some true) (h2 : PySem.W.isClsIn K S = true) (h3 : PySem.W.typeIn K (.ref S) = some (.type "type")) (h4 : PySem.W.subIn K (.ref S) (.ref S) = some true) :
    PySem.W.exmOne K (.ref S) (.ref S) = some true := by
  have e1 : (PySem.W.subIn K (.ref S) (.type "BaseException") == some true) = true := by rw [h1] <;> rfl
  have e2 : ((PySem.W.clsIn K S).isSome && PySem.W.typeIn K (.ref S) == some (.type "type")) = true := by
    have h2' : (PySem.W.clsIn K S).isSome = true := h2
    rw [h2', h3] <;> rfl
  show (if (PySem.W.subIn K (.ref S) (.type "BaseException") == some true) = true then (if ((PySem.W.clsIn K S).isSome && PySem.W.typeIn K (.ref S) == some (.type "type")) = true then PySem.W.subIn K (.ref S) (.ref S) else none) else none) = some true
  rw [if_pos e1, if_pos e2]
  exact h4
/-- class BadLine, as the written part has it -/
theorem low_of {K : PySem.W.Frag} {M : Md} {h : Heap} {mg : Str → Option Value} {c : Nat} {C f1 : Addr} {st : Stmt} (X : K.In h) (G : h.Ns mainGlobals mg) (hM : M.ers[c]? = some "BadLine")
    (hs : ∃ p1 p2 q1 q2 q3 q4, defArgs st = PySem.LowX.iA p1 p2 ∧ defBody st = PySem.LowX.iB q1 q2 q3 q4 ∧ defScope st = PySem.LowX.iS)
    {nm q : Str} {N : Addr} {bs bm : List Value} {sn : List Str} {sub : List Value} {ab : Bool} {col : Option Bool} {dd : Option Addr} {m0 m1 m2 m3 m5 : Option Value}
    {od1 an1 : Option Addr} {sl1 : Array (Option Value)} {oc1 dc1 pm1 cd1 ct1 : Value}
    (aC : PySem.W.nsIn K mainGlobals "BadLine" = some (some (.ref C)))
    (xL : K.lookup C = some (excClassObj nm q C N bs bm true sn sub ab col dd m0 m1 m2 m3 m5 "ValueError.__new__")) (hbm : PySem.HandSPX.refsVE bm = true)
    (sa : PySem.W.findIn K (.ref C) "__setattr__" = some (some (.builtin "object.__setattr__"))) (ga : PySem.W.findIn K (.ref C) "__getattribute__" = some (some (.builtin "BaseException.__getattribute__"))) (gg : PySem.W.findIn K (.ref C) "__getattr__" = some none) (nb : PySem.W.findIn K (.ref C) "line" = some none)
    (a1 : PySem.W.findIn K (.ref C) "__init__" = some (some (.ref f1))) (t1 : PySem.W.typeIn K (.ref f1) = some (.type "function"))
    (l1 : K.lookup f1 = some ⟨oc1, od1, .func (PySem.W.fnOf "__init__" "BadLine.__init__" (defArgs st) (defBody st) (defScope st) .none .none dc1 pm1 an1 cd1 ct1), sl1⟩) (c1 : PySem.W.codeIn K cd1 "BadLine.__init__" = true)
    (kC : PySem.W.keepIn K (.ref C) = true) (eC : PySem.W.subIn K (.ref C) (.type "BaseException") = some true) (tC : PySem.W.typeIn K (.ref C) = some (.type "type")) (hC : PySem.W.hasDictIn K C = true) (iC : PySem.W.isClsIn K C = true) (sC : PySem.W.subIn K (.ref C) (.ref C) = some true) :
    ∃ fI, PySem.LowX.LowTxt K mg ((NmOf M K).er c) fI := by
  have e : (NmOf M K).er c = C := by
    show (match M.ers[c]? with | some x => gaN K x | none => 0) = C
    rw [hM]
    show gaN K "BadLine" = C
    unfold gaN
    rw [aC]
  rw [e]
  obtain ⟨p1, p2, q1, q2, q3, q4, e1, e2, e3⟩ := hs
  rw [e1, e2, e3] at l1
  exact ⟨f1, { gC := PySem.W.mg_of X G aC, cls := ⟨nm, q, N, bs, bm, sn, sub, ab, col, dd, m0, m1, m2, m3, m5, xL, hbm⟩, sa := sa, ga := ga, gg := gg, noN := nb, iC := a1, tC := t1, kC := kC, exC := eC, tyC := tC, hdC := hC, te := exm_self eC iC tC sC, fn := ⟨_, _, _, _, _, _, _, _, _, _, _, _, _, _, l1, c1⟩ }⟩
end Mini

set_option Elab.async false
set_option linter.all false
set_option maxRecDepth 100000
set_option maxHeartbeats 4000000
/-! MT: Mini with lists and dicts as trees; only what is changed has a place. Plain Lean. -/
namespace MT
open Mini (S O2 Cm Bi Bm Ty T Hk D Tr big ixN atI cut rep small64 b2 get1 put1 putD splitS joinS intS intOf sortS sortR minI putAll isNon grpG clause)

/-- a tree -/
inductive V where
  | non | bl (b : Bool) | int (i : Int) | str (s : S) | tup (xs : List V) | lst (xs : List V)
  | dk (ks : List S) (vs : List V) | dt (ks : List (List S)) (vs : List V) | ins (c : Nat) (fs : List Nat) (vs : List V) | scr (ns : List Int)
  deriving Inhabited
/-- a value: a tree, or a place -/
inductive W where
  | t (v : V) | h (k : Nat)
  deriving Inhabited
/-- what stands at a place -/
inductive Ob where
  | lst (xs : List V) | lsw (ws : List W) | dk (kvs : List (S × W)) | dt (kvs : List (List S × W)) | ins (c : Nat) (fs : List (Nat × W))
abbrev Hp := List Ob
abbrev Env := List (Option W)
inductive RT (α : Type) where
  | ok (a : α) (M : Hp) | exc (c : Nat) (x : Option V) (M : Hp) | bad
def RT.bind {α β : Type} : RT α → (α → Hp → RT β) → RT β
  | .ok a M, f => f a M
  | .exc c x M, _ => .exc c x M
  | .bad, _ => .bad
inductive FT where
  | nx (v : Env) (M : Hp) | rt (w : W) (M : Hp) | exc (c : Nat) (x : Option V) (v : Env) (M : Hp) | bad

/-! ### trees -/
def treesOf : List W → Option (List V)
  | [] => some []
  | .t v :: r => (treesOf r).map (v :: ·)
  | .h _ :: _ => none
/-- a tree as data -/
def V.tr : Nat → V → Option Tr
  | 0, _ => none
  | n + 1, v => match v with
    | .non => some .non
    | .bl b => some (.bl b)
    | .int i => some (.int i)
    | .str s => some (.str s)
    | .tup xs => (xs.mapM (V.tr n)).map .tup
    | .lst xs => (xs.mapM (V.tr n)).map .lst
    | _ => none
def eqT (x y : V) : Option Bool :=
  match x.tr 20, y.tr 20 with
  | some a, some b => if a.ok && b.ok then some (a.eqv b) else none
  | _, _ => none
def inT (x : V) (xs : List V) : Option Bool :=
  match x.tr 20, xs.mapM (V.tr 20) with
  | some a, some bs => if a.ok && Tr.oks bs then some (bs.any fun b => Tr.eqv b a) else none
  | _, _ => none
def strsV : List V → Option (List S)
  | [] => some []
  | .str s :: r => (strsV r).map (s :: ·)
  | _ :: _ => none
def intsV : List V → Option (List Int)
  | [] => some []
  | .int i :: r => (intsV r).map (i :: ·)
  | _ :: _ => none
def blsV : List V → Option (List Bool)
  | [] => some []
  | .bl b :: r => (blsV r).map (b :: ·)
  | _ :: _ => none
def getV {κ : Type} [DecidableEq κ] : List κ → List V → κ → Option V
  | a :: r, v :: q, k => if a = k then some v else getV r q k
  | _, _, _ => none
def op2V (o : O2) (x y : V) : Option V :=
  match o, x, y with
  | .add, .int i, .int j => some (.int (i + j))
  | .add, .str s, .str t => if big (s.length + t.length) then some (.str (s ++ t)) else none
  | .add, .tup xs, .tup ys => if big (xs.length + ys.length) then some (.tup (xs ++ ys)) else none
  | .add, .lst xs, .lst ys => if big (xs.length + ys.length) then some (.lst (xs ++ ys)) else none
  | .sub, .int i, .int j => some (.int (i - j))
  | .mul, .int i, .int j => if small64 i || small64 j then some (.int (i * j)) else none
  | .mul, .tup xs, .int k => if decide (2 ≤ k) && decide (k ≤ 1000) && Nat.ble xs.length 1000 && Nat.blt 0 xs.length then some (.tup (rep xs k.toNat)) else none
  | .mul, .lst xs, .int k => if decide (0 ≤ k) && decide (k ≤ 1000) && big (xs.length * k.toNat) then some (.lst (rep xs k.toNat)) else none
  | .fdiv, .int i, .int j => if decide (0 < j) && decide (j < 1073741824) then some (.int (i / j)) else none
  | .mod, .int i, .int j => if decide (0 < j) then some (.int (i % j)) else none
  | .pow, .int i, .int j => if decide (0 ≤ j) && decide (j ≤ 100) && small64 i && decide (0 ≤ i) then some (.int (i ^ j.toNat)) else none
  | _, _, _ => none
def eqV (x y : V) : Option Bool :=
  match x, y with
  | .non, .non => some true | .non, .bl _ => some false | .bl _, .non => some false | .non, .int _ => some false | .int _, .non => some false
  | .non, .str _ => some false | .str _, .non => some false
  | .bl a, .bl b => some (a == b)
  | .int i, .int j => some (decide (i = j))
  | .str s, .str t => some (decide (s = t))
  | .int _, .str _ => some false | .str _, .int _ => some false | .bl _, .str _ => some false | .str _, .bl _ => some false
  | x, y => eqT x y
def inV (x y : V) : Option Bool :=
  match y with
  | .str t => (match x with | .str [c] => some (decide (c ∈ t)) | _ => none)
  | .tup ys => inT x ys
  | .lst ys => inT x ys
  | .dk ks vs => (match x with | .str s => some (getV ks vs s).isSome | _ => none)
  | _ => none
def isNonV : V → Bool
  | .non => true
  | _ => false
def cmpV (c : Cm) (x y : V) : Option Bool :=
  match c with
  | .eq => eqV x y
  | .ne => (eqV x y).map (!·)
  | .inn => inV x y
  | .notin => (inV x y).map (!·)
  | .isN => if isNonV y then some (isNonV x) else none
  | .notN => if isNonV y then some (!isNonV x) else none
  | .lt => (match x, y with | .int i, .int j => some (decide (i < j)) | _, _ => none)
  | .le => (match x, y with | .int i, .int j => some (decide (i ≤ j)) | _, _ => none)
  | .gt => (match x, y with | .int i, .int j => some (decide (j < i)) | _, _ => none)
  | .ge => (match x, y with | .int i, .int j => some (decide (j ≤ i)) | _, _ => none)
def idxV (x i : V) : Option V :=
  match x, i with
  | .tup xs, .int k => atI xs k
  | .str s, .int k => if big s.length then (atI s k).map fun c => .str [c] else none
  | .lst xs, .int k => atI xs k
  | .dk ks vs, .str s => getV ks vs s
  | .dt ks vs, .tup xs => (strsV xs).bind fun k => getV ks vs k
  | _, _ => none
def slcV (x : V) (lo hi : Option Int) : Option V :=
  match x with
  | .tup xs => some (.tup (cut xs lo hi))
  | .str s => if big s.length then some (.str (cut s lo hi)) else none
  | .lst xs => some (.lst (cut xs lo hi))
  | _ => none
def revV (x : V) : Option V :=
  match x with
  | .lst xs => some (.lst xs.reverse)
  | _ => none
def truthV : V → Option Bool
  | .non => some false
  | .bl b => some b
  | .int i => some (i != 0)
  | .str s => if big s.length then some (!s.isEmpty) else none
  | .tup xs => some (!xs.isEmpty)
  | .lst xs => some (!xs.isEmpty)
  | .dk ks _ => some (!ks.isEmpty)
  | _ => none
def itemsV : V → Option (List V)
  | .tup xs => some xs
  | .lst xs => some xs
  | .scr ns => some (ns.map .int)
  | _ => none
def pairsV : List V → Option (List (S × V))
  | [] => some []
  | .tup [.str s, d] :: r => (pairsV r).map ((s, d) :: ·)
  | _ :: _ => none
/-- a dict: its keys, its values; k stored -/
def setV {κ : Type} [DecidableEq κ] (ks : List κ) (vs : List V) (k : κ) (v : V) : List κ × List V :=
  let l := (ks.zip vs)
  let l' := if (l.any fun kv => decide (kv.1 = k)) = true then l.map (fun kv => if kv.1 = k then (kv.1, v) else kv) else l ++ [(k, v)]
  (l'.map (·.1), l'.map (·.2))
def putsV (ks : List S) (vs : List V) : List (S × V) → List S × List V
  | [] => (ks, vs)
  | (k, v) :: r => putsV (setV ks vs k v).1 (setV ks vs k v).2 r
def dkOf (p : List S × List V) : V := .dk p.1 p.2
def rowsV : List V → Option (List (List Int))
  | [] => some []
  | .lst xs :: r => (intsV xs).bind fun ns => (rowsV r).map (ns :: ·)
  | _ :: _ => none
/-- rows of whole numbers, sorted -/
def insRow (x : List Int) : List (List Int) → List (List Int)
  | [] => [x]
  | y :: r => if x ≤ y then x :: y :: r else y :: insRow x r
def sortRow : List (List Int) → List (List Int)
  | [] => []
  | x :: r => insRow x (sortRow r)
def biV (b : Bi) (vs : List V) : Option V :=
  match b, vs with
  | .len, [.str s] => if big s.length then some (.int s.length) else none
  | .len, [.tup xs] => some (.int xs.length)
  | .len, [.lst xs] => some (.int xs.length)
  | .len, [.dk ks _] => some (.int ks.length)
  | .int, [.int i] => some (.int i)
  | .int, [.bl b] => some (.int (b2 b))
  | .int, [.str s] => (intOf s).map .int
  | .str, [.str s] => some (.str s)
  | .str, [.int i] => if Nat.ble i.natAbs 1000 then some (.str (intS i)) else none
  | .str, [.non] => some (.str [78, 111, 110, 101])
  | .list, [x] => (itemsV x).map .lst
  | .tuple, [.tup xs] => some (.tup xs)
  | .tuple, [.lst xs] => some (.tup xs)
  | .dict, [.tup ps] => (pairsV ps).map fun kvs => dkOf (putsV [] [] kvs)
  | .dictzip, [.tup ks, .tup ds] => (strsV ks).bind fun k => if k.length = ds.length then some (dkOf (putsV [] [] (k.zip ds))) else none
  | .listzip, [.lst xs, .lst ys] => some (.lst ((xs.zip ys).map fun p => .tup [p.1, p.2]))
  | .sorted, [.lst xs] => (match strsV xs with
      | some ss => if Nat.blt ss.length 64 then some (.lst ((sortS ss).map .str)) else none
      | none => none)
  | .all, [.lst xs] => (blsV xs).map fun bs => .bl (bs.all id)
  | .any, [.lst xs] => (blsV xs).map fun bs => .bl (bs.any id)
  | .max2, [.int i, .int j] => some (.int (if j > i then j else i))
  | .min1, [.lst xs] => ((intsV xs).bind minI).map .int
  | .abs, [.int i] => some (.int (if i < 0 then -i else i))
  | _, _ => none
def bmV (b : Bm) (x : V) (vs : List V) : Option V :=
  match b, x, vs with
  | .index, .lst xs, [.str s] => (strsV xs).bind fun ss => (ss.findIdx? fun t => decide (t = s)).map fun (j : Nat) => .int j
  | .join, .str s, [.lst xs] => (strsV xs).bind fun ss => if big ((ss.map List.length).sum + ss.length * s.length) then some (.str (joinS s ss)) else none
  | .split, .str s, [.str [c]] => if big (s.length + 2) && Nat.blt c 256 then some (.lst ((splitS c s).map .str)) else none
  | .startswith, .str s, [.str t] => some (.bl (t.isPrefixOf s))
  | _, _, _ => none
def isinV (x : V) (t : Ty) : Option Bool :=
  match x with
  | .non => some false
  | .bl _ => some (match t with | .bool => true | .int => true | _ => false)
  | .int _ => some (match t with | .int => true | _ => false)
  | .str _ => some (match t with | .str => true | _ => false)
  | .tup _ => some (match t with | .tuple => true | _ => false)
  | .lst _ => some (match t with | .list => true | _ => false)
  | .dk _ _ => some (match t with | .dict => true | _ => false)
  | .dt _ _ => some (match t with | .dict => true | _ => false)
  | .ins c _ _ => some (match t with | .cls c' => decide (c = c') | _ => false)
  | .scr _ => none

/-! ### what stands at a place, read -/
def rdOb : Ob → Option V
  | .lst xs => some (.lst xs)
  | .dk kvs => (treesOf (kvs.map (·.2))).map fun vs => .dk (kvs.map (·.1)) vs
  | .dt kvs => (treesOf (kvs.map (·.2))).map fun vs => .dt (kvs.map (·.1)) vs
  | _ => none
def rdW (M : Hp) : W → Option V
  | .t v => some v
  | .h k => M[k]?.bind rdOb
def rdWs (M : Hp) : List W → Option (List V)
  | [] => some []
  | w :: r => (rdW M w).bind fun v => (rdWs M r).map (v :: ·)
/-- all of it, at most so deep -/
def snapO (f : W → Option V) : Ob → Option V
  | .lst xs => some (.lst xs)
  | .lsw ws => (ws.mapM f).map .lst
  | .dk kvs => ((kvs.map (·.2)).mapM f).map fun vs => .dk (kvs.map (·.1)) vs
  | .dt kvs => ((kvs.map (·.2)).mapM f).map fun vs => .dt (kvs.map (·.1)) vs
  | .ins c fs => ((fs.map (·.2)).mapM f).map fun vs => .ins c (fs.map (·.1)) vs
def snap (M : Hp) (l : Nat) : Nat → W → Option V
  | _, .t v => some v
  | 0, .h _ => none
  | n + 1, .h k => if Nat.blt k l then none else M[k]?.bind (snapO (snap M l n))
/-- no place from n on -/
def W.low (n : Nat) : W → Bool
  | .t _ => true
  | .h k => Nat.blt k n
def Ob.low (n : Nat) : Ob → Bool
  | .lst _ => true
  | .lsw ws => ws.all (W.low n)
  | .dk kvs => (kvs.map (·.2)).all (W.low n)
  | .dt kvs => (kvs.map (·.2)).all (W.low n)
  | .ins _ fs => (fs.map (·.2)).all (W.low n)
def lows (n : Nat) : Hp → Bool
  | [] => true
  | o :: r => o.low n && lows n r
/-- a tree as a new thing, with a place of its own or none -/
def obOf : V → Option Ob
  | .lst xs => some (.lst xs)
  | .dk ks vs => if ks.length = vs.length then some (.dk (ks.zip (vs.map .t))) else none
  | .dt ks vs => if ks.length = vs.length then some (.dt (ks.zip (vs.map .t))) else none
  | _ => none
def mkN (l : Bool) (v : V) (M : Hp) : RT W := if l then (match obOf v with | some o => .ok (.h M.length) (M ++ [o]) | none => .bad) else .ok (.t v) M
def ofV (o : Option V) (M : Hp) : RT W := match o with | some v => .ok (.t v) M | none => .bad
def ofN (l : Bool) (o : Option V) (M : Hp) : RT W := match o with | some v => mkN l v M | none => .bad
def ofB (o : Option Bool) (M : Hp) : RT W := match o with | some b => .ok (.t (.bl b)) M | none => .bad
def truthW (M : Hp) : W → Option Bool
  | .t v => truthV v
  | .h k => match M[k]? with
    | some (.lst xs) => some (!xs.isEmpty)
    | some (.lsw xs) => some (!xs.isEmpty)
    | some (.dk kvs) => some (!kvs.isEmpty)
    | _ => none
def isinW (M : Hp) (w : W) (t : Ty) : Option Bool :=
  match w with
  | .t v => isinV v t
  | .h k => match M[k]? with
    | some (.lst _) => some (match t with | .list => true | _ => false)
    | some (.lsw _) => some (match t with | .list => true | _ => false)
    | some (.dk _) => some (match t with | .dict => true | _ => false)
    | some (.dt _) => some (match t with | .dict => true | _ => false)
    | some (.ins c _) => some (match t with | .cls c' => decide (c = c') | _ => false)
    | none => none
def getW {κ : Type} [DecidableEq κ] : List (κ × W) → κ → Option W
  | [], _ => none
  | (a, v) :: r, k => if a = k then some v else getW r k
def putW {κ : Type} [DecidableEq κ] : List (κ × W) → κ → W → List (κ × W)
  | [], k, v => [(k, v)]
  | (a, u) :: r, k, v => if a = k then (a, v) :: r else (a, u) :: putW r k v
def putDW {κ : Type} [DecidableEq κ] (kvs : List (κ × W)) (k : κ) (v : W) : List (κ × W) :=
  if (kvs.any fun kv => decide (kv.1 = k)) = true then kvs.map (fun kv => if kv.1 = k then (kv.1, v) else kv) else kvs ++ [(k, v)]
def ofW (o : Option W) (M : Hp) : RT W := match o with | some w => .ok w M | none => .bad
/-- x[i] -/
def idxW (M : Hp) (x i : W) : Option W :=
  match x with
  | .t v => (rdW M i).bind fun j => (idxV v j).map .t
  | .h k => match M[k]?, i with
    | some (.lst xs), .t (.int j) => (atI xs j).map .t
    | some (.lsw ws), .t (.int j) => atI ws j
    | some (.dk kvs), .t (.str s) => getW kvs s
    | some (.dt kvs), .t (.tup ks) => (strsV ks).bind fun s => getW kvs s
    | _, _ => none
def fldW (M : Hp) (x : W) (f : Nat) : Option W :=
  match x with
  | .t (.ins _ fs vs) => (getV fs vs f).map .t
  | .h k => (match M[k]? with | some (.ins _ fs) => getW fs f | _ => none)
  | _ => none
def clsOf (M : Hp) : W → Option Nat
  | .t (.ins c _ _) => some c
  | .h k => (match M[k]? with | some (.ins c _) => some c | _ => none)
  | _ => none

/-! ### the form: Mini's, and of each new thing whether it has a place -/
mutual
inductive E where
  | bad
  | var (i : Nat) | con (d : D) | glo (g : Nat)
  | tup (es : List E) | lst (l : Bool) (es : List E) | dic (l : Bool) (ks : List S) (es : List E) | dict0 (l : Bool)
  | op2 (l : Bool) (o : O2) (a b : E) | neg (a : E) | not (a : E) | and (es : List E) | or (es : List E)
  | cmp (c : Cm) (a b : E) | chain (c1 c2 : Cm) (a b c : E) | ife (c a b : E)
  | idx (a i : E) | sl1 (l : Bool) (a lo : E) | sl2 (l : Bool) (a hi : E) | sl3 (l : Bool) (a lo hi : E) | rev (l : Bool) (a : E)
  | fld (a : E) (f : Nat)
  | call (z : Bool) (f : Nat) (es : List E) (ds : List D) | mk (z : Bool) (c : Nat) (es : List E) | meth (z : Bool) (c f : Nat) (a : E) (es : List E)
  | bi (l : Bool) (b : Bi) (es : List E) | bm (l : Bool) (b : Bm) (a : E) (es : List E)
  | gin (a : E) | gidx (a : E) | gget (a b : E)
  | isin (a : E) (t : Ty)
  | lc (l : Bool) (own : List Nat) (t : T) (it : I) (c : Option E) (e : E)
  | lc2 (l : Bool) (own own1 : List Nat) (t : T) (it : I) (t1 : T) (it1 : I) (e : E)
  | dc (l : Bool) (own : List Nat) (t : T) (it : I) (k e : E)
inductive I where
  | e (e : E) | range (e : E) | enum (e : E)
end
inductive St where
  | bad | pass
  | set (i : Nat) (e : E) | unp (is : List Nat) (e : E) | par (i j : Nat) (a b : E)
  | sfld (a : E) (f : Nat) (e : E) | ssub (a i e : E) | aug (i : Nat) (o : O2) (e : E) | augF (a : E) (f : Nat) (e : E)
  | expr (e : E) | ret (e : E) | retN
  | ife (c : E) (a b : List St)
  | for_ (t : T) (it : I) (body : List St)
  | while_ (c : E) (body : List St)
  | raise_ (c : Nat) (e : Option E)
  | try_ (body : List St) (hs : List (Nat × Option Nat × Hk))
mutual
def E.un : E → Mini.E
  | .bad => .bad
  | .var i => .var i
  | .con d => .con d
  | .glo g => .glo g
  | .tup es => .tup (uns es)
  | .lst _ es => .lst (uns es)
  | .dic _ ks es => .dic ks (uns es)
  | .dict0 _ => .dict0
  | .op2 _ o a b => .op2 o a.un b.un
  | .neg a => .neg a.un
  | .not a => .not a.un
  | .and es => .and (uns es)
  | .or es => .or (uns es)
  | .cmp c a b => .cmp c a.un b.un
  | .chain c1 c2 a b c => .chain c1 c2 a.un b.un c.un
  | .ife c a b => .ife c.un a.un b.un
  | .idx a i => .idx a.un i.un
  | .sl1 _ a lo => .sl1 a.un lo.un
  | .sl2 _ a hi => .sl2 a.un hi.un
  | .sl3 _ a lo hi => .sl3 a.un lo.un hi.un
  | .rev _ a => .rev a.un
  | .fld a f => .fld a.un f
  | .call _ f es ds => .call f (uns es) ds
  | .mk _ c es => .mk c (uns es)
  | .meth _ c f a es => .meth c f a.un (uns es)
  | .bi _ b es => .bi b (uns es)
  | .bm _ b a es => .bm b a.un (uns es)
  | .gin a => .gin a.un
  | .gidx a => .gidx a.un
  | .gget a b => .gget a.un b.un
  | .isin a t => .isin a.un t
  | .lc _ own t it c e => .lc own t it.un (unO c) e.un
  | .lc2 _ own own1 t it t1 it1 e => .lc2 own own1 t it.un t1 it1.un e.un
  | .dc _ own t it k e => .dc own t it.un k.un e.un
def uns : List E → List Mini.E
  | [] => []
  | e :: r => e.un :: uns r
def unO : Option E → Option Mini.E
  | none => none
  | some e => some e.un
def I.un : I → Mini.I
  | .e e => .e e.un
  | .range e => .range e.un
  | .enum e => .enum e.un
end
mutual
def St.un : St → Mini.St
  | .bad => .bad
  | .pass => .pass
  | .set i e => .set i e.un
  | .unp is e => .unp is e.un
  | .par i j a b => .par i j a.un b.un
  | .sfld a f e => .sfld a.un f e.un
  | .ssub a i e => .ssub a.un i.un e.un
  | .aug i o e => .aug i o e.un
  | .augF a f e => .augF a.un f e.un
  | .expr e => .expr e.un
  | .ret e => .ret e.un
  | .retN => .retN
  | .ife c a b => .ife c.un (unSs a) (unSs b)
  | .for_ t it body => .for_ t it.un (unSs body)
  | .while_ c body => .while_ c.un (unSs body)
  | .raise_ c e => .raise_ c (unO e)
  | .try_ body hs => .try_ (unSs body) hs
def unSs : List St → List Mini.St
  | [] => []
  | s :: r => s.un :: unSs r
end
structure Fn where
  np : Nat
  nl : Nat
  body : List St
structure Pg where
  fns : List Fn
  glo : List V
  grp : List (S × S)
  init : List Nat
  eqm : List (Option Nat)
  lenm : List (Option Nat)
  sup : List (List Nat)
/-- a constant -/
def conV : D → Option V
  | .non => some .non
  | .bl b => some (.bl b)
  | .int i => some (.int i)
  | .str s => some (.str s)
  | _ => none
mutual
def V.con : V → D
  | .bl b => .bl b
  | .int i => .int i
  | .str s => .str s
  | .tup xs => .tup (V.cons xs)
  | _ => .non
def V.cons : List V → List D
  | [] => []
  | v :: r => v.con :: V.cons r
end
mutual
def V.isC : V → Bool
  | .non => true
  | .bl _ => true
  | .int _ => true
  | .str _ => true
  | .tup xs => V.isCs xs
  | _ => false
def V.isCs : List V → Bool
  | [] => true
  | v :: r => v.isC && V.isCs r
end
def Fn.un (f : Fn) : Mini.Fn := ⟨f.np, f.nl, unSs f.body⟩
def Pg.un (P : Pg) : Mini.Pg := { fns := P.fns.map Fn.un, glo := V.cons P.glo, grp := P.grp, init := P.init, eqm := P.eqm, lenm := P.lenm, sup := P.sup }

/-! ### calls -/
abbrev Call := Nat → List W → Hp → RT W
def isTs : List W → Bool
  | [] => true
  | .t _ :: r => isTs r
  | .h _ :: _ => false
/-- what a call leaves: its own things are a tree from now on -/
def fin (n : Nat) : RT W → RT W
  | .ok w M => if lows n (M.take n) then (match w with
      | .t v => .ok (.t v) (M.take n)
      | .h k => if Nat.blt k n then .ok (.h k) (M.take n) else (match snap M n 6 (.h k) with | some v => .ok (.t v) (M.take n) | none => .bad)) else .bad
  | .exc c x M => if lows n (M.take n) then .exc c x (M.take n) else .bad
  | .bad => .bad
def onM (M : Hp) : RT W → RT W
  | .ok w _ => .ok w M
  | .exc c x _ => .exc c x M
  | .bad => .bad
def cook (C : Call) (f : Nat) (ws : List W) (M : Hp) : RT W :=
  if isTs ws then onM M (fin 0 (C f ws [])) else fin M.length (C f ws M)
def ownEq (P : Pg) (M : Hp) (c : Cm) (x y : W) : Option Nat :=
  match c, clsOf M x with
  | .eq, some k => (match P.eqm[k]? with
    | some (some f) => (match y with
      | .t (.tup _) => some f
      | .t (.int _) => some f
      | y => (match clsOf M y with | some j => if j = k then some f else none | none => none))
    | _ => none)
  | _, _ => none
def ownLen (P : Pg) (M : Hp) (b : Bi) (xs : List W) : Option Nat :=
  match b, xs with
  | .len, [x] => (match clsOf M x with
    | some k => (match P.lenm[k]? with | some (some f) => some f | _ => none)
    | none => none)
  | _, _ => none
def asB (r : RT W) : RT W := match r with | .ok (.t (.bl b)) M => .ok (.t (.bl b)) M | _ => .bad
def asN (r : RT W) : RT W := match r with | .ok (.t (.int i)) M => if decide (0 ≤ i) && decide (i < 1000000) then .ok (.t (.int i)) M else .bad | _ => .bad
def cmpW (M : Hp) (c : Cm) (x y : W) : Option Bool :=
  match c, x, y with
  | .isN, .h _, .t .non => some false
  | .notN, .h _, .t .non => some true
  | c, x, y => (rdW M x).bind fun a => (rdW M y).bind fun b => cmpV c a b
/-- what is walked -/
inductive It where
  | seq (xs : List V) | hl (k : Nat) | hen (k : Nat)
inductive Im where
  | one (w : W) | two (i : Nat) (w : W)
def enumV (i : Nat) : List V → List V
  | [] => []
  | x :: r => .tup [.int i, x] :: enumV (i + 1) r
def rngV (n : Nat) : List V := (List.range n).map fun (i : Nat) => V.int (i : Int)
def walkT (M : Hp) : W → Option It
  | .t (.tup xs) => some (.seq xs)
  | .t (.lst xs) => some (.seq xs)
  | .t (.str s) => some (.seq (s.map fun c => .str [c]))
  | .t (.scr ns) => some (.seq (ns.map .int))
  | .h k => (match M[k]? with | some (.lst _) => some (.hl k) | some (.lsw _) => some (.hl k) | _ => none)
  | _ => none
def obAt (M : Hp) (k i : Nat) : Option (Option W) :=
  match M[k]? with
  | some (.lst xs) => some (xs[i]?.map .t)
  | some (.lsw ws) => some ws[i]?
  | _ => none
def obLen (M : Hp) (k : Nat) : Nat :=
  match M[k]? with
  | some (.lst xs) => xs.length
  | some (.lsw ws) => ws.length
  | _ => 0
def setAll (v : Env) : List Nat → List V → Option Env
  | [], [] => some v
  | i :: is, d :: ds => setAll (v.set i (some (.t d))) is ds
  | _, _ => none
def putT (v : Env) (m : Im) : T → Option Env
  | .one i => (match m with | .one w => some (v.set i (some w)) | _ => none)
  | .many is => (match m with
    | .one (.t (.tup ds)) => setAll v is ds
    | .one (.t (.lst ds)) => setAll v is ds
    | .two i w => (match is with | [a, b] => some ((v.set a (some (.t (.int (i : Nat))))).set b (some w)) | _ => none)
    | _ => none)
def wipeE (v : Env) : List Nat → Env
  | [] => v
  | i :: is => (wipeE v is).set i none
def lcL (f : Im → Hp → RT (Option V)) : List V → List V → Hp → RT (List V)
  | [], acc, M => .ok acc M
  | x :: r, acc, M => (match f (.one (.t x)) M with
    | .ok (some y) M' => if Nat.blt acc.length 16777216 then lcL f r (acc ++ [y]) M' else .bad
    | .ok none M' => lcL f r acc M'
    | _ => .bad)
def imOf (en : Bool) (i : Nat) (w : W) : Im := if en then .two i w else .one w
def lcH (f : Im → Hp → RT (Option V)) (en : Bool) (k : Nat) : Nat → Nat → List V → Hp → RT (List V)
  | 0, _, _, _ => .bad
  | m + 1, i, acc, M => match obAt M k i with
    | none => .bad
    | some none => .ok acc M
    | some (some x) => match f (imOf en i x) M with
      | .ok (some y) M' => if Nat.blt acc.length 16777216 then lcH f en k m (i + 1) (acc ++ [y]) M' else .bad
      | .ok none M' => lcH f en k m (i + 1) acc M'
      | _ => .bad
def lcG (f : Im → Hp → RT (Option V)) (it : It) (M : Hp) : RT (List V) :=
  match it with
  | .seq xs => lcL f xs [] M
  | .hl k => lcH f false k (obLen M k + 1) 0 [] M
  | .hen k => lcH f true k (obLen M k + 1) 0 [] M
def lcL2 (f : Im → List V → Hp → RT (List V)) : List V → List V → Hp → RT (List V)
  | [], acc, M => .ok acc M
  | x :: r, acc, M => (match f (.one (.t x)) acc M with
    | .ok acc' M' => lcL2 f r acc' M'
    | _ => .bad)
def lcH2 (f : Im → List V → Hp → RT (List V)) (en : Bool) (k : Nat) : Nat → Nat → List V → Hp → RT (List V)
  | 0, _, _, _ => .bad
  | m + 1, i, acc, M => match obAt M k i with
    | none => .bad
    | some none => .ok acc M
    | some (some x) => match f (imOf en i x) acc M with
      | .ok acc' M' => lcH2 f en k m (i + 1) acc' M'
      | _ => .bad
def lcG2 (f : Im → List V → Hp → RT (List V)) (it : It) (acc : List V) (M : Hp) : RT (List V) :=
  match it with
  | .seq xs => lcL2 f xs acc M
  | .hl k => lcH2 f false k (obLen M k + 1) 0 acc M
  | .hen k => lcH2 f true k (obLen M k + 1) 0 acc M
def dcL (f : Im → Hp → RT (S × V)) : List V → List S → List V → Hp → RT (List S × List V)
  | [], ks, vs, M => .ok (ks, vs) M
  | x :: r, ks, vs, M => (match f (.one (.t x)) M with
    | .ok p M' => if Nat.blt ks.length 1000000 then dcL f r (setV ks vs p.1 p.2).1 (setV ks vs p.1 p.2).2 M' else .bad
    | _ => .bad)
def tree (w : W) (M : Hp) : RT V := match w with | .t v => .ok v M | .h _ => .bad
def lcF (t : T) (own : List Nat) (v : Env) (fc : Env → Hp → RT Bool) (fe : Env → Hp → RT W) (x : Im) (M : Hp) : RT (Option V) :=
  match putT (wipeE v own) x t with
  | none => .bad
  | some v' => (fc v' M).bind fun b M => if b then (fe v' M).bind fun y M => (tree y M).bind fun y M => .ok (some y) M else .ok none M
def lcF1 (t1 : T) (own1 : List Nat) (v' : Env) (fe : Env → Hp → RT W) (x1 : Im) (acc : List V) (M : Hp) : RT (List V) :=
  match putT (wipeE v' own1) x1 t1 with
  | none => .bad
  | some v2 => (fe v2 M).bind fun y M => (tree y M).bind fun y M => if Nat.blt acc.length 16777216 then .ok (acc ++ [y]) M else .bad
def lcF2 (t : T) (own : List Nat) (v : Env) (fi : Env → Hp → RT It) (f1 : Env → Im → List V → Hp → RT (List V)) (x : Im) (acc : List V) (M : Hp) : RT (List V) :=
  match putT (wipeE v own) x t with
  | none => .bad
  | some v' => (fi v' M).bind fun it1 M => lcG2 (f1 v') it1 acc M
def dcF (t : T) (own : List Nat) (v : Env) (fk fe : Env → Hp → RT W) (x : Im) (M : Hp) : RT (S × V) :=
  match putT (wipeE v own) x t with
  | none => .bad
  | some v' => (fk v' M).bind fun y M => match y with
    | .t (.str s) => (fe v' M).bind fun z M => (tree z M).bind fun z M => .ok (s, z) M
    | _ => .bad
def ginD (P : Pg) (x : W) (M : Hp) : RT W := match x with | .t (.str s) => .ok (.t (.bl (grpG P.grp s).isSome)) M | _ => .bad
def gidxD (P : Pg) (x : W) (M : Hp) : RT W := match x with | .t (.str s) => (match grpG P.grp s with | some t => .ok (.t (.str t)) M | none => .bad) | _ => .bad
def ggetD (P : Pg) (x y : W) (M : Hp) : RT W := match x with | .t (.str s) => .ok (match grpG P.grp s with | some t => .t (.str t) | none => y) M | _ => .bad
def addM (o : Ob) (w : W) : Option Ob :=
  match o, w with
  | .lst xs, .t y => if Nat.blt xs.length 16777216 then some (.lst (xs ++ [y])) else none
  | .lst [], .h k => some (.lsw [.h k])
  | .lsw ws, w => if Nat.blt ws.length 16777216 then some (.lsw (ws ++ [w])) else none
  | _, _ => none
def mAppend (M : Hp) (x : W) (ws : List W) : RT W :=
  match x, ws with
  | .h k, [w] => (match M[k]? with | some o => (match addM o w with | some o' => .ok (.t .non) (M.set k o') | none => .bad) | none => .bad)
  | _, _ => .bad
def mPop (M : Hp) (x : W) (ws : List W) : RT W :=
  match x, ws with
  | .h k, [] => (match M[k]? with
    | some (.lst xs) => (match xs[xs.length - 1]? with | some y => .ok (.t y) (M.set k (.lst xs.dropLast)) | none => .bad)
    | _ => .bad)
  | _, _ => .bad
def isHl (M : Hp) (x : W) : Bool := match x with | .h k => (match M[k]? with | some (.lst _) => true | some (.lsw _) => true | _ => false) | _ => false
def bm (l : Bool) (b : Bm) (x : W) (ws : List W) (M : Hp) : RT W :=
  match b with
  | .append => mAppend M x ws
  | .pop => mPop M x ws
  | b => (match rdW M x, rdWs M ws with | some v, some vs => ofN l (bmV b v vs) M | _, _ => .bad)
def recvOk (M : Hp) (b : Bm) (x : W) : Bool :=
  match b with
  | .append => isHl M x
  | .pop => isHl M x
  | .index => (match rdW M x with | some (.lst _) => true | _ => false)
  | .join => (match x with | .t (.str _) => true | _ => false)
  | .split => (match x with | .t (.str _) => true | _ => false)
  | .startswith => (match x with | .t (.str _) => true | _ => false)
  | .get => false
def isIns (M : Hp) (c : Nat) (x : W) : Bool := match clsOf M x with | some k => decide (k = c) | none => false
def lstN (l : Bool) (ws : List W) (M : Hp) : RT W :=
  match treesOf ws with
  | some vs => mkN l (.lst vs) M
  | none => .ok (.h M.length) (M ++ [.lsw ws])
def dicN (l : Bool) (ks : List S) (ws : List W) (M : Hp) : RT W :=
  match treesOf ws with
  | some vs => mkN l (dkOf (putsV [] [] (ks.zip vs))) M
  | none => if ks.Nodup then .ok (.h M.length) (M ++ [.dk (ks.zip ws)]) else .bad
section
variable (P : Pg) (C : Call)
mutual
def evE : E → Env → Hp → RT W
  | .bad, _, _ => .bad
  | .var i, v, M => (match v[i]? with | some (some d) => .ok d M | _ => .bad)
  | .con d, _, M => ofV (conV d) M
  | .glo g, _, M => ofV P.glo[g]? M
  | .tup es, v, M => (evEs es v M).bind fun ws M => (match treesOf ws with | some vs => if big vs.length then .ok (.t (.tup vs)) M else .bad | none => .bad)
  | .lst l es, v, M => (evEs es v M).bind fun ws M => if big ws.length then lstN l ws M else .bad
  | .dic l ks es, v, M => (evEs es v M).bind fun ws M => if ks.length = ws.length then dicN l ks ws M else .bad
  | .dict0 _, _, _ => .bad
  | .op2 l o a b, v, M => (evE a v M).bind fun x M => (evE b v M).bind fun y M => (match rdW M x, rdW M y with | some x, some y => ofN l (op2V o x y) M | _, _ => .bad)
  | .neg a, v, M => (evE a v M).bind fun x M => (match x with | .t (.int i) => .ok (.t (.int (-i))) M | _ => .bad)
  | .not a, v, M => (evE a v M).bind fun x M => (match truthW M x with | some b => .ok (.t (.bl (!b))) M | none => .bad)
  | .and es, v, M => evAnd es v M
  | .or es, v, M => evOr es v M
  | .cmp c a b, v, M => (evE a v M).bind fun x M => (evE b v M).bind fun y M => (match ownEq P M c x y with
      | some f => asB (cook C f [x, y] M)
      | none => ofB (cmpW M c x y) M)
  | .chain c1 c2 a b c, v, M => (evE a v M).bind fun x M => (evE b v M).bind fun y M =>
      (match cmpW M c1 x y with
      | some true => (evE c v M).bind fun z M => ofB (cmpW M c2 y z) M
      | some false => .ok (.t (.bl false)) M
      | none => .bad)
  | .ife c a b, v, M => (evE c v M).bind fun x M => (match truthW M x with | some true => evE a v M | some false => evE b v M | none => .bad)
  | .idx a i, v, M => (evE a v M).bind fun x M => (evE i v M).bind fun y M => ofW (idxW M x y) M
  | .sl1 l a lo, v, M => (evE a v M).bind fun x M => (evE lo v M).bind fun y M => (match y, rdW M x with | .t (.int i), some x => ofN l (slcV x (some i) none) M | _, _ => .bad)
  | .sl2 l a hi, v, M => (evE a v M).bind fun x M => (evE hi v M).bind fun y M => (match y, rdW M x with | .t (.int i), some x => ofN l (slcV x none (some i)) M | _, _ => .bad)
  | .sl3 l a lo hi, v, M => (evE a v M).bind fun x M => (evE lo v M).bind fun y M => (match y with
      | .t (.int i) => (evE hi v M).bind fun z M => (match z, rdW M x with | .t (.int j), some x => ofN l (slcV x (some i) (some j)) M | _, _ => .bad)
      | _ => .bad)
  | .rev l a, v, M => (evE a v M).bind fun x M => (match rdW M x with | some x => ofN l (revV x) M | none => .bad)
  | .fld a f, v, M => (evE a v M).bind fun x M => ofW (fldW M x f) M
  | .call z f es ds, v, M => (evEs es v M).bind fun xs M => (match ds.mapM conV with | some vs => if z then C f (xs ++ vs.map .t) M else cook C f (xs ++ vs.map .t) M | none => .bad)
  | .mk z c es, v, M => (evEs es v M).bind fun xs M => (match P.init[c]? with
      | some f => if z then (if isTs xs then onM M (fin 0 ((C f (.h 0 :: xs) [.ins c []]).bind fun r M' => (match r with | .t .non => .ok (.h 0) M' | _ => .bad))) else .bad)
        else (C f (.h M.length :: xs) (M ++ [.ins c []])).bind fun r M' => (match r with | .t .non => .ok (.h M.length) M' | _ => .bad)
      | none => .bad)
  | .meth z c f a es, v, M => (evE a v M).bind fun x M => if isIns M c x then (evEs es v M).bind fun xs M => (if z then C f (x :: xs) M else cook C f (x :: xs) M) else .bad
  | .bi l b es, v, M => (evEs es v M).bind fun xs M => (match ownLen P M b xs with
      | some f => asN (cook C f xs M)
      | none => (match rdWs M xs with | some vs => ofN l (biV b vs) M | none => .bad))
  | .bm l b a es, v, M => (evE a v M).bind fun x M => if recvOk M b x then (evEs es v M).bind fun xs M => bm l b x xs M else .bad
  | .gin a, v, M => (evE a v M).bind fun x M => ginD P x M
  | .gidx a, v, M => (evE a v M).bind fun x M => gidxD P x M
  | .gget a b, v, M => (evE a v M).bind fun x M => (evE b v M).bind fun y M => ggetD P x y M
  | .isin a t, v, M => (evE a v M).bind fun x M => ofB (isinW M x t) M
  | .lc l own t it c e, v, M => (evI it v M).bind fun it M => (lcG (lcF t own v (fun v M => evC c v M) (fun v M => evE e v M)) it M).bind fun ys M => mkN l (.lst ys) M
  | .lc2 l own own1 t it t1 it1 e, v, M => (evI it v M).bind fun it M =>
      (lcG2 (lcF2 t own v (fun v M => evI it1 v M) (fun v' => lcF1 t1 own1 v' (fun v M => evE e v M))) it [] M).bind fun ys M => mkN l (.lst ys) M
  | .dc l own t it k e, v, M => (evI it v M).bind fun it M => (match it with
      | .seq xs => (dcL (dcF t own v (fun v M => evE k v M) (fun v M => evE e v M)) xs [] [] M).bind fun p M => mkN l (dkOf p) M
      | _ => .bad)
def evEs : List E → Env → Hp → RT (List W)
  | [], _, M => .ok [] M
  | e :: r, v, M => (evE e v M).bind fun x M => (evEs r v M).bind fun xs M => .ok (x :: xs) M
def evAnd : List E → Env → Hp → RT W
  | [], _, _ => .bad
  | e :: r, v, M => (match r with
    | [] => evE e v M
    | _ :: _ => (evE e v M).bind fun x M => (match truthW M x with | some true => evAnd r v M | some false => .ok x M | none => .bad))
def evOr : List E → Env → Hp → RT W
  | [], _, _ => .bad
  | e :: r, v, M => (match r with
    | [] => evE e v M
    | _ :: _ => (evE e v M).bind fun x M => (match truthW M x with | some true => .ok x M | some false => evOr r v M | none => .bad))
def evC : Option E → Env → Hp → RT Bool
  | none, _, M => .ok true M
  | some e, v, M => (evE e v M).bind fun x M => (match truthW M x with | some b => .ok b M | none => .bad)
def evI : I → Env → Hp → RT It
  | .e e, v, M => (evE e v M).bind fun x M => (match walkT M x with | some w => .ok w M | none => .bad)
  | .range e, v, M => (evE e v M).bind fun x M => (match x with | .t (.int i) => if decide (i < 1000000) && decide (-1000000 < i) then .ok (.seq (rngV i.toNat)) M else .bad | _ => .bad)
  | .enum e, v, M => (evE e v M).bind fun x M => (match x with
      | .t (.tup xs) => .ok (.seq (enumV 0 xs)) M
      | .t (.lst xs) => .ok (.seq (enumV 0 xs)) M
      | .h k => (match M[k]? with | some (.lst _) => .ok (.hen k) M | some (.lsw _) => .ok (.hen k) M | _ => .bad)
      | _ => .bad)
end

/-! ### statements -/
def RT.toF (v : Env) (r : RT W) (f : W → Hp → FT) : FT :=
  match r with
  | .ok d M => f d M
  | .exc c x M => .exc c x v M
  | .bad => .bad
def RT.toFB (v : Env) (r : RT W) (f : Bool → Hp → FT) : FT :=
  RT.toF v r fun d M => match truthW M d with | some b => f b M | none => .bad
def forL (t : T) (body : Env → Hp → FT) : List V → Env → Hp → FT
  | [], v, M => .nx v M
  | x :: r, v, M => (match putT v (.one (.t x)) t with
    | none => .bad
    | some v' => (match body v' M with
      | .nx v'' M' => forL t body r v'' M'
      | .rt d M' => .rt d M'
      | .exc c x v M => .exc c x v M
      | .bad => .bad))
def forH (t : T) (body : Env → Hp → FT) (en : Bool) (k : Nat) : Nat → Nat → Env → Hp → FT
  | 0, _, _, _ => .bad
  | m + 1, i, v, M => match obAt M k i with
    | none => .bad
    | some none => .nx v M
    | some (some x) => match putT v (imOf en i x) t with
      | none => .bad
      | some v' => match body v' M with
        | .nx v'' M' => forH t body en k m (i + 1) v'' M'
        | .rt d M' => .rt d M'
        | .exc c x v M => .exc c x v M
        | .bad => .bad
def forG (t : T) (body : Env → Hp → FT) (it : It) (v : Env) (M : Hp) : FT :=
  match it with
  | .seq xs => forL t body xs v M
  | .hl k => forH t body false k (obLen M k + 1) 0 v M
  | .hen k => forH t body true k (obLen M k + 1) 0 v M
def whileG (test : Env → Hp → RT W) (body : Env → Hp → FT) : Nat → Env → Hp → FT
  | 0, _, _ => .bad
  | m + 1, v, M => RT.toFB v (test v M) fun b M => if b then (match body v M with
      | .nx v' M' => whileG test body m v' M'
      | .rt d M' => .rt d M'
      | .exc c x v M => .exc c x v M
      | .bad => .bad) else .nx v M
def suite (n : Option Nat) (h : Hk) (x : Option V) (v : Env) : Option Env :=
  match h with
  | .con i d => (match conV d with | some u => some (match n with | none => v.set i (some (.t u)) | some j => (v.set i (some (.t u))).set j none) | none => none)
  | .line i k => match n, x with
    | some j, some (.int l) => if Nat.blt j v.length then some ((v.set i (some (.t (.int (l + k))))).set j none) else none
    | _, _ => none
def clauseT (sup : List (List Nat)) (c : Nat) : List (Nat × Option Nat × Hk) → Option (Option Nat × Hk)
  | [] => none
  | (k, n, h) :: r => if ((sup[c]?).getD []).contains k then some (n, h) else clauseT sup c r
def sfldW (M : Hp) (x : W) (f : Nat) (d : W) : Option Hp :=
  match x with
  | .h k => (match M[k]? with | some (.ins c fs) => if Nat.blt fs.length 100 then some (M.set k (.ins c (putW fs f d))) else none | _ => none)
  | _ => none
def ssubW (M : Hp) (x y d : W) : Option Hp :=
  match x with
  | .h n => (match M[n]?, y with
    | some (.lst xs), .t (.int k) => (match ixN xs.length k, d with | some j, .t u => some (M.set n (.lst (xs.set j u))) | _, _ => none)
    | some (.dk kvs), .t (.str k) => if Nat.blt kvs.length 1000000 then some (M.set n (.dk (putDW kvs k d))) else none
    | some (.dt kvs), .t (.tup ks) => (match strsV ks with | some k => if Nat.blt kvs.length 1000000 then some (M.set n (.dt (putDW kvs k d))) else none | none => none)
    | _, _ => none)
  | _ => none
def toFM (v : Env) (o : Option Hp) : FT := match o with | some M => .nx v M | none => .bad
def toFE (o : Option Env) (M : Hp) : FT := match o with | some v => .nx v M | none => .bad
def unpW (v : Env) (is : List Nat) (d : W) : Option Env :=
  match d with
  | .t (.tup ds) => setAll v is ds
  | .t (.lst ds) => setAll v is ds
  | _ => none
mutual
def evS : St → Env → Hp → FT
  | .bad, _, _ => .bad
  | .pass, v, M => .nx v M
  | .set i e, v, M => (evE P C e v M).toF v fun d M => .nx (v.set i (some d)) M
  | .unp is e, v, M => (evE P C e v M).toF v fun d M => toFE (unpW v is d) M
  | .par i j a b, v, M => (evE P C a v M).toF v fun x M => (evE P C b v M).toF v fun y M => .nx ((v.set i (some x)).set j (some y)) M
  | .sfld a f e, v, M => (evE P C e v M).toF v fun d M => (evE P C a v M).toF v fun x M => toFM v (sfldW M x f d)
  | .ssub a i e, v, M => (evE P C e v M).toF v fun d M => (evE P C a v M).toF v fun x M => (evE P C i v M).toF v fun y M => toFM v (ssubW M x y d)
  | .aug i o e, v, M => (match v[i]? with
      | some (some (.t (.int x))) => (evE P C e v M).toF v fun y M => (match o, y with
        | .add, .t (.int y) => .nx (v.set i (some (.t (.int (x + y))))) M
        | _, _ => .bad)
      | _ => .bad)
  | .augF a f e, v, M => (evE P C a v M).toF v fun x M => (match x with
      | .h n => (match M[n]? with
        | some (.ins c0 fs) => (match getW fs f with
          | some (.t (.int k)) => (evE P C e v M).toF v fun y M => (match y with
            | .t (.int l) => (match M[n]? with | some (.ins c fs) => if decide (c = c0) && Nat.blt fs.length 100 then .nx v (M.set n (.ins c (putW fs f (.t (.int (k + l)))))) else .bad | _ => .bad)
            | _ => .bad)
          | _ => .bad)
        | _ => .bad)
      | _ => .bad)
  | .expr e, v, M => (evE P C e v M).toF v fun _ M => .nx v M
  | .ret e, v, M => (evE P C e v M).toF v fun d M => .rt d M
  | .retN, _, M => .rt (.t .non) M
  | .ife c a b, v, M => RT.toFB v (evE P C c v M) fun k M => if k then evSs a v M else evSs b v M
  | .for_ t it body, v, M => (match evI P C it v M with
      | .ok it M => forG t (fun v M => evSs body v M) it v M
      | .exc c x M => .exc c x v M
      | .bad => .bad)
  | .while_ c body, v, M => whileG (evE P C c) (fun v M => evSs body v M) 400 v M
  | .raise_ c e, v, M => (match e with
      | none => .exc c none v M
      | some e => (evE P C e v M).toF v fun d M => (match d with | .t u => .exc c (some u) v M | _ => .bad))
  | .try_ body hs, v, M => (match evSs body v M with
      | .exc c x v' M' => if Nat.blt c P.sup.length then (match clauseT P.sup c hs with
        | none => .exc c x v' M'
        | some (n, h) => toFE (suite n h x v') M') else .bad
      | r => r)
def evSs : List St → Env → Hp → FT
  | [], v, M => .nx v M
  | s :: r, v, M => (match evS s v M with
    | .nx v' M' => evSs r v' M'
    | .rt d M' => .rt d M'
    | .exc c x v M => .exc c x v M
    | .bad => .bad)
end
end
def runFn (P : Pg) (C : Call) (f : Nat) (ws : List W) (M : Hp) : RT W :=
  match P.fns[f]? with
  | none => .bad
  | some fn => if ws.length = fn.np then (match evSs P C fn.body (ws.map some ++ List.replicate (fn.nl - ws.length) none) M with
      | .nx _ M' => .ok (.t .non) M'
      | .rt d M' => .ok d M'
      | .exc c x _ M' => .exc c x M'
      | .bad => .bad) else .bad
def callT (P : Pg) : Nat → Call
  | 0 => fun _ _ _ => .bad
  | n + 1 => runFn P (callT P n)
end MT

set_option Elab.async false
set_option linter.all false
set_option maxRecDepth 100000
set_option maxHeartbeats 4000000
/-! MT over Mini: what a tree stands for, what goes on. -/
namespace MT
open Mini (S O2 Cm Bi Bm Ty T Hk D Tr big ixN atI cut rep small64 b2 get1 put1 putD splitS joinS intS intOf sortS sortR minI putAll isNon grpG clause Hh)

/-! ### values -/
section
variable (A : Hh) (F : Nat → Prop)
mutual
/-- a tree: its lists stand where nothing is changed any more -/
def RV : V → D → Prop
  | .non, d => d = .non
  | .bl b, d => d = .bl b
  | .int i, d => d = .int i
  | .str s, d => d = .str s
  | .scr ns, d => d = .scr ns
  | .tup xs, d => ∃ ds, d = .tup ds ∧ RVs xs ds
  | .lst xs, d => ∃ n ds, d = .ref n ∧ ¬ F n ∧ A[n]? = some (.lst ds) ∧ RVs xs ds
  | .dk ks vs, d => ∃ n ds, d = .ref n ∧ ¬ F n ∧ ks.length = ds.length ∧ A[n]? = some (.dk (ks.zip ds)) ∧ RVs vs ds
  | .dt ks vs, d => ∃ n ds, d = .ref n ∧ ¬ F n ∧ ks.length = ds.length ∧ A[n]? = some (.dt (ks.zip ds)) ∧ RVs vs ds
  | .ins c fs vs, d => ∃ n ds, d = .ref n ∧ ¬ F n ∧ fs.length = ds.length ∧ A[n]? = some (.ins c (fs.zip ds)) ∧ RVs vs ds
def RVs : List V → List D → Prop
  | [], ds => ds = []
  | v :: r, ds => ∃ d q, ds = d :: q ∧ RV v d ∧ RVs r q
end
def RW (μ : List Nat) : W → D → Prop
  | .t v, d => RV A F v d
  | .h k, d => ∃ n, d = .ref n ∧ μ[k]? = some n
inductive RWs (μ : List Nat) : List W → List D → Prop
  | nil : RWs μ [] []
  | cons {w d r q} : RW A F μ w d → RWs μ r q → RWs μ (w :: r) (d :: q)
/-- what stands at a place of its own -/
def RO (μ : List Nat) : Ob → Mini.Ob → Prop
  | .lst xs, o => ∃ ds, o = .lst ds ∧ RVs A F xs ds
  | .lsw ws, o => ∃ ds, o = .lst ds ∧ RWs A F μ ws ds
  | .dk kvs, o => ∃ ds, o = .dk ((kvs.map (·.1)).zip ds) ∧ RWs A F μ (kvs.map (·.2)) ds
  | .dt kvs, o => ∃ ds, o = .dt ((kvs.map (·.1)).zip ds) ∧ RWs A F μ (kvs.map (·.2)) ds
  | .ins c fs, o => ∃ ds, o = .ins c ((fs.map (·.1)).zip ds) ∧ RWs A F μ (fs.map (·.2)) ds
end
/-- the places -/
structure Rel (A : Hh) (μ : List Nat) (F : Nat → Prop) (M : Hp) : Prop where
  len : μ.length = M.length
  nd : μ.Nodup
  sub : ∀ n ∈ μ, F n
  lt : ∀ n, F n → n < A.length
  at_ : ∀ (k n : Nat) (ob : Ob), μ[k]? = some n → M[k]? = some ob → ∃ o, A[n]? = some o ∧ RO A F μ ob o
/-- what goes on -/
structure Ext (A : Hh) (μ : List Nat) (F : Nat → Prop) (A' : Hh) (μ' : List Nat) (F' : Nat → Prop) : Prop where
  le : A.length ≤ A'.length
  keep : ∀ n, n < A.length → n ∉ μ → A'[n]? = A[n]?
  pre : ∃ e, μ' = μ ++ e ∧ ∀ n ∈ e, A.length ≤ n
  up : ∀ n, F n → F' n
  new : ∀ n, F' n → F n ∨ A.length ≤ n
theorem Ext.refl {A : Hh} {μ : List Nat} {F : Nat → Prop} : Ext A μ F A μ F := ⟨Nat.le_refl _, fun _ _ _ => rfl, ⟨[], by simp, by simp⟩, fun _ h => h, fun _ h => .inl h⟩
theorem Ext.trans {A A1 A2 : Hh} {μ μ1 μ2 : List Nat} {F F1 F2 : Nat → Prop} (x : Ext A μ F A1 μ1 F1) (y : Ext A1 μ1 F1 A2 μ2 F2) : Ext A μ F A2 μ2 F2 := by
  obtain ⟨e, he, h1⟩ := x.pre
  obtain ⟨f, hf, h2⟩ := y.pre
  refine ⟨Nat.le_trans x.le y.le, fun n hn hm => ?_, ⟨e ++ f, by rw [hf, he, List.append_assoc], fun n hn => ?_⟩, fun n h => y.up n (x.up n h), fun n h => ?_⟩
  · rw [y.keep n (Nat.lt_of_lt_of_le hn x.le) ?_, x.keep n hn hm]
    rw [he, List.mem_append]
    rintro (z | z)
    · exact hm z
    · have := h1 n z; omega
  · rcases List.mem_append.mp hn with z | z
    · exact h1 n z
    · exact Nat.le_trans x.le (h2 n z)
  · rcases y.new n h with z | z
    · exact x.new n z
    · exact .inr (Nat.le_trans x.le z)
theorem lt_of_get {α : Type} {l : List α} {n : Nat} {a : α} (h : l[n]? = some a) : n < l.length := (List.getElem?_eq_some_iff.mp h).1
section
variable {A A' : Hh} {μ μ' : List Nat} {F F' G : Nat → Prop}
/-- a place that is no own one stands -/
theorem Ext.at_ (x : Ext A μ F A' μ' F') (sub : ∀ n ∈ μ, F n) {n : Nat} {o : Mini.Ob} (hF : ¬ F n) (h : A[n]? = some o) : A'[n]? = some o ∧ ¬ F' n :=
  ⟨by rw [x.keep n (lt_of_get h) (fun z => hF (sub n z)), h], fun z => (x.new n z).elim hF fun y => absurd (lt_of_get h) (by omega)⟩
mutual
/-- a tree stands where its places stand -/
theorem RV.mono (f : ∀ n o, ¬ F n → A[n]? = some o → A'[n]? = some o ∧ ¬ G n) : ∀ {v : V} {d : D}, RV A F v d → RV A' G v d
  | .non, _, h => by unfold RV at h ⊢; exact h
  | .bl _, _, h => by unfold RV at h ⊢; exact h
  | .int _, _, h => by unfold RV at h ⊢; exact h
  | .str _, _, h => by unfold RV at h ⊢; exact h
  | .scr _, _, h => by unfold RV at h ⊢; exact h
  | .tup xs, _, h => by unfold RV at h ⊢; obtain ⟨ds, e, r⟩ := h; exact ⟨ds, e, RVs.mono f r⟩
  | .lst xs, _, h => by unfold RV at h ⊢; obtain ⟨n, ds, e, hF, ha, r⟩ := h; obtain ⟨a1, a2⟩ := f n _ hF ha; exact ⟨n, ds, e, a2, a1, RVs.mono f r⟩
  | .dk ks xs, _, h => by unfold RV at h ⊢; obtain ⟨n, ds, e, hF, hl, ha, r⟩ := h; obtain ⟨a1, a2⟩ := f n _ hF ha; exact ⟨n, ds, e, a2, hl, a1, RVs.mono f r⟩
  | .dt ks xs, _, h => by unfold RV at h ⊢; obtain ⟨n, ds, e, hF, hl, ha, r⟩ := h; obtain ⟨a1, a2⟩ := f n _ hF ha; exact ⟨n, ds, e, a2, hl, a1, RVs.mono f r⟩
  | .ins c ks xs, _, h => by unfold RV at h ⊢; obtain ⟨n, ds, e, hF, hl, ha, r⟩ := h; obtain ⟨a1, a2⟩ := f n _ hF ha; exact ⟨n, ds, e, a2, hl, a1, RVs.mono f r⟩
theorem RVs.mono (f : ∀ n o, ¬ F n → A[n]? = some o → A'[n]? = some o ∧ ¬ G n) : ∀ {vs : List V} {ds : List D}, RVs A F vs ds → RVs A' G vs ds
  | [], _, h => by unfold RVs at h ⊢; exact h
  | v :: r, _, h => by unfold RVs at h ⊢; obtain ⟨d, q, e, h1, h2⟩ := h; exact ⟨d, q, e, RV.mono f h1, RVs.mono f h2⟩
end
theorem RV.ext (x : Ext A μ F A' μ' F') (sub : ∀ n ∈ μ, F n) {v : V} {d : D} (h : RV A F v d) : RV A' F' v d := h.mono fun _ _ a b => x.at_ sub a b
theorem RVs.ext (x : Ext A μ F A' μ' F') (sub : ∀ n ∈ μ, F n) {v : List V} {d : List D} (h : RVs A F v d) : RVs A' F' v d := h.mono fun _ _ a b => x.at_ sub a b
theorem Ext.get (x : Ext A μ F A' μ' F') {k n : Nat} (h : μ[k]? = some n) : μ'[k]? = some n := by
  obtain ⟨e, rfl, _⟩ := x.pre
  rw [List.getElem?_append_left (lt_of_get h)]
  exact h
theorem RW.ext (x : Ext A μ F A' μ' F') (sub : ∀ n ∈ μ, F n) {w : W} {d : D} (h : RW A F μ w d) : RW A' F' μ' w d := by
  cases w with
  | t v => exact RV.ext x sub h
  | h k => obtain ⟨n, e, q⟩ := h; exact ⟨n, e, x.get q⟩
theorem RWs.ext (x : Ext A μ F A' μ' F') (sub : ∀ n ∈ μ, F n) {w : List W} {d : List D} (h : RWs A F μ w d) : RWs A' F' μ' w d := by
  induction h with
  | nil => exact .nil
  | cons h _ ih => exact .cons (h.ext x sub) ih
theorem RWs.len {w : List W} {d : List D} (h : RWs A F μ w d) : w.length = d.length := by
  induction h with
  | nil => rfl
  | cons _ _ ih => simp [ih]
theorem RWs.get {w : List W} {d : List D} (h : RWs A F μ w d) : ∀ {i : Nat} {x : W}, w[i]? = some x → ∃ y, d[i]? = some y ∧ RW A F μ x y := by
  induction h with
  | nil => intro i x e; simp at e
  | cons h _ ih =>
    intro i x e
    cases i with
    | zero => simp at e; subst e; exact ⟨_, rfl, h⟩
    | succ i => simpa using ih (i := i) (by simpa using e)
theorem RWs.app {w w' : List W} {d d' : List D} (h : RWs A F μ w d) (h' : RWs A F μ w' d') : RWs A F μ (w ++ w') (d ++ d') := by
  induction h with
  | nil => exact h'
  | cons a _ ih => exact .cons a ih
theorem RVs.len : ∀ {w : List V} {d : List D}, RVs A F w d → w.length = d.length
  | [], d, h => by unfold RVs at h; subst h; rfl
  | _ :: r, d, h => by unfold RVs at h; obtain ⟨_, q, rfl, _, h2⟩ := h; simp [RVs.len h2]
theorem RVs.get : ∀ {w : List V} {d : List D} {i : Nat} {x : V}, RVs A F w d → w[i]? = some x → ∃ y, d[i]? = some y ∧ RV A F x y
  | [], _, _, _, _, e => by simp at e
  | v :: r, _, 0, x, h, e => by unfold RVs at h; obtain ⟨d, q, rfl, h1, _⟩ := h; simp at e; subst e; exact ⟨_, rfl, h1⟩
  | v :: r, _, i + 1, x, h, e => by
    unfold RVs at h; obtain ⟨d, q, rfl, _, h2⟩ := h
    simpa using RVs.get (i := i) h2 (by simpa using e)
theorem RVs.nil : RVs A F [] [] := by unfold RVs; rfl
theorem RVs.cons {v : V} {d : D} {r : List V} {q : List D} (h : RV A F v d) (h2 : RVs A F r q) : RVs A F (v :: r) (d :: q) := by unfold RVs; exact ⟨d, q, rfl, h, h2⟩
theorem RVs.app : ∀ {w w' : List V} {d d' : List D}, RVs A F w d → RVs A F w' d' → RVs A F (w ++ w') (d ++ d')
  | [], _, d, _, h, h' => by unfold RVs at h; subst h; exact h'
  | v :: r, _, d, _, h, h' => by unfold RVs at h; obtain ⟨x, q, rfl, h1, h2⟩ := h; exact .cons h1 (RVs.app h2 h')
theorem RVs.drop : ∀ {w : List V} {d : List D} (n : Nat), RVs A F w d → RVs A F (w.drop n) (d.drop n)
  | _, _, 0, h => h
  | [], d, _ + 1, h => by unfold RVs at h; subst h; simp; exact .nil
  | _ :: r, d, n + 1, h => by unfold RVs at h; obtain ⟨_, q, rfl, _, h2⟩ := h; exact RVs.drop n h2
theorem RVs.take : ∀ {w : List V} {d : List D} (n : Nat), RVs A F w d → RVs A F (w.take n) (d.take n)
  | _, _, 0, _ => by simp; exact .nil
  | [], d, _ + 1, h => by unfold RVs at h; subst h; exact .nil
  | _ :: r, d, n + 1, h => by unfold RVs at h; obtain ⟨_, q, rfl, h1, h2⟩ := h; exact .cons h1 (RVs.take n h2)
theorem RVs.set {v : V} {x : D} (hv : RV A F v x) : ∀ {w : List V} {d : List D} (n : Nat), RVs A F w d → RVs A F (w.set n v) (d.set n x)
  | [], d, _, h => by unfold RVs at h; subst h; exact .nil
  | _ :: r, d, 0, h => by unfold RVs at h; obtain ⟨_, q, rfl, h1, h2⟩ := h; exact .cons hv h2
  | _ :: r, d, n + 1, h => by unfold RVs at h; obtain ⟨_, q, rfl, h1, h2⟩ := h; exact .cons h1 (RVs.set hv n h2)
theorem RVs.rev : ∀ {w : List V} {d : List D}, RVs A F w d → RVs A F w.reverse d.reverse
  | [], d, h => by unfold RVs at h; subst h; exact .nil
  | _ :: r, d, h => by
    unfold RVs at h; obtain ⟨_, q, rfl, h1, h2⟩ := h
    rw [List.reverse_cons, List.reverse_cons]
    exact (RVs.rev h2).app (.cons h1 .nil)
theorem RVs.toW {w : List V} {d : List D} (h : RVs A F w d) : RWs A F μ (w.map .t) d := by
  induction w generalizing d with
  | nil => unfold RVs at h; subst h; exact .nil
  | cons v r ih => unfold RVs at h; obtain ⟨_, q, rfl, h1, h2⟩ := h; exact .cons h1 (ih h2)
theorem trees_ok : ∀ {ws : List W} {vs : List V} {ds : List D}, treesOf ws = some vs → RWs A F μ ws ds → RVs A F vs ds
  | [], vs, ds, e, h => by cases e; cases h; exact .nil
  | .t v :: r, vs, ds, e, h => by
    cases h with
    | cons h1 h2 =>
      unfold treesOf at e
      obtain ⟨q, e1, e2⟩ := Option.map_eq_some_iff.mp e
      subst e2
      exact .cons h1 (trees_ok e1 h2)
  | .h k :: r, vs, ds, e, h => by cases e
theorem RO.ext (x : Ext A μ F A' μ' F') (sub : ∀ n ∈ μ, F n) {ob : Ob} {o : Mini.Ob} (h : RO A F μ ob o) : RO A' F' μ' ob o := by
  cases ob with
  | lst xs => obtain ⟨ds, e, r⟩ := h; exact ⟨ds, e, r.ext x sub⟩
  | lsw xs => obtain ⟨ds, e, r⟩ := h; exact ⟨ds, e, r.ext x sub⟩
  | dk xs => obtain ⟨ds, e, r⟩ := h; exact ⟨ds, e, r.ext x sub⟩
  | dt xs => obtain ⟨ds, e, r⟩ := h; exact ⟨ds, e, r.ext x sub⟩
  | ins c xs => obtain ⟨ds, e, r⟩ := h; exact ⟨ds, e, r.ext x sub⟩
end
/-! ### new things, changes -/
section
variable {A A' : Hh} {μ μ' : List Nat} {F F' : Nat → Prop} {M : Hp}
theorem Ext.alloc {o : Mini.Ob} : Ext A μ F (A ++ [o]) μ F :=
  ⟨by simp, fun n h _ => by rw [List.getElem?_append_left h], ⟨[], by simp, by simp⟩, fun _ h => h, fun _ h => .inl h⟩
theorem Rel.more (r : Rel A μ F M) (x : Ext A [] F A' [] F) : Rel A' μ F M := by
  have kp : ∀ n, n < A.length → A'[n]? = A[n]? := fun n h => x.keep n h (by simp)
  have y : Ext A μ F A' μ F := ⟨x.le, fun n h _ => kp n h, ⟨[], by simp, by simp⟩, fun _ h => h, fun _ h => .inl h⟩
  exact ⟨r.len, r.nd, r.sub, fun n h => Nat.lt_of_lt_of_le (r.lt n h) x.le, fun k n ob h1 h2 => by
    obtain ⟨o, h3, h4⟩ := r.at_ k n ob h1 h2
    exact ⟨o, by rw [kp n (lt_of_get h3), h3], h4.ext y r.sub⟩⟩
theorem Rel.alloc {o : Mini.Ob} (r : Rel A μ F M) : Rel (A ++ [o]) μ F M := r.more Ext.alloc
theorem Rel.fresh (r : Rel A μ F M) : ¬ F A.length := fun h => Nat.lt_irrefl _ (r.lt _ h)
/-- a new place of its own -/
theorem Ext.own {o : Mini.Ob} (r : Rel A μ F M) : Ext A μ F (A ++ [o]) (μ ++ [A.length]) (fun n => F n ∨ n = A.length) :=
  ⟨by simp, fun n h _ => by rw [List.getElem?_append_left h], ⟨[A.length], rfl, fun n h => by rw [List.mem_singleton.mp h]; exact Nat.le_refl _⟩, fun _ h => .inl h, fun n h => h.elim .inl fun e => .inr (by rw [e]; exact Nat.le_refl _)⟩
theorem Rel.own {ob : Ob} {o : Mini.Ob} (r : Rel A μ F M) (h : RO A F μ ob o) : Rel (A ++ [o]) (μ ++ [A.length]) (fun n => F n ∨ n = A.length) (M ++ [ob]) := by
  have x : Ext A μ F (A ++ [o]) (μ ++ [A.length]) (fun n => F n ∨ n = A.length) := Ext.own r
  refine ⟨by simp [r.len], ?_, fun n h => ?_, fun n h => ?_, fun k n b h1 h2 => ?_⟩
  · rw [List.nodup_append]
    refine ⟨r.nd, by simp, fun a ha b hb e => ?_⟩
    rw [List.mem_singleton.mp hb] at e
    have := r.lt a (r.sub a ha)
    omega
  · rcases List.mem_append.mp h with z | z
    · exact .inl (r.sub n z)
    · exact .inr (List.mem_singleton.mp z)
  · rcases h with z | z
    · have := r.lt n z; simp; omega
    · simp [z]
  · by_cases hk : k < μ.length
    · rw [List.getElem?_append_left hk] at h1
      rw [List.getElem?_append_left (by rw [← r.len]; exact hk)] at h2
      obtain ⟨o', h3, h4⟩ := r.at_ k n b h1 h2
      exact ⟨o', by rw [List.getElem?_append_left (lt_of_get h3)]; exact h3, h4.ext x r.sub⟩
    · rw [List.getElem?_append_right (by omega)] at h1
      rw [List.getElem?_append_right (by rw [← r.len]; omega), ← r.len] at h2
      have z : k - μ.length = 0 := by
        have := lt_of_get h1
        simp at this
        omega
      rw [z] at h1 h2
      simp at h1 h2
      subst h1 h2
      exact ⟨o, by simp, h.ext x r.sub⟩
theorem RW.own {o : Mini.Ob} (r : Rel A μ F M) : RW (A ++ [o]) (fun n => F n ∨ n = A.length) (μ ++ [A.length]) (.h M.length) (.ref A.length) := ⟨A.length, rfl, by rw [← r.len]; simp⟩
/-- a place is changed -/
theorem Ext.write {k n : Nat} {o : Mini.Ob} (h : μ[k]? = some n) : Ext A μ F (A.set n o) μ F :=
  ⟨by simp, fun m _ hm => by rw [List.getElem?_set_ne (fun e => hm (by rw [← e]; exact List.mem_of_getElem? h))], ⟨[], by simp, by simp⟩, fun _ h => h, fun _ h => .inl h⟩
theorem Rel.write {k n : Nat} {ob : Ob} {o : Mini.Ob} (r : Rel A μ F M) (h : μ[k]? = some n) (q : RO A F μ ob o) : Rel (A.set n o) μ F (M.set k ob) := by
  have x : Ext A μ F (A.set n o) μ F := Ext.write h
  refine ⟨by simp [r.len], r.nd, r.sub, fun n h => by simpa using r.lt n h, fun j m b h1 h2 => ?_⟩
  by_cases hj : k = j
  · subst hj
    rw [h] at h1
    cases h1
    rw [List.getElem?_set_self (by have := lt_of_get h; rw [r.len] at this; exact this)] at h2
    cases h2
    exact ⟨o, by rw [List.getElem?_set_self (r.lt n (r.sub n (List.mem_of_getElem? h)))], q.ext x r.sub⟩
  · rw [List.getElem?_set_ne hj] at h2
    obtain ⟨o', h3, h4⟩ := r.at_ j m b h1 h2
    refine ⟨o', ?_, h4.ext x r.sub⟩
    rw [List.getElem?_set_ne (fun e => hj ?_)]
    · exact h3
    · subst e
      have hl := lt_of_get h
      have hl2 := lt_of_get h1
      have e1 := (List.getElem?_eq_some_iff.mp h).2
      have e2 := (List.getElem?_eq_some_iff.mp h1).2
      exact (List.getElem_inj r.nd).mp (e1.trans e2.symm)
end
/-! ### slots -/
def RE (A : Hh) (F : Nat → Prop) (μ : List Nat) (v : Env) (u : Mini.Env) : Prop := v.length = u.length ∧ ∀ (i : Nat) (w : W), v[i]? = some (some w) → ∃ d, u[i]? = some (some d) ∧ RW A F μ w d
section
variable {A A' : Hh} {μ μ' : List Nat} {F F' : Nat → Prop} {M : Hp} {v : Env} {u : Mini.Env}
theorem RE.ext (x : Ext A μ F A' μ' F') (sub : ∀ n ∈ μ, F n) (h : RE A F μ v u) : RE A' F' μ' v u := ⟨h.1, fun i w e => let ⟨d, h1, h2⟩ := h.2 i w e; ⟨d, h1, h2.ext x sub⟩⟩
theorem RE.set {i : Nat} {w : W} {d : D} (h : RE A F μ v u) (r : RW A F μ w d) : RE A F μ (v.set i (some w)) (u.set i (some d)) := by
  refine ⟨by simp [h.1], fun j w' e => ?_⟩
  by_cases hij : i = j
  · subst hij
    by_cases hl : i < v.length
    · rw [List.getElem?_set_self hl] at e
      cases e
      exact ⟨d, by rw [List.getElem?_set_self (by rw [← h.1]; exact hl)], r⟩
    · rw [List.getElem?_eq_none (by simpa using hl)] at e
      cases e
  · rw [List.getElem?_set_ne hij] at e
    obtain ⟨y, h1, h2⟩ := h.2 j w' e
    exact ⟨y, by rw [List.getElem?_set_ne hij]; exact h1, h2⟩
theorem RE.clr {i : Nat} (h : RE A F μ v u) : RE A F μ (v.set i none) (u.set i none) := by
  refine ⟨by simp [h.1], fun j w' e => ?_⟩
  by_cases hij : i = j
  · subst hij
    by_cases hl : i < v.length
    · rw [List.getElem?_set_self hl] at e
      cases e
    · rw [List.getElem?_eq_none (by simpa using hl)] at e
      cases e
  · rw [List.getElem?_set_ne hij] at e
    obtain ⟨y, h1, h2⟩ := h.2 j w' e
    exact ⟨y, by rw [List.getElem?_set_ne hij]; exact h1, h2⟩
theorem RE.wipe (h : RE A F μ v u) : ∀ own : List Nat, RE A F μ (wipeE v own) (Mini.wipeE u own)
  | [] => h
  | i :: r => by unfold wipeE Mini.wipeE; exact (h.wipe r).clr
theorem RE.all : ∀ {is : List Nat} {vs : List V} {ds : List D} {v : Env} {u : Mini.Env} {v' : Env}, RE A F μ v u → RVs A F vs ds → setAll v is vs = some v' → ∃ u', Mini.setAll u is ds = some u' ∧ RE A F μ v' u'
  | [], [], ds, v, u, v', h, r, e => by unfold RVs at r; subst r; cases e; exact ⟨u, rfl, h⟩
  | i :: is, x :: xs, ds, v, u, v', h, r, e => by
    unfold RVs at r; obtain ⟨d, q, rfl, h1, h2⟩ := r
    exact RE.all (is := is) (h.set (w := .t x) h1) h2 e
  | [], _ :: _, _, _, _, _, _, _, e => by cases e
  | _ :: _, [], _, _, _, _, _, _, e => by cases e
end
/-! ### the two, side by side -/
def RX (A : Hh) (F : Nat → Prop) : Option V → Option D → Prop
  | none, d => d = none
  | some v, d => ∃ x, d = some x ∧ RV A F v x
def Sim {α β : Type} (A : Hh) (μ : List Nat) (F : Nat → Prop) (rt : RT α) (r : Mini.R β) (G : α → β → Hh → List Nat → (Nat → Prop) → Hp → Prop) : Prop :=
  match rt with
  | .ok a M' => ∃ b A' μ' F', r = .ok b A' ∧ Ext A μ F A' μ' F' ∧ Rel A' μ' F' M' ∧ G a b A' μ' F' M'
  | .exc c x M' => ∃ y A' μ' F', r = .exc c y A' ∧ Ext A μ F A' μ' F' ∧ Rel A' μ' F' M' ∧ RX A' F' x y
  | .bad => True
abbrev GW : W → D → Hh → List Nat → (Nat → Prop) → Hp → Prop := fun w d A μ F _ => RW A F μ w d
section
variable {A A1 : Hh} {μ μ1 : List Nat} {F F1 : Nat → Prop} {M : Hp} {α β γ δ : Type}
theorem Sim.bind {rt : RT α} {r : Mini.R β} {G : α → β → Hh → List Nat → (Nat → Prop) → Hp → Prop} {G' : γ → δ → Hh → List Nat → (Nat → Prop) → Hp → Prop} {kt : α → Hp → RT γ} {k : β → Hh → Mini.R δ} (h : Sim A μ F rt r G)
    (f : ∀ a M' b A' μ' F', Ext A μ F A' μ' F' → Rel A' μ' F' M' → G a b A' μ' F' M' → Sim A' μ' F' (kt a M') (k b A') G') : Sim A μ F (rt.bind kt) (r.bind k) G' := by
  cases rt with
  | bad => exact trivial
  | exc c x M' => obtain ⟨y, A', μ', F', rfl, h1, h2, h3⟩ := h; exact ⟨y, A', μ', F', rfl, h1, h2, h3⟩
  | ok a M' =>
    obtain ⟨b, A', μ', F', rfl, h1, h2, h3⟩ := h
    have z := f a M' b A' μ' F' h1 h2 h3
    show Sim A μ F (kt a M') (k b A') G'
    revert z
    cases kt a M' with
    | bad => exact fun _ => trivial
    | exc c x M'' => rintro ⟨y, A2, μ2, F2, e, x1, r1, q⟩; exact ⟨y, A2, μ2, F2, e, h1.trans x1, r1, q⟩
    | ok a' M'' => rintro ⟨y, A2, μ2, F2, e, x1, r1, q⟩; exact ⟨y, A2, μ2, F2, e, h1.trans x1, r1, q⟩
theorem Sim.up {rt : RT α} {r : Mini.R β} {G : α → β → Hh → List Nat → (Nat → Prop) → Hp → Prop} (x : Ext A μ F A1 μ1 F1) (h : Sim A1 μ1 F1 rt r G) : Sim A μ F rt r G := by
  revert h
  cases rt with
  | bad => exact fun _ => trivial
  | exc c z M'' => rintro ⟨y, A2, μ2, F2, e, x1, r1, q⟩; exact ⟨y, A2, μ2, F2, e, x.trans x1, r1, q⟩
  | ok a' M'' => rintro ⟨y, A2, μ2, F2, e, x1, r1, q⟩; exact ⟨y, A2, μ2, F2, e, x.trans x1, r1, q⟩
theorem Sim.ok {a : α} {b : β} {G : α → β → Hh → List Nat → (Nat → Prop) → Hp → Prop} (r : Rel A μ F M) (h : G a b A μ F M) : Sim A μ F (.ok a M) (.ok b A) G := ⟨b, A, μ, F, rfl, .refl, r, h⟩
theorem Sim.bad {r : Mini.R β} {G : α → β → Hh → List Nat → (Nat → Prop) → Hp → Prop} : Sim A μ F (.bad : RT α) r G := trivial
end
end MT

set_option Elab.async false
set_option linter.all false
set_option maxRecDepth 100000
set_option maxHeartbeats 4000000
/-! MT over Mini: operations. -/
namespace MT
open Mini (S O2 Cm Bi Bm Ty T Hk D Tr big ixN atI cut rep small64 b2 get1 put1 putD splitS joinS intS intOf sortS sortR minI putAll isNon grpG clause Hh)

/-! ### pairs -/
inductive Pr {κ α : Type} (R : α → D → Prop) : List (κ × α) → List (κ × D) → Prop
  | nil : Pr R [] []
  | cons {k : κ} {v : α} {d : D} {r : List (κ × α)} {q : List (κ × D)} : R v d → Pr R r q → Pr R ((k, v) :: r) ((k, d) :: q)
section
variable {κ α : Type} [DecidableEq κ] {R : α → D → Prop}
theorem Pr.len {l : List (κ × α)} {m : List (κ × D)} (h : Pr R l m) : l.length = m.length := by
  induction h with
  | nil => rfl
  | cons _ _ ih => simp [ih]
theorem Pr.any {l : List (κ × α)} {m : List (κ × D)} (h : Pr R l m) (k : κ) : (l.any fun kv => decide (kv.1 = k)) = (m.any fun kv => decide (kv.1 = k)) := by
  induction h with
  | nil => rfl
  | cons _ _ ih => simp only [List.any_cons, ih]
theorem Pr.upd {l : List (κ × α)} {m : List (κ × D)} {k : κ} {v : α} {d : D} (hv : R v d) (h : Pr R l m) : Pr R (l.map fun kv => if kv.1 = k then (kv.1, v) else kv) (m.map fun kv => if kv.1 = k then (kv.1, d) else kv) := by
  induction h with
  | nil => exact .nil
  | @cons k' v' d' r q h1 _ ih =>
    simp only [List.map_cons]
    by_cases e : k' = k
    · rw [if_pos e, if_pos e]; exact .cons hv ih
    · rw [if_neg e, if_neg e]; exact .cons h1 ih
theorem Pr.app {l l' : List (κ × α)} {m m' : List (κ × D)} (h : Pr R l m) (h' : Pr R l' m') : Pr R (l ++ l') (m ++ m') := by
  induction h with
  | nil => exact h'
  | cons h1 _ ih => exact .cons h1 ih
theorem Pr.put {l : List (κ × α)} {m : List (κ × D)} {k : κ} {v : α} {d : D} (h : Pr R l m) (hv : R v d) :
    Pr R (if (l.any fun kv => decide (kv.1 = k)) = true then l.map (fun kv => if kv.1 = k then (kv.1, v) else kv) else l ++ [(k, v)]) (putD m k d) := by
  unfold putD
  rw [h.any k]
  split
  · exact h.upd hv
  · exact h.app (.cons hv .nil)
theorem Pr.zipd {l : List (κ × α)} {m : List (κ × D)} (h : Pr R l m) : m = (l.map (·.1)).zip (m.map (·.2)) ∧ (l.map (·.1)).length = (m.map (·.2)).length := by
  induction h with
  | nil => exact ⟨rfl, rfl⟩
  | @cons k v d r q _ _ ih => simp only [List.map_cons, List.zip_cons_cons]; exact ⟨by rw [← ih.1], by simp [ih.2]⟩
end
section
variable {A : Hh} {F : Nat → Prop} {μ : List Nat} {κ : Type} [DecidableEq κ]
theorem pr_rvs {l : List (κ × V)} {m : List (κ × D)} (h : Pr (RV A F) l m) : RVs A F (l.map (·.2)) (m.map (·.2)) := by
  induction h with
  | nil => exact .nil
  | cons h1 _ ih => exact .cons h1 ih
theorem pr_rws {l : List (κ × W)} {m : List (κ × D)} (h : Pr (RW A F μ) l m) : RWs A F μ (l.map (·.2)) (m.map (·.2)) := by
  induction h with
  | nil => exact .nil
  | cons h1 _ ih => exact .cons h1 ih
theorem pr_zip : ∀ {ks : List κ} {vs : List V} {ds : List D}, RVs A F vs ds → Pr (RV A F) (ks.zip vs) (ks.zip ds)
  | [], _, _, _ => .nil
  | _ :: _, [], ds, h => by unfold RVs at h; subst h; exact .nil
  | k :: ks, v :: vs, ds, h => by unfold RVs at h; obtain ⟨d, q, rfl, h1, h2⟩ := h; exact .cons h1 (pr_zip h2)
theorem pr_zipW : ∀ {ks : List κ} {vs : List W} {ds : List D}, RWs A F μ vs ds → Pr (RW A F μ) (ks.zip vs) (ks.zip ds)
  | [], _, _, _ => .nil
  | _ :: _, _, _, .nil => .nil
  | k :: ks, _, _, .cons h1 h2 => .cons h1 (pr_zipW h2)
theorem pr_kv : ∀ {l : List (κ × W)} {ds : List D}, RWs A F μ (l.map (·.2)) ds → Pr (RW A F μ) l ((l.map (·.1)).zip ds)
  | [], _, _ => .nil
  | (k, w) :: l, ds, h => by
    rw [List.map_cons] at h
    cases h with
    | cons h1 h2 => exact .cons h1 (pr_kv h2)
theorem get_V : ∀ {ks : List κ} {vs : List V} {ds : List D} {k : κ} {v : V}, getV ks vs k = some v → RVs A F vs ds → ∃ d, get1 (ks.zip ds) k = some d ∧ RV A F v d
  | [], _, _, _, _, e, _ => by cases e
  | _ :: _, [], _, _, _, e, _ => by cases e
  | a :: ks, x :: vs, ds, k, v, e, h => by
    unfold RVs at h; obtain ⟨d, q, rfl, h1, h2⟩ := h
    unfold getV at e
    rw [List.zip_cons_cons, get1]
    split at e
    · rename_i c; cases e; rw [if_pos c]; exact ⟨d, rfl, h1⟩
    · rename_i c; rw [if_neg c]; exact get_V e h2
theorem getV_none : ∀ {ks : List κ} {vs : List V} {ds : List D} {k : κ}, getV ks vs k = none → RVs A F vs ds → get1 (ks.zip ds) k = none
  | [], _, _, _, e, _ => rfl
  | _ :: _, [], ds, _, e, h => by unfold RVs at h; subst h; rfl
  | a :: ks, x :: vs, ds, k, e, h => by
    unfold RVs at h; obtain ⟨d, q, rfl, h1, h2⟩ := h
    unfold getV at e
    rw [List.zip_cons_cons, get1]
    split at e
    · cases e
    · rename_i c; rw [if_neg c]; exact getV_none e h2
theorem get_W {l : List (κ × W)} {m : List (κ × D)} {k : κ} {w : W} (h : Pr (RW A F μ) l m) (e : getW l k = some w) : ∃ d, get1 m k = some d ∧ RW A F μ w d := by
  induction h with
  | nil => cases e
  | cons h1 _ ih =>
    unfold getW at e
    rw [get1]
    split at e
    · rename_i c; cases e; rw [if_pos c]; exact ⟨_, rfl, h1⟩
    · rename_i c; rw [if_neg c]; exact ih e
theorem put_W {l : List (κ × W)} {m : List (κ × D)} {k : κ} {w : W} {d : D} (h : Pr (RW A F μ) l m) (hw : RW A F μ w d) : Pr (RW A F μ) (putW l k w) (put1 m k d) := by
  induction h with
  | nil => exact .cons hw .nil
  | cons h1 h2 ih =>
    unfold putW put1
    split
    · rename_i c; exact .cons hw h2
    · exact .cons h1 ih
end

/-! ### a value that is read -/
def RT0 (A : Hh) (F : Nat → Prop) (v : V) (d : D) : Prop :=
  match v with
  | .lst xs => ∃ n ds, d = .ref n ∧ A[n]? = some (.lst ds) ∧ RVs A F xs ds
  | .dk ks vs => ∃ n ds, d = .ref n ∧ ks.length = ds.length ∧ A[n]? = some (.dk (ks.zip ds)) ∧ RVs A F vs ds
  | .dt ks vs => ∃ n ds, d = .ref n ∧ ks.length = ds.length ∧ A[n]? = some (.dt (ks.zip ds)) ∧ RVs A F vs ds
  | v => RV A F v d
section
variable {A : Hh} {F : Nat → Prop} {μ : List Nat} {M : Hp}
theorem RV.op {v : V} {d : D} (h : RV A F v d) : RT0 A F v d := by
  cases v with
  | lst xs => unfold RV at h; obtain ⟨n, ds, e, _, h1, h2⟩ := h; exact ⟨n, ds, e, h1, h2⟩
  | dk ks xs => unfold RV at h; obtain ⟨n, ds, e, _, h1, h2⟩ := h; exact ⟨n, ds, e, h1, h2⟩
  | dt ks xs => unfold RV at h; obtain ⟨n, ds, e, _, h1, h2⟩ := h; exact ⟨n, ds, e, h1, h2⟩
  | _ => exact h
theorem rd_ok (r : Rel A μ F M) {w : W} {v : V} {d : D} (h : RW A F μ w d) (e : rdW M w = some v) : RT0 A F v d := by
  cases w with
  | t u => cases e; exact RV.op h
  | h k =>
    obtain ⟨n, rfl, hm⟩ := h
    unfold rdW at e
    obtain ⟨ob, e1, e2⟩ := Option.bind_eq_some_iff.mp e
    obtain ⟨o, ha, ho⟩ := r.at_ k n ob hm e1
    cases ob with
    | lst xs => cases e2; obtain ⟨ds, rfl, q⟩ := ho; exact ⟨n, ds, rfl, ha, q⟩
    | lsw ws => cases e2
    | ins c fs => cases e2
    | dk kvs =>
      obtain ⟨vs, e3, e4⟩ := Option.map_eq_some_iff.mp e2
      subst e4
      obtain ⟨ds, rfl, q⟩ := ho
      exact ⟨n, ds, rfl, by have := q.len; simpa using this, ha, trees_ok e3 q⟩
    | dt kvs =>
      obtain ⟨vs, e3, e4⟩ := Option.map_eq_some_iff.mp e2
      subst e4
      obtain ⟨ds, rfl, q⟩ := ho
      exact ⟨n, ds, rfl, by have := q.len; simpa using this, ha, trees_ok e3 q⟩
inductive RTs (A : Hh) (F : Nat → Prop) : List V → List D → Prop
  | nil : RTs A F [] []
  | cons {v d r q} : RT0 A F v d → RTs A F r q → RTs A F (v :: r) (d :: q)
theorem rds_ok (r : Rel A μ F M) : ∀ {ws : List W} {vs : List V} {ds : List D}, RWs A F μ ws ds → rdWs M ws = some vs → RTs A F vs ds
  | _, vs, _, .nil, e => by cases e; exact .nil
  | w :: ws, vs, _, .cons h1 h2, e => by
    unfold rdWs at e
    obtain ⟨v, e1, e2⟩ := Option.bind_eq_some_iff.mp e
    obtain ⟨q, e3, e4⟩ := Option.map_eq_some_iff.mp e2
    subst e4
    exact .cons (rd_ok r h1 e1) (rds_ok r h2 e3)
@[simp] theorem rt_non {d : D} : RT0 A F .non d ↔ d = .non := by unfold RT0 RV; rfl
@[simp] theorem rt_bl {b : Bool} {d : D} : RT0 A F (.bl b) d ↔ d = .bl b := by unfold RT0 RV; rfl
@[simp] theorem rt_int {i : Int} {d : D} : RT0 A F (.int i) d ↔ d = .int i := by unfold RT0 RV; rfl
@[simp] theorem rt_str {s : S} {d : D} : RT0 A F (.str s) d ↔ d = .str s := by unfold RT0 RV; rfl
@[simp] theorem rt_scr {s : List Int} {d : D} : RT0 A F (.scr s) d ↔ d = .scr s := by unfold RT0 RV; rfl
@[simp] theorem rt_tup {xs : List V} {d : D} : RT0 A F (.tup xs) d ↔ ∃ ds, d = .tup ds ∧ RVs A F xs ds := by unfold RT0 RV; rfl
@[simp] theorem rt_lst {xs : List V} {d : D} : RT0 A F (.lst xs) d ↔ ∃ n ds, d = .ref n ∧ A[n]? = some (.lst ds) ∧ RVs A F xs ds := by rfl
@[simp] theorem rt_dk {ks : List S} {vs : List V} {d : D} : RT0 A F (.dk ks vs) d ↔ ∃ n ds, d = .ref n ∧ ks.length = ds.length ∧ A[n]? = some (.dk (ks.zip ds)) ∧ RVs A F vs ds := by rfl
@[simp] theorem rt_dt {ks : List (List S)} {vs : List V} {d : D} : RT0 A F (.dt ks vs) d ↔ ∃ n ds, d = .ref n ∧ ks.length = ds.length ∧ A[n]? = some (.dt (ks.zip ds)) ∧ RVs A F vs ds := by rfl
@[simp] theorem rt_ins {c : Nat} {fs : List Nat} {vs : List V} {d : D} : RT0 A F (.ins c fs vs) d ↔ ∃ n ds, d = .ref n ∧ ¬ F n ∧ fs.length = ds.length ∧ A[n]? = some (.ins c (fs.zip ds)) ∧ RVs A F vs ds := by unfold RT0 RV; rfl
theorem rv_int {i : Int} : RV A F (.int i) (.int i) := by unfold RV; rfl
theorem rv_str {s : S} : RV A F (.str s) (.str s) := by unfold RV; rfl
theorem rv_bl {b : Bool} : RV A F (.bl b) (.bl b) := by unfold RV; rfl
theorem rv_non : RV A F .non .non := by unfold RV; rfl
theorem rv_tup {xs : List V} {ds : List D} (h : RVs A F xs ds) : RV A F (.tup xs) (.tup ds) := by unfold RV; exact ⟨ds, rfl, h⟩
end

/-! ### what an operation gives: a value that stood, or a new thing -/
def NewR (A : Hh) (F : Nat → Prop) (μ : List Nat) (r : V) (d : D) (A1 : Hh) : Prop :=
  (A1 = A ∧ RV A F r d ∧ obOf r = none) ∨ ∃ o ob, A1 = A ++ [o] ∧ d = .ref A.length ∧ obOf r = some ob ∧ RO A F μ ob o
section
variable {A A1 : Hh} {F : Nat → Prop} {μ : List Nat} {M : Hp}
theorem new_lst {xs : List V} {ds : List D} (h : RVs A F xs ds) : NewR A F μ (.lst xs) (.ref A.length) (A ++ [.lst ds]) := .inr ⟨.lst ds, .lst xs, rfl, rfl, rfl, ds, rfl, h⟩
theorem obOf_rv (r : Rel A μ F M) {v : V} {ob : Ob} {o : Mini.Ob} (e : obOf v = some ob) (h : RO A F μ ob o) : RV (A ++ [o]) F v (.ref A.length) := by
  have x : Ext A μ F (A ++ [o]) μ F := Ext.alloc
  have tz : ∀ {κ : Type} {ks : List κ} {vs : List V}, ks.length = vs.length → (ks.zip (vs.map W.t)).map (·.1) = ks ∧ (ks.zip (vs.map W.t)).map (·.2) = vs.map .t := fun h => ⟨List.map_fst_zip (by simp [h]), List.map_snd_zip (by simp [h])⟩
  have unt : ∀ {vs : List V} {ds : List D}, RWs A F μ (vs.map .t) ds → RVs A F vs ds := by
    intro vs
    induction vs with
    | nil => intro ds h; cases h; exact .nil
    | cons v vs ih => intro ds h; cases h with | cons h1 h2 => exact .cons h1 (ih h2)
  cases v <;> try (unfold obOf at e; cases e; done)
  · rename_i xs
    cases e
    obtain ⟨ds, rfl, q⟩ := h
    unfold RV
    exact ⟨_, ds, rfl, r.fresh, by simp, q.ext x r.sub⟩
  · rename_i ks vs
    have e : (if ks.length = vs.length then some (Ob.dk (ks.zip (vs.map .t))) else none) = some ob := e
    split at e
    · rename_i hl
      cases e
      obtain ⟨ds, rfl, q⟩ := h
      rw [(tz hl).2] at q
      have q := unt q
      unfold RV
      exact ⟨_, ds, rfl, r.fresh, by rw [hl, q.len], by rw [(tz hl).1]; simp, q.ext x r.sub⟩
    · cases e
  · rename_i ks vs
    have e : (if ks.length = vs.length then some (Ob.dt (ks.zip (vs.map .t))) else none) = some ob := e
    split at e
    · rename_i hl
      cases e
      obtain ⟨ds, rfl, q⟩ := h
      rw [(tz hl).2] at q
      have q := unt q
      unfold RV
      exact ⟨_, ds, rfl, r.fresh, by rw [hl, q.len], by rw [(tz hl).1]; simp, q.ext x r.sub⟩
    · cases e
theorem mkN_ok (r : Rel A μ F M) {l : Bool} {v : V} {d : D} (h : NewR A F μ v d A1) : Sim A μ F (mkN l v M) (.ok d A1) GW := by
  unfold mkN
  cases l with
  | false =>
    rcases h with ⟨rfl, h, _⟩ | ⟨o, ob, rfl, rfl, e, h⟩
    · exact Sim.ok r h
    · exact Sim.up Ext.alloc (Sim.ok r.alloc (obOf_rv r e h))
  | true =>
    rcases h with ⟨rfl, h, e⟩ | ⟨o, ob, rfl, rfl, e, h⟩
    · rw [e]; exact trivial
    · rw [e]
      exact Sim.up (Ext.own r) (Sim.ok (r.own h) (RW.own r))
theorem ofN_ok (r : Rel A μ F M) {l : Bool} {o : Option V} {q : Mini.R D} (h : ∀ v, o = some v → ∃ d A1, q = .ok d A1 ∧ NewR A F μ v d A1) : Sim A μ F (ofN l o M) q GW := by
  cases o with
  | none => exact trivial
  | some v =>
    obtain ⟨d, A1, rfl, z⟩ := h v rfl
    exact mkN_ok r z
theorem ofV_ok (r : Rel A μ F M) {o : Option V} {q : Mini.R D} (h : ∀ v, o = some v → ∃ d, q = .ok d A ∧ RV A F v d) : Sim A μ F (ofV o M) q GW := by
  cases o with
  | none => exact trivial
  | some v =>
    obtain ⟨d, rfl, z⟩ := h v rfl
    exact Sim.ok r z
theorem ofW_ok (r : Rel A μ F M) {o : Option W} {q : Mini.R D} (h : ∀ w, o = some w → ∃ d, q = .ok d A ∧ RW A F μ w d) : Sim A μ F (ofW o M) q GW := by
  cases o with
  | none => exact trivial
  | some v =>
    obtain ⟨d, rfl, z⟩ := h v rfl
    exact Sim.ok r z
theorem ofB_ok (r : Rel A μ F M) {o p : Option Bool} (h : ∀ b, o = some b → p = some b) : Sim A μ F (ofB o M) (Mini.ofB p A) GW := by
  cases o with
  | none => exact trivial
  | some b => rw [h b rfl]; exact Sim.ok r (show RV A F (.bl b) (.bl b) from rv_bl)
theorem rvs_rep {xs : List V} {ds : List D} (h : RVs A F xs ds) : ∀ k, RVs A F (rep xs k) (rep ds k)
  | 0 => .nil
  | k + 1 => h.app (rvs_rep h k)
theorem op2_ok {o : O2} {x y v : V} {dx dy : D} (e : op2V o x y = some v) (hx : RT0 A F x dx) (hy : RT0 A F y dy) : ∃ d A1, Mini.op2 o dx dy A = .ok d A1 ∧ NewR A F μ v d A1 := by
  unfold op2V at e
  split at e <;> try simp only [rt_int, rt_str, rt_tup, rt_lst] at hx hy
  · subst hx hy; cases e; exact ⟨_, _, rfl, .inl ⟨rfl, rv_int, rfl⟩⟩
  · subst hx hy
    split at e
    · rename_i c; cases e; exact ⟨_, _, by unfold Mini.op2; dsimp only; rw [if_pos c], .inl ⟨rfl, rv_str, rfl⟩⟩
    · cases e
  · obtain ⟨ds, rfl, h1⟩ := hx
    obtain ⟨es, rfl, h2⟩ := hy
    split at e
    · rename_i c; cases e; rw [h1.len, h2.len] at c; exact ⟨_, _, by unfold Mini.op2; dsimp only; rw [if_pos c], .inl ⟨rfl, rv_tup (h1.app h2), rfl⟩⟩
    · cases e
  · obtain ⟨n, ds, rfl, a1, h1⟩ := hx
    obtain ⟨m, es, rfl, a2, h2⟩ := hy
    split at e
    · rename_i c; cases e; rw [h1.len, h2.len] at c; exact ⟨_, _, by unfold Mini.op2; dsimp only; rw [a1, a2]; dsimp only; rw [if_pos c], new_lst (h1.app h2)⟩
    · cases e
  · subst hx hy; cases e; exact ⟨_, _, rfl, .inl ⟨rfl, rv_int, rfl⟩⟩
  · subst hx hy
    split at e
    · rename_i c; cases e; exact ⟨_, _, by unfold Mini.op2; dsimp only; rw [if_pos c], .inl ⟨rfl, rv_int, rfl⟩⟩
    · cases e
  · obtain ⟨ds, rfl, h1⟩ := hx
    subst hy
    split at e
    · rename_i c; cases e; rw [h1.len] at c; exact ⟨_, _, by unfold Mini.op2; dsimp only; rw [if_pos c], .inl ⟨rfl, rv_tup (rvs_rep h1 _), rfl⟩⟩
    · cases e
  · obtain ⟨n, ds, rfl, a1, h1⟩ := hx
    subst hy
    split at e
    · rename_i c; cases e; rw [h1.len] at c; exact ⟨_, _, by unfold Mini.op2; dsimp only; rw [a1]; dsimp only; rw [if_pos c], new_lst (rvs_rep h1 _)⟩
    · cases e
  all_goals first
    | (cases e; done)
    | (subst hx hy
       split at e
       · rename_i c; cases e; exact ⟨_, _, by unfold Mini.op2; dsimp only; rw [if_pos c], .inl ⟨rfl, rv_int, rfl⟩⟩
       · cases e)
/-! ### data -/
theorem mapM_tr {n : Nat} (ih : ∀ {v : V} {d : D} {t : Tr}, v.tr n = some t → RT0 A F v d → D.tr A n d = some t) : ∀ {xs : List V} {ds : List D} {ts : List Tr}, xs.mapM (V.tr n) = some ts → RVs A F xs ds → ds.mapM (D.tr A n) = some ts
  | [], ds, ts, e, h => by unfold RVs at h; subst h; exact e
  | x :: xs, ds, ts, e, h => by
    unfold RVs at h; obtain ⟨d, q, rfl, h1, h2⟩ := h
    rw [List.mapM_cons] at e ⊢
    cases e1 : x.tr n with
    | none => rw [e1] at e; cases e
    | some t =>
      rw [e1] at e
      cases e2 : xs.mapM (V.tr n) with
      | none => rw [e2] at e; cases e
      | some r =>
        rw [e2] at e
        rw [ih e1 h1.op, mapM_tr ih e2 h2]
        exact e
theorem tr_ok : ∀ {n : Nat} {v : V} {d : D} {t : Tr}, v.tr n = some t → RT0 A F v d → D.tr A n d = some t
  | 0, _, _, _, e, _ => by cases e
  | n + 1, v, d, t, e, h => by
    cases v with
    | non => simp only [rt_non] at h; subst h; exact e
    | bl b => simp only [rt_bl] at h; subst h; exact e
    | int b => simp only [rt_int] at h; subst h; exact e
    | str b => simp only [rt_str] at h; subst h; exact e
    | tup xs =>
      simp only [rt_tup] at h; obtain ⟨ds, rfl, q⟩ := h
      unfold V.tr at e
      obtain ⟨ts, e1, e2⟩ := Option.map_eq_some_iff.mp e
      subst e2
      show (ds.mapM (D.tr A n)).map Tr.tup = _
      rw [mapM_tr tr_ok e1 q]
      rfl
    | lst xs =>
      simp only [rt_lst] at h; obtain ⟨k, ds, rfl, a, q⟩ := h
      unfold V.tr at e
      obtain ⟨ts, e1, e2⟩ := Option.map_eq_some_iff.mp e
      subst e2
      unfold D.tr
      dsimp only
      rw [a]
      show (ds.mapM (D.tr A n)).map Tr.lst = _
      rw [mapM_tr tr_ok e1 q]
      rfl
    | _ => cases e
theorem eqT_ok {x y : V} {dx dy : D} {b : Bool} (e : eqT x y = some b) (hx : RT0 A F x dx) (hy : RT0 A F y dy) : Mini.eqD A dx dy = some b := by
  unfold eqT at e
  split at e
  · rename_i s t e1 e2
    unfold Mini.eqD
    rw [tr_ok e1 hx, tr_ok e2 hy]
    exact e
  · cases e
theorem inT_ok {x : V} {ys : List V} {dx : D} {ds : List D} {b : Bool} (e : inT x ys = some b) (hx : RT0 A F x dx) (hy : RVs A F ys ds) : Mini.inD A dx ds = some b := by
  unfold inT at e
  split at e
  · rename_i s t e1 e2
    unfold Mini.inD
    rw [tr_ok e1 hx, mapM_tr tr_ok e2 hy]
    exact e
  · cases e
theorem eq_ok {x y : V} {dx dy : D} {b : Bool} (e : eqV x y = some b) (hx : RT0 A F x dx) (hy : RT0 A F y dy) : Mini.eqR A dx dy = some b := by
  have h1 := hx
  have h2 := hy
  cases x <;> simp only [rt_non, rt_bl, rt_int, rt_str, rt_scr, rt_tup, rt_lst, rt_dk, rt_dt, rt_ins] at h1 <;>
    cases y <;> simp only [rt_non, rt_bl, rt_int, rt_str, rt_scr, rt_tup, rt_lst, rt_dk, rt_dt, rt_ins] at h2 <;>
    first
    | (subst h1 h2; exact e)
    | (subst h1 h2; refine eqT_ok ?_ hx hy; exact e)
    | (obtain ⟨_, rfl, _⟩ := h1; subst h2; refine eqT_ok ?_ hx hy; exact e)
    | (obtain ⟨_, rfl, _⟩ := h2; subst h1; refine eqT_ok ?_ hx hy; exact e)
    | (obtain ⟨_, _, rfl, _⟩ := h1; subst h2; refine eqT_ok ?_ hx hy; exact e)
    | (obtain ⟨_, _, rfl, _⟩ := h2; subst h1; refine eqT_ok ?_ hx hy; exact e)
    | (obtain ⟨_, rfl, _⟩ := h2; obtain ⟨_, rfl, _⟩ := h1; refine eqT_ok ?_ hx hy; exact e)
    | (obtain ⟨_, _, rfl, _⟩ := h2; obtain ⟨_, rfl, _⟩ := h1; refine eqT_ok ?_ hx hy; exact e)
    | (obtain ⟨_, rfl, _⟩ := h2; obtain ⟨_, _, rfl, _⟩ := h1; refine eqT_ok ?_ hx hy; exact e)
    | (obtain ⟨_, _, rfl, _⟩ := h2; obtain ⟨_, _, rfl, _⟩ := h1; refine eqT_ok ?_ hx hy; exact e)
theorem in_ok {x y : V} {dx dy : D} {b : Bool} (e : inV x y = some b) (hx : RT0 A F x dx) (hy : RT0 A F y dy) : Mini.inR A dx dy = some b := by
  unfold inV at e
  split at e
  · simp only [rt_str] at hy; subst hy
    split at e
    · simp only [rt_str] at hx; subst hx; exact e
    · cases e
  · simp only [rt_tup] at hy; obtain ⟨ds, rfl, q⟩ := hy
    exact inT_ok e hx q
  · simp only [rt_lst] at hy; obtain ⟨n, ds, rfl, a, q⟩ := hy
    unfold Mini.inR
    dsimp only
    unfold Mini.rd
    rw [a]
    exact inT_ok e hx q
  · rename_i ks vs
    simp only [rt_dk] at hy; obtain ⟨n, ds, rfl, hl, a, q⟩ := hy
    split at e
    · simp only [rt_str] at hx; subst hx
      unfold Mini.inR
      dsimp only
      unfold Mini.rd
      rw [a]
      dsimp only
      rename_i s
      cases g : getV ks vs s with
      | none => rw [g] at e; rw [getV_none g q]; exact e
      | some v => rw [g] at e; obtain ⟨d, g2, _⟩ := get_V g q; rw [g2]; exact e
    · cases e
  · cases e
theorem isNon_ok {y : V} {dy : D} (hy : RT0 A F y dy) : isNon dy = isNonV y := by
  cases y <;> simp only [rt_non, rt_bl, rt_int, rt_str, rt_scr, rt_tup, rt_lst, rt_dk, rt_dt, rt_ins] at hy <;>
    first
    | (subst hy; rfl)
    | (obtain ⟨_, rfl, _⟩ := hy; rfl)
    | (obtain ⟨_, _, rfl, _⟩ := hy; rfl)
theorem cmp_ok {c : Cm} {x y : V} {dx dy : D} {b : Bool} (e : cmpV c x y = some b) (hx : RT0 A F x dx) (hy : RT0 A F y dy) : Mini.cmpR c dx dy A = some b := by
  cases c
  case eq => exact eq_ok e hx hy
  case ne =>
    obtain ⟨b', e1, e2⟩ := Option.map_eq_some_iff.mp e
    show (Mini.eqR A dx dy).map _ = _
    rw [eq_ok e1 hx hy]
    exact congrArg some e2
  case inn => exact in_ok e hx hy
  case notin =>
    obtain ⟨b', e1, e2⟩ := Option.map_eq_some_iff.mp e
    show (Mini.inR A dx dy).map _ = _
    rw [in_ok e1 hx hy]
    exact congrArg some e2
  case isN =>
    show (if isNon dy = true then some (isNon dx) else none) = _
    rw [isNon_ok hx, isNon_ok hy]
    exact e
  case notN =>
    show (if isNon dy = true then some (!isNon dx) else none) = _
    rw [isNon_ok hx, isNon_ok hy]
    exact e
  all_goals
    unfold cmpV at e
    dsimp only at e
    split at e
    · simp only [rt_int] at hx hy; subst hx hy; exact e
    · cases e
theorem cmpW_ok (r : Rel A μ F M) {c : Cm} {x y : W} {dx dy : D} {b : Bool} (e : cmpW M c x y = some b) (hx : RW A F μ x dx) (hy : RW A F μ y dy) : Mini.cmpR c dx dy A = some b := by
  unfold cmpW at e
  split at e
  · obtain ⟨n, rfl, _⟩ := hx
    have hy : RV A F .non dy := hy
    unfold RV at hy; subst hy
    exact e
  · obtain ⟨n, rfl, _⟩ := hx
    have hy : RV A F .non dy := hy
    unfold RV at hy; subst hy
    exact e
  · obtain ⟨a, e1, e2⟩ := Option.bind_eq_some_iff.mp e
    obtain ⟨b', e3, e4⟩ := Option.bind_eq_some_iff.mp e2
    exact cmp_ok e4 (rd_ok r hx e1) (rd_ok r hy e3)
end
end MT

set_option Elab.async false
set_option linter.all false
set_option maxRecDepth 100000
set_option maxHeartbeats 4000000
/-! MT over Mini: more operations. -/
namespace MT
open Mini (S O2 Cm Bi Bm Ty T Hk D Tr big ixN atI cut rep small64 b2 get1 put1 putD splitS joinS intS intOf sortS sortR minI putAll isNon grpG clause Hh)
section
variable {A A1 : Hh} {F : Nat → Prop} {μ : List Nat} {M : Hp}
theorem strs_ok : ∀ {xs : List V} {ds : List D} {ks : List S}, strsV xs = some ks → RVs A F xs ds → Mini.strsOf ds = some ks
  | [], ds, ks, e, h => by unfold RVs at h; subst h; exact e
  | x :: xs, ds, ks, e, h => by
    unfold RVs at h; obtain ⟨d, q, rfl, h1, h2⟩ := h
    cases x <;> try (cases e; done)
    unfold RV at h1; subst h1
    unfold strsV at e
    obtain ⟨r, e1, e2⟩ := Option.map_eq_some_iff.mp e
    unfold Mini.strsOf
    rw [strs_ok e1 h2]
    exact congrArg some e2
theorem ints_ok : ∀ {xs : List V} {ds : List D} {ks : List Int}, intsV xs = some ks → RVs A F xs ds → Mini.intsOf ds = some ks
  | [], ds, ks, e, h => by unfold RVs at h; subst h; exact e
  | x :: xs, ds, ks, e, h => by
    unfold RVs at h; obtain ⟨d, q, rfl, h1, h2⟩ := h
    cases x <;> try (cases e; done)
    unfold RV at h1; subst h1
    unfold intsV at e
    obtain ⟨r, e1, e2⟩ := Option.map_eq_some_iff.mp e
    unfold Mini.intsOf
    rw [ints_ok e1 h2]
    exact congrArg some e2
theorem bls_ok : ∀ {xs : List V} {ds : List D} {ks : List Bool}, blsV xs = some ks → RVs A F xs ds → Mini.blsOf ds = some ks
  | [], ds, ks, e, h => by unfold RVs at h; subst h; exact e
  | x :: xs, ds, ks, e, h => by
    unfold RVs at h; obtain ⟨d, q, rfl, h1, h2⟩ := h
    cases x <;> try (cases e; done)
    unfold RV at h1; subst h1
    unfold blsV at e
    obtain ⟨r, e1, e2⟩ := Option.map_eq_some_iff.mp e
    unfold Mini.blsOf
    rw [bls_ok e1 h2]
    exact congrArg some e2
theorem at_ok {xs : List V} {ds : List D} {i : Int} {v : V} (h : RVs A F xs ds) (e : atI xs i = some v) : ∃ d, atI ds i = some d ∧ RV A F v d := by
  unfold atI at e ⊢
  rw [h.len] at e
  obtain ⟨j, e1, e2⟩ := Option.bind_eq_some_iff.mp e
  obtain ⟨d, e3, e4⟩ := h.get e2
  exact ⟨d, by rw [e1]; exact e3, e4⟩
theorem atW_ok {xs : List W} {ds : List D} {i : Int} {v : W} (h : RWs A F μ xs ds) (e : atI xs i = some v) : ∃ d, atI ds i = some d ∧ RW A F μ v d := by
  unfold atI at e ⊢
  rw [h.len] at e
  obtain ⟨j, e1, e2⟩ := Option.bind_eq_some_iff.mp e
  obtain ⟨d, e3, e4⟩ := h.get e2
  exact ⟨d, by rw [e1]; exact e3, e4⟩
theorem cut_ok {xs : List V} {ds : List D} (h : RVs A F xs ds) (lo hi : Option Int) : RVs A F (cut xs lo hi) (cut ds lo hi) := by
  unfold cut
  rw [h.len]
  exact (h.drop _).take _
theorem idx_ok {x i v : V} {dx di : D} (e : idxV x i = some v) (hx : RT0 A F x dx) (hi : RT0 A F i di) : ∃ d, Mini.idx dx di A = .ok d A ∧ RV A F v d := by
  unfold idxV at e
  split at e
  · simp only [rt_tup, rt_int] at hx hi; obtain ⟨ds, rfl, q⟩ := hx; subst hi
    obtain ⟨d, e1, e2⟩ := at_ok q e
    exact ⟨d, by unfold Mini.idx; dsimp only; rw [e1]; rfl, e2⟩
  · simp only [rt_str, rt_int] at hx hi; subst hx hi
    split at e
    · rename_i c
      obtain ⟨z, e1, e2⟩ := Option.map_eq_some_iff.mp e
      subst e2
      exact ⟨_, by unfold Mini.idx; dsimp only; rw [if_pos c, e1], rv_str⟩
    · cases e
  · simp only [rt_lst, rt_int] at hx hi; obtain ⟨n, ds, rfl, a, q⟩ := hx; subst hi
    obtain ⟨d, e1, e2⟩ := at_ok q e
    exact ⟨d, by unfold Mini.idx; dsimp only; rw [a]; dsimp only; rw [e1]; rfl, e2⟩
  · simp only [rt_dk, rt_str] at hx hi; obtain ⟨n, ds, rfl, hl, a, q⟩ := hx; subst hi
    obtain ⟨d, e1, e2⟩ := get_V e q
    exact ⟨d, by unfold Mini.idx; dsimp only; unfold Mini.rd; rw [a]; dsimp only; rw [e1]; rfl, e2⟩
  · simp only [rt_dt, rt_tup] at hx hi; obtain ⟨n, ds, rfl, hl, a, q⟩ := hx; obtain ⟨es, rfl, p⟩ := hi
    obtain ⟨k, e0, e⟩ := Option.bind_eq_some_iff.mp e
    obtain ⟨d, e1, e2⟩ := get_V e q
    exact ⟨d, by unfold Mini.idx; dsimp only; unfold Mini.rd; rw [a, strs_ok e0 p]; dsimp only; rw [e1]; rfl, e2⟩
  · cases e
theorem idxW_ok (r : Rel A μ F M) {x i w : W} {dx di : D} (e : idxW M x i = some w) (hx : RW A F μ x dx) (hi : RW A F μ i di) : ∃ d, Mini.idx dx di A = .ok d A ∧ RW A F μ w d := by
  unfold idxW at e
  split at e
  · rename_i v
    obtain ⟨j, e1, e2⟩ := Option.bind_eq_some_iff.mp e
    obtain ⟨u, e3, e4⟩ := Option.map_eq_some_iff.mp e2
    subst e4
    exact idx_ok e3 (RV.op hx) (rd_ok r hi e1)
  · rename_i k
    obtain ⟨n, rfl, hm⟩ := hx
    split at e
    · rename_i xs j e1
      obtain ⟨o, a, ds, rfl, q⟩ := r.at_ k n _ hm e1
      obtain ⟨u, e3, e4⟩ := Option.map_eq_some_iff.mp e
      subst e4
      have hi : RV A F (.int j) di := hi
      unfold RV at hi; subst hi
      obtain ⟨d, e5, e6⟩ := at_ok q e3
      exact ⟨d, by unfold Mini.idx; dsimp only; rw [a]; dsimp only; rw [e5]; rfl, e6⟩
    · rename_i xs j e1
      obtain ⟨o, a, ds, rfl, q⟩ := r.at_ k n _ hm e1
      have hi : RV A F (.int j) di := hi
      unfold RV at hi; subst hi
      obtain ⟨d, e5, e6⟩ := atW_ok q e
      exact ⟨d, by unfold Mini.idx; dsimp only; rw [a]; dsimp only; rw [e5]; rfl, e6⟩
    · rename_i kvs s e1
      obtain ⟨o, a, ds, rfl, q⟩ := r.at_ k n _ hm e1
      have hi : RV A F (.str s) di := hi
      unfold RV at hi; subst hi
      obtain ⟨d, e5, e6⟩ := get_W (pr_kv q) e
      exact ⟨d, by unfold Mini.idx; dsimp only; unfold Mini.rd; rw [a]; dsimp only; rw [e5]; rfl, e6⟩
    · rename_i kvs ks e1
      obtain ⟨o, a, ds, rfl, q⟩ := r.at_ k n _ hm e1
      have hi : RV A F (.tup ks) di := hi
      unfold RV at hi; obtain ⟨es, rfl, p⟩ := hi
      obtain ⟨s, e0, e⟩ := Option.bind_eq_some_iff.mp e
      obtain ⟨d, e5, e6⟩ := get_W (pr_kv q) e
      exact ⟨d, by unfold Mini.idx; dsimp only; unfold Mini.rd; rw [a, strs_ok e0 p]; dsimp only; rw [e5]; rfl, e6⟩
    · cases e
theorem slc_ok {x v : V} {dx : D} {lo hi : Option Int} (e : slcV x lo hi = some v) (hx : RT0 A F x dx) : ∃ d A1, Mini.slc dx lo hi A = .ok d A1 ∧ NewR A F μ v d A1 := by
  unfold slcV at e
  split at e
  · simp only [rt_tup] at hx; obtain ⟨ds, rfl, q⟩ := hx; cases e
    exact ⟨_, _, rfl, .inl ⟨rfl, rv_tup (cut_ok q lo hi), rfl⟩⟩
  · simp only [rt_str] at hx; subst hx
    split at e
    · rename_i c; cases e; exact ⟨_, _, by unfold Mini.slc; dsimp only; rw [if_pos c], .inl ⟨rfl, rv_str, rfl⟩⟩
    · cases e
  · simp only [rt_lst] at hx; obtain ⟨n, ds, rfl, a, q⟩ := hx; cases e
    exact ⟨_, _, by unfold Mini.slc; dsimp only; rw [a], new_lst (cut_ok q lo hi)⟩
  · cases e
theorem rev_ok {x v : V} {dx : D} (e : revV x = some v) (hx : RT0 A F x dx) : ∃ d A1, Mini.revD dx A = .ok d A1 ∧ NewR A F μ v d A1 := by
  unfold revV at e
  split at e
  · simp only [rt_lst] at hx; obtain ⟨n, ds, rfl, a, q⟩ := hx; cases e
    exact ⟨_, _, by unfold Mini.revD; dsimp only; rw [a], new_lst q.rev⟩
  · cases e
theorem emp_ok {α β : Type} {xs : List α} {ys : List β} (h : xs.length = ys.length) : xs.isEmpty = ys.isEmpty := by
  cases xs <;> cases ys <;> first | rfl | cases h
theorem truth_ok (r : Rel A μ F M) {w : W} {d : D} {b : Bool} (e : truthW M w = some b) (h : RW A F μ w d) : Mini.truth A d = some b := by
  unfold truthW at e
  split at e
  · rename_i v
    have h : RT0 A F v d := RV.op h
    unfold truthV at e
    split at e
    · simp only [rt_non] at h; subst h; exact e
    · simp only [rt_bl] at h; subst h; exact e
    · simp only [rt_int] at h; subst h; exact e
    · simp only [rt_str] at h; subst h; exact e
    · simp only [rt_tup] at h; obtain ⟨ds, rfl, q⟩ := h; rw [emp_ok q.len] at e; exact e
    · simp only [rt_lst] at h; obtain ⟨n, ds, rfl, a, q⟩ := h; rw [emp_ok q.len] at e; unfold Mini.truth; dsimp only; rw [a]; exact e
    · rename_i ks vs _
      simp only [rt_dk] at h; obtain ⟨n, ds, rfl, hl, a, q⟩ := h
      unfold Mini.truth; dsimp only; rw [a]
      rw [emp_ok (show ks.length = (ks.zip ds).length by simp [hl])] at e
      exact e
    · cases e
  · rename_i k
    obtain ⟨n, rfl, hm⟩ := h
    split at e
    · rename_i xs e1
      obtain ⟨o, a, ds, rfl, q⟩ := r.at_ k n _ hm e1
      rw [emp_ok q.len] at e; unfold Mini.truth; dsimp only; rw [a]; exact e
    · rename_i xs e1
      obtain ⟨o, a, ds, rfl, q⟩ := r.at_ k n _ hm e1
      rw [emp_ok q.len] at e; unfold Mini.truth; dsimp only; rw [a]; exact e
    · rename_i kvs e1
      obtain ⟨o, a, ds, rfl, q⟩ := r.at_ k n _ hm e1
      unfold Mini.truth; dsimp only; rw [a]
      rw [emp_ok (pr_kv q).len] at e
      exact e
    · cases e
theorem isin_ok (r : Rel A μ F M) {w : W} {d : D} {t : Ty} {b : Bool} (e : isinW M w t = some b) (h : RW A F μ w d) : Mini.isinR A d t = some b := by
  unfold isinW at e
  split at e
  · rename_i v
    have h : RT0 A F v d := RV.op h
    cases v <;> simp only [rt_non, rt_bl, rt_int, rt_str, rt_scr, rt_tup, rt_lst, rt_dk, rt_dt, rt_ins] at h
    case lst => obtain ⟨n, ds, rfl, a, q⟩ := h; unfold Mini.isinR; dsimp only; rw [a]; exact e
    case dk => obtain ⟨n, ds, rfl, _, a, q⟩ := h; unfold Mini.isinR; dsimp only; rw [a]; exact e
    case dt => obtain ⟨n, ds, rfl, _, a, q⟩ := h; unfold Mini.isinR; dsimp only; rw [a]; exact e
    case ins => obtain ⟨n, ds, rfl, _, _, a, q⟩ := h; unfold Mini.isinR; dsimp only; rw [a]; exact e
    case tup => obtain ⟨ds, rfl, q⟩ := h; exact e
    all_goals (subst h; exact e)
  · rename_i k
    obtain ⟨n, rfl, hm⟩ := h
    split at e
    all_goals first
      | (rename_i e1
         obtain ⟨o, a, ds, rfl, q⟩ := r.at_ k n _ hm e1
         unfold Mini.isinR; dsimp only; rw [a]; exact e)
      | cases e
theorem fld_ok (r : Rel A μ F M) {x w : W} {f : Nat} {dx : D} (e : fldW M x f = some w) (hx : RW A F μ x dx) : ∃ d, Mini.fldD dx f A = .ok d A ∧ RW A F μ w d := by
  unfold fldW at e
  split at e
  · rename_i c fs vs
    have h : RT0 A F (.ins c fs vs) dx := RV.op hx
    simp only [rt_ins] at h
    obtain ⟨n, ds, rfl, _, hl, a, q⟩ := h
    obtain ⟨u, e3, e4⟩ := Option.map_eq_some_iff.mp e
    subst e4
    obtain ⟨d, e1, e2⟩ := get_V e3 q
    exact ⟨d, by unfold Mini.fldD; dsimp only; rw [a]; dsimp only; rw [e1]; rfl, e2⟩
  · rename_i k
    obtain ⟨n, rfl, hm⟩ := hx
    split at e
    · rename_i c fs e1
      obtain ⟨o, a, ds, rfl, q⟩ := r.at_ k n _ hm e1
      obtain ⟨d, e5, e6⟩ := get_W (pr_kv q) e
      exact ⟨d, by unfold Mini.fldD; dsimp only; rw [a]; dsimp only; rw [e5]; rfl, e6⟩
    · cases e
  · cases e
/-- the class of a value -/
def clsD (A : Hh) : D → Option Nat
  | .ref n => (match A[n]? with | some (.ins c _) => some c | _ => none)
  | _ => none
theorem cls_ok (r : Rel A μ F M) {x : W} {d : D} (h : RW A F μ x d) : clsD A d = clsOf M x := by
  cases x with
  | t v =>
    have h : RT0 A F v d := RV.op h
    cases v <;> simp only [rt_non, rt_bl, rt_int, rt_str, rt_scr, rt_tup, rt_lst, rt_dk, rt_dt, rt_ins] at h
    case lst => obtain ⟨n, ds, rfl, a, q⟩ := h; unfold clsD; dsimp only; rw [a]; rfl
    case dk => obtain ⟨n, ds, rfl, _, a, q⟩ := h; unfold clsD; dsimp only; rw [a]; rfl
    case dt => obtain ⟨n, ds, rfl, _, a, q⟩ := h; unfold clsD; dsimp only; rw [a]; rfl
    case ins => obtain ⟨n, ds, rfl, _, _, a, q⟩ := h; unfold clsD; dsimp only; rw [a]; rfl
    case tup => obtain ⟨ds, rfl, q⟩ := h; rfl
    all_goals (subst h; rfl)
  | h k =>
    obtain ⟨n, rfl, hm⟩ := h
    have hk : k < M.length := by rw [← r.len]; exact lt_of_get hm
    obtain ⟨o, a, q⟩ := r.at_ k n _ hm (List.getElem?_eq_getElem hk)
    unfold clsOf
    dsimp only
    rw [List.getElem?_eq_getElem hk]
    unfold clsD
    dsimp only
    rw [a]
    revert q
    cases M[k] <;> (rintro ⟨ds, rfl, q⟩; rfl)
theorem isIns_ok (r : Rel A μ F M) {x : W} {d : D} {c : Nat} (h : RW A F μ x d) (e : isIns M c x = true) : Mini.isIns A c d = true := by
  have e' : clsD A d = some c := by
    rw [cls_ok r h]
    unfold isIns at e
    cases q : clsOf M x with
    | none => rw [q] at e; cases e
    | some k => rw [q] at e; rw [of_decide_eq_true e]
  cases d <;> try (cases e'; done)
  rename_i n
  have e2 : (match A[n]? with | some (Mini.Ob.ins c _) => some c | _ => none) = some c := e'
  show (match A[n]? with | some (Mini.Ob.ins k _) => decide (k = c) | _ => false) = true
  cases hA : A[n]? with
  | none => rw [hA] at e2; cases e2
  | some o =>
    rw [hA] at e2
    cases o <;> try (cases e2; done)
    rename_i k fs
    injection e2 with e3
    subst e3
    exact decide_eq_true rfl
theorem ownEq_ok {P : Pg} (r : Rel A μ F M) {c : Cm} {x y : W} {dx dy : D} (hx : RW A F μ x dx) (hy : RW A F μ y dy) : Mini.ownEq P.un A c dx dy = ownEq P M c x y := by
  unfold ownEq Mini.ownEq
  rw [← cls_ok r hx]
  have hy2 := cls_ok r hy
  cases c <;> try rfl
  case eq =>
    unfold clsD
    cases dx <;> try rfl
    rename_i n
    dsimp only
    cases hA : A[n]? with
    | none => rfl
    | some o =>
      cases o <;> try rfl
      rename_i k fs
      dsimp only
      show (match P.eqm[k]? with | some (some f) => _ | _ => _) = _
      cases hq : P.eqm[k]? with
      | none => rfl
      | some o =>
        cases o with
        | none => rfl
        | some f =>
          dsimp only
          cases y with
          | t v =>
            have h : RT0 A F v dy := RV.op hy
            cases v <;> simp only [rt_non, rt_bl, rt_int, rt_str, rt_scr, rt_tup, rt_lst, rt_dk, rt_dt, rt_ins] at h
            case lst => obtain ⟨n, ds, rfl, a, q⟩ := h; dsimp only; rw [a]; rfl
            case dk => obtain ⟨n, ds, rfl, _, a, q⟩ := h; dsimp only; rw [a]; rfl
            case dt => obtain ⟨n, ds, rfl, _, a, q⟩ := h; dsimp only; rw [a]; rfl
            case ins => obtain ⟨n, ds, rfl, _, _, a, q⟩ := h; dsimp only; rw [a]; rfl
            case tup => obtain ⟨ds, rfl, q⟩ := h; rfl
            all_goals (subst h; rfl)
          | h j =>
            obtain ⟨m, rfl, hm⟩ := hy
            dsimp only
            rw [← hy2]
            unfold clsD
            dsimp only
            cases A[m]? with
            | none => rfl
            | some o => cases o <;> rfl
theorem ownLen_ok {P : Pg} (r : Rel A μ F M) {b : Bi} {ws : List W} {ds : List D} (h : RWs A F μ ws ds) : Mini.ownLen P.un A b ds = ownLen P M b ws := by
  unfold ownLen Mini.ownLen
  cases b <;> try rfl
  case len =>
    match ws, ds, h with
    | [], [], .nil => rfl
    | w :: w2 :: r, d :: d2 :: q, _ => cases d <;> rfl
    | [w], [d], .cons h1 .nil =>
      dsimp only
      rw [← cls_ok r h1]
      unfold clsD
      cases d <;> try rfl
      rename_i n
      dsimp only
      cases A[n]? with
      | none => rfl
      | some o => cases o <;> rfl
end
end MT

set_option Elab.async false
set_option linter.all false
set_option maxRecDepth 100000
set_option maxHeartbeats 4000000
/-! MT over Mini: built-ins, methods, walks, calls. -/
namespace MT
open Mini (S O2 Cm Bi Bm Ty T Hk D Tr big ixN atI cut rep small64 b2 get1 put1 putD splitS joinS intS intOf sortS sortR minI putAll isNon grpG clause Hh)
section
variable {A A1 : Hh} {F : Nat → Prop} {μ : List Nat} {M : Hp}
theorem rts1 {x : V} {ds : List D} (h : RTs A F [x] ds) : ∃ d, ds = [d] ∧ RT0 A F x d := by
  cases h with | cons h1 h2 => cases h2; exact ⟨_, rfl, h1⟩
theorem rts2 {x y : V} {ds : List D} (h : RTs A F [x, y] ds) : ∃ d e, ds = [d, e] ∧ RT0 A F x d ∧ RT0 A F y e := by
  cases h with | cons h1 h2 => cases h2 with | cons h3 h4 => cases h4; exact ⟨_, _, rfl, h1, h3⟩
theorem new_dk {ks : List S} {vs : List V} {m : List (S × D)} (h : Pr (RV A F) (ks.zip vs) m) (hl : ks.length = vs.length) : NewR A F μ (.dk ks vs) (.ref A.length) (A ++ [.dk m]) := by
  obtain ⟨z1, z2⟩ := h.zipd
  refine .inr ⟨.dk m, .dk (ks.zip (vs.map .t)), rfl, rfl, by unfold obOf; dsimp only; rw [if_pos hl], m.map (·.2), ?_, ?_⟩
  · rw [List.map_fst_zip (by simp [hl])]
    rw [List.map_fst_zip (by simp [hl])] at z1
    rw [← z1]
  · rw [List.map_snd_zip (by simp [hl])]
    have := pr_rvs h
    rw [List.map_snd_zip (by simp [hl])] at this
    exact this.toW
theorem set_ok {κ : Type} [DecidableEq κ] {ks : List κ} {vs : List V} {m : List (κ × D)} {k : κ} {v : V} {d : D} (h : Pr (RV A F) (ks.zip vs) m) (hv : RV A F v d) :
    Pr (RV A F) ((setV ks vs k v).1.zip (setV ks vs k v).2) (putD m k d) ∧ (setV ks vs k v).1.length = (setV ks vs k v).2.length := by
  have z := h.put (k := k) hv
  unfold setV
  dsimp only
  have un : ∀ l : List (κ × V), (l.map (·.1)).zip (l.map (·.2)) = l := by
    intro l
    induction l with
    | nil => rfl
    | cons a l ih => simp [ih]
  exact ⟨by rw [un]; exact z, by simp⟩
theorem puts_ok : ∀ {kvs : List (S × V)} {m : List (S × D)} {ks : List S} {vs : List V} {m0 : List (S × D)}, Pr (RV A F) kvs m → Pr (RV A F) (ks.zip vs) m0 → ks.length = vs.length →
    Pr (RV A F) ((putsV ks vs kvs).1.zip (putsV ks vs kvs).2) (putAll m0 m) ∧ (putsV ks vs kvs).1.length = (putsV ks vs kvs).2.length
  | _, _, _, _, _, .nil, h0, hl => ⟨h0, hl⟩
  | (k, v) :: r, (_, d) :: q, ks, vs, m0, .cons h1 h2, h0, hl => by
    obtain ⟨z1, z2⟩ := set_ok (k := k) h0 h1
    exact puts_ok (kvs := r) (m := q) h2 z1 z2
theorem pairs_ok : ∀ {ps : List V} {ds : List D} {kvs : List (S × V)}, pairsV ps = some kvs → RVs A F ps ds → ∃ m, Mini.pairsOf ds = some m ∧ Pr (RV A F) kvs m
  | [], ds, kvs, e, h => by unfold RVs at h; subst h; cases e; exact ⟨[], rfl, .nil⟩
  | p :: ps, ds, kvs, e, h => by
    unfold RVs at h; obtain ⟨d, q, rfl, h1, h2⟩ := h
    unfold pairsV at e
    split at e
    · cases ‹p :: ps = []›
    · rename_i s v r he
      injection he with he1 he2
      subst he1 he2
      obtain ⟨r', e1, e2⟩ := Option.map_eq_some_iff.mp e
      subst e2
      obtain ⟨m, e3, e4⟩ := pairs_ok e1 h2
      unfold RV RVs RVs RVs at h1
      obtain ⟨es, rfl, d1, q1, rfl, g1, d2, q2, rfl, g2, rfl⟩ := h1
      unfold RV at g1; subst g1
      exact ⟨(s, d2) :: m, by unfold Mini.pairsOf; rw [e3]; rfl, .cons g2 e4⟩
    · cases e
theorem rvs_map {α : Type} {f : α → V} {g : α → D} (h : ∀ a, RV A F (f a) (g a)) : ∀ l : List α, RVs A F (l.map f) (l.map g)
  | [] => .nil
  | a :: l => .cons (h a) (rvs_map h l)
theorem zip_ok : ∀ {xs ys : List V} {ds es : List D}, RVs A F xs ds → RVs A F ys es → RVs A F ((xs.zip ys).map fun p => .tup [p.1, p.2]) ((ds.zip es).map fun p => .tup [p.1, p.2])
  | [], _, ds, _, h, _ => by unfold RVs at h; subst h; exact .nil
  | x :: xs, [], ds, es, _, h => by unfold RVs at h; subst h; rw [List.zip_nil_right, List.zip_nil_right]; exact .nil
  | x :: xs, y :: ys, ds, es, h, h' => by
    unfold RVs at h h'; obtain ⟨_, _, rfl, h1, h2⟩ := h; obtain ⟨_, _, rfl, h3, h4⟩ := h'
    exact .cons (rv_tup (.cons h1 (.cons h3 .nil))) (zip_ok h2 h4)
theorem bi_ok {b : Bi} {vs : List V} {v : V} {ds : List D} (e : biV b vs = some v) (h : RTs A F vs ds) : ∃ d A1, Mini.bi b ds A = .ok d A1 ∧ NewR A F μ v d A1 := by
  unfold biV at e
  split at e
  · obtain ⟨d, rfl, g⟩ := rts1 h; simp only [rt_str] at g; subst g
    split at e
    · rename_i c; cases e; exact ⟨_, _, by unfold Mini.bi; dsimp only; unfold Mini.bLen; dsimp only; rw [if_pos c], .inl ⟨rfl, rv_int, rfl⟩⟩
    · cases e
  · obtain ⟨d, rfl, g⟩ := rts1 h; simp only [rt_tup] at g; obtain ⟨ds, rfl, q⟩ := g; cases e
    exact ⟨.int ds.length, A, rfl, .inl ⟨rfl, by rw [q.len]; exact rv_int, rfl⟩⟩
  · obtain ⟨d, rfl, g⟩ := rts1 h; simp only [rt_lst] at g; obtain ⟨n, ds, rfl, a, q⟩ := g; cases e
    exact ⟨.int ds.length, A, by unfold Mini.bi; dsimp only; unfold Mini.bLen; dsimp only; rw [a], .inl ⟨rfl, by rw [q.len]; exact rv_int, rfl⟩⟩
  · obtain ⟨d, rfl, g⟩ := rts1 h; simp only [rt_dk] at g; obtain ⟨n, ds, rfl, hl, a, q⟩ := g; cases e
    rename_i ks vs
    exact ⟨.int (ks.zip ds).length, A, by unfold Mini.bi; dsimp only; unfold Mini.bLen; dsimp only; rw [a], .inl ⟨rfl, by rw [show (ks.zip ds).length = ks.length by simp [hl]]; exact rv_int, rfl⟩⟩
  · obtain ⟨d, rfl, g⟩ := rts1 h; simp only [rt_int] at g; subst g; cases e
    exact ⟨_, _, rfl, .inl ⟨rfl, rv_int, rfl⟩⟩
  · obtain ⟨d, rfl, g⟩ := rts1 h; simp only [rt_bl] at g; subst g; cases e
    exact ⟨_, _, rfl, .inl ⟨rfl, rv_int, rfl⟩⟩
  · obtain ⟨d, rfl, g⟩ := rts1 h; simp only [rt_str] at g; subst g
    obtain ⟨i, e1, e2⟩ := Option.map_eq_some_iff.mp e
    subst e2
    exact ⟨.int i, A, by unfold Mini.bi; dsimp only; unfold Mini.bInt; dsimp only; rw [e1], .inl ⟨rfl, rv_int, rfl⟩⟩
  · obtain ⟨d, rfl, g⟩ := rts1 h; simp only [rt_str] at g; subst g; cases e
    exact ⟨_, _, rfl, .inl ⟨rfl, rv_str, rfl⟩⟩
  · obtain ⟨d, rfl, g⟩ := rts1 h; simp only [rt_int] at g; subst g
    split at e
    · rename_i c; cases e; exact ⟨_, _, by unfold Mini.bi; dsimp only; unfold Mini.bStr; dsimp only; rw [if_pos c], .inl ⟨rfl, rv_str, rfl⟩⟩
    · cases e
  · obtain ⟨d, rfl, g⟩ := rts1 h; simp only [rt_non] at g; subst g; cases e
    exact ⟨_, _, rfl, .inl ⟨rfl, rv_str, rfl⟩⟩
  · obtain ⟨d, rfl, g⟩ := rts1 h
    obtain ⟨xs, e1, e2⟩ := Option.map_eq_some_iff.mp e
    subst e2
    have z : ∃ ds, Mini.items A d = some ds ∧ RVs A F xs ds := by
      unfold itemsV at e1
      split at e1
      · cases e1; simp only [rt_tup] at g; obtain ⟨ds, rfl, q⟩ := g; exact ⟨ds, rfl, q⟩
      · cases e1; simp only [rt_lst] at g; obtain ⟨n, ds, rfl, a, q⟩ := g; exact ⟨ds, by unfold Mini.items; dsimp only; rw [a], q⟩
      · cases e1; simp only [rt_scr] at g; subst g; exact ⟨_, rfl, rvs_map (fun _ => rv_int) _⟩
      · cases e1
    obtain ⟨ds, e2, q⟩ := z
    exact ⟨_, _, by unfold Mini.bi; dsimp only; unfold Mini.bList; dsimp only; rw [e2]; rfl, new_lst q⟩
  · obtain ⟨d, rfl, g⟩ := rts1 h; simp only [rt_tup] at g; obtain ⟨ds, rfl, q⟩ := g; cases e
    exact ⟨_, _, rfl, .inl ⟨rfl, rv_tup q, rfl⟩⟩
  · obtain ⟨d, rfl, g⟩ := rts1 h; simp only [rt_lst] at g; obtain ⟨n, ds, rfl, a, q⟩ := g; cases e
    exact ⟨_, _, by unfold Mini.bi; dsimp only; unfold Mini.bTuple; dsimp only; rw [a], .inl ⟨rfl, rv_tup q, rfl⟩⟩
  · obtain ⟨d, rfl, g⟩ := rts1 h; simp only [rt_tup] at g; obtain ⟨ds, rfl, q⟩ := g
    obtain ⟨kvs, e1, e2⟩ := Option.map_eq_some_iff.mp e
    subst e2
    obtain ⟨m, e3, p⟩ := pairs_ok e1 q
    obtain ⟨z1, z2⟩ := puts_ok p (ks := []) (vs := []) (m0 := []) .nil rfl
    exact ⟨_, _, by unfold Mini.bi; dsimp only; unfold Mini.bDict; dsimp only; rw [e3], new_dk z1 z2⟩
  · obtain ⟨d1, d2, rfl, h1, h2⟩ := rts2 h; simp only [rt_tup] at h1 h2; obtain ⟨ds, rfl, q1⟩ := h1; obtain ⟨es, rfl, q2⟩ := h2
    obtain ⟨k, e1, e2⟩ := Option.bind_eq_some_iff.mp e
    split at e2
    · rename_i c
      cases e2
      obtain ⟨z1, z2⟩ := puts_ok (pr_zip (ks := k) q2) (ks := []) (vs := []) (m0 := []) .nil rfl
      rw [q2.len] at c
      exact ⟨_, _, by unfold Mini.bi; dsimp only; unfold Mini.bDictzip; dsimp only; rw [strs_ok e1 q1]; dsimp only; rw [if_pos c], new_dk z1 z2⟩
    · cases e2
  · obtain ⟨d1, d2, rfl, h1, h2⟩ := rts2 h; simp only [rt_lst] at h1 h2; obtain ⟨n, ds, rfl, a1, q1⟩ := h1; obtain ⟨n2, es, rfl, a2, q2⟩ := h2
    cases e
    exact ⟨_, _, by unfold Mini.bi; dsimp only; unfold Mini.bListzip; dsimp only; rw [a1, a2]; rfl, new_lst (zip_ok q1 q2)⟩
  · obtain ⟨d, rfl, g⟩ := rts1 h; simp only [rt_lst] at g; obtain ⟨n, ds, rfl, a, q⟩ := g
    split at e
    · rename_i ss e1
      split at e
      · rename_i c; cases e
        exact ⟨_, _, by unfold Mini.bi; dsimp only; unfold Mini.bSorted; dsimp only; rw [a]; dsimp only; rw [strs_ok e1 q]; dsimp only; rw [if_pos c]; rfl, new_lst (rvs_map (fun _ => rv_str) _)⟩
      · cases e
    · cases e
  · obtain ⟨d, rfl, g⟩ := rts1 h; simp only [rt_lst] at g; obtain ⟨n, ds, rfl, a, q⟩ := g
    obtain ⟨bs, e1, e2⟩ := Option.map_eq_some_iff.mp e
    subst e2
    exact ⟨_, _, by unfold Mini.bi; dsimp only; unfold Mini.bAll; dsimp only; rw [a]; dsimp only; rw [bls_ok e1 q], .inl ⟨rfl, rv_bl, rfl⟩⟩
  · obtain ⟨d, rfl, g⟩ := rts1 h; simp only [rt_lst] at g; obtain ⟨n, ds, rfl, a, q⟩ := g
    obtain ⟨bs, e1, e2⟩ := Option.map_eq_some_iff.mp e
    subst e2
    exact ⟨_, _, by unfold Mini.bi; dsimp only; unfold Mini.bAny; dsimp only; rw [a]; dsimp only; rw [bls_ok e1 q], .inl ⟨rfl, rv_bl, rfl⟩⟩
  · obtain ⟨d1, d2, rfl, h1, h2⟩ := rts2 h; simp only [rt_int] at h1 h2; subst h1 h2; cases e
    exact ⟨_, _, rfl, .inl ⟨rfl, rv_int, rfl⟩⟩
  · obtain ⟨d, rfl, g⟩ := rts1 h; simp only [rt_lst] at g; obtain ⟨n, ds, rfl, a, q⟩ := g
    obtain ⟨i, e1, e2⟩ := Option.map_eq_some_iff.mp e
    subst e2
    obtain ⟨ns, e3, e4⟩ := Option.bind_eq_some_iff.mp e1
    exact ⟨.int i, A, by unfold Mini.bi; dsimp only; unfold Mini.bMin1; dsimp only; rw [a]; dsimp only; rw [ints_ok e3 q]; show (match minI ns with | some m => Mini.R.ok (D.int m) A | none => .bad) = _; rw [e4], .inl ⟨rfl, rv_int, rfl⟩⟩
  · obtain ⟨d, rfl, g⟩ := rts1 h; simp only [rt_int] at g; subst g; cases e
    exact ⟨_, _, rfl, .inl ⟨rfl, rv_int, rfl⟩⟩
  · cases e
theorem bmV_ok {b : Bm} {x v : V} {vs : List V} {dx : D} {ds : List D} (e : bmV b x vs = some v) (hx : RT0 A F x dx) (h : RTs A F vs ds) : ∃ d A1, Mini.bm b dx ds A = .ok d A1 ∧ NewR A F μ v d A1 := by
  unfold bmV at e
  split at e
  · obtain ⟨d, rfl, g⟩ := rts1 h; simp only [rt_str, rt_lst] at g hx; subst g; obtain ⟨n, ds, rfl, a, q⟩ := hx
    obtain ⟨ss, e1, e2⟩ := Option.bind_eq_some_iff.mp e
    obtain ⟨j, e3, e4⟩ := Option.map_eq_some_iff.mp e2
    subst e4
    exact ⟨_, A, by unfold Mini.bm; dsimp only; unfold Mini.mIndex; dsimp only; rw [a]; dsimp only; rw [strs_ok e1 q]; dsimp only; rw [e3], .inl ⟨rfl, rv_int, rfl⟩⟩
  · obtain ⟨d, rfl, g⟩ := rts1 h; simp only [rt_str, rt_lst] at g hx; subst hx; obtain ⟨n, ds, rfl, a, q⟩ := g
    obtain ⟨ss, e1, e2⟩ := Option.bind_eq_some_iff.mp e
    split at e2
    · rename_i c; cases e2
      exact ⟨_, A, by unfold Mini.bm; dsimp only; unfold Mini.mJoin; dsimp only; rw [a]; dsimp only; rw [strs_ok e1 q]; dsimp only; rw [if_pos c], .inl ⟨rfl, rv_str, rfl⟩⟩
    · cases e2
  · obtain ⟨d, rfl, g⟩ := rts1 h; simp only [rt_str] at g hx; subst g hx
    split at e
    · rename_i c; cases e
      exact ⟨_, _, by unfold Mini.bm; dsimp only; unfold Mini.mSplit; dsimp only; rw [if_pos c]; rfl, new_lst (rvs_map (fun _ => rv_str) _)⟩
    · cases e
  · obtain ⟨d, rfl, g⟩ := rts1 h; simp only [rt_str] at g hx; subst g hx; cases e
    exact ⟨_, A, rfl, .inl ⟨rfl, rv_bl, rfl⟩⟩
  · cases e
/-! ### changes -/
theorem add_ok (r : Rel A μ F M) {o o' : Ob} {w : W} {ob : Mini.Ob} {d : D} (e : addM o w = some o') (h : RO A F μ o ob) (hw : RW A F μ w d) : ∃ ds, ob = .lst ds ∧ Nat.blt ds.length 16777216 = true ∧ RO A F μ o' (.lst (ds ++ [d])) := by
  unfold addM at e
  split at e
  · split at e
    · rename_i c; cases e; obtain ⟨ds, rfl, q⟩ := h; exact ⟨ds, rfl, by rw [← q.len]; exact c, _, rfl, q.app (.cons hw .nil)⟩
    · cases e
  · cases e; obtain ⟨ds, rfl, q⟩ := h; unfold RVs at q; subst q; exact ⟨[], rfl, rfl, _, rfl, .cons hw .nil⟩
  · split at e
    · rename_i c; cases e; obtain ⟨ds, rfl, q⟩ := h; exact ⟨ds, rfl, by rw [← q.len]; exact c, _, rfl, q.app (.cons hw .nil)⟩
    · cases e
  · cases e
theorem append_ok (r : Rel A μ F M) {x : W} {ws : List W} {dx : D} {ds : List D} (hx : RW A F μ x dx) (h : RWs A F μ ws ds) : Sim A μ F (mAppend M x ws) (Mini.mAppend A dx ds) GW := by
  unfold mAppend
  split
  · rename_i k w
    obtain ⟨n, rfl, hm⟩ := hx
    cases h with
    | cons h1 h2 =>
      cases h2
      split
      · rename_i o eo
        obtain ⟨ob, a, q⟩ := r.at_ k n _ hm eo
        split
        · rename_i o' e
          obtain ⟨ds, rfl, c, q2⟩ := add_ok r e q h1
          unfold Mini.mAppend; dsimp only; rw [a]; dsimp only; rw [if_pos c]
          exact Sim.up (Ext.write hm) (Sim.ok (r.write hm q2) (show RV _ _ _ _ from rv_non))
        · exact trivial
      · exact trivial
  · exact trivial
theorem pop_ok (r : Rel A μ F M) {x : W} {ws : List W} {dx : D} {ds : List D} (hx : RW A F μ x dx) (h : RWs A F μ ws ds) : Sim A μ F (mPop M x ws) (Mini.mPop A dx ds) GW := by
  unfold mPop
  split
  · rename_i k
    obtain ⟨n, rfl, hm⟩ := hx
    cases h
    split
    · rename_i xs eo
      obtain ⟨ob, a, ds, rfl, q⟩ := r.at_ k n _ hm eo
      split
      · rename_i y e
        rw [q.len] at e
        obtain ⟨d, e2, e3⟩ := q.get e
        have x : Ext A μ F (A.set n (.lst ds.dropLast)) μ F := Ext.write hm
        unfold Mini.mPop; dsimp only; rw [a]; dsimp only; rw [e2]
        refine Sim.up x (Sim.ok (r.write hm ⟨_, rfl, ?_⟩) (show RV _ _ _ _ from e3.ext x r.sub))
        rw [List.dropLast_eq_take, List.dropLast_eq_take, q.len]
        exact q.take _
      · exact trivial
    · exact trivial
  · exact trivial
theorem recv_ok (r : Rel A μ F M) {b : Bm} {x : W} {d : D} (e : recvOk M b x = true) (h : RW A F μ x d) : Mini.recvOk A b d = true := by
  have hl : isHl M x = true → (match d with | .ref n => (match A[n]? with | some (.lst _) => true | _ => false) | _ => false) = true := fun e => by
    unfold isHl at e
    cases x with
    | t v => cases e
    | h k =>
      obtain ⟨n, rfl, hm⟩ := h
      dsimp only at e
      split at e
      · rename_i xs eo
        obtain ⟨ob, a, ds, rfl, q⟩ := r.at_ k n _ hm eo
        dsimp only; rw [a]
      · rename_i xs eo
        obtain ⟨ob, a, ds, rfl, q⟩ := r.at_ k n _ hm eo
        dsimp only; rw [a]
      · cases e
  cases b
  case append => have z := hl e; unfold Mini.recvOk; cases d <;> first | exact z | cases z
  case pop => have z := hl e; unfold Mini.recvOk; cases d <;> first | exact z | cases z
  case index =>
    unfold recvOk at e
    dsimp only at e
    split at e
    · rename_i xs e1
      have z := rd_ok r h e1
      simp only [rt_lst] at z
      obtain ⟨n, ds, rfl, a, q⟩ := z
      unfold Mini.recvOk; dsimp only; rw [a]
    · cases e
  case get => cases e
  all_goals
    unfold recvOk at e
    dsimp only at e
    split at e
    · have h : RV A F _ d := h
      unfold RV at h; subst h; rfl
    · cases e
theorem bm_ok (r : Rel A μ F M) {l : Bool} {b : Bm} {x : W} {ws : List W} {dx : D} {ds : List D} (hx : RW A F μ x dx) (h : RWs A F μ ws ds) : Sim A μ F (bm l b x ws M) (Mini.bm b dx ds A) GW := by
  unfold bm
  split
  · exact append_ok r hx h
  · exact pop_ok r hx h
  · split
    · rename_i v vs e1 e2
      exact ofN_ok r fun u e => bmV_ok e (rd_ok r hx e1) (rds_ok r h e2)
    · exact trivial
/-! ### what is walked -/
inductive SeqR (A : Hh) (F : Nat → Prop) : List V → Mini.It → Prop
  | seq {xs ds} : RVs A F xs ds → SeqR A F xs (.seq ds)
  | lst {xs ds n} : ¬ F n → A[n]? = some (.lst ds) → RVs A F xs ds → SeqR A F xs (.lst n)
  | chr {s : S} : SeqR A F (s.map fun c => .str [c]) (.chr s)
  | rng {n : Nat} : SeqR A F (rngV n) (.rng n)
  | enumS {xs ds} : RVs A F xs ds → SeqR A F (enumV 0 xs) (.enumS ds)
  | enumL {xs ds n} : ¬ F n → A[n]? = some (.lst ds) → RVs A F xs ds → SeqR A F (enumV 0 xs) (.enumL n)
theorem SeqR.ext {A' : Hh} {μ' : List Nat} {F' : Nat → Prop} (x : Ext A μ F A' μ' F') (sub : ∀ n ∈ μ, F n) {xs : List V} {it : Mini.It} (h : SeqR A F xs it) : SeqR A' F' xs it := by
  cases h with
  | seq q => exact .seq (q.ext x sub)
  | lst a b q => obtain ⟨h1, h2⟩ := x.at_ sub a b; exact .lst h2 h1 (q.ext x sub)
  | chr => exact .chr
  | rng => exact .rng
  | enumS q => exact .enumS (q.ext x sub)
  | enumL a b q => obtain ⟨h1, h2⟩ := x.at_ sub a b; exact .enumL h2 h1 (q.ext x sub)
theorem enum_get : ∀ {xs : List V} {j i : Nat}, (enumV j xs)[i]? = xs[i]?.map fun x => .tup [.int ((j + i : Nat) : Int), x]
  | [], j, i => by simp [enumV]
  | x :: xs, j, 0 => by simp [enumV]
  | x :: xs, j, i + 1 => by
    unfold enumV
    rw [List.getElem?_cons_succ, List.getElem?_cons_succ, enum_get, show j + 1 + i = j + (i + 1) by omega]
theorem enum_len : ∀ {xs : List V} {j : Nat}, (enumV j xs).length = xs.length
  | [], _ => rfl
  | x :: xs, j => by simp [enumV, enum_len]
theorem get_none {xs : List V} {ds : List D} (q : RVs A F xs ds) {i : Nat} (h : xs[i]? = none) : ds[i]? = none := by
  rw [List.getElem?_eq_none_iff] at h ⊢
  rw [← q.len]; exact h
theorem SeqR.at_ {xs : List V} {it : Mini.It} (h : SeqR A F xs it) (i : Nat) : (xs[i]? = none ∧ it.at A i = some none) ∨ ∃ x d, xs[i]? = some x ∧ it.at A i = some (some d) ∧ RV A F x d := by
  cases h with
  | seq q =>
    cases e : xs[i]? with
    | none => exact .inl ⟨rfl, by unfold Mini.It.at; dsimp only; rw [get_none q e]⟩
    | some x => obtain ⟨d, e1, e2⟩ := q.get e; exact .inr ⟨x, d, rfl, by unfold Mini.It.at; dsimp only; rw [e1], e2⟩
  | lst a b q =>
    cases e : xs[i]? with
    | none => exact .inl ⟨rfl, by unfold Mini.It.at; dsimp only; rw [b]; dsimp only; rw [get_none q e]⟩
    | some x => obtain ⟨d, e1, e2⟩ := q.get e; exact .inr ⟨x, d, rfl, by unfold Mini.It.at; dsimp only; rw [b]; dsimp only; rw [e1], e2⟩
  | @chr s =>
    rw [List.getElem?_map]
    cases e : s[i]? with
    | none => exact .inl ⟨rfl, by unfold Mini.It.at; dsimp only; rw [e]; rfl⟩
    | some x => exact .inr ⟨_, .str [x], rfl, by unfold Mini.It.at; dsimp only; rw [e]; rfl, rv_str⟩
  | @rng n =>
    unfold rngV
    rw [List.getElem?_map]
    by_cases hi : i < n
    · rw [List.getElem?_range hi]
      exact .inr ⟨_, .int i, rfl, by unfold Mini.It.at; dsimp only; rw [if_pos (by simpa using hi)], rv_int⟩
    · rw [List.getElem?_eq_none (by simpa using hi)]
      exact .inl ⟨rfl, by unfold Mini.It.at; dsimp only; rw [if_neg (by simpa using hi)]⟩
  | @enumS ys ds q =>
    rw [enum_get]
    cases e : ys[i]? with
    | none => exact .inl ⟨rfl, by unfold Mini.It.at; dsimp only; rw [get_none q e]; rfl⟩
    | some x =>
      obtain ⟨d, e1, e2⟩ := q.get e
      exact .inr ⟨_, .tup [.int i, d], rfl, by unfold Mini.It.at; dsimp only; rw [e1]; rfl, by rw [show (0 + i : Nat) = i by omega]; exact rv_tup (.cons rv_int (.cons e2 .nil))⟩
  | @enumL ys ds n a b q =>
    rw [enum_get]
    cases e : ys[i]? with
    | none => exact .inl ⟨rfl, by unfold Mini.It.at; dsimp only; rw [b]; dsimp only; rw [get_none q e]; rfl⟩
    | some x =>
      obtain ⟨d, e1, e2⟩ := q.get e
      exact .inr ⟨_, .tup [.int i, d], rfl, by unfold Mini.It.at; dsimp only; rw [b]; dsimp only; rw [e1]; rfl, by rw [show (0 + i : Nat) = i by omega]; exact rv_tup (.cons rv_int (.cons e2 .nil))⟩
theorem SeqR.size {xs : List V} {it : Mini.It} (h : SeqR A F xs it) : it.size A = xs.length := by
  cases h with
  | seq q => exact q.len.symm
  | lst a b q => unfold Mini.It.size; dsimp only; rw [b]; exact q.len.symm
  | chr => unfold Mini.It.size; simp
  | rng => unfold Mini.It.size rngV; simp
  | enumS q => rw [enum_len]; exact q.len.symm
  | enumL a b q => rw [enum_len]; unfold Mini.It.size; dsimp only; rw [b]; exact q.len.symm
def RIt (A : Hh) (F : Nat → Prop) (μ : List Nat) : It → Mini.It → Prop
  | .seq xs, it => SeqR A F xs it
  | .hl k, it => ∃ n, it = .lst n ∧ μ[k]? = some n
  | .hen k, it => ∃ n, it = .enumL n ∧ μ[k]? = some n
def RIm (A : Hh) (F : Nat → Prop) (μ : List Nat) : Im → D → Prop
  | .one w, d => RW A F μ w d
  | .two i w, d => ∃ e, d = .tup [.int i, e] ∧ RW A F μ w e
theorem put_ok {v v' : Env} {u : Mini.Env} {m : Im} {d : D} {t : T} (re : RE A F μ v u) (hm : RIm A F μ m d) (e : putT v m t = some v') : ∃ u', Mini.T.put A u d t = some u' ∧ RE A F μ v' u' := by
  cases t with
  | one i =>
    unfold putT at e
    dsimp only at e
    split at e
    · cases e; exact ⟨_, rfl, re.set hm⟩
    · cases e
  | many is =>
    unfold putT at e
    dsimp only at e
    split at e
    · have hm : RV A F _ d := hm
      unfold RV at hm; obtain ⟨ds, rfl, q⟩ := hm
      exact RE.all re q e
    · have hm : RV A F _ d := hm
      unfold RV at hm; obtain ⟨n, ds, rfl, _, a, q⟩ := hm
      obtain ⟨u', e1, e2⟩ := RE.all re q e
      exact ⟨u', by unfold Mini.T.put; dsimp only; rw [a]; exact e1, e2⟩
    · obtain ⟨e', rfl, hw⟩ := hm
      split at e
      · cases e
        exact ⟨_, rfl, (re.set (w := .t _) (show RV A F _ _ from rv_int)).set hw⟩
      · cases e
    · cases e
def OW (A : Hh) (F : Nat → Prop) (μ : List Nat) (o : Option W) (d : Option D) : Prop :=
  match o with
  | none => d = none
  | some w => ∃ x, d = some x ∧ RW A F μ w x
theorem obAt_ok (r : Rel A μ F M) {k n i : Nat} {o : Option W} (hk : μ[k]? = some n) (e : obAt M k i = some o) : ∃ ds, A[n]? = some (.lst ds) ∧ OW A F μ o ds[i]? := by
  unfold obAt at e
  split at e
  · rename_i xs e1
    obtain ⟨ob, a, ds, rfl, q⟩ := r.at_ k n _ hk e1
    refine ⟨ds, a, ?_⟩
    injection e with e
    subst e
    cases e2 : xs[i]? with
    | none => exact get_none q e2
    | some x => obtain ⟨d, e3, e4⟩ := q.get e2; exact ⟨d, e3, e4⟩
  · rename_i xs e1
    obtain ⟨ob, a, ds, rfl, q⟩ := r.at_ k n _ hk e1
    refine ⟨ds, a, ?_⟩
    injection e with e
    subst e
    cases e2 : xs[i]? with
    | none =>
      show ds[i]? = none
      rw [List.getElem?_eq_none_iff] at e2 ⊢
      rw [← q.len]; exact e2
    | some x => obtain ⟨d, e3, e4⟩ := q.get e2; exact ⟨d, e3, e4⟩
  · cases e
theorem obLen_ok (r : Rel A μ F M) {k n : Nat} (hk : μ[k]? = some n) : (match A[n]? with | some (Mini.Ob.lst xs) => xs.length | _ => 0) = obLen M k := by
  have hl : k < M.length := by rw [← r.len]; exact lt_of_get hk
  obtain ⟨o, a, q⟩ := r.at_ k n _ hk (List.getElem?_eq_getElem hl)
  unfold obLen
  rw [List.getElem?_eq_getElem hl, a]
  revert q
  cases M[k] with
  | lst xs => rintro ⟨ds, rfl, q⟩; exact q.len.symm
  | lsw xs => rintro ⟨ds, rfl, q⟩; exact q.len.symm
  | dk xs => rintro ⟨ds, rfl, q⟩; rfl
  | dt xs => rintro ⟨ds, rfl, q⟩; rfl
  | ins c xs => rintro ⟨ds, rfl, q⟩; rfl
end
end MT

set_option Elab.async false
set_option linter.all false
set_option maxRecDepth 100000
set_option maxHeartbeats 4000000
/-! MT over Mini: calls, comprehensions, expressions. -/
namespace MT
open Mini (S O2 Cm Bi Bm Ty T Hk D Tr big ixN atI cut rep small64 b2 get1 put1 putD splitS joinS intS intOf sortS sortR minI putAll isNon grpG clause Hh)
/-! ### calls -/
section
variable {A A' : Hh} {F F' : Nat → Prop} {μ μ' : List Nat} {M M' : Hp}
theorem RV.down (f : ∀ n, F n → F' n) {v : V} {d : D} (h : RV A F' v d) : RV A F v d := h.mono fun n o a b => ⟨b, fun z => a (f n z)⟩
theorem RVs.down (f : ∀ n, F n → F' n) {v : List V} {d : List D} (h : RVs A F' v d) : RVs A F v d := h.mono fun n o a b => ⟨b, fun z => a (f n z)⟩
theorem RX.down (f : ∀ n, F n → F' n) {v : Option V} {d : Option D} (h : RX A F' v d) : RX A F v d := by
  cases v with
  | none => exact h
  | some v => obtain ⟨x, e, q⟩ := h; exact ⟨x, e, q.down f⟩
theorem mapW_ok {f : W → Option V} (ih : ∀ {w : W} {v : V} {d : D}, f w = some v → RW A F' μ' w d → RV A F v d) : ∀ {ws : List W} {vs : List V} {ds : List D}, ws.mapM f = some vs → RWs A F' μ' ws ds → RVs A F vs ds
  | _, vs, _, e, .nil => by cases e; exact .nil
  | w :: ws, vs, _, e, .cons h1 h2 => by
    rw [List.mapM_cons] at e
    cases e1 : f w with
    | none => rw [e1] at e; cases e
    | some v =>
      rw [e1] at e
      cases e2 : ws.mapM f with
      | none => rw [e2] at e; cases e
      | some q =>
        rw [e2] at e
        cases e
        exact .cons (ih e1 h1) (mapW_ok ih e2 h2)
theorem mapM_len {α β : Type} {f : α → Option β} : ∀ {l : List α} {r : List β}, l.mapM f = some r → l.length = r.length
  | [], r, e => by cases e; rfl
  | a :: l, r, e => by
    rw [List.mapM_cons] at e
    cases e1 : f a with
    | none => rw [e1] at e; cases e
    | some v =>
      rw [e1] at e
      cases e2 : l.mapM f with
      | none => rw [e2] at e; cases e
      | some q => rw [e2] at e; cases e; simp [mapM_len e2]
theorem snap_ok {n : Nat} (r : Rel A μ' F' M') (hp : ∀ k p, n ≤ k → μ'[k]? = some p → ¬ F p) (f : ∀ n, F n → F' n) : ∀ {m : Nat} {w : W} {v : V} {d : D}, snap M' n m w = some v → RW A F' μ' w d → RV A F v d
  | _, .t u, v, d, e, h => by unfold snap at e; cases e; exact RV.down f h
  | 0, .h k, v, d, e, h => by unfold snap at e; cases e
  | m + 1, .h k, v, d, e, h => by
    obtain ⟨p, rfl, hm⟩ := h
    unfold snap at e
    split at e
    · cases e
    · rename_i c
      have hk : n ≤ k := by simpa using c
      obtain ⟨ob, e1, e2⟩ := Option.bind_eq_some_iff.mp e
      obtain ⟨o, a, q⟩ := r.at_ k p _ hm e1
      have nF := hp k p hk hm
      have ih : ∀ {w : W} {v : V} {d : D}, snap M' n m w = some v → RW A F' μ' w d → RV A F v d := fun e h => snap_ok r hp f e h
      cases ob with
      | lst xs => cases e2; obtain ⟨ds, rfl, q⟩ := q; unfold RV; exact ⟨p, ds, rfl, nF, a, q.down f⟩
      | lsw ws =>
        obtain ⟨vs, e3, e4⟩ := Option.map_eq_some_iff.mp e2
        subst e4
        obtain ⟨ds, rfl, q⟩ := q
        unfold RV
        exact ⟨p, ds, rfl, nF, a, mapW_ok ih e3 q⟩
      | dk kvs =>
        obtain ⟨vs, e3, e4⟩ := Option.map_eq_some_iff.mp e2
        subst e4
        obtain ⟨ds, rfl, q⟩ := q
        unfold RV
        exact ⟨p, ds, rfl, nF, by have := q.len; simpa using this, a, mapW_ok ih e3 q⟩
      | dt kvs =>
        obtain ⟨vs, e3, e4⟩ := Option.map_eq_some_iff.mp e2
        subst e4
        obtain ⟨ds, rfl, q⟩ := q
        unfold RV
        exact ⟨p, ds, rfl, nF, by have := q.len; simpa using this, a, mapW_ok ih e3 q⟩
      | ins c kvs =>
        obtain ⟨vs, e3, e4⟩ := Option.map_eq_some_iff.mp e2
        subst e4
        obtain ⟨ds, rfl, q⟩ := q
        unfold RV
        exact ⟨p, ds, rfl, nF, by have := q.len; simpa using this, a, mapW_ok ih e3 q⟩
theorem RW.low {e : List Nat} {w : W} {d : D} (hl : w.low μ.length = true) (f : ∀ n, F n → F' n) (h : RW A F' (μ ++ e) w d) : RW A F μ w d := by
  cases w with
  | t v => exact RV.down f h
  | h k =>
    obtain ⟨n, rfl, hm⟩ := h
    have hk : k < μ.length := by simpa [W.low] using hl
    exact ⟨n, rfl, by rw [List.getElem?_append_left hk] at hm; exact hm⟩
theorem RWs.low {e : List Nat} (f : ∀ n, F n → F' n) : ∀ {ws : List W} {ds : List D}, ws.all (W.low μ.length) = true → RWs A F' (μ ++ e) ws ds → RWs A F μ ws ds
  | _, _, _, .nil => .nil
  | w :: ws, _, hl, .cons h1 h2 => by
    rw [List.all_cons, Bool.and_eq_true] at hl
    exact .cons (h1.low hl.1 f) (RWs.low f hl.2 h2)
theorem RO.low {e : List Nat} {ob : Ob} {o : Mini.Ob} (hl : ob.low μ.length = true) (f : ∀ n, F n → F' n) (h : RO A F' (μ ++ e) ob o) : RO A F μ ob o := by
  cases ob with
  | lst xs => obtain ⟨ds, e, q⟩ := h; exact ⟨ds, e, q.down f⟩
  | lsw xs => obtain ⟨ds, e, q⟩ := h; exact ⟨ds, e, q.low f hl⟩
  | dk xs => obtain ⟨ds, e, q⟩ := h; exact ⟨ds, e, q.low f hl⟩
  | dt xs => obtain ⟨ds, e, q⟩ := h; exact ⟨ds, e, q.low f hl⟩
  | ins c xs => obtain ⟨ds, e, q⟩ := h; exact ⟨ds, e, q.low f hl⟩
theorem lows_get : ∀ {M : Hp} {n k : Nat} {o : Ob}, lows n M = true → M[k]? = some o → o.low n = true
  | [], _, _, _, _, e => by simp at e
  | a :: r, n, 0, o, h, e => by unfold lows at h; rw [Bool.and_eq_true] at h; simp at e; subst e; exact h.1
  | a :: r, n, k + 1, o, h, e => by unfold lows at h; rw [Bool.and_eq_true] at h; exact lows_get h.2 (by simpa using e)
/-- behind a call: its own things have no place any more -/
theorem back_ok (r0 : Rel A μ F M) (x : Ext A μ F A' μ' F') (r : Rel A' μ' F' M') (hl : lows M.length (M'.take M.length) = true) : Ext A μ F A' μ F ∧ Rel A' μ F (M'.take M.length) := by
  obtain ⟨e, rfl, he⟩ := x.pre
  have hn : μ.length = M.length := r0.len
  have hM : M'.length = (μ ++ e).length := r.len.symm
  refine ⟨⟨x.le, x.keep, ⟨[], by simp, by simp⟩, fun _ h => h, fun _ h => .inl h⟩, ⟨?_, r0.nd, r0.sub, fun n h => Nat.lt_of_lt_of_le (r0.lt n h) x.le, fun k n ob h1 h2 => ?_⟩⟩
  · rw [List.length_take, hM]; simp; omega
  · have hk : k < μ.length := lt_of_get h1
    rw [List.getElem?_take_of_lt (by omega)] at h2
    obtain ⟨o, a, q⟩ := r.at_ k n ob (by rw [List.getElem?_append_left hk]; exact h1) h2
    refine ⟨o, a, RO.low (e := e) ?_ x.up q⟩
    rw [hn]
    exact lows_get (k := k) hl (by rw [List.getElem?_take_of_lt (by omega)]; exact h2)
theorem new_not (r0 : Rel A μ F M) (x : Ext A μ F A' μ' F') {k p : Nat} (hk : M.length ≤ k) (e : μ'[k]? = some p) : ¬ F p := by
  obtain ⟨e', rfl, he⟩ := x.pre
  rw [List.getElem?_append_right (by rw [r0.len]; exact hk)] at e
  intro z
  have := he p (List.mem_of_getElem? e)
  have := r0.lt p z
  omega
theorem fin_ok (r0 : Rel A μ F M) {rt : RT W} {rm : Mini.R D} (h : Sim A μ F rt rm GW) : Sim A μ F (fin M.length rt) rm GW := by
  cases rt with
  | bad => exact trivial
  | exc c x M' =>
    obtain ⟨y, A', μ', F', rfl, ex, r, q⟩ := h
    unfold fin
    dsimp only
    split
    · rename_i hl
      obtain ⟨b1, b2⟩ := back_ok r0 ex r hl
      exact ⟨y, A', μ, F, rfl, b1, b2, q.down ex.up⟩
    · exact trivial
  | ok w M' =>
    obtain ⟨d, A', μ', F', rfl, ex, r, q⟩ := h
    unfold fin
    dsimp only
    split
    · rename_i hl
      obtain ⟨b1, b2⟩ := back_ok r0 ex r hl
      cases w with
      | t v => exact ⟨d, A', μ, F, rfl, b1, b2, RV.down ex.up q⟩
      | h k =>
        dsimp only
        split
        · rename_i c
          have hk : k < M.length := by simpa using c
          obtain ⟨e, rfl, he⟩ := ex.pre
          exact ⟨d, A', μ, F, rfl, b1, b2, RW.low (e := e) (by rw [r0.len]; exact c) ex.up q⟩
        · split
          · rename_i v e
            exact ⟨d, A', μ, F, rfl, b1, b2, snap_ok r (fun k p hk hp => new_not r0 ex hk hp) ex.up e q⟩
          · exact trivial
    · exact trivial
theorem Rel.none (r : Rel A μ F M) : Rel A [] F [] := ⟨rfl, List.nodup_nil, fun _ h => (by cases h), r.lt, fun k n ob h => (by simp at h)⟩
theorem isTs_ok : ∀ {ws : List W} {ds : List D}, isTs ws = true → RWs A F μ ws ds → RWs A F [] ws ds
  | _, _, _, .nil => .nil
  | .t v :: ws, _, h, .cons h1 h2 => .cons h1 (isTs_ok h h2)
  | .h k :: ws, _, h, .cons h1 h2 => by cases h
/-- a run of one's own -/
theorem own_ok (r0 : Rel A μ F M) {rt : RT W} {rm : Mini.R D} (h : Sim A [] F rt rm GW) : Sim A μ F (onM M (fin 0 rt)) rm GW := by
  have z := fin_ok (M := []) r0.none h
  revert z
  show Sim A [] F (fin 0 rt) rm GW → _
  cases e : fin 0 rt with
  | bad => exact fun _ => trivial
  | exc c x M' =>
    rintro ⟨y, A', μ', F', rfl, ex, r, q⟩
    have ex0 : Ext A [] F A' [] F := ⟨ex.le, ex.keep, ⟨[], rfl, by simp⟩, fun _ h => h, fun _ h => .inl h⟩
    exact ⟨y, A', μ, F, rfl, ⟨ex.le, fun n h _ => ex.keep n h (by simp), ⟨[], by simp, by simp⟩, fun _ h => h, fun _ h => .inl h⟩, r0.more ex0, q.down ex.up⟩
  | ok w M' =>
    rintro ⟨d, A', μ', F', rfl, ex, r, q⟩
    have ex0 : Ext A [] F A' [] F := ⟨ex.le, ex.keep, ⟨[], rfl, by simp⟩, fun _ h => h, fun _ h => .inl h⟩
    have ht : ∃ v, w = .t v := by
      cases rt with
      | bad => cases e
      | exc c x M2 => unfold fin at e; dsimp only at e; split at e <;> cases e
      | ok w2 M2 =>
        unfold fin at e
        dsimp only at e
        split at e
        · cases w2 with
          | t v => cases e; exact ⟨v, rfl⟩
          | h k =>
            dsimp only at e
            split at e
            · rename_i c; simp at c
            · split at e
              · cases e; exact ⟨_, rfl⟩
              · cases e
        · cases e
    obtain ⟨v, rfl⟩ := ht
    exact ⟨d, A', μ, F, rfl, ⟨ex.le, fun n h _ => ex.keep n h (by simp), ⟨[], by simp, by simp⟩, fun _ h => h, fun _ h => .inl h⟩, r0.more ex0, RV.down ex.up q⟩
end
def CallOk (C : Call) (Cm : Mini.Call) : Prop := ∀ (f : Nat) (ws : List W) (ds : List D) (A : Hh) (μ : List Nat) (F : Nat → Prop) (M : Hp), Rel A μ F M → RWs A F μ ws ds → Sim A μ F (C f ws M) (Cm f ds A) GW
section
variable {C : Call} {Cm : Mini.Call} {A : Hh} {F : Nat → Prop} {μ : List Nat} {M : Hp}
theorem cook_ok (hC : CallOk C Cm) (r : Rel A μ F M) {f : Nat} {ws : List W} {ds : List D} (h : RWs A F μ ws ds) : Sim A μ F (cook C f ws M) (Cm f ds A) GW := by
  unfold cook
  split
  · rename_i e
    exact own_ok r (hC f ws ds A [] F [] r.none (isTs_ok e h))
  · exact fin_ok r (hC f ws ds A μ F M r h)
/-! ### walks -/
def SimE (fe : Env → Hp → RT W) (ge : Mini.Env → Hh → Mini.R D) : Prop := ∀ (A : Hh) (μ : List Nat) (F : Nat → Prop) (M : Hp) (v : Env) (u : Mini.Env), Rel A μ F M → RE A F μ v u → Sim A μ F (fe v M) (ge u A) GW
abbrev GB : Bool → Bool → Hh → List Nat → (Nat → Prop) → Hp → Prop := fun a b _ _ _ _ => a = b
def SimC (fe : Env → Hp → RT Bool) (ge : Mini.Env → Hh → Mini.R Bool) : Prop := ∀ (A : Hh) (μ : List Nat) (F : Nat → Prop) (M : Hp) (v : Env) (u : Mini.Env), Rel A μ F M → RE A F μ v u → Sim A μ F (fe v M) (ge u A) GB
abbrev GI : It → Mini.It → Hh → List Nat → (Nat → Prop) → Hp → Prop := fun a b A μ F _ => RIt A F μ a b
def SimI (fe : Env → Hp → RT It) (ge : Mini.Env → Hh → Mini.R Mini.It) : Prop := ∀ (A : Hh) (μ : List Nat) (F : Nat → Prop) (M : Hp) (v : Env) (u : Mini.Env), Rel A μ F M → RE A F μ v u → Sim A μ F (fe v M) (ge u A) GI
abbrev GO : Option V → Option D → Hh → List Nat → (Nat → Prop) → Hp → Prop := fun a b A _ F _ => match a with | none => b = none | some v => ∃ d, b = some d ∧ RV A F v d
abbrev GVs : List V → List D → Hh → List Nat → (Nat → Prop) → Hp → Prop := fun a b A _ F _ => RVs A F a b
/-- a turn, from a start on -/
def SimT {α β : Type} (A0 : Hh) (μ0 : List Nat) (F0 : Nat → Prop) (f : Im → Hp → RT α) (g : D → Hh → Mini.R β) (G : α → β → Hh → List Nat → (Nat → Prop) → Hp → Prop) : Prop :=
  ∀ (A : Hh) (μ : List Nat) (F : Nat → Prop) (M : Hp) (m : Im) (d : D), Ext A0 μ0 F0 A μ F → Rel A μ F M → RIm A F μ m d → Sim A μ F (f m M) (g d A) G
variable {A0 : Hh} {μ0 : List Nat} {F0 : Nat → Prop}
theorem lcL_ok {f : Im → Hp → RT (Option V)} {g : D → Hh → Mini.R (Option D)} (hf : SimT A0 μ0 F0 f g GO) {full : List V} {it : Mini.It} : ∀ (rest : List V) (A : Hh) (μ : List Nat) (F : Nat → Prop) (M : Hp) (acc : List V) (dacc : List D) (i fuel : Nat),
    Ext A0 μ0 F0 A μ F → Rel A μ F M → SeqR A F full it → full.drop i = rest → RVs A F acc dacc → rest.length < fuel → Sim A μ F (lcL f rest acc M) (Mini.lcGo g it fuel i dacc A) GVs
  | [], A, μ, F, M, acc, dacc, i, 0, _, _, _, _, _, hl => by simp at hl
  | [], A, μ, F, M, acc, dacc, i, m + 1, x, r, hs, hd, ha, hl => by
    unfold lcL Mini.lcGo
    rcases hs.at_ i with ⟨_, e⟩ | ⟨y, d, e, _, _⟩
    · rw [e]; exact Sim.ok r ha
    · have : full.length ≤ i := by have := congrArg List.length hd; simp at this; omega
      rw [List.getElem?_eq_none this] at e; cases e
  | y :: rest, A, μ, F, M, acc, dacc, i, 0, _, _, _, _, _, hl => by simp at hl
  | y :: rest, A, μ, F, M, acc, dacc, i, m + 1, x, r, hs, hd, ha, hl => by
    unfold lcL Mini.lcGo
    have e0 : full[i]? = some y := by
      have := congrArg (fun l : List V => l[0]?) hd
      simpa using this
    have hd' : full.drop (i + 1) = rest := by
      have := congrArg (fun l : List V => l.drop 1) hd
      simpa using this
    rcases hs.at_ i with ⟨e, _⟩ | ⟨y', d, e, e1, hv⟩
    · rw [e0] at e; cases e
    rw [e0] at e
    cases e
    rw [e1]
    dsimp only
    have z := hf A μ F M (.one (.t y)) d x r hv
    revert z
    cases f (.one (.t y)) M with
    | bad => exact fun _ => trivial
    | exc c z M' => exact fun _ => trivial
    | ok o M' =>
      rintro ⟨b, A', μ', F', e2, x2, r2, q⟩
      rw [e2]
      cases o with
      | none =>
        have q : b = none := q
        subst q
        exact Sim.up x2 (lcL_ok hf rest A' μ' F' M' acc dacc (i + 1) m (x.trans x2) r2 (hs.ext x2 r.sub) hd' (ha.ext x2 r.sub) (by simp at hl; omega))
      | some v =>
        obtain ⟨d', rfl, q⟩ := q
        dsimp only
        rw [← ha.len]
        split
        · exact Sim.up x2 (lcL_ok hf rest A' μ' F' M' (acc ++ [v]) (dacc ++ [d']) (i + 1) m (x.trans x2) r2 (hs.ext x2 r.sub) hd' ((ha.ext x2 r.sub).app (.cons q .nil)) (by simp at hl; omega))
        · exact trivial
def itH (en : Bool) (n : Nat) : Mini.It := if en then .enumL n else .lst n
theorem itH_at {en : Bool} {n i : Nat} {ds : List D} (a : A[n]? = some (.lst ds)) : (itH en n).at A i = some (ds[i]?.map fun d => if en then .tup [.int i, d] else d) := by
  cases en with
  | false =>
    show (match A[n]? with | some (Mini.Ob.lst xs) => some xs[i]? | _ => none) = _
    rw [a]; simp
  | true =>
    show (match A[n]? with | some (Mini.Ob.lst xs) => some (xs[i]?.map fun d => D.tup [.int i, d]) | _ => none) = _
    rw [a]; simp
theorem imOf_ok {en : Bool} {i : Nat} {w : W} {d : D} (h : RW A F μ w d) : RIm A F μ (imOf en i w) (if en then .tup [.int i, d] else d) := by
  cases en with
  | false => exact h
  | true => exact ⟨d, rfl, h⟩
theorem lcH_ok {f : Im → Hp → RT (Option V)} {g : D → Hh → Mini.R (Option D)} (hf : SimT A0 μ0 F0 f g GO) {en : Bool} {k n : Nat} : ∀ (m : Nat) (A : Hh) (μ : List Nat) (F : Nat → Prop) (M : Hp) (acc : List V) (dacc : List D) (i : Nat),
    Ext A0 μ0 F0 A μ F → Rel A μ F M → μ[k]? = some n → RVs A F acc dacc → Sim A μ F (lcH f en k m i acc M) (Mini.lcGo g (itH en n) m i dacc A) GVs
  | 0, _, _, _, _, _, _, _, _, _, _, _ => by unfold lcH; exact trivial
  | m + 1, A, μ, F, M, acc, dacc, i, x, r, hk, ha => by
    unfold lcH Mini.lcGo
    cases e : obAt M k i with
    | none => exact trivial
    | some o =>
      obtain ⟨ds, a, q⟩ := obAt_ok r hk e
      rw [itH_at a]
      cases o with
      | none => have q : ds[i]? = none := q; rw [q]; exact Sim.ok r ha
      | some w =>
        obtain ⟨d, e1, hw⟩ := q
        rw [e1]
        dsimp only [Option.map_some]
        have z := hf A μ F M (imOf en i w) _ x r (imOf_ok (i := i) hw)
        revert z
        cases f (imOf en i w) M with
        | bad => exact fun _ => trivial
        | exc c z M' => exact fun _ => trivial
        | ok o M' =>
          rintro ⟨b, A', μ', F', e2, x2, r2, q⟩
          rw [e2]
          cases o with
          | none =>
            have q : b = none := q
            subst q
            exact Sim.up x2 (lcH_ok hf m A' μ' F' M' acc dacc (i + 1) (x.trans x2) r2 (x2.get hk) (ha.ext x2 r.sub))
          | some v =>
            obtain ⟨d', rfl, q⟩ := q
            dsimp only
            rw [← ha.len]
            split
            · exact Sim.up x2 (lcH_ok hf m A' μ' F' M' (acc ++ [v]) (dacc ++ [d']) (i + 1) (x.trans x2) r2 (x2.get hk) ((ha.ext x2 r.sub).app (.cons q .nil)))
            · exact trivial
theorem lcG_ok {f : Im → Hp → RT (Option V)} {g : D → Hh → Mini.R (Option D)} (hf : SimT A μ F f g GO) (r : Rel A μ F M) {it : It} {it' : Mini.It} (h : RIt A F μ it it') : Sim A μ F (lcG f it M) (Mini.lcGo g it' (it'.size A + 1) 0 [] A) GVs := by
  cases it with
  | seq xs =>
    have h : SeqR A F xs it' := h
    exact lcL_ok hf xs A μ F M [] [] 0 _ .refl r h (by simp) .nil (by rw [h.size]; omega)
  | hl k =>
    obtain ⟨n, rfl, hk⟩ := h
    have z := lcH_ok hf (en := false) (n := n) (obLen M k + 1) A μ F M [] [] 0 .refl r hk .nil
    rw [← obLen_ok r hk] at z
    unfold lcG
    dsimp only
    rw [← obLen_ok r hk]
    exact z
  | hen k =>
    obtain ⟨n, rfl, hk⟩ := h
    have z := lcH_ok hf (en := true) (n := n) (obLen M k + 1) A μ F M [] [] 0 .refl r hk .nil
    rw [← obLen_ok r hk] at z
    unfold lcG
    dsimp only
    rw [← obLen_ok r hk]
    exact z
/-! two clauses -/
def SimT2 (A0 : Hh) (μ0 : List Nat) (F0 : Nat → Prop) (f : Im → List V → Hp → RT (List V)) (g : D → List D → Hh → Mini.R (List D)) : Prop :=
  ∀ (A : Hh) (μ : List Nat) (F : Nat → Prop) (M : Hp) (m : Im) (d : D) (acc : List V) (dacc : List D), Ext A0 μ0 F0 A μ F → Rel A μ F M → RIm A F μ m d → RVs A F acc dacc → Sim A μ F (f m acc M) (g d dacc A) GVs
theorem lcL2_ok {f : Im → List V → Hp → RT (List V)} {g : D → List D → Hh → Mini.R (List D)} (hf : SimT2 A0 μ0 F0 f g) {full : List V} {it : Mini.It} : ∀ (rest : List V) (A : Hh) (μ : List Nat) (F : Nat → Prop) (M : Hp) (acc : List V) (dacc : List D) (i fuel : Nat),
    Ext A0 μ0 F0 A μ F → Rel A μ F M → SeqR A F full it → full.drop i = rest → RVs A F acc dacc → rest.length < fuel → Sim A μ F (lcL2 f rest acc M) (Mini.lcGo2 g it fuel i dacc A) GVs
  | [], A, μ, F, M, acc, dacc, i, 0, _, _, _, _, _, hl => by simp at hl
  | [], A, μ, F, M, acc, dacc, i, m + 1, x, r, hs, hd, ha, hl => by
    unfold lcL2 Mini.lcGo2
    rcases hs.at_ i with ⟨_, e⟩ | ⟨y, d, e, _, _⟩
    · rw [e]; exact Sim.ok r ha
    · have : full.length ≤ i := by have := congrArg List.length hd; simp at this; omega
      rw [List.getElem?_eq_none this] at e; cases e
  | y :: rest, A, μ, F, M, acc, dacc, i, 0, _, _, _, _, _, hl => by simp at hl
  | y :: rest, A, μ, F, M, acc, dacc, i, m + 1, x, r, hs, hd, ha, hl => by
    unfold lcL2 Mini.lcGo2
    have e0 : full[i]? = some y := by
      have := congrArg (fun l : List V => l[0]?) hd
      simpa using this
    have hd' : full.drop (i + 1) = rest := by
      have := congrArg (fun l : List V => l.drop 1) hd
      simpa using this
    rcases hs.at_ i with ⟨e, _⟩ | ⟨y', d, e, e1, hv⟩
    · rw [e0] at e; cases e
    rw [e0] at e
    cases e
    rw [e1]
    dsimp only
    have z := hf A μ F M (.one (.t y)) d acc dacc x r hv ha
    revert z
    cases f (.one (.t y)) acc M with
    | bad => exact fun _ => trivial
    | exc c z M' => exact fun _ => trivial
    | ok o M' =>
      rintro ⟨b, A', μ', F', e2, x2, r2, q⟩
      rw [e2]
      exact Sim.up x2 (lcL2_ok hf rest A' μ' F' M' o b (i + 1) m (x.trans x2) r2 (hs.ext x2 r.sub) hd' q (by simp at hl; omega))
theorem lcH2_ok {f : Im → List V → Hp → RT (List V)} {g : D → List D → Hh → Mini.R (List D)} (hf : SimT2 A0 μ0 F0 f g) {en : Bool} {k n : Nat} : ∀ (m : Nat) (A : Hh) (μ : List Nat) (F : Nat → Prop) (M : Hp) (acc : List V) (dacc : List D) (i : Nat),
    Ext A0 μ0 F0 A μ F → Rel A μ F M → μ[k]? = some n → RVs A F acc dacc → Sim A μ F (lcH2 f en k m i acc M) (Mini.lcGo2 g (itH en n) m i dacc A) GVs
  | 0, _, _, _, _, _, _, _, _, _, _, _ => by unfold lcH2; exact trivial
  | m + 1, A, μ, F, M, acc, dacc, i, x, r, hk, ha => by
    unfold lcH2 Mini.lcGo2
    cases e : obAt M k i with
    | none => exact trivial
    | some o =>
      obtain ⟨ds, a, q⟩ := obAt_ok r hk e
      rw [itH_at a]
      cases o with
      | none => have q : ds[i]? = none := q; rw [q]; exact Sim.ok r ha
      | some w =>
        obtain ⟨d, e1, hw⟩ := q
        rw [e1]
        dsimp only [Option.map_some]
        have z := hf A μ F M (imOf en i w) _ acc dacc x r (imOf_ok (i := i) hw) ha
        revert z
        cases f (imOf en i w) acc M with
        | bad => exact fun _ => trivial
        | exc c z M' => exact fun _ => trivial
        | ok o M' =>
          rintro ⟨b, A', μ', F', e2, x2, r2, q⟩
          rw [e2]
          exact Sim.up x2 (lcH2_ok hf m A' μ' F' M' o b (i + 1) (x.trans x2) r2 (x2.get hk) q)
theorem lcG2_ok {f : Im → List V → Hp → RT (List V)} {g : D → List D → Hh → Mini.R (List D)} (hf : SimT2 A μ F f g) (r : Rel A μ F M) {it : It} {it' : Mini.It} (h : RIt A F μ it it') {acc : List V} {dacc : List D} (ha : RVs A F acc dacc) :
    Sim A μ F (lcG2 f it acc M) (Mini.lcGo2 g it' (it'.size A + 1) 0 dacc A) GVs := by
  cases it with
  | seq xs =>
    have h : SeqR A F xs it' := h
    exact lcL2_ok hf xs A μ F M acc dacc 0 _ .refl r h (by simp) ha (by rw [h.size]; omega)
  | hl k =>
    obtain ⟨n, rfl, hk⟩ := h
    have z := lcH2_ok hf (en := false) (n := n) (obLen M k + 1) A μ F M acc dacc 0 .refl r hk ha
    rw [← obLen_ok r hk] at z
    unfold lcG2
    dsimp only
    rw [← obLen_ok r hk]
    exact z
  | hen k =>
    obtain ⟨n, rfl, hk⟩ := h
    have z := lcH2_ok hf (en := true) (n := n) (obLen M k + 1) A μ F M acc dacc 0 .refl r hk ha
    rw [← obLen_ok r hk] at z
    unfold lcG2
    dsimp only
    rw [← obLen_ok r hk]
    exact z
/-! dicts -/
abbrev GP : S × V → S × D → Hh → List Nat → (Nat → Prop) → Hp → Prop := fun a b A _ F _ => a.1 = b.1 ∧ RV A F a.2 b.2
abbrev GD : List S × List V → List (S × D) → Hh → List Nat → (Nat → Prop) → Hp → Prop := fun a b A _ F _ => Pr (RV A F) (a.1.zip a.2) b ∧ a.1.length = a.2.length
theorem Pr.ext {κ : Type} {A' : Hh} {μ' : List Nat} {F' : Nat → Prop} (x : Ext A μ F A' μ' F') (sub : ∀ n ∈ μ, F n) {l : List (κ × V)} {m : List (κ × D)} (h : Pr (RV A F) l m) : Pr (RV A' F') l m := by
  induction h with
  | nil => exact .nil
  | cons h1 _ ih => exact .cons (h1.ext x sub) ih
theorem dcL_ok {f : Im → Hp → RT (S × V)} {g : D → Hh → Mini.R (S × D)} (hf : SimT A0 μ0 F0 f g GP) {full : List V} {it : Mini.It} : ∀ (rest : List V) (A : Hh) (μ : List Nat) (F : Nat → Prop) (M : Hp) (ks : List S) (vs : List V) (m0 : List (S × D)) (i fuel : Nat),
    Ext A0 μ0 F0 A μ F → Rel A μ F M → SeqR A F full it → full.drop i = rest → Pr (RV A F) (ks.zip vs) m0 → ks.length = vs.length → rest.length < fuel → Sim A μ F (dcL f rest ks vs M) (Mini.dcGo g it fuel i m0 A) GD
  | [], A, μ, F, M, ks, vs, m0, i, 0, _, _, _, _, _, _, hl => by simp at hl
  | [], A, μ, F, M, ks, vs, m0, i, m + 1, x, r, hs, hd, ha, hn, hl => by
    unfold dcL Mini.dcGo
    rcases hs.at_ i with ⟨_, e⟩ | ⟨y, d, e, _, _⟩
    · rw [e]; exact Sim.ok r ⟨ha, hn⟩
    · have : full.length ≤ i := by have := congrArg List.length hd; simp at this; omega
      rw [List.getElem?_eq_none this] at e; cases e
  | y :: rest, A, μ, F, M, ks, vs, m0, i, 0, _, _, _, _, _, _, hl => by simp at hl
  | y :: rest, A, μ, F, M, ks, vs, m0, i, m + 1, x, r, hs, hd, ha, hn, hl => by
    unfold dcL Mini.dcGo
    have e0 : full[i]? = some y := by
      have := congrArg (fun l : List V => l[0]?) hd
      simpa using this
    have hd' : full.drop (i + 1) = rest := by
      have := congrArg (fun l : List V => l.drop 1) hd
      simpa using this
    rcases hs.at_ i with ⟨e, _⟩ | ⟨y', d, e, e1, hv⟩
    · rw [e0] at e; cases e
    rw [e0] at e
    cases e
    rw [e1]
    dsimp only
    have z := hf A μ F M (.one (.t y)) d x r hv
    revert z
    cases f (.one (.t y)) M with
    | bad => exact fun _ => trivial
    | exc c z M' => exact fun _ => trivial
    | ok o M' =>
      rintro ⟨b, A', μ', F', e2, x2, r2, q⟩
      rw [e2]
      obtain ⟨k, d'⟩ := b
      obtain ⟨k', v⟩ := o
      obtain ⟨q1, q2⟩ := q
      dsimp only at q1 q2
      subst q1
      dsimp only
      have hln : m0.length = ks.length := by rw [← ha.len]; simp [hn]
      rw [hln]
      split
      · obtain ⟨z1, z2⟩ := set_ok (k := k') (ha.ext x2 r.sub) q2
        exact Sim.up x2 (dcL_ok hf rest A' μ' F' M' _ _ _ (i + 1) m (x.trans x2) r2 (hs.ext x2 r.sub) hd' z1 z2 (by simp at hl; omega))
      · exact trivial
/-! turns -/
theorem tree_ok (r : Rel A μ F M) {w : W} {d : D} (h : RW A F μ w d) : Sim A μ F (tree w M) (.ok d A) (fun v d A _ F _ => RV A F v d) := by
  cases w with
  | t v => exact Sim.ok r h
  | h k => exact trivial
theorem lcF_ok {t : T} {own : List Nat} {v : Env} {u : Mini.Env} {fc : Env → Hp → RT Bool} {fe : Env → Hp → RT W} {gc : Mini.Env → Hh → Mini.R Bool} {ge : Mini.Env → Hh → Mini.R D} (hc : SimC fc gc) (he : SimE fe ge) (sub : ∀ n ∈ μ, F n) (re : RE A F μ v u) :
    SimT A μ F (lcF t own v fc fe) (Mini.lcF t own u gc ge) GO := by
  intro A1 μ1 F1 M1 m d x r hm
  unfold lcF Mini.lcF
  cases e : putT (wipeE v own) m t with
  | none => exact trivial
  | some v' =>
    obtain ⟨u', e1, re'⟩ := put_ok ((re.ext x sub).wipe own) hm e
    rw [e1]
    dsimp only
    refine Sim.bind (hc _ _ _ _ _ _ r re') fun b M2 b' A2 μ2 F2 x2 r2 hb => ?_
    have hb : b = b' := hb
    subst hb
    split
    · refine Sim.bind (β := D) (r := ge u' A2) (k := fun y A => .ok (some y) A) (he _ _ _ _ _ _ r2 (re'.ext x2 r.sub)) fun y M3 y' A3 μ3 F3 x3 r3 hy => ?_
      cases y with
      | t y => exact Sim.ok r3 ⟨y', rfl, hy⟩
      | h k => exact trivial
    · exact Sim.ok r2 rfl
theorem lcF1_ok {t1 : T} {own1 : List Nat} {v : Env} {u : Mini.Env} {fe : Env → Hp → RT W} {ge : Mini.Env → Hh → Mini.R D} (he : SimE fe ge) (sub : ∀ n ∈ μ, F n) (re : RE A F μ v u) : SimT2 A μ F (lcF1 t1 own1 v fe) (Mini.lcF1 t1 own1 u ge) := by
  intro A1 μ1 F1 M1 m d acc dacc x r hm ha
  unfold lcF1 Mini.lcF1
  cases e : putT (wipeE v own1) m t1 with
  | none => exact trivial
  | some v' =>
    obtain ⟨u', e1, re'⟩ := put_ok ((re.ext x sub).wipe own1) hm e
    rw [e1]
    dsimp only
    refine Sim.bind (he _ _ _ _ _ _ r re') fun y M3 y' A3 μ3 F3 x3 r3 hy => ?_
    cases y with
    | t y =>
      show Sim A3 μ3 F3 (if Nat.blt acc.length 16777216 then .ok (acc ++ [y]) M3 else .bad) _ GVs
      rw [ha.len]
      split
      · exact Sim.ok r3 ((ha.ext x3 r.sub).app (.cons hy .nil))
      · exact trivial
    | h k => exact trivial
theorem lcF2_ok {t : T} {own : List Nat} {v : Env} {u : Mini.Env} {fi : Env → Hp → RT It} {gi : Mini.Env → Hh → Mini.R Mini.It} {f1 : Env → Im → List V → Hp → RT (List V)} {g1 : Mini.Env → D → List D → Hh → Mini.R (List D)} (hi : SimI fi gi)
    (h1 : ∀ A μ F v u, (∀ n ∈ μ, F n) → RE A F μ v u → SimT2 A μ F (f1 v) (g1 u)) (sub : ∀ n ∈ μ, F n) (re : RE A F μ v u) : SimT2 A μ F (lcF2 t own v fi f1) (Mini.lcF2 t own u gi g1) := by
  intro A1 μ1 F1 M1 m d acc dacc x r hm ha
  unfold lcF2 Mini.lcF2
  cases e : putT (wipeE v own) m t with
  | none => exact trivial
  | some v' =>
    obtain ⟨u', e1, re'⟩ := put_ok ((re.ext x sub).wipe own) hm e
    rw [e1]
    dsimp only
    refine Sim.bind (hi _ _ _ _ _ _ r re') fun it M3 it' A3 μ3 F3 x3 r3 hy => ?_
    exact lcG2_ok (h1 _ _ _ _ _ r3.sub (re'.ext x3 r.sub)) r3 hy (ha.ext x3 r.sub)
theorem dcF_ok {t : T} {own : List Nat} {v : Env} {u : Mini.Env} {fk fe : Env → Hp → RT W} {gk ge : Mini.Env → Hh → Mini.R D} (hk : SimE fk gk) (he : SimE fe ge) (sub : ∀ n ∈ μ, F n) (re : RE A F μ v u) : SimT A μ F (dcF t own v fk fe) (Mini.dcF t own u gk ge) GP := by
  intro A1 μ1 F1 M1 m d x r hm
  unfold dcF Mini.dcF
  cases e : putT (wipeE v own) m t with
  | none => exact trivial
  | some v' =>
    obtain ⟨u', e1, re'⟩ := put_ok ((re.ext x sub).wipe own) hm e
    rw [e1]
    dsimp only
    refine Sim.bind (hk _ _ _ _ _ _ r re') fun y M2 y' A2 μ2 F2 x2 r2 hy => ?_
    split
    · have hy : RV A2 F2 (.str _) y' := hy
      unfold RV at hy; subst hy
      dsimp only
      refine Sim.bind (he _ _ _ _ _ _ r2 (re'.ext x2 r.sub)) fun z M3 z' A3 μ3 F3 x3 r3 hz => ?_
      cases z with
      | t z => exact Sim.ok r3 ⟨rfl, hz⟩
      | h k => exact trivial
    · exact trivial
end
end MT

set_option Elab.async false
set_option linter.all false
set_option maxRecDepth 100000
set_option maxHeartbeats 4000000
/-! MT over Mini: expressions. -/
namespace MT
open Mini (S O2 Cm Bi Bm Ty T Hk D Tr big ixN atI cut rep small64 b2 get1 put1 putD splitS joinS intS intOf sortS sortR minI putAll isNon grpG clause Hh)
section
variable {A : Hh} {F : Nat → Prop} {μ : List Nat} {M : Hp}
theorem con_ok {d : D} {v : V} (e : conV d = some v) : RV A F v d := by
  unfold conV at e
  split at e <;> first | (cases e; done) | (cases e; unfold RV; rfl)
mutual
theorem isC_ok : ∀ {v : V}, v.isC = true → RV A F v v.con
  | .non, _ => by unfold RV V.con; rfl
  | .bl _, _ => by unfold RV V.con; rfl
  | .int _, _ => by unfold RV V.con; rfl
  | .str _, _ => by unfold RV V.con; rfl
  | .tup xs, h => by unfold V.isC at h; unfold V.con; exact rv_tup (isCs_ok h)
  | .lst _, h => by cases h
  | .dk _ _, h => by cases h
  | .dt _ _, h => by cases h
  | .ins _ _ _, h => by cases h
  | .scr _, h => by cases h
theorem isCs_ok : ∀ {v : List V}, V.isCs v = true → RVs A F v (V.cons v)
  | [], _ => by unfold V.cons; exact .nil
  | v :: r, h => by unfold V.isCs at h; rw [Bool.and_eq_true] at h; unfold V.cons; exact .cons (isC_ok h.1) (isCs_ok h.2)
end
theorem cons_ok : ∀ {ds : List D} {vs : List V}, ds.mapM conV = some vs → RWs A F μ (vs.map .t) ds
  | [], vs, e => by cases e; exact .nil
  | d :: ds, vs, e => by
    rw [List.mapM_cons] at e
    cases e1 : conV d with
    | none => rw [e1] at e; cases e
    | some v =>
      rw [e1] at e
      cases e2 : ds.mapM conV with
      | none => rw [e2] at e; cases e
      | some q => rw [e2] at e; cases e; exact .cons (con_ok e1) (cons_ok e2)
abbrev GWs : List W → List D → Hh → List Nat → (Nat → Prop) → Hp → Prop := fun a b A μ F _ => RWs A F μ a b
theorem lstN_ok (r : Rel A μ F M) {l : Bool} {ws : List W} {ds : List D} (h : RWs A F μ ws ds) : Sim A μ F (lstN l ws M) (Mini.newL ds A) GW := by
  unfold lstN Mini.newL
  split
  · rename_i vs e; exact mkN_ok r (new_lst (trees_ok e h))
  · exact Sim.up (Ext.own r) (Sim.ok (r.own ⟨ds, rfl, h⟩) (RW.own r))
theorem putAll_nd {κ : Type} : ∀ {m m0 : List (S × D)}, (m0.map (·.1) ++ m.map (·.1)).Nodup → putAll m0 m = m0 ++ m
  | [], m0, _ => by simp [putAll]
  | (k, d) :: r, m0, h => by
    unfold putAll
    have hk : (m0.any fun kv => decide (kv.1 = k)) = false := by
      rw [List.any_eq_false]
      intro p hp e
      rw [decide_eq_true_eq] at e
      rw [List.nodup_append] at h
      exact h.2.2 p.1 (List.mem_map_of_mem hp) k (by simp) e
    have e1 : putD m0 k d = m0 ++ [(k, d)] := by unfold putD; rw [hk]; rfl
    rw [e1, putAll_nd (κ := κ) (by simpa using h)]
    simp
theorem dicN_ok (r : Rel A μ F M) {l : Bool} {ks : List S} {ws : List W} {ds : List D} (h : RWs A F μ ws ds) (hl : ks.length = ws.length) : Sim A μ F (dicN l ks ws M) (.ok (.ref A.length) (A ++ [.dk (putAll [] (ks.zip ds))])) GW := by
  unfold dicN
  split
  · rename_i vs e
    have q := trees_ok e h
    obtain ⟨z1, z2⟩ := puts_ok (pr_zip (ks := ks) q) (ks := []) (vs := []) (m0 := []) .nil rfl
    exact mkN_ok r (new_dk z1 z2)
  · split
    · rename_i nd
      have hd : ks.length = ds.length := by rw [hl, h.len]
      rw [putAll_nd (κ := Unit) (by rw [List.map_fst_zip (by omega)]; simpa using nd), List.nil_append]
      refine Sim.up (Ext.own r) (Sim.ok (r.own ⟨ds, ?_, ?_⟩) (RW.own r))
      · rw [List.map_fst_zip (by omega)]
      · rw [List.map_snd_zip (by omega)]; exact h
    · exact trivial
theorem asB_ok {rt : RT W} {rm : Mini.R D} (h : Sim A μ F rt rm GW) : Sim A μ F (asB rt) (Mini.asB rm) GW := by
  unfold asB
  split
  · obtain ⟨d, A', μ', F', rfl, ex, r, q⟩ := h
    have q : RV A' F' (.bl _) d := q
    unfold RV at q; subst q
    exact ⟨_, A', μ', F', rfl, ex, r, q⟩
  · exact trivial
theorem asN_ok {rt : RT W} {rm : Mini.R D} (h : Sim A μ F rt rm GW) : Sim A μ F (asN rt) (Mini.asN rm) GW := by
  unfold asN
  split
  · obtain ⟨d, A', μ', F', rfl, ex, r, q⟩ := h
    have q : RV A' F' (.int _) d := q
    unfold RV at q; subst q
    unfold Mini.asN
    dsimp only
    split
    · exact ⟨_, A', μ', F', rfl, ex, r, q⟩
    · exact trivial
  · exact trivial
theorem walk_ok (r : Rel A μ F M) {x : W} {d : D} {it : It} (e : walkT M x = some it) (h : RW A F μ x d) : ∃ it', Mini.walkOf d A = some it' ∧ RIt A F μ it it' := by
  unfold walkT at e
  split at e
  · cases e
    have h : RV A F _ d := h
    unfold RV at h; obtain ⟨ds, rfl, q⟩ := h
    exact ⟨_, rfl, .seq q⟩
  · cases e
    have h : RV A F _ d := h
    unfold RV at h; obtain ⟨n, ds, rfl, nF, a, q⟩ := h
    exact ⟨.lst n, by unfold Mini.walkOf; dsimp only; rw [a], .lst nF a q⟩
  · cases e
    have h : RV A F _ d := h
    unfold RV at h; subst h
    exact ⟨_, rfl, .chr⟩
  · cases e
    have h : RV A F _ d := h
    unfold RV at h; subst h
    exact ⟨_, rfl, .seq (rvs_map (fun _ => rv_int) _)⟩
  · obtain ⟨n, rfl, hm⟩ := h
    split at e
    · rename_i eo; cases e; obtain ⟨ob, a, ds, rfl, q⟩ := r.at_ _ n _ hm eo
      exact ⟨.lst n, by unfold Mini.walkOf; dsimp only; rw [a], n, rfl, hm⟩
    · rename_i eo; cases e; obtain ⟨ob, a, ds, rfl, q⟩ := r.at_ _ n _ hm eo
      exact ⟨.lst n, by unfold Mini.walkOf; dsimp only; rw [a], n, rfl, hm⟩
    · cases e
  · cases e
end
section
variable {P : Pg} {C : Call} {Cm : Mini.Call} (hC : CallOk C Cm) (hg : V.isCs P.glo = true)
include hC hg
mutual
theorem sE : ∀ (e : E), SimE (evE P C e) (Mini.evE P.un Cm e.un)
  | .bad, A, μ, F, M, v, u, r, re => by rw [evE]; exact trivial
  | .var i, A, μ, F, M, v, u, r, re => by
    rw [evE, E.un, Mini.evE]
    split
    · rename_i d e; obtain ⟨d', e1, q⟩ := re.2 i d e; rw [e1]; exact Sim.ok r q
    · exact trivial
  | .con d, A, μ, F, M, v, u, r, re => by
    rw [evE, E.un, Mini.evE]
    exact ofV_ok r fun v e => ⟨d, rfl, con_ok e⟩
  | .glo g, A, μ, F, M, v, u, r, re => by
    rw [evE, E.un, Mini.evE]
    refine ofV_ok r fun v e => ?_
    obtain ⟨d, e1, e2⟩ := (isCs_ok (A := A) (F := F) hg).get e
    exact ⟨d, by show Mini.ofD (V.cons P.glo)[g]? A = _; rw [e1]; rfl, e2⟩
  | .tup es, A, μ, F, M, v, u, r, re => by
    rw [evE, E.un, Mini.evE]
    refine Sim.bind (sEs es A μ F M v u r re) fun ws M1 ds A1 μ1 F1 x1 r1 h => ?_
    split
    · rename_i vs e
      have q := trees_ok e h
      rw [q.len]
      split
      · exact Sim.ok r1 (show RV A1 F1 (.tup vs) (.tup ds) from rv_tup q)
      · exact trivial
    · exact trivial
  | .lst l es, A, μ, F, M, v, u, r, re => by
    rw [evE, E.un, Mini.evE]
    refine Sim.bind (sEs es A μ F M v u r re) fun ws M1 ds A1 μ1 F1 x1 r1 h => ?_
    rw [h.len]
    split
    · exact lstN_ok r1 h
    · exact trivial
  | .dic l ks es, A, μ, F, M, v, u, r, re => by
    rw [evE, E.un, Mini.evE]
    refine Sim.bind (sEs es A μ F M v u r re) fun ws M1 ds A1 μ1 F1 x1 r1 h => ?_
    rw [← h.len]
    split
    · rename_i c; exact dicN_ok r1 h c
    · exact trivial
  | .dict0 l, A, μ, F, M, v, u, r, re => by
    rw [evE]; exact trivial
  | .op2 l o a b, A, μ, F, M, v, u, r, re => by
    rw [evE, E.un, Mini.evE]
    refine Sim.bind (sE a A μ F M v u r re) fun x M1 dx A1 μ1 F1 x1 r1 hx => ?_
    refine Sim.bind (sE b A1 μ1 F1 M1 v u r1 (re.ext x1 r.sub)) fun y M2 dy A2 μ2 F2 x2 r2 hy => ?_
    split
    · rename_i vx vy e1 e2
      exact ofN_ok r2 fun w e => op2_ok e (rd_ok r2 (hx.ext x2 r1.sub) e1) (rd_ok r2 hy e2)
    · exact trivial
  | .neg a, A, μ, F, M, v, u, r, re => by
    rw [evE, E.un, Mini.evE]
    refine Sim.bind (k := Mini.negD) (sE a A μ F M v u r re) fun x M1 dx A1 μ1 F1 x1 r1 hx => ?_
    split
    · have hx : RV A1 F1 (.int _) dx := hx
      unfold RV at hx; subst hx
      exact Sim.ok r1 (show RV A1 F1 (.int _) _ from rv_int)
    · exact trivial
  | .not a, A, μ, F, M, v, u, r, re => by
    rw [evE, E.un, Mini.evE]
    refine Sim.bind (sE a A μ F M v u r re) fun x M1 dx A1 μ1 F1 x1 r1 hx => ?_
    split
    · rename_i b e; rw [truth_ok r1 e hx]; exact Sim.ok r1 (show RV A1 F1 (.bl _) _ from rv_bl)
    · exact trivial
  | .and es, A, μ, F, M, v, u, r, re => by rw [evE, E.un, Mini.evE]; exact sAnd es A μ F M v u r re
  | .or es, A, μ, F, M, v, u, r, re => by rw [evE, E.un, Mini.evE]; exact sOr es A μ F M v u r re
  | .cmp c a b, A, μ, F, M, v, u, r, re => by
    rw [evE, E.un, Mini.evE]
    refine Sim.bind (sE a A μ F M v u r re) fun x M1 dx A1 μ1 F1 x1 r1 hx => ?_
    refine Sim.bind (sE b A1 μ1 F1 M1 v u r1 (re.ext x1 r.sub)) fun y M2 dy A2 μ2 F2 x2 r2 hy => ?_
    have hx := hx.ext x2 r1.sub
    rw [ownEq_ok r2 hx hy]
    cases ownEq P M2 c x y with
    | some f => exact asB_ok (cook_ok hC r2 (.cons hx (.cons hy .nil)))
    | none => exact ofB_ok r2 fun b e => cmpW_ok r2 e hx hy
  | .chain c1 c2 a b c, A, μ, F, M, v, u, r, re => by
    rw [evE, E.un, Mini.evE]
    refine Sim.bind (sE a A μ F M v u r re) fun x M1 dx A1 μ1 F1 x1 r1 hx => ?_
    refine Sim.bind (sE b A1 μ1 F1 M1 v u r1 (re.ext x1 r.sub)) fun y M2 dy A2 μ2 F2 x2 r2 hy => ?_
    have hx := hx.ext x2 r1.sub
    split
    · rename_i e
      rw [cmpW_ok r2 e hx hy]
      refine Sim.bind (sE c A2 μ2 F2 M2 v u r2 (re.ext (x1.trans x2) r.sub)) fun z M3 dz A3 μ3 F3 x3 r3 hz => ?_
      exact ofB_ok r3 fun b e => cmpW_ok r3 e (hy.ext x3 r2.sub) hz
    · rename_i e
      rw [cmpW_ok r2 e hx hy]
      exact Sim.ok r2 (show RV A2 F2 (.bl _) _ from rv_bl)
    · exact trivial
  | .ife c a b, A, μ, F, M, v, u, r, re => by
    rw [evE, E.un, Mini.evE]
    refine Sim.bind (sE c A μ F M v u r re) fun x M1 dx A1 μ1 F1 x1 r1 hx => ?_
    split
    · rename_i e; rw [truth_ok r1 e hx]; exact sE a A1 μ1 F1 M1 v u r1 (re.ext x1 r.sub)
    · rename_i e; rw [truth_ok r1 e hx]; exact sE b A1 μ1 F1 M1 v u r1 (re.ext x1 r.sub)
    · exact trivial
  | .idx a i, A, μ, F, M, v, u, r, re => by
    rw [evE, E.un, Mini.evE]
    refine Sim.bind (sE a A μ F M v u r re) fun x M1 dx A1 μ1 F1 x1 r1 hx => ?_
    refine Sim.bind (sE i A1 μ1 F1 M1 v u r1 (re.ext x1 r.sub)) fun y M2 dy A2 μ2 F2 x2 r2 hy => ?_
    exact ofW_ok r2 fun w e => idxW_ok r2 e (hx.ext x2 r1.sub) hy
  | .sl1 l a lo, A, μ, F, M, v, u, r, re => by
    rw [evE, E.un, Mini.evE]
    refine Sim.bind (sE a A μ F M v u r re) fun x M1 dx A1 μ1 F1 x1 r1 hx => ?_
    refine Sim.bind (sE lo A1 μ1 F1 M1 v u r1 (re.ext x1 r.sub)) fun y M2 dy A2 μ2 F2 x2 r2 hy => ?_
    split
    · rename_i vx i e
      have hy : RV A2 F2 (.int _) dy := hy
      unfold RV at hy; subst hy
      exact ofN_ok r2 fun w e1 => slc_ok e1 (rd_ok r2 (hx.ext x2 r1.sub) e)
    · exact trivial
  | .sl2 l a lo, A, μ, F, M, v, u, r, re => by
    rw [evE, E.un, Mini.evE]
    refine Sim.bind (sE a A μ F M v u r re) fun x M1 dx A1 μ1 F1 x1 r1 hx => ?_
    refine Sim.bind (sE lo A1 μ1 F1 M1 v u r1 (re.ext x1 r.sub)) fun y M2 dy A2 μ2 F2 x2 r2 hy => ?_
    split
    · rename_i vx i e
      have hy : RV A2 F2 (.int _) dy := hy
      unfold RV at hy; subst hy
      exact ofN_ok r2 fun w e1 => slc_ok e1 (rd_ok r2 (hx.ext x2 r1.sub) e)
    · exact trivial
  | .sl3 l a lo hi, A, μ, F, M, v, u, r, re => by
    rw [evE, E.un, Mini.evE]
    refine Sim.bind (sE a A μ F M v u r re) fun x M1 dx A1 μ1 F1 x1 r1 hx => ?_
    refine Sim.bind (sE lo A1 μ1 F1 M1 v u r1 (re.ext x1 r.sub)) fun y M2 dy A2 μ2 F2 x2 r2 hy => ?_
    split
    · have hy : RV A2 F2 (.int _) dy := hy
      unfold RV at hy; subst hy
      dsimp only
      refine Sim.bind (sE hi A2 μ2 F2 M2 v u r2 (re.ext (x1.trans x2) r.sub)) fun z M3 dz A3 μ3 F3 x3 r3 hz => ?_
      split
      · rename_i vx i e
        have hz : RV A3 F3 (.int _) dz := hz
        unfold RV at hz; subst hz
        exact ofN_ok r3 fun w e1 => slc_ok e1 (rd_ok r3 (hx.ext (x2.trans x3) r1.sub) e)
      · exact trivial
    · exact trivial
  | .rev l a, A, μ, F, M, v, u, r, re => by
    rw [evE, E.un, Mini.evE]
    refine Sim.bind (sE a A μ F M v u r re) fun x M1 dx A1 μ1 F1 x1 r1 hx => ?_
    split
    · rename_i vx e; exact ofN_ok r1 fun w e1 => rev_ok e1 (rd_ok r1 hx e)
    · exact trivial
  | .fld a f, A, μ, F, M, v, u, r, re => by
    rw [evE, E.un, Mini.evE]
    refine Sim.bind (sE a A μ F M v u r re) fun x M1 dx A1 μ1 F1 x1 r1 hx => ?_
    exact ofW_ok r1 fun w e => fld_ok r1 e hx
  | .call z f es ds, A, μ, F, M, v, u, r, re => by
    rw [evE, E.un, Mini.evE]
    refine Sim.bind (sEs es A μ F M v u r re) fun ws M1 dws A1 μ1 F1 x1 r1 h => ?_
    split
    · rename_i vs e
      split
      · exact hC f _ _ A1 μ1 F1 M1 r1 (h.app (cons_ok e))
      · exact cook_ok hC r1 (h.app (cons_ok e))
    · exact trivial
  | .mk z c es, A, μ, F, M, v, u, r, re => by
    rw [evE, E.un, Mini.evE]
    refine Sim.bind (sEs es A μ F M v u r re) fun ws M1 dws A1 μ1 F1 x1 r1 h => ?_
    show Sim A1 μ1 F1 _ (match P.init[c]? with | some f => _ | none => _) GW
    cases hi : P.init[c]? with
    | none => exact trivial
    | some f =>
      dsimp only
      have go : ∀ {A : Hh} {μ : List Nat} {F : Nat → Prop} {M : Hp}, Rel A μ F M → RWs A F μ ws dws → Sim A μ F ((C f (.h M.length :: ws) (M ++ [.ins c []])).bind fun r M' => (match r with | .t .non => .ok (.h M.length) M' | _ => .bad))
          ((Cm f (.ref A.length :: dws) (A ++ [.ins c []])).bind fun r A' => (match r with | .non => .ok (.ref A.length) A' | _ => .bad)) GW := fun {A μ F M} r h => by
        have xo : Ext A μ F (A ++ [.ins c []]) (μ ++ [A.length]) (fun n => F n ∨ n = A.length) := Ext.own r
        have ro : Rel (A ++ [.ins c []]) (μ ++ [A.length]) (fun n => F n ∨ n = A.length) (M ++ [.ins c []]) := r.own ⟨[], rfl, .nil⟩
        refine Sim.up xo (Sim.bind (hC f _ _ _ _ _ _ ro (.cons (RW.own r) (h.ext xo r.sub))) fun w M2 d A2 μ2 F2 x2 r2 q => ?_)
        split
        · have q : RV A2 F2 .non d := q
          unfold RV at q; subst q
          exact Sim.ok r2 ((RW.own (o := .ins c []) r).ext x2 ro.sub)
        · exact trivial
      split
      · split
        · rename_i ht
          exact own_ok r1 (go r1.none (isTs_ok ht h))
        · exact trivial
      · exact go r1 h
  | .meth z c f a es, A, μ, F, M, v, u, r, re => by
    rw [evE, E.un, Mini.evE]
    refine Sim.bind (sE a A μ F M v u r re) fun x M1 dx A1 μ1 F1 x1 r1 hx => ?_
    split
    · rename_i hi
      rw [if_pos (isIns_ok r1 hx hi)]
      refine Sim.bind (sEs es A1 μ1 F1 M1 v u r1 (re.ext x1 r.sub)) fun ws M2 ds A2 μ2 F2 x2 r2 h => ?_
      split
      · exact hC f _ _ A2 μ2 F2 M2 r2 (.cons (hx.ext x2 r1.sub) h)
      · exact cook_ok hC r2 (.cons (hx.ext x2 r1.sub) h)
    · exact trivial
  | .bi l b es, A, μ, F, M, v, u, r, re => by
    rw [evE, E.un, Mini.evE]
    refine Sim.bind (sEs es A μ F M v u r re) fun ws M1 ds A1 μ1 F1 x1 r1 h => ?_
    rw [ownLen_ok r1 h]
    cases ownLen P M1 b ws with
    | some f => exact asN_ok (cook_ok hC r1 h)
    | none =>
      dsimp only
      split
      · rename_i vs e; exact ofN_ok r1 fun w e1 => bi_ok e1 (rds_ok r1 h e)
      · exact trivial
  | .bm l b a es, A, μ, F, M, v, u, r, re => by
    rw [evE, E.un, Mini.evE]
    refine Sim.bind (sE a A μ F M v u r re) fun x M1 dx A1 μ1 F1 x1 r1 hx => ?_
    split
    · rename_i hi
      rw [if_pos (recv_ok r1 hi hx)]
      refine Sim.bind (sEs es A1 μ1 F1 M1 v u r1 (re.ext x1 r.sub)) fun ws M2 ds A2 μ2 F2 x2 r2 h => ?_
      exact bm_ok r2 (hx.ext x2 r1.sub) h
    · exact trivial
  | .gin a, A, μ, F, M, v, u, r, re => by
    rw [evE, E.un, Mini.evE]
    refine Sim.bind (sE a A μ F M v u r re) fun x M1 dx A1 μ1 F1 x1 r1 hx => ?_
    cases x with
    | h k => exact trivial
    | t w =>
      cases w <;> try exact trivial
      case str s =>
        have hx : RV A1 F1 (.str s) dx := hx
        unfold RV at hx; subst hx
        exact Sim.ok (G := GW) r1 (show RV A1 F1 (.bl _) _ from rv_bl)
  | .gidx a, A, μ, F, M, v, u, r, re => by
    rw [evE, E.un, Mini.evE]
    refine Sim.bind (sE a A μ F M v u r re) fun x M1 dx A1 μ1 F1 x1 r1 hx => ?_
    cases x with
    | h k => exact trivial
    | t w =>
      cases w <;> try exact trivial
      case str s =>
        have hx : RV A1 F1 (.str s) dx := hx
        unfold RV at hx; subst hx
        show Sim A1 μ1 F1 (match grpG P.grp s with | some t => .ok (.t (.str t)) M1 | none => .bad) (match grpG P.grp s with | some t => .ok (.str t) A1 | none => .bad) GW
        cases grpG P.grp s with
        | some t => exact Sim.ok r1 (show RV A1 F1 (.str _) _ from rv_str)
        | none => exact trivial
  | .gget a b, A, μ, F, M, v, u, r, re => by
    rw [evE, E.un, Mini.evE]
    refine Sim.bind (sE a A μ F M v u r re) fun x M1 dx A1 μ1 F1 x1 r1 hx => ?_
    refine Sim.bind (sE b A1 μ1 F1 M1 v u r1 (re.ext x1 r.sub)) fun y M2 dy A2 μ2 F2 x2 r2 hy => ?_
    cases x with
    | h k => exact trivial
    | t w =>
      cases w <;> try exact trivial
      case str s =>
        have hx : RV A2 F2 (.str s) dx := hx.ext x2 r1.sub
        unfold RV at hx; subst hx
        show Sim A2 μ2 F2 (.ok (match grpG P.grp s with | some t => .t (.str t) | none => y) M2) (.ok (match grpG P.grp s with | some t => .str t | none => dy) A2) GW
        cases grpG P.grp s with
        | some t => exact Sim.ok r2 (show RV A2 F2 (.str _) _ from rv_str)
        | none => exact Sim.ok r2 hy
  | .isin a t, A, μ, F, M, v, u, r, re => by
    rw [evE, E.un, Mini.evE]
    refine Sim.bind (sE a A μ F M v u r re) fun x M1 dx A1 μ1 F1 x1 r1 hx => ?_
    exact ofB_ok r1 fun b e => isin_ok r1 e hx
  | .lc l own t it c e, A, μ, F, M, v, u, r, re => by
    rw [evE, E.un, Mini.evE]
    refine Sim.bind (sI it A μ F M v u r re) fun i M1 i' A1 μ1 F1 x1 r1 hi => ?_
    refine Sim.bind (lcG_ok (lcF_ok (sC c) (sE e) r1.sub (re.ext x1 r.sub)) r1 hi) fun ys M2 ds A2 μ2 F2 x2 r2 h => ?_
    exact mkN_ok r2 (new_lst h)
  | .lc2 l own own1 t it t1 it1 e, A, μ, F, M, v, u, r, re => by
    rw [evE, E.un, Mini.evE]
    refine Sim.bind (sI it A μ F M v u r re) fun i M1 i' A1 μ1 F1 x1 r1 hi => ?_
    refine Sim.bind (lcG2_ok (lcF2_ok (sI it1) (fun A μ F v u sub re => lcF1_ok (sE e) sub re) r1.sub (re.ext x1 r.sub)) r1 hi .nil) fun ys M2 ds A2 μ2 F2 x2 r2 h => ?_
    exact mkN_ok r2 (new_lst h)
  | .dc l own t it k e, A, μ, F, M, v, u, r, re => by
    rw [evE, E.un, Mini.evE]
    refine Sim.bind (sI it A μ F M v u r re) fun i M1 i' A1 μ1 F1 x1 r1 hi => ?_
    split
    · rename_i xs
      have hi : SeqR A1 F1 xs i' := hi
      refine Sim.bind (dcL_ok (dcF_ok (sE k) (sE e) r1.sub (re.ext x1 r.sub)) xs A1 μ1 F1 M1 [] [] [] 0 _ .refl r1 hi (by simp) .nil rfl (by rw [hi.size]; omega)) fun p M2 ds A2 μ2 F2 x2 r2 h => ?_
      exact mkN_ok r2 (new_dk h.1 h.2)
    · exact trivial
theorem sEs : ∀ (es : List E) (A : Hh) (μ : List Nat) (F : Nat → Prop) (M : Hp) (v : Env) (u : Mini.Env), Rel A μ F M → RE A F μ v u → Sim A μ F (evEs P C es v M) (Mini.evEs P.un Cm (uns es) u A) GWs
  | [], A, μ, F, M, v, u, r, re => by rw [evEs, uns, Mini.evEs]; exact Sim.ok r .nil
  | e :: es, A, μ, F, M, v, u, r, re => by
    rw [evEs, uns, Mini.evEs]
    refine Sim.bind (sE e A μ F M v u r re) fun x M1 dx A1 μ1 F1 x1 r1 hx => ?_
    refine Sim.bind (sEs es A1 μ1 F1 M1 v u r1 (re.ext x1 r.sub)) fun y M2 dy A2 μ2 F2 x2 r2 hy => ?_
    exact Sim.ok r2 (.cons (hx.ext x2 r1.sub) hy)
theorem sAnd : ∀ (es : List E) (A : Hh) (μ : List Nat) (F : Nat → Prop) (M : Hp) (v : Env) (u : Mini.Env), Rel A μ F M → RE A F μ v u → Sim A μ F (evAnd P C es v M) (Mini.evAnd P.un Cm (uns es) u A) GW
  | [], A, μ, F, M, v, u, r, re => by rw [evAnd]; exact trivial
  | [e], A, μ, F, M, v, u, r, re => by rw [evAnd, uns, uns, Mini.evAnd]; exact sE e A μ F M v u r re
  | e :: e2 :: es, A, μ, F, M, v, u, r, re => by
    have ih := sAnd (e2 :: es)
    rw [uns] at ih
    rw [evAnd, uns, uns, Mini.evAnd]
    refine Sim.bind (sE e A μ F M v u r re) fun x M1 dx A1 μ1 F1 x1 r1 hx => ?_
    split
    · rename_i b; rw [truth_ok r1 b hx]; exact ih A1 μ1 F1 M1 v u r1 (re.ext x1 r.sub)
    · rename_i b; rw [truth_ok r1 b hx]; exact Sim.ok r1 hx
    · exact trivial
theorem sOr : ∀ (es : List E) (A : Hh) (μ : List Nat) (F : Nat → Prop) (M : Hp) (v : Env) (u : Mini.Env), Rel A μ F M → RE A F μ v u → Sim A μ F (evOr P C es v M) (Mini.evOr P.un Cm (uns es) u A) GW
  | [], A, μ, F, M, v, u, r, re => by rw [evOr]; exact trivial
  | [e], A, μ, F, M, v, u, r, re => by rw [evOr, uns, uns, Mini.evOr]; exact sE e A μ F M v u r re
  | e :: e2 :: es, A, μ, F, M, v, u, r, re => by
    have ih := sOr (e2 :: es)
    rw [uns] at ih
    rw [evOr, uns, uns, Mini.evOr]
    refine Sim.bind (sE e A μ F M v u r re) fun x M1 dx A1 μ1 F1 x1 r1 hx => ?_
    split
    · rename_i b; rw [truth_ok r1 b hx]; exact Sim.ok r1 hx
    · rename_i b; rw [truth_ok r1 b hx]; exact ih A1 μ1 F1 M1 v u r1 (re.ext x1 r.sub)
    · exact trivial
theorem sC : ∀ (c : Option E), SimC (evC P C c) (Mini.evC P.un Cm (unO c))
  | none, A, μ, F, M, v, u, r, re => by rw [evC, unO, Mini.evC]; exact Sim.ok r rfl
  | some e, A, μ, F, M, v, u, r, re => by
    rw [evC, unO, Mini.evC]
    refine Sim.bind (sE e A μ F M v u r re) fun x M1 dx A1 μ1 F1 x1 r1 hx => ?_
    split
    · rename_i b; rw [truth_ok r1 b hx]; exact Sim.ok r1 rfl
    · exact trivial
theorem sI : ∀ (i : I), SimI (evI P C i) (Mini.evI P.un Cm i.un)
  | .e e, A, μ, F, M, v, u, r, re => by
    rw [evI, I.un, Mini.evI]
    refine Sim.bind (sE e A μ F M v u r re) fun x M1 dx A1 μ1 F1 x1 r1 hx => ?_
    split
    · rename_i it e; obtain ⟨it', e1, q⟩ := walk_ok r1 e hx; rw [e1]; exact Sim.ok r1 q
    · exact trivial
  | .range e, A, μ, F, M, v, u, r, re => by
    rw [evI, I.un, Mini.evI]
    refine Sim.bind (sE e A μ F M v u r re) fun x M1 dx A1 μ1 F1 x1 r1 hx => ?_
    split
    · have hx : RV A1 F1 (.int _) dx := hx
      unfold RV at hx; subst hx
      dsimp only
      split
      · exact Sim.ok r1 (show SeqR A1 F1 _ _ from .rng)
      · exact trivial
    · exact trivial
  | .enum e, A, μ, F, M, v, u, r, re => by
    rw [evI, I.un, Mini.evI]
    refine Sim.bind (sE e A μ F M v u r re) fun x M1 dx A1 μ1 F1 x1 r1 hx => ?_
    split
    · have hx : RV A1 F1 (.tup _) dx := hx
      unfold RV at hx; obtain ⟨ds, rfl, q⟩ := hx
      exact Sim.ok r1 (show SeqR A1 F1 _ _ from .enumS q)
    · have hx : RV A1 F1 (.lst _) dx := hx
      unfold RV at hx; obtain ⟨n, ds, rfl, nF, a, q⟩ := hx
      dsimp only
      rw [a]
      exact Sim.ok r1 (show SeqR A1 F1 _ _ from .enumL nF a q)
    · obtain ⟨n, rfl, hm⟩ := hx
      split
      · rename_i eo; obtain ⟨ob, a, ds, rfl, q⟩ := r1.at_ _ n _ hm eo
        dsimp only; rw [a]
        exact Sim.ok r1 ⟨n, rfl, hm⟩
      · rename_i eo; obtain ⟨ob, a, ds, rfl, q⟩ := r1.at_ _ n _ hm eo
        dsimp only; rw [a]
        exact Sim.ok r1 ⟨n, rfl, hm⟩
      · exact trivial
    · exact trivial
end
end
end MT

set_option Elab.async false
set_option linter.all false
set_option maxRecDepth 100000
set_option maxHeartbeats 4000000
/-! MT over Mini: statements, calls. -/
namespace MT
open Mini (S O2 Cm Bi Bm Ty T Hk D Tr big ixN atI cut rep small64 b2 get1 put1 putD splitS joinS intS intOf sortS sortR minI putAll isNon grpG clause Hh)
def SimF (A : Hh) (μ : List Nat) (F : Nat → Prop) (ft : FT) (f : Mini.F) : Prop :=
  match ft with
  | .nx v M => ∃ u A' μ' F', f = .nx u A' ∧ Ext A μ F A' μ' F' ∧ Rel A' μ' F' M ∧ RE A' F' μ' v u
  | .rt w M => ∃ d A' μ' F', f = .rt d A' ∧ Ext A μ F A' μ' F' ∧ Rel A' μ' F' M ∧ RW A' F' μ' w d
  | .exc c x v M => ∃ y u A' μ' F', f = .exc c y u A' ∧ Ext A μ F A' μ' F' ∧ Rel A' μ' F' M ∧ RX A' F' x y ∧ RE A' F' μ' v u
  | .bad => True
section
variable {A A1 : Hh} {F F1 : Nat → Prop} {μ μ1 : List Nat} {M : Hp} {v : Env} {u : Mini.Env}
theorem SimF.up {ft : FT} {f : Mini.F} (x : Ext A μ F A1 μ1 F1) (h : SimF A1 μ1 F1 ft f) : SimF A μ F ft f := by
  cases ft with
  | bad => exact trivial
  | nx v M => obtain ⟨u, A', μ', F', e, x1, q⟩ := h; exact ⟨u, A', μ', F', e, x.trans x1, q⟩
  | rt v M => obtain ⟨u, A', μ', F', e, x1, q⟩ := h; exact ⟨u, A', μ', F', e, x.trans x1, q⟩
  | exc c z v M => obtain ⟨y, u, A', μ', F', e, x1, q⟩ := h; exact ⟨y, u, A', μ', F', e, x.trans x1, q⟩
theorem SimF.nx (r : Rel A μ F M) (re : RE A F μ v u) : SimF A μ F (.nx v M) (.nx u A) := ⟨u, A, μ, F, rfl, .refl, r, re⟩
theorem toF_ok {rt : RT W} {rm : Mini.R D} {kt : W → Hp → FT} {k : D → Hh → Mini.F} (h : Sim A μ F rt rm GW) (sub : ∀ n ∈ μ, F n) (re : RE A F μ v u)
    (f : ∀ w M' d A' μ' F', Ext A μ F A' μ' F' → Rel A' μ' F' M' → RW A' F' μ' w d → SimF A' μ' F' (kt w M') (k d A')) : SimF A μ F (rt.toF v kt) (rm.toF u k) := by
  cases rt with
  | bad => exact trivial
  | exc c x M' => obtain ⟨y, A', μ', F', rfl, h1, h2, h3⟩ := h; exact ⟨y, u, A', μ', F', rfl, h1, h2, h3, re.ext h1 sub⟩
  | ok a M' =>
    obtain ⟨b, A', μ', F', rfl, h1, h2, h3⟩ := h
    exact SimF.up h1 (f a M' b A' μ' F' h1 h2 h3)
theorem toFB_ok {rt : RT W} {rm : Mini.R D} {kt : Bool → Hp → FT} {k : Bool → Hh → Mini.F} (h : Sim A μ F rt rm GW) (sub : ∀ n ∈ μ, F n) (re : RE A F μ v u)
    (f : ∀ b M' A' μ' F', Ext A μ F A' μ' F' → Rel A' μ' F' M' → SimF A' μ' F' (kt b M') (k b A')) : SimF A μ F (RT.toFB v rt kt) (Mini.R.toFB u rm k) := by
  unfold RT.toFB Mini.R.toFB
  refine toF_ok h sub re fun w M' d A' μ' F' x r q => ?_
  split
  · rename_i b e; rw [truth_ok r e q]; exact f b M' A' μ' F' x r
  · exact trivial
def SimS (fs : Env → Hp → FT) (gs : Mini.Env → Hh → Mini.F) : Prop := ∀ (A : Hh) (μ : List Nat) (F : Nat → Prop) (M : Hp) (v : Env) (u : Mini.Env), Rel A μ F M → RE A F μ v u → SimF A μ F (fs v M) (gs u A)
theorem forL_ok {fs : Env → Hp → FT} {gs : Mini.Env → Hh → Mini.F} (hs : SimS fs gs) {t : T} {full : List V} {it : Mini.It} : ∀ (rest : List V) (A : Hh) (μ : List Nat) (F : Nat → Prop) (M : Hp) (v : Env) (u : Mini.Env) (i fuel : Nat),
    Rel A μ F M → SeqR A F full it → full.drop i = rest → RE A F μ v u → rest.length < fuel → SimF A μ F (forL t fs rest v M) (Mini.forGo t gs it fuel i u A)
  | [], A, μ, F, M, v, u, i, 0, _, _, _, _, hl => by simp at hl
  | [], A, μ, F, M, v, u, i, m + 1, r, hq, hd, re, hl => by
    unfold forL Mini.forGo
    rcases hq.at_ i with ⟨_, e⟩ | ⟨y, d, e, _, _⟩
    · rw [e]; exact SimF.nx r re
    · have : full.length ≤ i := by have := congrArg List.length hd; simp at this; omega
      rw [List.getElem?_eq_none this] at e; cases e
  | y :: rest, A, μ, F, M, v, u, i, 0, _, _, _, _, hl => by simp at hl
  | y :: rest, A, μ, F, M, v, u, i, m + 1, r, hq, hd, re, hl => by
    unfold forL Mini.forGo
    have e0 : full[i]? = some y := by
      have := congrArg (fun l : List V => l[0]?) hd
      simpa using this
    have hd' : full.drop (i + 1) = rest := by
      have := congrArg (fun l : List V => l.drop 1) hd
      simpa using this
    rcases hq.at_ i with ⟨e, _⟩ | ⟨y', d, e, e1, hv⟩
    · rw [e0] at e; cases e
    rw [e0] at e
    cases e
    rw [e1]
    dsimp only
    cases ep : putT v (.one (.t y)) t with
    | none => exact trivial
    | some v' =>
      obtain ⟨u', e2, re'⟩ := put_ok re (m := .one (.t y)) (d := d) hv ep
      rw [e2]
      dsimp only
      have z := hs A μ F M v' u' r re'
      revert z
      cases fs v' M with
      | bad => exact fun _ => trivial
      | nx v2 M2 =>
        rintro ⟨u2, A', μ', F', e3, x, r2, re2⟩
        rw [e3]
        exact SimF.up x (forL_ok hs rest A' μ' F' M2 v2 u2 (i + 1) m r2 (hq.ext x r.sub) hd' re2 (by simp at hl; omega))
      | rt w M2 => rintro ⟨u2, A', μ', F', e3, q⟩; rw [e3]; exact ⟨u2, A', μ', F', rfl, q⟩
      | exc c z w M2 => rintro ⟨y, u2, A', μ', F', e3, q⟩; rw [e3]; exact ⟨y, u2, A', μ', F', rfl, q⟩
theorem forH_ok {fs : Env → Hp → FT} {gs : Mini.Env → Hh → Mini.F} (hs : SimS fs gs) {t : T} {en : Bool} {k n : Nat} : ∀ (m : Nat) (A : Hh) (μ : List Nat) (F : Nat → Prop) (M : Hp) (v : Env) (u : Mini.Env) (i : Nat),
    Rel A μ F M → μ[k]? = some n → RE A F μ v u → SimF A μ F (forH t fs en k m i v M) (Mini.forGo t gs (itH en n) m i u A)
  | 0, _, _, _, _, _, _, _, _, _, _ => by unfold forH; exact trivial
  | m + 1, A, μ, F, M, v, u, i, r, hk, re => by
    unfold forH Mini.forGo
    cases e : obAt M k i with
    | none => exact trivial
    | some o =>
      obtain ⟨ds, a, q⟩ := obAt_ok r hk e
      rw [itH_at a]
      cases o with
      | none => have q : ds[i]? = none := q; rw [q]; exact SimF.nx r re
      | some w =>
        obtain ⟨d, e1, hw⟩ := q
        rw [e1]
        dsimp only [Option.map_some]
        cases ep : putT v (imOf en i w) t with
        | none => exact trivial
        | some v' =>
          obtain ⟨u', e2, re'⟩ := put_ok re (imOf_ok (en := en) (i := i) hw) ep
          rw [e2]
          dsimp only
          have z := hs A μ F M v' u' r re'
          revert z
          cases fs v' M with
          | bad => exact fun _ => trivial
          | nx v2 M2 =>
            rintro ⟨u2, A', μ', F', e3, x, r2, re2⟩
            rw [e3]
            exact SimF.up x (forH_ok hs m A' μ' F' M2 v2 u2 (i + 1) r2 (x.get hk) re2)
          | rt w M2 => rintro ⟨u2, A', μ', F', e3, q⟩; rw [e3]; exact ⟨u2, A', μ', F', rfl, q⟩
          | exc c z w M2 => rintro ⟨y, u2, A', μ', F', e3, q⟩; rw [e3]; exact ⟨y, u2, A', μ', F', rfl, q⟩
theorem forG_ok {fs : Env → Hp → FT} {gs : Mini.Env → Hh → Mini.F} (hs : SimS fs gs) {t : T} (r : Rel A μ F M) {it : It} {it' : Mini.It} (h : RIt A F μ it it') (re : RE A F μ v u) : SimF A μ F (forG t fs it v M) (Mini.forGo t gs it' (it'.size A + 1) 0 u A) := by
  cases it with
  | seq xs =>
    have h : SeqR A F xs it' := h
    exact forL_ok hs xs A μ F M v u 0 _ r h (by simp) re (by rw [h.size]; omega)
  | hl k =>
    obtain ⟨n, rfl, hk⟩ := h
    have z := forH_ok hs (t := t) (en := false) (n := n) (obLen M k + 1) A μ F M v u 0 r hk re
    rw [← obLen_ok r hk] at z
    unfold forG
    dsimp only
    rw [← obLen_ok r hk]
    exact z
  | hen k =>
    obtain ⟨n, rfl, hk⟩ := h
    have z := forH_ok hs (t := t) (en := true) (n := n) (obLen M k + 1) A μ F M v u 0 r hk re
    rw [← obLen_ok r hk] at z
    unfold forG
    dsimp only
    rw [← obLen_ok r hk]
    exact z
theorem whileG_ok {ft : Env → Hp → RT W} {gt : Mini.Env → Hh → Mini.R D} (ht : SimE ft gt) {fs : Env → Hp → FT} {gs : Mini.Env → Hh → Mini.F} (hs : SimS fs gs) : ∀ (m : Nat) (A : Hh) (μ : List Nat) (F : Nat → Prop) (M : Hp) (v : Env) (u : Mini.Env),
    Rel A μ F M → RE A F μ v u → SimF A μ F (whileG ft fs m v M) (Mini.whileGo gt gs m u A)
  | 0, _, _, _, _, _, _, _, _ => by unfold whileG; exact trivial
  | m + 1, A, μ, F, M, v, u, r, re => by
    unfold whileG Mini.whileGo
    refine toFB_ok (ht A μ F M v u r re) r.sub re fun b M' A' μ' F' x r1 => ?_
    have re1 := re.ext x r.sub
    cases b with
    | false => exact SimF.nx r1 re1
    | true =>
      rw [if_pos rfl, if_pos rfl]
      have z := hs A' μ' F' M' v u r1 re1
      revert z
      cases fs v M' with
      | bad => exact fun _ => trivial
      | nx v2 M2 =>
        rintro ⟨u2, A', μ', F', e3, x, r2, re2⟩
        rw [e3]
        exact SimF.up x (whileG_ok ht hs m A' μ' F' M2 v2 u2 r2 re2)
      | rt w M2 => rintro ⟨u2, A', μ', F', e3, q⟩; rw [e3]; exact ⟨u2, A', μ', F', rfl, q⟩
      | exc c z w M2 => rintro ⟨y, u2, A', μ', F', e3, q⟩; rw [e3]; exact ⟨y, u2, A', μ', F', rfl, q⟩
theorem unp_ok (r : Rel A μ F M) (re : RE A F μ v u) {is : List Nat} {w : W} {d : D} (hw : RW A F μ w d) : SimF A μ F (toFE (unpW v is w) M) (match (generalizing := false) d with
      | .tup ds => (match Mini.setAll u is ds with | some v' => .nx v' A | none => .bad)
      | .ref n => (match A[n]? with | some (.lst ds) => (match Mini.setAll u is ds with | some v' => .nx v' A | none => .bad) | _ => .bad)
      | _ => .bad) := by
  cases w with
  | h k => exact trivial
  | t x =>
    cases x <;> try exact trivial
    case tup xs =>
      have hw : RV A F (.tup xs) d := hw
      unfold RV at hw; obtain ⟨ds, rfl, q⟩ := hw
      show SimF A μ F (toFE (setAll v is xs) M) _
      cases e : setAll v is xs with
      | none => exact trivial
      | some v' => obtain ⟨u', e1, re'⟩ := RE.all re q e; dsimp only; rw [e1]; exact SimF.nx r re'
    case lst xs =>
      have hw : RV A F (.lst xs) d := hw
      unfold RV at hw; obtain ⟨n, ds, rfl, nF, a, q⟩ := hw
      show SimF A μ F (toFE (setAll v is xs) M) _
      cases e : setAll v is xs with
      | none => exact trivial
      | some v' => obtain ⟨u', e1, re'⟩ := RE.all re q e; dsimp only; rw [a]; dsimp only; rw [e1]; exact SimF.nx r re'
theorem sfld_ok (r : Rel A μ F M) (re : RE A F μ v u) {x w : W} {f : Nat} {dx d : D} (hx : RW A F μ x dx) (hw : RW A F μ w d) : SimF A μ F (toFM v (sfldW M x f w)) (match (generalizing := false) dx with
      | .ref n => (match A[n]? with | some (.ins c fs) => if Nat.blt fs.length 100 then .nx u (A.set n (.ins c (put1 fs f d))) else .bad | _ => .bad)
      | _ => .bad) := by
  cases x with
  | t x => exact trivial
  | h k =>
    obtain ⟨n, rfl, hm⟩ := hx
    unfold sfldW
    dsimp only
    split
    · rename_i c fs e
      obtain ⟨o, a, ds, rfl, q⟩ := r.at_ k n _ hm e
      have p := pr_kv q
      rw [a]
      dsimp only
      rw [p.len]
      split
      · have x : Ext A μ F (A.set n (.ins c (put1 ((fs.map (·.1)).zip ds) f d))) μ F := Ext.write hm
        have p2 := put_W (k := f) p hw
        obtain ⟨z1, z2⟩ := p2.zipd
        exact SimF.up x (SimF.nx (r.write hm ⟨_, by rw [← z1], pr_rws p2⟩) (re.ext x r.sub))
      · exact trivial
    · exact trivial
theorem ssub_ok (r : Rel A μ F M) (re : RE A F μ v u) {x y w : W} {dx dy d : D} (hx : RW A F μ x dx) (hy : RW A F μ y dy) (hw : RW A F μ w d) : SimF A μ F (toFM v (ssubW M x y w)) (match (generalizing := false) dx, dy with
      | .ref n, .int k => (match A[n]? with
        | some (.lst xs) => (match ixN xs.length k with | some j => .nx u (A.set n (.lst (xs.set j d))) | none => .bad)
        | _ => .bad)
      | .ref n, .str k => (match A[n]? with
        | some (.dk kvs) => if Nat.blt kvs.length 1000000 then .nx u (A.set n (.dk (putD kvs k d))) else .bad
        | _ => .bad)
      | .ref n, .tup ks => (match A[n]?, Mini.strsOf ks with
        | some (.dt kvs), some k => if Nat.blt kvs.length 1000000 then .nx u (A.set n (.dt (putD kvs k d))) else .bad
        | _, _ => .bad)
      | _, _ => .bad) := by
  cases x with
  | t x => exact trivial
  | h k =>
    obtain ⟨n, rfl, hm⟩ := hx
    unfold ssubW
    dsimp only
    split
    · rename_i xs i e
      obtain ⟨o, a, ds, rfl, q⟩ := r.at_ k n _ hm e
      have hy : RV A F (.int i) dy := hy
      unfold RV at hy; subst hy
      dsimp only
      rw [a]
      dsimp only
      rw [q.len]
      split
      · rename_i j w' e1
        rw [e1]
        have x : Ext A μ F (A.set n (.lst (ds.set j d))) μ F := Ext.write hm
        exact SimF.up x (SimF.nx (r.write hm ⟨_, rfl, q.set hw j⟩) (re.ext x r.sub))
      · exact trivial
    · rename_i kvs s e
      obtain ⟨o, a, ds, rfl, q⟩ := r.at_ k n _ hm e
      have hy : RV A F (.str s) dy := hy
      unfold RV at hy; subst hy
      have p := pr_kv q
      dsimp only
      rw [a]
      dsimp only
      rw [p.len]
      split
      · have x : Ext A μ F (A.set n (.dk (putD ((kvs.map (·.1)).zip ds) s d))) μ F := Ext.write hm
        have p2 : Pr (RW A F μ) (putDW kvs s w) (putD ((kvs.map (·.1)).zip ds) s d) := p.put (k := s) hw
        obtain ⟨z1, z2⟩ := p2.zipd
        refine SimF.up x (SimF.nx (r.write hm ⟨(putD ((kvs.map (·.1)).zip ds) s d).map (·.2), ?_, ?_⟩) (re.ext x r.sub))
        · rw [← z1]
        · exact pr_rws p2
      · exact trivial
    · rename_i kvs ks e
      obtain ⟨o, a, ds, rfl, q⟩ := r.at_ k n _ hm e
      have hy : RV A F (.tup ks) dy := hy
      unfold RV at hy; obtain ⟨es, rfl, qk⟩ := hy
      have p := pr_kv q
      dsimp only
      rw [a]
      split
      · rename_i s e1
        rw [strs_ok e1 qk]
        dsimp only
        rw [p.len]
        split
        · have x : Ext A μ F (A.set n (.dt (putD ((kvs.map (·.1)).zip ds) s d))) μ F := Ext.write hm
          have p2 : Pr (RW A F μ) (putDW kvs s w) (putD ((kvs.map (·.1)).zip ds) s d) := p.put (k := s) hw
          obtain ⟨z1, z2⟩ := p2.zipd
          refine SimF.up x (SimF.nx (r.write hm ⟨(putD ((kvs.map (·.1)).zip ds) s d).map (·.2), ?_, ?_⟩) (re.ext x r.sub))
          · rw [← z1]
          · exact pr_rws p2
        · exact trivial
      · exact trivial
    · exact trivial
theorem suite_ok (r : Rel A μ F M) (re : RE A F μ v u) {n : Option Nat} {h : Hk} {x : Option V} {y : Option D} (hx : RX A F x y) : SimF A μ F (toFE (suite n h x v) M) (match Mini.suite n h y u with | some v'' => .nx v'' A | none => .bad) := by
  unfold suite
  cases h with
  | con i d =>
    dsimp only
    cases e : conV d with
    | none => exact trivial
    | some w =>
      have hw : RW A F μ (.t w) d := con_ok e
      cases n with
      | none => exact SimF.nx r (re.set hw)
      | some j => exact SimF.nx r ((re.set hw).clr)
  | line i k =>
    cases n with
    | none => exact trivial
    | some j =>
      cases x with
      | none => exact trivial
      | some w =>
        cases w <;> try exact trivial
        case int l =>
          obtain ⟨d, rfl, q⟩ := hx
          unfold RV at q; subst q
          dsimp only [Mini.suite]
          rw [re.1]
          cases Nat.blt j u.length with
          | false => exact trivial
          | true => exact SimF.nx r ((re.set (w := .t (.int (l + k))) (show RV A F _ _ from rv_int)).clr)
theorem clause_ok {P : Pg} {c : Nat} : ∀ hs : List (Nat × Option Nat × Hk), clauseT P.sup c hs = Mini.clause P.un c hs
  | [] => rfl
  | (k, n, h) :: r => by
    unfold clauseT Mini.clause
    rw [clause_ok r]
    rfl
end
section
variable {P : Pg} {C : Call} {Cm : Mini.Call} (hC : CallOk C Cm) (hg : V.isCs P.glo = true)
include hC hg
mutual
theorem sS : ∀ (s : St), SimS (evS P C s) (Mini.evS P.un Cm s.un)
  | .bad, A, μ, F, M, v, u, r, re => by rw [evS]; exact trivial
  | .pass, A, μ, F, M, v, u, r, re => by rw [evS, St.un, Mini.evS]; exact SimF.nx r re
  | .set i e, A, μ, F, M, v, u, r, re => by
    rw [evS, St.un, Mini.evS]
    exact toF_ok (sE hC hg e A μ F M v u r re) r.sub re fun w M' d A' μ' F' x r1 q => SimF.nx r1 ((re.ext x r.sub).set q)
  | .unp is e, A, μ, F, M, v, u, r, re => by
    rw [evS, St.un, Mini.evS]
    exact toF_ok (sE hC hg e A μ F M v u r re) r.sub re fun w M' d A' μ' F' x r1 q => unp_ok r1 (re.ext x r.sub) q
  | .par i j a b, A, μ, F, M, v, u, r, re => by
    rw [evS, St.un, Mini.evS]
    refine toF_ok (sE hC hg a A μ F M v u r re) r.sub re fun w M1 d A1 μ1 F1 x r1 q => ?_
    have re1 := re.ext x r.sub
    exact toF_ok (sE hC hg b A1 μ1 F1 M1 v u r1 re1) r1.sub re1 fun w2 M2 d2 A2 μ2 F2 x2 r2 q2 => SimF.nx r2 (((re1.ext x2 r1.sub).set (q.ext x2 r1.sub)).set q2)
  | .sfld a f e, A, μ, F, M, v, u, r, re => by
    rw [evS, St.un, Mini.evS]
    refine toF_ok (sE hC hg e A μ F M v u r re) r.sub re fun w M1 d A1 μ1 F1 x r1 q => ?_
    have re1 := re.ext x r.sub
    exact toF_ok (sE hC hg a A1 μ1 F1 M1 v u r1 re1) r1.sub re1 fun w2 M2 d2 A2 μ2 F2 x2 r2 q2 => sfld_ok r2 (re1.ext x2 r1.sub) q2 (q.ext x2 r1.sub)
  | .ssub a i e, A, μ, F, M, v, u, r, re => by
    rw [evS, St.un, Mini.evS]
    refine toF_ok (sE hC hg e A μ F M v u r re) r.sub re fun w M1 d A1 μ1 F1 x r1 q => ?_
    have re1 := re.ext x r.sub
    refine toF_ok (sE hC hg a A1 μ1 F1 M1 v u r1 re1) r1.sub re1 fun w2 M2 d2 A2 μ2 F2 x2 r2 q2 => ?_
    have re2 := re1.ext x2 r1.sub
    exact toF_ok (sE hC hg i A2 μ2 F2 M2 v u r2 re2) r2.sub re2 fun w3 M3 d3 A3 μ3 F3 x3 r3 q3 => ssub_ok r3 (re2.ext x3 r2.sub) (q2.ext x3 r2.sub) q3 (q.ext (x2.trans x3) r1.sub)
  | .aug i o e, A, μ, F, M, v, u, r, re => by
    rw [evS, St.un, Mini.evS]
    split
    · rename_i x e1
      obtain ⟨d, e2, q⟩ := re.2 i _ e1
      have q : RV A F (.int x) d := q
      unfold RV at q; subst q
      rw [e2]
      dsimp only
      refine toF_ok (sE hC hg e A μ F M v u r re) r.sub re fun w M1 d A1 μ1 F1 x1 r1 q => ?_
      split
      · have q : RV A1 F1 (.int _) d := q
        unfold RV at q; subst q
        exact SimF.nx r1 ((re.ext x1 r.sub).set (w := .t (.int _)) (show RV A1 F1 _ _ from rv_int))
      · exact trivial
    · exact trivial
  | .augF a f e, A, μ, F, M, v, u, r, re => by
    rw [evS, St.un, Mini.evS]
    refine toF_ok (sE hC hg a A μ F M v u r re) r.sub re fun x M1 d A1 μ1 F1 x1 r1 q => ?_
    have re1 := re.ext x1 r.sub
    cases x with
    | t x => exact trivial
    | h k =>
      obtain ⟨n, rfl, hm⟩ := q
      dsimp only
      cases e1 : M1[k]? with
      | none => exact trivial
      | some ob =>
        cases ob <;> try exact trivial
        case ins c0 fs =>
          dsimp only
          obtain ⟨o, a2, ds, rfl, q⟩ := r1.at_ k n _ hm e1
          have p := pr_kv q
          cases e2 : getW fs f with
          | none => exact trivial
          | some w =>
            cases w with
            | h _ => exact trivial
            | t w =>
              cases w <;> try exact trivial
              case int i =>
                dsimp only
                obtain ⟨d0, e3, q3⟩ := get_W p e2
                have q3 : RV A1 F1 (.int i) d0 := q3
                unfold RV at q3; subst q3
                rw [a2]
                dsimp only
                rw [e3]
                dsimp only
                refine toF_ok (sE hC hg e A1 μ1 F1 M1 v u r1 re1) r1.sub re1 fun y M2 dy A2 μ2 F2 x2 r2 q2 => ?_
                cases y with
                | h _ => exact trivial
                | t y =>
                  cases y <;> try exact trivial
                  case int l =>
                    have q2 : RV A2 F2 (.int l) dy := q2
                    unfold RV at q2; subst q2
                    dsimp only
                    have hm2 := x2.get hm
                    cases e5 : M2[k]? with
                    | none => exact trivial
                    | some ob =>
                      cases ob <;> try exact trivial
                      case ins c fs2 =>
                        dsimp only
                        obtain ⟨o5, a5, ds5, rfl, q5⟩ := r2.at_ k n _ hm2 e5
                        have p5 := pr_kv q5
                        rw [a5]
                        dsimp only
                        rw [p5.len]
                        split
                        · have p6 := put_W (k := f) (w := .t (.int (i + l))) (d := .int (i + l)) p5 (show RV A2 F2 _ _ from rv_int)
                          obtain ⟨z1, z2⟩ := p6.zipd
                          have xx : Ext A2 μ2 F2 (A2.set n (.ins c (put1 ((fs2.map (·.1)).zip ds5) f (.int (i + l))))) μ2 F2 := Ext.write hm2
                          exact SimF.up xx (SimF.nx (r2.write hm2 ⟨_, by rw [← z1], pr_rws p6⟩) ((re1.ext x2 r1.sub).ext xx r2.sub))
                        · exact trivial
  | .expr e, A, μ, F, M, v, u, r, re => by
    rw [evS, St.un, Mini.evS]
    exact toF_ok (sE hC hg e A μ F M v u r re) r.sub re fun w M' d A' μ' F' x r1 q => SimF.nx r1 (re.ext x r.sub)
  | .ret e, A, μ, F, M, v, u, r, re => by
    rw [evS, St.un, Mini.evS]
    exact toF_ok (sE hC hg e A μ F M v u r re) r.sub re fun w M' d A' μ' F' x r1 q => ⟨d, A', μ', F', rfl, .refl, r1, q⟩
  | .retN, A, μ, F, M, v, u, r, re => by
    rw [evS, St.un, Mini.evS]
    exact ⟨.non, A, μ, F, rfl, .refl, r, (show RV A F .non .non from rv_non)⟩
  | .ife c a b, A, μ, F, M, v, u, r, re => by
    rw [evS, St.un, Mini.evS]
    refine toFB_ok (sE hC hg c A μ F M v u r re) r.sub re fun k M' A' μ' F' x r1 => ?_
    cases k with
    | true => exact sSs a A' μ' F' M' v u r1 (re.ext x r.sub)
    | false => exact sSs b A' μ' F' M' v u r1 (re.ext x r.sub)
  | .for_ t it body, A, μ, F, M, v, u, r, re => by
    rw [evS, St.un, Mini.evS]
    have z := sI hC hg it A μ F M v u r re
    revert z
    cases evI P C it v M with
    | bad => exact fun _ => trivial
    | exc c x M' => rintro ⟨y, A', μ', F', e, h1, h2, h3⟩; rw [e]; exact ⟨y, u, A', μ', F', rfl, h1, h2, h3, re.ext h1 r.sub⟩
    | ok i M' =>
      rintro ⟨i', A', μ', F', e, x, r1, hi⟩
      rw [e]
      exact SimF.up x (forG_ok (sSs body) r1 hi (re.ext x r.sub))
  | .while_ c body, A, μ, F, M, v, u, r, re => by
    rw [evS, St.un, Mini.evS]
    exact whileG_ok (sE hC hg c) (sSs body) 400 A μ F M v u r re
  | .raise_ c e, A, μ, F, M, v, u, r, re => by
    cases e with
    | none => rw [evS, St.un, unO, Mini.evS]; exact ⟨none, u, A, μ, F, rfl, .refl, r, rfl, re⟩
    | some e =>
      rw [evS, St.un, unO, Mini.evS]
      refine toF_ok (sE hC hg e A μ F M v u r re) r.sub re fun w M' d A' μ' F' x r1 q => ?_
      cases w with
      | h k => exact trivial
      | t w => exact ⟨some d, u, A', μ', F', rfl, .refl, r1, ⟨d, rfl, q⟩, re.ext x r.sub⟩
  | .try_ body hs, A, μ, F, M, v, u, r, re => by
    rw [evS, St.un, Mini.evS]
    have z := sSs body A μ F M v u r re
    revert z
    cases evSs P C body v M with
    | bad => exact fun _ => trivial
    | nx v2 M2 => rintro ⟨u2, A', μ', F', e3, q⟩; rw [e3]; exact ⟨u2, A', μ', F', rfl, q⟩
    | rt w M2 => rintro ⟨u2, A', μ', F', e3, q⟩; rw [e3]; exact ⟨u2, A', μ', F', rfl, q⟩
    | exc c z w M2 =>
      rintro ⟨y, u2, A', μ', F', e3, x, r2, hx, re2⟩
      rw [e3]
      dsimp only
      show SimF A μ F (if Nat.blt c P.sup.length = true then _ else _) (if Nat.blt c P.sup.length = true then _ else _)
      split
      · rw [clause_ok]
        cases Mini.clause P.un c hs with
        | none => exact ⟨y, u2, A', μ', F', rfl, x, r2, hx, re2⟩
        | some p =>
          obtain ⟨n, h⟩ := p
          exact SimF.up x (suite_ok r2 re2 hx)
      · exact trivial
theorem sSs : ∀ (s : List St), SimS (evSs P C s) (Mini.evSs P.un Cm (unSs s))
  | [], A, μ, F, M, v, u, r, re => by rw [evSs, unSs, Mini.evSs]; exact SimF.nx r re
  | s :: ss, A, μ, F, M, v, u, r, re => by
    rw [evSs, unSs, Mini.evSs]
    have z := sS s A μ F M v u r re
    revert z
    cases evS P C s v M with
    | bad => exact fun _ => trivial
    | nx v2 M2 =>
      rintro ⟨u2, A', μ', F', e3, x, r2, re2⟩
      rw [e3]
      exact SimF.up x (sSs ss A' μ' F' M2 v2 u2 r2 re2)
    | rt w M2 => rintro ⟨u2, A', μ', F', e3, q⟩; rw [e3]; exact ⟨u2, A', μ', F', rfl, q⟩
    | exc c z w M2 => rintro ⟨y, u2, A', μ', F', e3, q⟩; rw [e3]; exact ⟨y, u2, A', μ', F', rfl, q⟩
end
theorem run_ok : CallOk (runFn P C) (Mini.runFn P.un Cm) := fun f ws ds A μ F M r h => by
  unfold runFn Mini.runFn
  show Sim A μ F (match P.fns[f]? with | none => .bad | some fn => _) (match (P.fns.map Fn.un)[f]? with | none => .bad | some fn => _) GW
  rw [List.getElem?_map]
  cases P.fns[f]? with
  | none => exact trivial
  | some fn =>
    show Sim A μ F (if ws.length = fn.np then _ else _) (if ds.length = fn.np then _ else _) GW
    rw [h.len]
    split
    · have re : RE A F μ (ws.map some ++ List.replicate (fn.nl - ds.length) none) (ds.map some ++ List.replicate (fn.nl - ds.length) none) := by
        refine ⟨by simp [h.len], fun i w e => ?_⟩
        by_cases hi : i < ws.length
        · rw [List.getElem?_append_left (by simpa using hi), List.getElem?_map] at e
          obtain ⟨w', e1, e2⟩ := Option.map_eq_some_iff.mp e
          cases e2
          obtain ⟨d, e3, q⟩ := h.get e1
          exact ⟨d, by rw [List.getElem?_append_left (by simp; rw [← h.len]; exact hi), List.getElem?_map, e3]; rfl, q⟩
        · rw [List.getElem?_append_right (by simpa using hi), List.getElem?_replicate] at e
          split at e <;> cases e
      have z := sSs hC hg fn.body A μ F M _ _ r re
      show Sim A μ F (match evSs P C fn.body (ws.map some ++ List.replicate (fn.nl - ds.length) none) M with | .nx _ M' => .ok (.t .non) M' | .rt d M' => .ok d M' | .exc c x _ M' => .exc c x M' | .bad => .bad)
        (match Mini.evSs P.un Cm (unSs fn.body) (ds.map some ++ List.replicate (fn.nl - ds.length) none) A with | .nx _ A' => .ok .non A' | .rt d A' => .ok d A' | .exc c x _ A' => .exc c x A' | .bad => .bad) GW
      revert z
      cases evSs P C fn.body (ws.map some ++ List.replicate (fn.nl - ds.length) none) M with
      | bad => exact fun _ => trivial
      | nx v2 M2 => rintro ⟨u2, A', μ', F', e3, x, r2, _⟩; rw [e3]; exact ⟨.non, A', μ', F', rfl, x, r2, (show RV A' F' .non .non from rv_non)⟩
      | rt w M2 => rintro ⟨u2, A', μ', F', e3, q⟩; rw [e3]; exact ⟨u2, A', μ', F', rfl, q⟩
      | exc c z w M2 => rintro ⟨y, u2, A', μ', F', e3, x, r2, hx, _⟩; rw [e3]; exact ⟨y, A', μ', F', rfl, x, r2, hx⟩
    · exact trivial
end
theorem call_ok {P : Pg} (hg : V.isCs P.glo = true) : ∀ n, CallOk (callT P n) (Mini.callN P.un n)
  | 0 => fun _ _ _ _ _ _ _ _ _ => trivial
  | n + 1 => run_ok (call_ok hg n) hg
/-- a law's end -/
theorem law_ok {P : Pg} (hg : V.isCs P.glo = true) {n f : Nat} {ns : List Int} (h : ∃ M, callT P n f [.t (.scr ns)] [] = .ok (.t (.bl true)) M) : ∃ A', Mini.callN P.un n f [.scr ns] [] = .ok (.bl true) A' := by
  obtain ⟨M, h⟩ := h
  have r : Rel [] [] (fun _ => False) [] := ⟨rfl, List.nodup_nil, fun _ h => (by cases h), fun _ h => h.elim, fun k n ob h => (by simp at h)⟩
  have z := call_ok hg n f [.t (.scr ns)] [.scr ns] [] [] (fun _ => False) [] r (.cons (show RV [] (fun _ => False) (.scr ns) (.scr ns) by unfold RV; rfl) .nil)
  rw [h] at z
  obtain ⟨d, A', μ', F', e, _, _, q⟩ := z
  have q : RV A' F' (.bl true) d := q
  unfold RV at q; subst q
  exact ⟨A', e⟩
end MT

set_option Elab.async false
set_option linter.all false
set_option maxRecDepth 100000
set_option maxHeartbeats 4000000
/-! MT: reckoning by rules. -/
namespace MT
open Mini (S O2 Cm Bi Bm Ty T Hk D Tr big ixN atI cut rep small64 b2 get1 put1 putD splitS joinS intS intOf sortS sortR minI putAll isNon grpG clause Hh)
theorem bind_ok {α β : Type} {a : α} {M : Hp} {f : α → Hp → RT β} : (RT.ok a M).bind f = f a M := rfl
theorem bind_exc {α β : Type} {c : Nat} {x : Option V} {M : Hp} {f : α → Hp → RT β} : (RT.exc c x M : RT α).bind f = .exc c x M := rfl
theorem toF_ok' {v : Env} {a : W} {M : Hp} {f : W → Hp → FT} : (RT.ok a M).toF v f = f a M := rfl
theorem toF_exc {v : Env} {c : Nat} {x : Option V} {M : Hp} {f : W → Hp → FT} : (RT.exc c x M : RT W).toF v f = .exc c x v M := rfl
theorem toFB_def {v : Env} {r : RT W} {f : Bool → Hp → FT} : RT.toFB v r f = r.toF v fun d M => match truthW M d with | some b => f b M | none => .bad := rfl
/-- a def's body on its arguments -/
def body (P : Pg) (C : Call) (fn : Fn) (ws : List W) (M : Hp) : RT W :=
  match evSs P C fn.body (ws.map some ++ List.replicate (fn.nl - ws.length) none) M with
  | .nx _ M' => .ok (.t .non) M'
  | .rt d M' => .ok d M'
  | .exc c x _ M' => .exc c x M'
  | .bad => .bad
theorem body_rt {P : Pg} {C : Call} {fn : Fn} {ws : List W} {M M' : Hp} {w : W} (h : evSs P C fn.body (ws.map some ++ List.replicate (fn.nl - ws.length) none) M = .rt w M') : body P C fn ws M = .ok w M' := by
  unfold body; rw [h]
theorem body_nx {P : Pg} {C : Call} {fn : Fn} {ws : List W} {M M' : Hp} {v : Env} (h : evSs P C fn.body (ws.map some ++ List.replicate (fn.nl - ws.length) none) M = .nx v M') : body P C fn ws M = .ok (.t .non) M' := by
  unfold body; rw [h]
theorem body_exc {P : Pg} {C : Call} {fn : Fn} {ws : List W} {M M' : Hp} {v : Env} {c : Nat} {x : Option V} (h : evSs P C fn.body (ws.map some ++ List.replicate (fn.nl - ws.length) none) M = .exc c x v M') : body P C fn ws M = .exc c x M' := by
  unfold body; rw [h]
theorem call_at {P : Pg} {f : Nat} {fn : Fn} (h : P.fns[f]? = some fn) {n : Nat} {ws : List W} {M : Hp} (hl : ws.length = fn.np) : callT P (n + 1) f ws M = body P (callT P n) fn ws M := by
  show runFn P (callT P n) f ws M = _
  unfold runFn body
  rw [h]
  dsimp only
  rw [if_pos hl]
  all_goals (cases evSs P (callT P n) fn.body (ws.map some ++ List.replicate (fn.nl - ws.length) none) M <;> rfl)
/-- a call with trees alone -/
theorem cook_t {C : Call} {f : Nat} {ws : List W} {M M' : Hp} {v : V} (ht : isTs ws = true) (h : C f ws [] = .ok (.t v) M') : cook C f ws M = .ok (.t v) M := by
  unfold cook
  rw [if_pos ht, h]
  rfl
theorem cook_x {C : Call} {f : Nat} {ws : List W} {M M' : Hp} {c : Nat} {x : Option V} (ht : isTs ws = true) (h : C f ws [] = .exc c x M') : cook C f ws M = .exc c x M := by
  unfold cook
  rw [if_pos ht, h]
  rfl
/-- a call that changes things: what it leaves of its own falls -/
theorem cook_h {C : Call} {f : Nat} {ws : List W} {M M' g : Hp} {v : V} (ht : isTs ws = false) (h : C f ws M = .ok (.t v) (M' ++ g)) (hl : M'.length = M.length) (lo : lows M.length M' = true) : cook C f ws M = .ok (.t v) M' := by
  unfold cook
  rw [if_neg (by rw [ht]; exact Bool.false_ne_true), h]
  unfold fin
  dsimp only
  rw [List.take_left' hl, lo]
  rfl
/-- a def's statement -/
def stm (f : Fn) (i : Nat) : St := f.body.getD i .bad
theorem evSs_nx {P : Pg} {C : Call} {s : St} {r : List St} {v v' : Env} {M M' : Hp} (h : evS P C s v M = .nx v' M') : evSs P C (s :: r) v M = evSs P C r v' M' := by
  rw [evSs, h]
theorem evSs_rt {P : Pg} {C : Call} {s : St} {r : List St} {v : Env} {M M' : Hp} {w : W} (h : evS P C s v M = .rt w M') : evSs P C (s :: r) v M = .rt w M' := by
  rw [evSs, h]
theorem evSs_exc {P : Pg} {C : Call} {s : St} {r : List St} {v v' : Env} {M M' : Hp} {c : Nat} {x : Option V} (h : evS P C s v M = .exc c x v' M') : evSs P C (s :: r) v M = .exc c x v' M' := by
  rw [evSs, h]
theorem for_at {P : Pg} {C : Call} {s : St} {t : T} {it : I} {body : List St} (hs : s = .for_ t it body) {v : Env} {M M' : Hp} {xs : List V} (h : evI P C it v M = .ok (.seq xs) M') : evS P C s v M = forL t (fun v M => evSs P C body v M) xs v M' := by
  rw [hs, evS, h]
  rfl
theorem range_if {k : Nat} (h : k < 1000000) {M : Hp} : (if (decide ((k : Int) < 1000000) && decide ((-1000000 : Int) < (k : Int))) = true then RT.ok (It.seq (rngV (k : Int).toNat)) M else .bad) = .ok (.seq (rngV k)) M := by
  rw [if_pos (by rw [Bool.and_eq_true]; exact ⟨decide_eq_true (by omega), decide_eq_true (by omega)⟩), Int.toNat_natCast]
theorem rangeI {i : Int} (h0 : 0 ≤ i) (h : i < 1000000) {M : Hp} : (if (decide (i < 1000000) && decide ((-1000000 : Int) < i)) = true then RT.ok (It.seq (rngV i.toNat)) M else .bad) = .ok (.seq (rngV i.toNat)) M := by
  rw [if_pos (by rw [Bool.and_eq_true]; exact ⟨decide_eq_true h, decide_eq_true (by omega)⟩)]
theorem range_at {P : Pg} {C : Call} {e : E} {v : Env} {M M' : Hp} {k : Nat} (h : evE P C e v M = .ok (.t (.int (k : Int))) M') (hk : k < 1000000) : evI P C (.range e) v M = .ok (.seq (rngV k)) M' := by
  rw [evI, h, bind_ok]
  dsimp only
  rw [range_if hk]
theorem evSs_app {P : Pg} {C : Call} : ∀ {a b : List St} {v v' : Env} {M M' : Hp}, evSs P C a v M = .nx v' M' → evSs P C (a ++ b) v M = evSs P C b v' M'
  | [], b, v, v', M, M', h => by rw [evSs] at h; injection h with h1 h2; rw [h1, h2]; rfl
  | s :: a, b, v, v', M, M', h => by
    rw [evSs] at h
    rw [List.cons_append, evSs]
    cases e : evS P C s v M with
    | nx v2 M2 => rw [e] at h; exact evSs_app h
    | rt w M2 => rw [e] at h; cases h
    | exc c x v2 M2 => rw [e] at h; cases h
    | bad => rw [e] at h; cases h
/-- closed runs -/
def okT : RT W → Bool
  | .ok (.t (.bl true)) _ => true
  | _ => false
theorem okT_cook {C : Call} {f : Nat} {ws : List W} {M : Hp} (ht : isTs ws = true) (h : okT (C f ws []) = true) : cook C f ws M = .ok (.t (.bl true)) M := by
  unfold okT at h
  split at h
  · rename_i e; exact cook_t ht e
  · cases h
def getV' (f : FT) (i : Nat) : V := match f with
  | .nx e _ => (match e[i]? with | some (some (.t v)) => v | _ => .non)
  | _ => .non
def getL' (f : FT) (i : Nat) : List V := match getV' f i with
  | .lst l => l
  | _ => []
def getO' (f : FT) (i : Nat) : List V := match f with
  | .nx _ M => (match M[i]? with | some (.lst l) => l | _ => [])
  | _ => []
/-- lists with places -/
theorem lows_lst {n : Nat} : ∀ ls : List (List V), lows n (ls.map .lst) = true
  | [] => rfl
  | _ :: ls => by rw [List.map_cons, lows, lows_lst ls]; rfl
theorem lcL_map {f : Im → Hp → RT (Option V)} {g : V → V} {M : Hp} : ∀ {xs acc : List V}, (∀ x ∈ xs, f (.one (.t x)) M = .ok (some (g x)) M) → acc.length + xs.length ≤ 16777216 → lcL f xs acc M = .ok (acc ++ xs.map g) M
  | [], acc, _, _ => by simp [lcL]
  | x :: xs, acc, h, hl => by
    rw [lcL, h x List.mem_cons_self]
    simp only [List.length_cons] at hl
    dsimp only
    rw [if_pos (by simp; omega), lcL_map (fun y hy => h y (List.mem_cons_of_mem _ hy)) (by simp; omega)]
    simp
theorem lcL_filter {f : Im → Hp → RT (Option V)} {p : V → Bool} {g : V → V} {M : Hp} : ∀ {xs acc : List V}, (∀ x ∈ xs, f (.one (.t x)) M = .ok (if p x then some (g x) else none) M) → acc.length + xs.length ≤ 16777216 → lcL f xs acc M = .ok (acc ++ (xs.filter p).map g) M
  | [], acc, _, _ => by simp [lcL]
  | x :: xs, acc, h, hl => by
    rw [lcL, h x List.mem_cons_self]
    simp only [List.length_cons] at hl
    cases hp : p x with
    | true =>
      rw [if_pos rfl]
      dsimp only
      rw [if_pos (by simp; omega), lcL_filter (fun y hy => h y (List.mem_cons_of_mem _ hy)) (by simp; omega), List.filter_cons_of_pos hp]
      simp
    | false =>
      rw [if_neg (by simp)]
      dsimp only
      rw [lcL_filter (fun y hy => h y (List.mem_cons_of_mem _ hy)) (by omega), List.filter_cons_of_neg (by simp [hp])]
theorem bls_map {α : Type} (f : α → Bool) : ∀ l : List α, blsV (l.map fun a => V.bl (f a)) = some (l.map f)
  | [] => rfl
  | a :: l => by simp [blsV, bls_map f l]
theorem strs_map {α : Type} (f : α → S) : ∀ l : List α, strsV (l.map fun a => V.str (f a)) = some (l.map f)
  | [] => rfl
  | a :: l => by simp [strsV, strs_map f l]
/-! ### rules of reckoning -/
section
variable {P : Pg} {M : Hp} {v v1 v2 : V} {w x y d : W} {xs ys : List V} {k : Nat} {f : Nat}
theorem ofV_s : ofV (some v) M = .ok (.t v) M := rfl
theorem ofW_s : ofW (some w) M = .ok w M := rfl
theorem ofB_s {b : Bool} : ofB (some b) M = .ok (.t (.bl b)) M := rfl
theorem ofN_s {l : Bool} : ofN l (some v) M = mkN l v M := rfl
theorem mkN_f : mkN false v M = .ok (.t v) M := rfl
theorem mkN_lst : mkN true (.lst xs) M = .ok (.h M.length) (M ++ [.lst xs]) := rfl
theorem cls_non : clsOf M (.t .non) = none := rfl
theorem cls_bl {b : Bool} : clsOf M (.t (.bl b)) = none := rfl
theorem cls_int {i : Int} : clsOf M (.t (.int i)) = none := rfl
theorem cls_str {s : S} : clsOf M (.t (.str s)) = none := rfl
theorem cls_tup : clsOf M (.t (.tup xs)) = none := rfl
theorem cls_lst : clsOf M (.t (.lst xs)) = none := rfl
theorem cls_dk {ks : List S} : clsOf M (.t (.dk ks xs)) = none := rfl
theorem cls_dt {ks : List (List S)} : clsOf M (.t (.dt ks xs)) = none := rfl
theorem cls_scr {ks : List Int} : clsOf M (.t (.scr ks)) = none := rfl
theorem cls_ins {c : Nat} {fs : List Nat} : clsOf M (.t (.ins c fs xs)) = some c := rfl
def clsO : Option Ob → Option Nat
  | some (.ins c _) => some c
  | _ => none
theorem cls_h : clsOf M (.h k) = clsO M[k]? := by
  show (match M[k]? with | some (.ins c _) => some c | _ => none) = (match M[k]? with | some (.ins c _) => some c | _ => none)
  cases M[k]? with
  | none => rfl
  | some o => cases o <;> rfl
theorem clsO_ins {c : Nat} {fs : List (Nat × W)} : clsO (some (.ins c fs)) = some c := rfl
theorem clsO_lst : clsO (some (.lst xs)) = none := rfl
theorem clsO_lsw {ws : List W} : clsO (some (.lsw ws)) = none := rfl
theorem clsO_dk {ws : List (S × W)} : clsO (some (.dk ws)) = none := rfl
theorem clsO_dt {ws : List (List S × W)} : clsO (some (.dt ws)) = none := rfl
def ownC (P : Pg) (M : Hp) : Option Nat → W → Option Nat
  | none, _ => none
  | some k, y => (match P.eqm[k]? with
    | some (some f) => (match y with
      | .t (.tup _) => some f
      | .t (.int _) => some f
      | y => (match clsOf M y with | some j => if j = k then some f else none | none => none))
    | _ => none)
theorem ownEq_eq : ownEq P M .eq x y = ownC P M (clsOf M x) y := by
  unfold ownEq ownC
  cases clsOf M x <;> rfl
theorem ownC_n : ownC P M none y = none := rfl
theorem ownC_s : ownC P M (some k) y = (match P.eqm[k]? with
    | some (some f) => (match y with
      | .t (.tup _) => some f
      | .t (.int _) => some f
      | y => (match clsOf M y with | some j => if j = k then some f else none | none => none))
    | _ => none) := rfl
theorem ownEq_ne : ownEq P M .ne x y = none := rfl
theorem ownEq_lt : ownEq P M .lt x y = none := rfl
theorem ownEq_le : ownEq P M .le x y = none := rfl
theorem ownEq_gt : ownEq P M .gt x y = none := rfl
theorem ownEq_ge : ownEq P M .ge x y = none := rfl
theorem ownEq_isN : ownEq P M .isN x y = none := rfl
theorem ownEq_notN : ownEq P M .notN x y = none := rfl
theorem ownEq_inn : ownEq P M .inn x y = none := rfl
theorem ownEq_notin : ownEq P M .notin x y = none := rfl
theorem ownLen_len : ownLen P M .len [x] = (match clsOf M x with | some k => (match P.lenm[k]? with | some (some f) => some f | _ => none) | none => none) := rfl
theorem ownLen_int {ws : List W} : ownLen P M .int ws = none := rfl
theorem ownLen_str {ws : List W} : ownLen P M .str ws = none := rfl
theorem ownLen_list {ws : List W} : ownLen P M .list ws = none := rfl
theorem ownLen_tuple {ws : List W} : ownLen P M .tuple ws = none := rfl
theorem ownLen_dict {ws : List W} : ownLen P M .dict ws = none := rfl
theorem ownLen_dictzip {ws : List W} : ownLen P M .dictzip ws = none := rfl
theorem ownLen_listzip {ws : List W} : ownLen P M .listzip ws = none := rfl
theorem ownLen_sorted {ws : List W} : ownLen P M .sorted ws = none := rfl
theorem ownLen_all {ws : List W} : ownLen P M .all ws = none := rfl
theorem ownLen_any {ws : List W} : ownLen P M .any ws = none := rfl
theorem ownLen_max2 {ws : List W} : ownLen P M .max2 ws = none := rfl
theorem ownLen_min1 {ws : List W} : ownLen P M .min1 ws = none := rfl
theorem ownLen_abs {ws : List W} : ownLen P M .abs ws = none := rfl
theorem cmpW_eq : cmpW M .eq x y = (rdW M x).bind fun a => (rdW M y).bind fun b => eqV a b := rfl
theorem cmpW_ne : cmpW M .ne x y = (rdW M x).bind fun a => (rdW M y).bind fun b => (eqV a b).map (!·) := rfl
theorem cmpW_lt : cmpW M .lt x y = (rdW M x).bind fun a => (rdW M y).bind fun b => cmpV .lt a b := rfl
theorem cmpW_le : cmpW M .le x y = (rdW M x).bind fun a => (rdW M y).bind fun b => cmpV .le a b := rfl
theorem cmpW_gt : cmpW M .gt x y = (rdW M x).bind fun a => (rdW M y).bind fun b => cmpV .gt a b := rfl
theorem cmpW_ge : cmpW M .ge x y = (rdW M x).bind fun a => (rdW M y).bind fun b => cmpV .ge a b := rfl
theorem cmpW_in : cmpW M .inn x y = (rdW M x).bind fun a => (rdW M y).bind fun b => inV a b := rfl
theorem cmpW_ni : cmpW M .notin x y = (rdW M x).bind fun a => (rdW M y).bind fun b => (inV a b).map (!·) := rfl
theorem cmpW_isN : cmpW M .isN (.t v) (.t .non) = some (isNonV v) := rfl
theorem cmpW_notN : cmpW M .notN (.t v) (.t .non) = some (!isNonV v) := rfl
theorem cmpW_isNh : cmpW M .isN (.h k) (.t .non) = some false := rfl
theorem cmpW_notNh : cmpW M .notN (.h k) (.t .non) = some true := rfl
theorem isNon_non : isNonV .non = true := rfl
theorem isNon_bl {b : Bool} : isNonV (.bl b) = false := rfl
theorem isNon_int {i : Int} : isNonV (.int i) = false := rfl
theorem isNon_str {s : S} : isNonV (.str s) = false := rfl
theorem isNon_tup : isNonV (.tup xs) = false := rfl
theorem isNon_lst : isNonV (.lst xs) = false := rfl
theorem lt_ii {i j : Int} : cmpV .lt (.int i) (.int j) = some (decide (i < j)) := rfl
theorem le_ii {i j : Int} : cmpV .le (.int i) (.int j) = some (decide (i ≤ j)) := rfl
theorem gt_ii {i j : Int} : cmpV .gt (.int i) (.int j) = some (decide (j < i)) := rfl
theorem ge_ii {i j : Int} : cmpV .ge (.int i) (.int j) = some (decide (j ≤ i)) := rfl
theorem eq_ii {i j : Int} : eqV (.int i) (.int j) = some (decide (i = j)) := rfl
theorem eq_bb {i j : Bool} : eqV (.bl i) (.bl j) = some (i == j) := rfl
theorem eq_ss {i j : S} : eqV (.str i) (.str j) = some (decide (i = j)) := rfl
theorem eq_nn : eqV .non .non = some true := rfl
theorem eq_ni {i : Int} : eqV .non (.int i) = some false := rfl
theorem eq_in {i : Int} : eqV (.int i) .non = some false := rfl
theorem eq_ns {i : S} : eqV .non (.str i) = some false := rfl
theorem eq_sn {i : S} : eqV (.str i) .non = some false := rfl
theorem eq_nb {i : Bool} : eqV .non (.bl i) = some false := rfl
theorem eq_bn {i : Bool} : eqV (.bl i) .non = some false := rfl
theorem eq_tt : eqV (.tup xs) (.tup ys) = eqT (.tup xs) (.tup ys) := rfl
theorem eq_ll : eqV (.lst xs) (.lst ys) = eqT (.lst xs) (.lst ys) := rfl
theorem in_str {c : Nat} {t : S} : inV (.str [c]) (.str t) = some (decide (c ∈ t)) := rfl
theorem in_tup : inV v (.tup ys) = inT v ys := rfl
theorem in_lst : inV v (.lst ys) = inT v ys := rfl
theorem in_dk {s : S} {ks : List S} : inV (.str s) (.dk ks xs) = some (getV ks xs s).isSome := rfl
theorem ix_tup {i : Int} : idxV (.tup xs) (.int i) = atI xs i := rfl
theorem ix_lst {i : Int} : idxV (.lst xs) (.int i) = atI xs i := rfl
theorem ix_dk {s : S} {ks : List S} : idxV (.dk ks xs) (.str s) = getV ks xs s := rfl
theorem ix_dt {ks : List (List S)} : idxV (.dt ks xs) (.tup ys) = (strsV ys).bind fun k => getV ks xs k := rfl
theorem idxW_t : idxW M (.t v) w = (rdW M w).bind fun j => (idxV v j).map .t := rfl
def idxO : Option Ob → W → Option W
  | some (.lst xs), .t (.int j) => (atI xs j).map .t
  | some (.lsw ws), .t (.int j) => atI ws j
  | some (.dk kvs), .t (.str s) => getW kvs s
  | some (.dt kvs), .t (.tup ks) => (strsV ks).bind fun s => getW kvs s
  | _, _ => none
theorem idxW_h : idxW M (.h k) w = idxO M[k]? w := by
  unfold idxW idxO
  rfl
theorem idxO_lst {i : Int} : idxO (some (.lst xs)) (.t (.int i)) = (atI xs i).map .t := rfl
theorem idxO_lsw {ws : List W} {i : Int} : idxO (some (.lsw ws)) (.t (.int i)) = atI ws i := rfl
theorem idxO_dk {kvs : List (S × W)} {s : S} : idxO (some (.dk kvs)) (.t (.str s)) = getW kvs s := rfl
theorem idxO_dt {kvs : List (List S × W)} : idxO (some (.dt kvs)) (.t (.tup xs)) = (strsV xs).bind fun s => getW kvs s := rfl
theorem atN {α : Type} {l : List α} {i : Nat} : atI l (i : Int) = l[i]? := by
  unfold atI ixN
  rw [if_pos (by omega)]
  by_cases h : i < l.length
  · rw [if_pos (by omega)]; simp
  · rw [if_neg (by omega), List.getElem?_eq_none (by omega)]; rfl
theorem at0 {α : Type} {a : α} {l : List α} : atI (a :: l) 0 = some a := by show atI (a :: l) ((0 : Nat) : Int) = _; rw [atN]; rfl
theorem at1 {α : Type} {a b : α} {l : List α} : atI (a :: b :: l) 1 = some b := by show atI (a :: b :: l) ((1 : Nat) : Int) = _; rw [atN]; rfl
theorem at2 {α : Type} {a b c : α} {l : List α} : atI (a :: b :: c :: l) 2 = some c := by show atI (a :: b :: c :: l) ((2 : Nat) : Int) = _; rw [atN]; rfl
theorem at3 {α : Type} {a b c d : α} {l : List α} : atI (a :: b :: c :: d :: l) 3 = some d := by show atI (a :: b :: c :: d :: l) ((3 : Nat) : Int) = _; rw [atN]; rfl
theorem at4 {α : Type} {a b c d e : α} {l : List α} : atI (a :: b :: c :: d :: e :: l) 4 = some e := by show atI (a :: b :: c :: d :: e :: l) ((4 : Nat) : Int) = _; rw [atN]; rfl
theorem at5 {α : Type} {a b c d e f : α} {l : List α} : atI (a :: b :: c :: d :: e :: f :: l) 5 = some f := by show atI (a :: b :: c :: d :: e :: f :: l) ((5 : Nat) : Int) = _; rw [atN]; rfl
theorem sl_tup {lo hi : Option Int} : slcV (.tup xs) lo hi = some (.tup (cut xs lo hi)) := rfl
theorem sl_lst {lo hi : Option Int} : slcV (.lst xs) lo hi = some (.lst (cut xs lo hi)) := rfl
theorem sl_str {s : S} {lo hi : Option Int} : slcV (.str s) lo hi = if big s.length then some (.str (cut s lo hi)) else none := rfl
theorem rev_lst : revV (.lst xs) = some (.lst xs.reverse) := rfl
theorem add_ii {i j : Int} : op2V .add (.int i) (.int j) = some (.int (i + j)) := rfl
theorem add_ss {i j : S} : op2V .add (.str i) (.str j) = if big (i.length + j.length) then some (.str (i ++ j)) else none := rfl
theorem add_tt : op2V .add (.tup xs) (.tup ys) = if big (xs.length + ys.length) then some (.tup (xs ++ ys)) else none := rfl
theorem add_ll : op2V .add (.lst xs) (.lst ys) = if big (xs.length + ys.length) then some (.lst (xs ++ ys)) else none := rfl
theorem sub_ii {i j : Int} : op2V .sub (.int i) (.int j) = some (.int (i - j)) := rfl
theorem mul_ii {i j : Int} : op2V .mul (.int i) (.int j) = if small64 i || small64 j then some (.int (i * j)) else none := rfl
theorem mul_ti {i : Int} : op2V .mul (.tup xs) (.int i) = if decide (2 ≤ i) && decide (i ≤ 1000) && Nat.ble xs.length 1000 && Nat.blt 0 xs.length then some (.tup (rep xs i.toNat)) else none := rfl
theorem mul_li {i : Int} : op2V .mul (.lst xs) (.int i) = if decide (0 ≤ i) && decide (i ≤ 1000) && big (xs.length * i.toNat) then some (.lst (rep xs i.toNat)) else none := rfl
theorem fdiv_ii {i j : Int} : op2V .fdiv (.int i) (.int j) = if decide (0 < j) && decide (j < 1073741824) then some (.int (i / j)) else none := rfl
theorem mod_ii {i j : Int} : op2V .mod (.int i) (.int j) = if decide (0 < j) then some (.int (i % j)) else none := rfl
theorem pow_ii {i j : Int} : op2V .pow (.int i) (.int j) = if decide (0 ≤ j) && decide (j ≤ 100) && small64 i && decide (0 ≤ i) then some (.int (i ^ j.toNat)) else none := rfl
theorem len_str {s : S} : biV .len [.str s] = if big s.length then some (.int s.length) else none := rfl
theorem len_tup : biV .len [.tup xs] = some (.int xs.length) := rfl
theorem len_lst : biV .len [.lst xs] = some (.int xs.length) := rfl
theorem len_dk {ks : List S} : biV .len [.dk ks xs] = some (.int ks.length) := rfl
theorem int_int {i : Int} : biV .int [.int i] = some (.int i) := rfl
theorem int_bl {i : Bool} : biV .int [.bl i] = some (.int (b2 i)) := rfl
theorem int_str {s : S} : biV .int [.str s] = (intOf s).map .int := rfl
theorem str_str {s : S} : biV .str [.str s] = some (.str s) := rfl
theorem str_int {i : Int} : biV .str [.int i] = if Nat.ble i.natAbs 1000 then some (.str (intS i)) else none := rfl
theorem str_non : biV .str [.non] = some (.str [78, 111, 110, 101]) := rfl
theorem list_any : biV .list [v] = (itemsV v).map .lst := rfl
theorem tuple_tup : biV .tuple [.tup xs] = some (.tup xs) := rfl
theorem tuple_lst : biV .tuple [.lst xs] = some (.tup xs) := rfl
theorem dict_tup : biV .dict [.tup xs] = (pairsV xs).map fun kvs => dkOf (putsV [] [] kvs) := rfl
theorem dz_tt : biV .dictzip [.tup xs, .tup ys] = (strsV xs).bind fun k => if k.length = ys.length then some (dkOf (putsV [] [] (k.zip ys))) else none := rfl
theorem lz_ll : biV .listzip [.lst xs, .lst ys] = some (.lst ((xs.zip ys).map fun p => .tup [p.1, p.2])) := rfl
theorem all_lst : biV .all [.lst xs] = (blsV xs).map fun bs => .bl (bs.all id) := rfl
theorem any_lst : biV .any [.lst xs] = (blsV xs).map fun bs => .bl (bs.any id) := rfl
theorem max2_ii {i j : Int} : biV .max2 [.int i, .int j] = some (.int (if j > i then j else i)) := rfl
theorem abs_int {i : Int} : biV .abs [.int i] = some (.int (if i < 0 then -i else i)) := rfl
theorem isin_t {t : Ty} : isinW M (.t v) t = isinV v t := rfl
theorem isin_non {t : Ty} : isinV .non t = some false := rfl
theorem isin_bl {b : Bool} {t : Ty} : isinV (.bl b) t = some (match t with | .bool => true | .int => true | _ => false) := rfl
theorem isin_int {i : Int} {t : Ty} : isinV (.int i) t = some (match t with | .int => true | _ => false) := rfl
theorem isin_str {s : S} {t : Ty} : isinV (.str s) t = some (match t with | .str => true | _ => false) := rfl
theorem isin_tup {t : Ty} : isinV (.tup xs) t = some (match t with | .tuple => true | _ => false) := rfl
theorem isin_lst {t : Ty} : isinV (.lst xs) t = some (match t with | .list => true | _ => false) := rfl
theorem isin_dk {ks : List S} {t : Ty} : isinV (.dk ks xs) t = some (match t with | .dict => true | _ => false) := rfl
theorem isin_ins {c : Nat} {fs : List Nat} {t : Ty} : isinV (.ins c fs xs) t = some (match t with | .cls c' => decide (c = c') | _ => false) := rfl
theorem fld_ins {c : Nat} {fs : List Nat} : fldW M (.t (.ins c fs xs)) f = (getV fs xs f).map .t := rfl
def fldO : Option Ob → Nat → Option W
  | some (.ins _ fs), f => getW fs f
  | _, _ => none
theorem fld_h : fldW M (.h k) f = fldO M[k]? f := by
  unfold fldW fldO
  dsimp only
  cases M[k]? with
  | none => rfl
  | some o => cases o <;> rfl
theorem fldO_ins {c : Nat} {fs : List (Nat × W)} : fldO (some (.ins c fs)) f = getW fs f := rfl
def ssubO (M : Hp) (n : Nat) : Option Ob → W → W → Option Hp
  | some (.lst xs), .t (.int k), .t u => (ixN xs.length k).map fun j => M.set n (.lst (xs.set j u))
  | some (.dk kvs), .t (.str k), d => if Nat.blt kvs.length 1000000 then some (M.set n (.dk (putDW kvs k d))) else none
  | some (.dt kvs), .t (.tup ks), d => (strsV ks).bind fun k => if Nat.blt kvs.length 1000000 then some (M.set n (.dt (putDW kvs k d))) else none
  | _, _, _ => none
theorem ssub_lst {n : Nat} {i : Int} {u : V} (h : M[n]? = some (.lst xs)) : ssubW M (.h n) (.t (.int i)) (.t u) = (ixN xs.length i).map fun j => M.set n (.lst (xs.set j u)) := by
  unfold ssubW
  dsimp only
  rw [h]
  dsimp only
  cases ixN xs.length i <;> rfl
theorem ssub_h {n : Nat} {i : Int} {u : V} : ssubW M (.h n) (.t (.int i)) (.t u) = ssubO M n M[n]? (.t (.int i)) (.t u) := by
  unfold ssubW ssubO
  dsimp only
  cases M[n]? with
  | none => rfl
  | some o =>
    cases o <;> try rfl
    dsimp only
    rename_i xs
    cases ixN xs.length i <;> rfl
theorem ssub_hs {n : Nat} {s : S} {u : W} : ssubW M (.h n) (.t (.str s)) u = ssubO M n M[n]? (.t (.str s)) u := by
  unfold ssubW ssubO
  dsimp only
  cases M[n]? with
  | none => rfl
  | some o => cases o <;> rfl
theorem ssubO_lst {n : Nat} {i : Int} {u : V} : ssubO M n (some (.lst xs)) (.t (.int i)) (.t u) = (ixN xs.length i).map fun j => M.set n (.lst (xs.set j u)) := rfl
theorem ssubO_dk {n : Nat} {kvs : List (S × W)} {s : S} {u : W} : ssubO M n (some (.dk kvs)) (.t (.str s)) u = if Nat.blt kvs.length 1000000 then some (M.set n (.dk (putDW kvs s u))) else none := rfl
def sfldO (M : Hp) (k : Nat) (f : Nat) (d : W) : Option Ob → Option Hp
  | some (.ins c fs) => if Nat.blt fs.length 100 then some (M.set k (.ins c (putW fs f d))) else none
  | _ => none
theorem sfld_h : sfldW M (.h k) f d = sfldO M k f d M[k]? := by
  unfold sfldW sfldO
  rfl
theorem sfldO_ins {c : Nat} {fs : List (Nat × W)} : sfldO M k f d (some (.ins c fs)) = if Nat.blt fs.length 100 then some (M.set k (.ins c (putW fs f d))) else none := rfl
theorem toFM_s {e : Env} : toFM e (some M) = .nx e M := rfl
theorem toFE_s {e : Env} : toFE (some e) M = .nx e M := rfl
theorem unp_tup {e : Env} {is : List Nat} : unpW e is (.t (.tup xs)) = setAll e is xs := rfl
theorem unp_lst {e : Env} {is : List Nat} : unpW e is (.t (.lst xs)) = setAll e is xs := rfl
theorem put_one {e : Env} {i : Nat} : putT e (.one w) (.one i) = some (e.set i (some w)) := rfl
theorem put_tup {e : Env} {is : List Nat} : putT e (.one (.t (.tup xs))) (.many is) = setAll e is xs := rfl
theorem put_lst {e : Env} {is : List Nat} : putT e (.one (.t (.lst xs))) (.many is) = setAll e is xs := rfl
theorem put_two {e : Env} {i a b : Nat} : putT e (.two i w) (.many [a, b]) = some ((e.set a (some (.t (.int (i : Nat))))).set b (some w)) := rfl
theorem lcG_s {g : Im → Hp → RT (Option V)} : lcG g (.seq xs) M = lcL g xs [] M := rfl
theorem lcG2_s {g : Im → List V → Hp → RT (List V)} : lcG2 g (.seq xs) ys M = lcL2 g xs ys M := rfl
theorem tree_t : tree (.t v) M = .ok v M := rfl
theorem forG_s {t : T} {b : Env → Hp → FT} {e : Env} : forG t b (.seq xs) e M = forL t b xs e M := rfl
def appO (M : Hp) (k : Nat) (w : W) : Option Ob → RT W
  | some o => (match addM o w with | some o' => .ok (.t .non) (M.set k o') | none => .bad)
  | none => .bad
theorem app_h : mAppend M (.h k) [w] = appO M k w M[k]? := by
  unfold mAppend appO
  rfl
theorem appO_lst : appO M k (.t v) (some (.lst xs)) = if Nat.blt xs.length 16777216 then .ok (.t .non) (M.set k (.lst (xs ++ [v]))) else .bad := by
  unfold appO
  dsimp only
  have e : addM (.lst xs) (.t v) = if Nat.blt xs.length 16777216 then some (.lst (xs ++ [v])) else none := rfl
  rw [e]
  by_cases h : Nat.blt xs.length 16777216 = true
  · rw [if_pos h, if_pos h]
  · rw [if_neg h, if_neg h]
theorem bm_app {l : Bool} {ws : List W} : bm l .append x ws M = mAppend M x ws := rfl
theorem bm_pop {l : Bool} {ws : List W} : bm l .pop x ws M = mPop M x ws := rfl
theorem recv_join {s : S} : recvOk M .join (.t (.str s)) = true := rfl
theorem recv_split {s : S} : recvOk M .split (.t (.str s)) = true := rfl
theorem recv_starts {s : S} : recvOk M .startswith (.t (.str s)) = true := rfl
theorem bm_join {l : Bool} : bm l .join (.t v) [.t v1] M = ofN l (bmV .join v [v1]) M := rfl
theorem bm_split {l : Bool} : bm l .split (.t v) [.t v1] M = ofN l (bmV .split v [v1]) M := rfl
theorem bm_starts {l : Bool} : bm l .startswith (.t v) [.t v1] M = ofN l (bmV .startswith v [v1]) M := rfl
theorem join_sl {s : S} : bmV .join (.str s) [.lst xs] = (strsV xs).bind fun ss => if big ((ss.map List.length).sum + ss.length * s.length) then some (.str (joinS s ss)) else none := rfl
theorem split_ss {s : S} {c : Nat} : bmV .split (.str s) [.str [c]] = if big (s.length + 2) && Nat.blt c 256 then some (.lst ((splitS c s).map .str)) else none := rfl
theorem starts_ss {s t : S} : bmV .startswith (.str s) [.str t] = some (.bl (t.isPrefixOf s)) := rfl
theorem recv_app : recvOk M .append x = isHl M x := rfl
theorem recv_pop : recvOk M .pop x = isHl M x := rfl
def hlO : Option Ob → Bool
  | some (.lst _) => true
  | some (.lsw _) => true
  | _ => false
theorem isHl_h : isHl M (.h k) = hlO M[k]? := by
  unfold isHl hlO
  rfl
theorem hlO_lst : hlO (some (.lst xs)) = true := rfl
theorem hlO_lsw {ws : List W} : hlO (some (.lsw ws)) = true := rfl
theorem truth_h : truthW M (.h k) = (match M[k]? with
    | some (.lst xs) => some (!xs.isEmpty)
    | some (.lsw xs) => some (!xs.isEmpty)
    | some (.dk kvs) => some (!kvs.isEmpty)
    | _ => none) := rfl
theorem truth_t : truthW M (.t v) = truthV v := rfl
theorem isIns_def {c : Nat} : isIns M c x = (match clsOf M x with | some k => decide (k = c) | none => false) := rfl
theorem rdW_t : rdW M (.t v) = some v := rfl
theorem rdW_h : rdW M (.h k) = M[k]?.bind rdOb := rfl
theorem rdO_lst : rdOb (.lst xs) = some (.lst xs) := rfl
theorem rdO_dk {kvs : List (S × W)} : rdOb (.dk kvs) = (treesOf (kvs.map (·.2))).map fun vs => .dk (kvs.map (·.1)) vs := rfl
theorem rdO_dt {kvs : List (List S × W)} : rdOb (.dt kvs) = (treesOf (kvs.map (·.2))).map fun vs => .dt (kvs.map (·.1)) vs := rfl
theorem tr_non : truthV .non = some false := rfl
theorem tr_bl {b : Bool} : truthV (.bl b) = some b := rfl
theorem tr_int {i : Int} : truthV (.int i) = some (i != 0) := rfl
theorem tr_str {s : S} : truthV (.str s) = if big s.length then some (!s.isEmpty) else none := rfl
theorem tr_tup : truthV (.tup xs) = some (!xs.isEmpty) := rfl
theorem tr_lst : truthV (.lst xs) = some (!xs.isEmpty) := rfl
theorem wk_tup : walkT M (.t (.tup xs)) = some (.seq xs) := rfl
theorem wk_lst : walkT M (.t (.lst xs)) = some (.seq xs) := rfl
theorem wk_str {s : S} : walkT M (.t (.str s)) = some (.seq (s.map fun c => .str [c])) := rfl
theorem wk_scr {s : List Int} : walkT M (.t (.scr s)) = some (.seq (s.map .int)) := rfl
def wkO (k : Nat) : Option Ob → Option It
  | some (.lst _) => some (.hl k)
  | some (.lsw _) => some (.hl k)
  | _ => none
theorem wk_h : walkT M (.h k) = wkO k M[k]? := by
  unfold wkO
  show (match M[k]? with | some (.lst _) => some (It.hl k) | some (.lsw _) => some (.hl k) | _ => none) = _
  cases M[k]? with
  | none => rfl
  | some o => cases o <;> rfl
theorem wkO_lst : wkO k (some (.lst xs)) = some (.hl k) := rfl
theorem wkO_lsw {ws : List W} : wkO k (some (.lsw ws)) = some (.hl k) := rfl
theorem it_tup : itemsV (.tup xs) = some xs := rfl
theorem it_lst : itemsV (.lst xs) = some xs := rfl
theorem it_scr {s : List Int} : itemsV (.scr s) = some (s.map .int) := rfl
theorem ts_nil : treesOf [] = some [] := rfl
theorem ts_cons {ws : List W} : treesOf (.t v :: ws) = (treesOf ws).map (v :: ·) := rfl
theorem con_non : conV .non = some .non := rfl
theorem con_bl {b : Bool} : conV (.bl b) = some (.bl b) := rfl
theorem con_int {i : Int} : conV (.int i) = some (.int i) := rfl
theorem con_str {s : S} : conV (.str s) = some (.str s) := rfl
theorem sA_nil {e : Env} : setAll e [] [] = some e := rfl
theorem sA_cons {e : Env} {i : Nat} {is : List Nat} : setAll e (i :: is) (v :: xs) = setAll (e.set i (some (.t v))) is xs := rfl
theorem gV_cons {κ : Type} [DecidableEq κ] {a q : κ} {r : List κ} : getV (a :: r) (v :: xs) q = if a = q then some v else getV r xs q := rfl
theorem gW_cons {κ : Type} [DecidableEq κ] {a q : κ} {r : List (κ × W)} : getW ((a, w) :: r) q = if a = q then some w else getW r q := rfl
theorem pW_cons {κ : Type} [DecidableEq κ] {a q : κ} {r : List (κ × W)} : putW ((a, w) :: r) q d = if a = q then (a, d) :: r else (a, w) :: putW r q d := rfl
theorem pW_nil {κ : Type} [DecidableEq κ] {q : κ} : putW [] q d = [(q, d)] := rfl
theorem rWs_nil : rdWs M [] = some [] := rfl
theorem rWs_cons {ws : List W} : rdWs M (w :: ws) = (rdW M w).bind fun v => (rdWs M ws).map (v :: ·) := rfl
theorem sm_l {i : Int} (h : small64 i = true) {b : Bool} : (small64 i || b) = true := by rw [h]; rfl
theorem ixn0 {n : Nat} : ixN (n + 1) 0 = some 0 := by unfold ixN; rw [if_pos (by omega), if_pos (by omega)]; rfl
theorem ixn1 {n : Nat} : ixN (n + 2) 1 = some 1 := by unfold ixN; rw [if_pos (by omega), if_pos (by omega)]; rfl
theorem ixn2 {n : Nat} : ixN (n + 3) 2 = some 2 := by unfold ixN; rw [if_pos (by omega), if_pos (by omega)]; rfl
theorem ixn3 {n : Nat} : ixN (n + 4) 3 = some 3 := by unfold ixN; rw [if_pos (by omega), if_pos (by omega)]; rfl
theorem lcF_d {t : T} {own : List Nat} {e : Env} {fc : Env → Hp → RT Bool} {fe : Env → Hp → RT W} {m : Im} : lcF t own e fc fe m M = (match putT (wipeE e own) m t with | none => .bad | some v' => (fc v' M).bind fun b M => if b then (fe v' M).bind fun y M => (tree y M).bind fun y M => .ok (some y) M else .ok none M) := rfl
theorem lcF1_d {t : T} {own : List Nat} {e : Env} {fe : Env → Hp → RT W} {m : Im} {acc : List V} : lcF1 t own e fe m acc M = (match putT (wipeE e own) m t with | none => .bad | some v2 => (fe v2 M).bind fun y M => (tree y M).bind fun y M => if Nat.blt acc.length 16777216 then .ok (acc ++ [y]) M else .bad) := rfl
theorem lcF2_d {t : T} {own : List Nat} {e : Env} {fi : Env → Hp → RT It} {f1 : Env → Im → List V → Hp → RT (List V)} {m : Im} {acc : List V} : lcF2 t own e fi f1 m acc M = (match putT (wipeE e own) m t with | none => .bad | some v' => (fi v' M).bind fun it1 M => lcG2 (f1 v') it1 acc M) := rfl
theorem dcF_d {t : T} {own : List Nat} {e : Env} {fk fe : Env → Hp → RT W} {m : Im} : dcF t own e fk fe m M = (match putT (wipeE e own) m t with | none => .bad | some v' => (fk v' M).bind fun y M => match y with | .t (.str s) => (fe v' M).bind fun z M => (tree z M).bind fun z M => .ok (s, z) M | _ => .bad) := rfl
theorem lstN_d {l : Bool} {ws : List W} : lstN l ws M = (match treesOf ws with | some vs => mkN l (.lst vs) M | none => .ok (.h M.length) (M ++ [.lsw ws])) := rfl
theorem dicN_d {l : Bool} {ks : List S} {ws : List W} : dicN l ks ws M = (match treesOf ws with | some vs => mkN l (dkOf (putsV [] [] (ks.zip vs))) M | none => if ks.Nodup then .ok (.h M.length) (M ++ [.dk (ks.zip ws)]) else .bad) := rfl
theorem ci0 : ((0 : Nat) : Int) = 0 := rfl
theorem big0 : big 0 = true := rfl
theorem ci1 : ((1 : Nat) : Int) = 1 := rfl
theorem big1 : big 1 = true := rfl
theorem ci2 : ((2 : Nat) : Int) = 2 := rfl
theorem big2 : big 2 = true := rfl
theorem ci3 : ((3 : Nat) : Int) = 3 := rfl
theorem big3 : big 3 = true := rfl
theorem ci4 : ((4 : Nat) : Int) = 4 := rfl
theorem big4 : big 4 = true := rfl
theorem ci5 : ((5 : Nat) : Int) = 5 := rfl
theorem big5 : big 5 = true := rfl
theorem ci6 : ((6 : Nat) : Int) = 6 := rfl
theorem big6 : big 6 = true := rfl
theorem ci7 : ((7 : Nat) : Int) = 7 := rfl
theorem big7 : big 7 = true := rfl
theorem ci8 : ((8 : Nat) : Int) = 8 := rfl
theorem big8 : big 8 = true := rfl
theorem ci9 : ((9 : Nat) : Int) = 9 := rfl
theorem big9 : big 9 = true := rfl
theorem ci10 : ((10 : Nat) : Int) = 10 := rfl
theorem big10 : big 10 = true := rfl
theorem ci11 : ((11 : Nat) : Int) = 11 := rfl
theorem big11 : big 11 = true := rfl
theorem ci12 : ((12 : Nat) : Int) = 12 := rfl
theorem big12 : big 12 = true := rfl
theorem ci13 : ((13 : Nat) : Int) = 13 := rfl
theorem big13 : big 13 = true := rfl
theorem ci14 : ((14 : Nat) : Int) = 14 := rfl
theorem big14 : big 14 = true := rfl
theorem ci15 : ((15 : Nat) : Int) = 15 := rfl
theorem big15 : big 15 = true := rfl
theorem ci16 : ((16 : Nat) : Int) = 16 := rfl
theorem big16 : big 16 = true := rfl
theorem cut1 {α : Type} {a : α} {l : List α} : cut (a :: l) (some 1) none = l := by
  have h1 : HT.sIx (l.length + 1) 0 (some 1) = 1 := by unfold HT.sIx; simp
  have h2 : HT.sIx (l.length + 1) (l.length + 1) none = l.length + 1 := by unfold HT.sIx; rfl
  unfold cut
  rw [List.length_cons, h1, h2]
  simp
theorem bA0 : Nat.blt 0 16777216 = true := rfl
theorem bB0 : Nat.blt 0 1000000 = true := rfl
theorem bC0 : Nat.blt 0 100 = true := rfl
theorem bA1 : Nat.blt 1 16777216 = true := rfl
theorem bB1 : Nat.blt 1 1000000 = true := rfl
theorem bC1 : Nat.blt 1 100 = true := rfl
theorem bA2 : Nat.blt 2 16777216 = true := rfl
theorem bB2 : Nat.blt 2 1000000 = true := rfl
theorem bC2 : Nat.blt 2 100 = true := rfl
theorem bA3 : Nat.blt 3 16777216 = true := rfl
theorem bB3 : Nat.blt 3 1000000 = true := rfl
theorem bC3 : Nat.blt 3 100 = true := rfl
theorem bA4 : Nat.blt 4 16777216 = true := rfl
theorem bB4 : Nat.blt 4 1000000 = true := rfl
theorem bC4 : Nat.blt 4 100 = true := rfl
theorem bA5 : Nat.blt 5 16777216 = true := rfl
theorem bB5 : Nat.blt 5 1000000 = true := rfl
theorem bC5 : Nat.blt 5 100 = true := rfl
theorem bA6 : Nat.blt 6 16777216 = true := rfl
theorem bB6 : Nat.blt 6 1000000 = true := rfl
theorem bC6 : Nat.blt 6 100 = true := rfl
theorem bA7 : Nat.blt 7 16777216 = true := rfl
theorem bB7 : Nat.blt 7 1000000 = true := rfl
theorem bC7 : Nat.blt 7 100 = true := rfl
theorem bA8 : Nat.blt 8 16777216 = true := rfl
theorem bB8 : Nat.blt 8 1000000 = true := rfl
theorem bC8 : Nat.blt 8 100 = true := rfl
theorem bA9 : Nat.blt 9 16777216 = true := rfl
theorem bB9 : Nat.blt 9 1000000 = true := rfl
theorem bC9 : Nat.blt 9 100 = true := rfl
theorem bA10 : Nat.blt 10 16777216 = true := rfl
theorem bB10 : Nat.blt 10 1000000 = true := rfl
theorem bC10 : Nat.blt 10 100 = true := rfl
theorem bA11 : Nat.blt 11 16777216 = true := rfl
theorem bB11 : Nat.blt 11 1000000 = true := rfl
theorem bC11 : Nat.blt 11 100 = true := rfl
theorem bA12 : Nat.blt 12 16777216 = true := rfl
theorem bB12 : Nat.blt 12 1000000 = true := rfl
theorem bC12 : Nat.blt 12 100 = true := rfl
theorem bls_nil : blsV [] = some [] := rfl
theorem bls_cons {b : Bool} : blsV (.bl b :: xs) = (blsV xs).map (b :: ·) := rfl
theorem str_nil : strsV [] = some [] := rfl
theorem str_cons {b : S} : strsV (.str b :: xs) = (strsV xs).map (b :: ·) := rfl
theorem onM_ok {M' : Hp} : onM M (.ok w M') = .ok w M := rfl
theorem onM_exc {M' : Hp} {c : Nat} {x : Option V} : onM M (.exc c x M') = .exc c x M := rfl
theorem asB_s {b : Bool} : asB (.ok (.t (.bl b)) M) = .ok (.t (.bl b)) M := rfl
end
theorem cut_drop {α : Type} {l : List α} {k : Nat} : cut l (some (k : Int)) none = l.drop k := by
  unfold cut
  rw [HT.sIx_nat, HT.sIx_none]
  by_cases h : k ≤ l.length
  · rw [Nat.min_eq_left h, List.take_of_length_le (by simp)]
  · rw [Nat.min_eq_right (by omega)]; simp; omega
theorem cut_take {α : Type} {l : List α} {k : Nat} : cut l none (some (k : Int)) = l.take k := by
  unfold cut
  rw [HT.sIx_nat, HT.sIx_none]
  by_cases h : k ≤ l.length
  · rw [Nat.min_eq_left h]; simp
  · rw [Nat.min_eq_right (by omega), List.take_of_length_le (by simp), List.take_of_length_le (by omega)]; simp
theorem cut_mid {α : Type} {l : List α} {j k : Nat} (h : j ≤ l.length) : cut l (some (j : Int)) (some (k : Int)) = (l.drop j).take (k - j) := by
  unfold cut
  rw [HT.sIx_nat, HT.sIx_nat, Nat.min_eq_left h]
  by_cases h2 : k ≤ l.length
  · rw [Nat.min_eq_left h2]
  · rw [Nat.min_eq_right (by omega), List.take_of_length_le (by simp), List.take_of_length_le (by simp; omega)]
/-! ### the draws -/
structure DS where
  ns : List Int
  i : Nat
  b : Int
  s : Int
abbrev DS.ob (d : DS) : Ob := .lst [.lst (d.ns.map .int), .int (d.i : Int), .int d.b, .int d.s]
end MT

set_option Elab.async false
set_option linter.all false
set_option maxRecDepth 100000
set_option maxHeartbeats 4000000
/-! Words, blocks, programs: the mathematics' side. -/
namespace MT
open Mini (S D T Tr big sOk)
/-! ### comprehensions over mapped lists -/
section
variable {α : Type} {M : Hp}
theorem lcL_mapf {f : Im → Hp → RT (Option V)} {F g : α → V} : ∀ {l : List α} {acc : List V}, (∀ a ∈ l, f (.one (.t (F a))) M = .ok (some (g a)) M) → acc.length + l.length ≤ 16777216 → lcL f (l.map F) acc M = .ok (acc ++ l.map g) M
  | [], acc, _, _ => by simp [lcL]
  | x :: xs, acc, h, hl => by
    rw [List.map_cons, lcL, h x List.mem_cons_self]
    simp only [List.length_cons] at hl
    dsimp only
    rw [if_pos (by simp; omega), lcL_mapf (fun y hy => h y (List.mem_cons_of_mem _ hy)) (by simp; omega)]
    simp
theorem lcL_filterf {f : Im → Hp → RT (Option V)} {F g : α → V} {p : α → Bool} : ∀ {l : List α} {acc : List V}, (∀ a ∈ l, f (.one (.t (F a))) M = .ok (if p a then some (g a) else none) M) → acc.length + l.length ≤ 16777216 → lcL f (l.map F) acc M = .ok (acc ++ (l.filter p).map g) M
  | [], acc, _, _ => by simp [lcL]
  | x :: xs, acc, h, hl => by
    rw [List.map_cons, lcL, h x List.mem_cons_self]
    simp only [List.length_cons] at hl
    cases hp : p x with
    | true =>
      rw [if_pos rfl]
      dsimp only
      rw [if_pos (by simp; omega), lcL_filterf (fun y hy => h y (List.mem_cons_of_mem _ hy)) (by simp; omega), List.filter_cons_of_pos hp]
      simp
    | false =>
      rw [if_neg (by simp)]
      dsimp only
      rw [lcL_filterf (fun y hy => h y (List.mem_cons_of_mem _ hy)) (by omega), List.filter_cons_of_neg (by simp [hp])]
theorem set_new {κ : Type} [DecidableEq κ] {ks : List κ} {vs : List V} {k : κ} {v : V} (hl : ks.length = vs.length) (hk : k ∉ ks) : setV ks vs k v = (ks ++ [k], vs ++ [v]) := by
  have h1 : ((ks.zip vs).any fun kv => decide (kv.1 = k)) = false := by
    rw [List.any_eq_false]
    rintro ⟨a, b⟩ hp e
    rw [decide_eq_true_eq] at e
    have e : a = k := e
    subst e
    exact hk (List.of_mem_zip hp).1
  unfold setV
  simp only [h1, Bool.false_eq_true, if_false, List.map_append, List.map_cons, List.map_nil]
  rw [List.map_fst_zip (by omega), List.map_snd_zip (by omega)]
theorem dcL_nd {f : Im → Hp → RT (S × V)} {F val : α → V} {key : α → S} : ∀ {l : List α} {ks : List S} {vs : List V}, (∀ a ∈ l, f (.one (.t (F a))) M = .ok (key a, val a) M) → (ks ++ l.map key).Nodup → ks.length = vs.length → ks.length + l.length ≤ 1000000 →
    dcL f (l.map F) ks vs M = .ok (ks ++ l.map key, vs ++ l.map val) M
  | [], ks, vs, _, _, _, _ => by simp [dcL]
  | x :: xs, ks, vs, h, nd, hl, hs => by
    rw [List.map_cons, dcL, h x List.mem_cons_self]
    simp only [List.length_cons] at hs
    have hk : key x ∉ ks := fun z => by
      rw [List.nodup_append] at nd
      exact nd.2.2 _ z _ (by simp) rfl
    dsimp only
    rw [if_pos (by simp; omega), set_new hl hk, dcL_nd (fun y hy => h y (List.mem_cons_of_mem _ hy)) (by simpa using nd) (by simp [hl]) (by simp; omega)]
    simp
theorem lcL2_inv {f : Im → List V → Hp → RT (List V)} (I : Nat → List V → Prop) : ∀ {xs : List V} {acc : List V} {j : Nat}, (∀ i x, xs[i]? = some x → ∀ acc, I (j + i) acc → ∃ acc', f (.one (.t x)) acc M = .ok acc' M ∧ I (j + i + 1) acc') → I j acc →
    ∃ acc', lcL2 f xs acc M = .ok acc' M ∧ I (j + xs.length) acc'
  | [], acc, j, _, h0 => ⟨acc, rfl, h0⟩
  | x :: xs, acc, j, h, h0 => by
    obtain ⟨a1, e1, i1⟩ := h 0 x rfl acc h0
    obtain ⟨a2, e2, i2⟩ := lcL2_inv (xs := xs) (acc := a1) (j := j + 1) I (fun i y hy acc ha => by
      have := h (i + 1) y (by simpa using hy) acc (by rw [show j + (i + 1) = j + 1 + i by omega]; exact ha)
      rw [show j + (i + 1) = j + 1 + i by omega] at this
      exact this) i1
    refine ⟨a2, ?_, by rw [List.length_cons, show j + (xs.length + 1) = j + 1 + xs.length by omega]; exact i2⟩
    rw [lcL2, e1]
    exact e2
theorem lcL2_map {f : Im → List V → Hp → RT (List V)} {F g : α → V} : ∀ {l : List α} {acc : List V}, (∀ a ∈ l, ∀ acc : List V, acc.length < 16777216 → f (.one (.t (F a))) acc M = .ok (acc ++ [g a]) M) → acc.length + l.length ≤ 16777216 → lcL2 f (l.map F) acc M = .ok (acc ++ l.map g) M
  | [], acc, _, _ => by simp [lcL2]
  | x :: xs, acc, h, hl => by
    simp only [List.length_cons] at hl
    rw [List.map_cons, lcL2, h x List.mem_cons_self acc (by omega)]
    dsimp only
    rw [lcL2_map (fun y hy => h y (List.mem_cons_of_mem _ hy)) (by simp; omega)]
    simp
/-- a loop that keeps what stands -/
theorem forL_inv {t : T} {body : Env → Hp → FT} (I : Nat → Env → Hp → Prop) : ∀ {xs : List V} {e : Env} {M : Hp} {j : Nat}, (∀ i x, xs[i]? = some x → ∀ e M, I (j + i) e M → ∃ e1 e2 M2, putT e (.one (.t x)) t = some e1 ∧ body e1 M = .nx e2 M2 ∧ I (j + i + 1) e2 M2) → I j e M →
    ∃ e' M', forL t body xs e M = .nx e' M' ∧ I (j + xs.length) e' M'
  | [], e, M, j, _, h0 => ⟨e, M, rfl, h0⟩
  | x :: xs, e, M, j, h, h0 => by
    obtain ⟨e1, e2, M2, p1, p2, p3⟩ := h 0 x rfl e M h0
    obtain ⟨e', M', q1, q2⟩ := forL_inv (xs := xs) (e := e2) (M := M2) (j := j + 1) I (fun i y hy e M ha => by
      have := h (i + 1) y (by simpa using hy) e M (by rw [show j + (i + 1) = j + 1 + i by omega]; exact ha)
      rw [show j + (i + 1) = j + 1 + i by omega] at this
      exact this) p3
    refine ⟨e', M', ?_, by rw [List.length_cons, show j + (xs.length + 1) = j + 1 + xs.length by omega]; exact q2⟩
    rw [forL, p1]
    dsimp only
    rw [p2]
    exact q1
/-! ### data: texts in lists -/
theorem in_strs {x : S} {ss : List S} (hx : sOk x = true) (hs : ∀ s ∈ ss, sOk s = true) : inT (.str x) (ss.map .str) = some (ss.any fun s => decide (s = x)) := by
  have h1 : (ss.map V.str).mapM (V.tr 20) = some (ss.map Tr.str) := by
    clear hs
    induction ss with
    | nil => rfl
    | cons a l ih => rw [List.map_cons, List.mapM_cons, ih]; rfl
  have h2 : Tr.oks (ss.map Tr.str) = true := by
    clear h1
    induction ss with
    | nil => rfl
    | cons a l ih =>
      rw [List.map_cons, Tr.oks, ih fun s q => hs s (List.mem_cons_of_mem _ q)]
      show (sOk a && true) = true
      rw [hs a List.mem_cons_self]; rfl
  have h3 : ∀ l : List S, ((l.map Tr.str).any fun b => Tr.eqv b (Tr.str x)) = l.any fun s => decide (s = x) := by
    intro l
    induction l with
    | nil => rfl
    | cons a l ih => rw [List.map_cons, List.any_cons, List.any_cons, ih]; rfl
  unfold inT
  rw [h1]
  show (if (Tr.str x).ok && Tr.oks (ss.map Tr.str) then some ((ss.map Tr.str).any fun b => Tr.eqv b (Tr.str x)) else none) = _
  rw [h2, show (Tr.str x).ok = true from hx, h3]
  rfl
end
/-! ### words -/
inductive Gw where
  | abs | rel | fast | cut | plain | mirror | single | double
  deriving DecidableEq
def Gw.s : Gw → S
  | .abs => [97, 98, 115]
  | .rel => [114, 101, 108]
  | .fast => [102, 97, 115, 116]
  | .cut => [99, 117, 116]
  | .plain => [112, 108, 97, 105, 110]
  | .mirror => [109, 105, 114, 114, 111, 114]
  | .single => [115, 105, 110, 103, 108, 101]
  | .double => [100, 111, 117, 98, 108, 101]
abbrev sWay : S := [119, 97, 121]
abbrev sKind : S := [107, 105, 110, 100]
abbrev sSide : S := [115, 105, 100, 101]
abbrev sScale : S := [115, 99, 97, 108, 101]
abbrev sDeed : S := [100, 101, 101, 100]
abbrev sHere : S := [104, 101, 114, 101]
abbrev sHop : S := [104, 111, 112]
abbrev sTo : S := [116, 111]
abbrev sCall : S := [99, 97, 108, 108]
def Gw.grp : Gw → S
  | .abs => sWay
  | .rel => sWay
  | .fast => sKind
  | .cut => sKind
  | .plain => sSide
  | .mirror => sSide
  | .single => sScale
  | .double => sScale
inductive Wd where
  | g (w : Gw) | here | hop | to (x y : Option Int) | call (n : S) (k : Int)
  deriving DecidableEq
def oi : Option Int → V
  | none => .non
  | some i => .int i
def Wd.v : Wd → V
  | .g w => .tup [.str w.s]
  | .here => .tup [.str sHere]
  | .hop => .tup [.str sHop]
  | .to x y => .tup [.str sTo, oi x, oi y]
  | .call n k => .tup [.str sCall, .str n, .int k]
/-- its group -/
def Wd.key : Wd → S
  | .g w => w.grp
  | .here => sHere
  | .hop => sHop
  | .to _ _ => sDeed
  | .call _ _ => sDeed
/-- its first part -/
def Wd.hd : Wd → S
  | .g w => w.s
  | .here => sHere
  | .hop => sHop
  | .to _ _ => sTo
  | .call _ _ => sCall
def oiOk : Option Int → Prop
  | none => True
  | some i => -99 ≤ i ∧ i ≤ 99
def nmOk (s : S) : Prop := 1 ≤ s.length ∧ s.length ≤ 8 ∧ ∀ c ∈ s, 97 ≤ c ∧ c ≤ 122
def Wd.Ok : Wd → Prop
  | .to x y => oiOk x ∧ oiOk y ∧ (x ≠ none ∨ y ≠ none)
  | .call n k => nmOk n ∧ 1 ≤ k ∧ k ≤ 9
  | _ => True
theorem nm_sOk {s : S} (h : nmOk s) : sOk s = true := by
  unfold sOk
  rw [List.all_eq_true]
  intro c hc
  have := (h.2.2 c hc).2
  simp
  omega
abbrev Bk := Bool × List Wd
def Bk.v (b : Bk) : V := .tup [.bl b.1, .tup (b.2.map Wd.v)]
structure Bk.Ok (b : Bk) : Prop where
  len : b.2.length ≤ 6
  wd : ∀ w ∈ b.2, w.Ok
  nd : (b.2.map Wd.key).Nodup
/-- the parts that a block calls -/
def callsW : List Wd → List S
  | [] => []
  | .call n _ :: r => n :: callsW r
  | _ :: r => callsW r
def Bk.calls (b : Bk) : List S := callsW b.2
theorem calls_len : ∀ ws : List Wd, (callsW ws).length ≤ ws.length
  | [] => Nat.le_refl _
  | w :: ws => by
    have := calls_len ws
    cases w <;> simp [callsW] <;> omega
theorem mem_calls {n : S} : ∀ {ws : List Wd}, n ∈ callsW ws → ∃ k, Wd.call n k ∈ ws
  | [], h => by cases h
  | w :: ws, h => by
    cases w with
    | call s k =>
      rcases List.mem_cons.mp h with z | z
      · exact ⟨k, by rw [z]; exact List.mem_cons_self⟩
      · obtain ⟨j, q⟩ := mem_calls (ws := ws) z
        exact ⟨j, List.mem_cons_of_mem _ q⟩
    | _ =>
      obtain ⟨j, q⟩ := mem_calls (ws := ws) h
      exact ⟨j, List.mem_cons_of_mem _ q⟩
abbrev Pt := S × List Bk
def Pt.v (p : Pt) : V := .tup [.str p.1, .tup (p.2.map Bk.v)]
def isCallW : Wd → Bool
  | .call _ _ => true
  | _ => false
def callV : Wd → V
  | .call n _ => .str n
  | _ => .non
theorem calls_filter : ∀ ws : List Wd, (ws.filter isCallW).map callV = (callsW ws).map .str
  | [] => rfl
  | w :: ws => by
    have ih := calls_filter ws
    cases w with
    | call n k => rw [List.filter_cons_of_pos rfl, callsW, List.map_cons, List.map_cons, ih]; rfl
    | _ => rw [List.filter_cons_of_neg Bool.false_ne_true]; exact ih
theorem calls_ok {b : Bk} (h : b.Ok) : ∀ s ∈ b.calls, nmOk s := fun s hs => by
  obtain ⟨k, q⟩ := mem_calls hs
  exact (h.wd _ q).1
theorem eqt1 {i : Int} : eqT (.tup [.non, .int i]) (.tup [.non, .non]) = some false := by kernel_rfl
theorem eqt2 {i : Int} : eqT (.tup [.int i, .non]) (.tup [.non, .non]) = some false := by kernel_rfl
theorem eqt3 {i j : Int} : eqT (.tup [.int i, .int j]) (.tup [.non, .non]) = some false := by kernel_rfl
/-- each block calls what stands behind -/
def ptsOk : List Pt → Prop
  | [] => True
  | p :: r => (∀ b ∈ p.2, ∀ n ∈ b.calls, n ∈ r.map (·.1)) ∧ ptsOk r
theorem pts_at : ∀ {ps : List Pt} {i : Nat} {q : Pt} {b : Bk} {s : S}, ptsOk ps → ps[i]? = some q → b ∈ q.2 → s ∈ b.calls → s ∈ (ps.map (·.1)).drop (i + 1)
  | [], _, _, _, _, _, e, _, _ => by simp at e
  | p :: r, 0, q, b, s, h, e, hb, hs => by
    simp at e; subst e
    exact h.1 b hb s hs
  | p :: r, i + 1, q, b, s, h, e, hb, hs => by
    have := pts_at (i := i) h.2 (by simpa using e) hb hs
    simpa using this
theorem bls_rep : ∀ m, blsV (List.replicate m (.bl true)) = some (List.replicate m true)
  | 0 => rfl
  | m + 1 => by rw [List.replicate_succ, blsV, bls_rep m]; rfl
structure Lp where
  bs : List Bk
  ps : List Pt
  deriving DecidableEq
def Lp.bv (p : Lp) : V := .tup (p.bs.map Bk.v)
def Lp.pv (p : Lp) : V := .tup (p.ps.map Pt.v)
structure Lp.Ok (p : Lp) : Prop where
  bl : p.bs.length ≤ 12
  bo : ∀ b ∈ p.bs, b.Ok
  bc : ∀ b ∈ p.bs, ∀ n ∈ b.calls, n ∈ p.ps.map (·.1)
  pl : p.ps.length ≤ 4
  nm : ∀ q ∈ p.ps, nmOk q.1
  nd : (p.ps.map (·.1)).Nodup
  pb : ∀ q ∈ p.ps, q.2.length ≤ 12 ∧ ∀ b ∈ q.2, b.Ok
  pc : ptsOk p.ps
/-! ### values as data -/
mutual
def V.t0 : V → Tr
  | .bl b => .bl b
  | .int i => .int i
  | .str s => .str s
  | .tup xs => .tup (V.t0s xs)
  | .lst xs => .lst (V.t0s xs)
  | _ => .non
def V.t0s : List V → List Tr
  | [] => []
  | v :: r => v.t0 :: V.t0s r
end
/-- f tells the things of p apart, by == -/
structure Enc {α : Type} (p : α → Prop) (f : α → V) (k : Nat) : Prop where
  tr : ∀ a j, p a → k ≤ j → V.tr j (f a) = some (f a).t0
  ok : ∀ a, p a → (f a).t0.ok = true
  eq : ∀ a b, p a → p b → (Tr.eqv (f a).t0 (f b).t0 = true ↔ a = b)
section
variable {α β γ : Type} {p : α → Prop} {q : β → Prop} {f : α → V} {g : β → V} {k : Nat}
theorem Enc.mapM {j : Nat} (h : Enc p f k) (hj : k ≤ j) : ∀ {l : List α}, (∀ a ∈ l, p a) → (l.map f).mapM (V.tr j) = some (V.t0s (l.map f))
  | [], _ => rfl
  | a :: l, hl => by
    rw [List.map_cons, List.mapM_cons, h.tr a j (hl a List.mem_cons_self) hj, h.mapM hj fun b hb => hl b (List.mem_cons_of_mem _ hb)]
    rfl
theorem Enc.oks (h : Enc p f k) : ∀ {l : List α}, (∀ a ∈ l, p a) → Tr.oks (V.t0s (l.map f)) = true
  | [], _ => rfl
  | a :: l, hl => by
    rw [List.map_cons, V.t0s, Tr.oks, h.ok a (hl a List.mem_cons_self), h.oks fun b hb => hl b (List.mem_cons_of_mem _ hb)]
    rfl
theorem Enc.eqs (h : Enc p f k) : ∀ {l m : List α}, (∀ a ∈ l, p a) → (∀ a ∈ m, p a) → (Tr.eqvs (V.t0s (l.map f)) (V.t0s (m.map f)) = true ↔ l = m)
  | [], [], _, _ => by simp [V.t0s, Tr.eqvs]
  | [], _ :: _, _, _ => by simp [V.t0s, Tr.eqvs]
  | _ :: _, [], _, _ => by simp [V.t0s, Tr.eqvs]
  | a :: l, b :: m, hl, hm => by
    rw [List.map_cons, List.map_cons, V.t0s, V.t0s, Tr.eqvs, Bool.and_eq_true, h.eq a b (hl a List.mem_cons_self) (hm b List.mem_cons_self), h.eqs (fun b hb => hl b (List.mem_cons_of_mem _ hb)) (fun b hb => hm b (List.mem_cons_of_mem _ hb))]
    simp
theorem Enc.tup (h : Enc p f k) : Enc (fun l : List α => ∀ a ∈ l, p a) (fun l => .tup (l.map f)) (k + 1) where
  tr l j hl hj := by
    obtain ⟨i, rfl⟩ : ∃ i, j = i + 1 := ⟨j - 1, by omega⟩
    show ((l.map f).mapM (V.tr i)).map Tr.tup = _
    rw [h.mapM (by omega) hl]
    rfl
  ok l hl := h.oks hl
  eq l m hl hm := h.eqs hl hm
theorem Enc.lst (h : Enc p f k) : Enc (fun l : List α => ∀ a ∈ l, p a) (fun l => .lst (l.map f)) (k + 1) where
  tr l j hl hj := by
    obtain ⟨i, rfl⟩ : ∃ i, j = i + 1 := ⟨j - 1, by omega⟩
    show ((l.map f).mapM (V.tr i)).map Tr.lst = _
    rw [h.mapM (by omega) hl]
    rfl
  ok l hl := h.oks hl
  eq l m hl hm := h.eqs hl hm
/-- a tuple of two -/
theorem Enc.two {pq : γ → Prop} {a : γ → α} {b : γ → β} (h : Enc p f k) (h' : Enc q g k) (hp : ∀ c, pq c → p (a c) ∧ q (b c)) (inj : ∀ c d, a c = a d → b c = b d → c = d) : Enc pq (fun c => .tup [f (a c), g (b c)]) (k + 1) where
  tr c j hc hj := by
    obtain ⟨i, rfl⟩ : ∃ i, j = i + 1 := ⟨j - 1, by omega⟩
    show (([f (a c), g (b c)] : List V).mapM (V.tr i)).map Tr.tup = _
    rw [List.mapM_cons, List.mapM_cons, h.tr _ i (hp c hc).1 (by omega), h'.tr _ i (hp c hc).2 (by omega)]
    rfl
  ok c hc := by
    show (((f (a c)).t0.ok) && (((g (b c)).t0.ok) && true)) = true
    rw [h.ok _ (hp c hc).1, h'.ok _ (hp c hc).2]
    rfl
  eq c d hc hd := by
    show ((Tr.eqv (f (a c)).t0 (f (a d)).t0) && ((Tr.eqv (g (b c)).t0 (g (b d)).t0) && true)) = true ↔ _
    rw [Bool.and_eq_true, Bool.and_eq_true, h.eq _ _ (hp c hc).1 (hp d hd).1, h'.eq _ _ (hp c hc).2 (hp d hd).2]
    constructor
    · rintro ⟨h1, h2, _⟩; exact inj c d h1 h2
    · rintro rfl; exact ⟨rfl, rfl, rfl⟩
theorem Enc.up (h : Enc p f k) {k' : Nat} (hk : k ≤ k') : Enc p f k' := ⟨fun a j ha hj => h.tr a j ha (by omega), h.ok, h.eq⟩
theorem Enc.eqT [DecidableEq α] (h : Enc p f k) (hk : k ≤ 20 := by decide) {a b : α} (ha : p a) (hb : p b) : eqT (f a) (f b) = some (decide (a = b)) := by
  unfold MT.eqT
  rw [h.tr a 20 ha hk, h.tr b 20 hb hk]
  dsimp only
  rw [h.ok a ha, h.ok b hb]
  show some _ = _
  congr 1
  have := h.eq a b ha hb
  by_cases e : a = b
  · rw [this.mpr e, decide_eq_true e]
  · rw [decide_eq_false e]
    cases z : Tr.eqv (f a).t0 (f b).t0 with
    | false => rfl
    | true => exact absurd (this.mp z) e
end
theorem enc_str : Enc (fun s => sOk s = true) V.str 1 := ⟨fun a j _ hj => by obtain ⟨i, rfl⟩ : ∃ i, j = i + 1 := ⟨j - 1, by omega⟩; rfl, fun a h => h, fun a b _ _ => by show decide (a = b) = true ↔ _; simp⟩
theorem enc_int : Enc (fun _ => True) V.int 1 := ⟨fun a j _ hj => by obtain ⟨i, rfl⟩ : ∃ i, j = i + 1 := ⟨j - 1, by omega⟩; rfl, fun a h => rfl, fun a b _ _ => by show (a == b) = true ↔ _; simp⟩
theorem enc_bl : Enc (fun _ => True) V.bl 1 := ⟨fun a j _ hj => by obtain ⟨i, rfl⟩ : ∃ i, j = i + 1 := ⟨j - 1, by omega⟩; rfl, fun a h => rfl, fun a b _ _ => by show (a == b) = true ↔ _; simp⟩
/-! words, blocks, programs -/
theorem enc_wd : Enc Wd.Ok Wd.v 2 where
  tr w j hw hj := by
    obtain ⟨i, rfl⟩ : ∃ i, j = i + 2 := ⟨j - 2, by omega⟩
    cases w with
    | to x y => cases x <;> cases y <;> rfl
    | _ => rfl
  ok w hw := by
    cases w with
    | g w => cases w <;> decide
    | here => decide
    | hop => decide
    | to x y => cases x <;> cases y <;> rfl
    | call n k => show (sOk sCall && (sOk n && (true && true))) = true; rw [nm_sOk hw.1]; rfl
  eq a b ha hb := by
    cases a <;> cases b
    case g.g u w => cases u <;> cases w <;> decide
    case g.here u => cases u <;> decide
    case g.hop u => cases u <;> decide
    case here.g u => cases u <;> decide
    case hop.g u => cases u <;> decide
    case here.here => decide
    case hop.hop => decide
    case here.hop => decide
    case hop.here => decide
    case to.to x y x' y' =>
      show (decide (sTo = sTo) && ((oi x).t0.eqv (oi x').t0 && ((oi y).t0.eqv (oi y').t0 && true))) = true ↔ _
      have go : ∀ x y, (oi x).t0.eqv (oi y).t0 = true ↔ x = y := fun x y => by
        cases x <;> cases y
        · simp [oi, V.t0, Tr.eqv]
        · simp [oi, V.t0, Tr.eqv]
        · simp [oi, V.t0, Tr.eqv]
        · rename_i i j; show (i == j) = true ↔ _; simp
      rw [Bool.and_eq_true, Bool.and_eq_true, Bool.and_eq_true, go, go]
      simp
    case call.call n k n' k' =>
      show (decide (sCall = sCall) && (decide (n = n') && ((k == k') && true))) = true ↔ _
      simp
    case g.to u x y => cases u <;> simp [Wd.v, V.t0, V.t0s, Tr.eqv, Tr.eqvs]
    case g.call u x y => cases u <;> simp [Wd.v, V.t0, V.t0s, Tr.eqv, Tr.eqvs]
    case to.g x y u => cases u <;> simp [Wd.v, V.t0, V.t0s, Tr.eqv, Tr.eqvs]
    case call.g x y u => cases u <;> simp [Wd.v, V.t0, V.t0s, Tr.eqv, Tr.eqvs]
    all_goals simp [Wd.v, V.t0, V.t0s, Tr.eqv, Tr.eqvs, sTo, sCall, sHere, sHop]
theorem enc_bk : Enc Bk.Ok Bk.v 4 := Enc.two (a := fun b : Bk => b.1) (b := fun b : Bk => b.2) (enc_bl.up (by decide)) enc_wd.tup (fun c hc => ⟨trivial, hc.wd⟩) (fun c d h1 h2 => by obtain ⟨_, _⟩ := c; obtain ⟨_, _⟩ := d; cases h1; cases h2; rfl)
def Pt.Ok (p : Pt) : Prop := nmOk p.1 ∧ ∀ b ∈ p.2, b.Ok
theorem enc_pt : Enc Pt.Ok Pt.v 6 := Enc.two (a := fun b : Pt => b.1) (b := fun b : Pt => b.2) (enc_str.up (by decide)) enc_bk.tup (fun c hc => ⟨nm_sOk hc.1, hc.2⟩) (fun c d h1 h2 => by obtain ⟨_, _⟩ := c; obtain ⟨_, _⟩ := d; cases h1; cases h2; rfl)
theorem encLp : Enc Lp.Ok (fun p => .tup [p.bv, p.pv]) 8 := Enc.two (a := Lp.bs) (b := Lp.ps) (enc_bk.tup.up (by decide)) enc_pt.tup (fun c hc => ⟨hc.bo, fun q hq => ⟨hc.nm q hq, (hc.pb q hq).2⟩⟩) (fun c d h1 h2 => by cases c; cases d; cases h1; cases h2; rfl)
def Lp.inst (p : Lp) : V := .ins 0 [0, 1] [p.bv, p.pv]
/-! ### drawing -/
def numsL : List (Option Int) := [none, some 0, some 1, some (-1), some 2, some 5, some (-7), some 30, some (-99), some 99]
theorem numsL_ok : ∀ x ∈ numsL, oiOk x := by
  intro x hx
  simp only [numsL, List.mem_cons, List.not_mem_nil, or_false] at hx
  rcases hx with rfl | rfl | rfl | rfl | rfl | rfl | rfl | rfl | rfl | rfl <;> simp [oiOk]
def AllL (ls : Hp) : Prop := ∀ o ∈ ls, ∃ xs, o = .lst xs
theorem AllL.low : ∀ {ls : Hp}, AllL ls → ∀ n, lows n ls = true
  | [], _, _ => rfl
  | o :: ls, h, n => by
    obtain ⟨xs, rfl⟩ := h o List.mem_cons_self
    rw [lows, AllL.low (fun o ho => h o (List.mem_cons_of_mem _ ho)) n]
    rfl
theorem AllL.add {ls : Hp} (h : AllL ls) (ws : List V) : AllL (ls ++ [Ob.lst ws]) := fun o ho => by
  rcases List.mem_append.mp ho with z | z
  · exact h o z
  · exact ⟨ws, List.mem_singleton.mp z⟩
theorem AllL.lows {ls : Hp} (h : AllL ls) (ws : List V) : MT.lows ((ls ++ [Ob.lst ws]).length + 1) (ls ++ [Ob.lst ws]) = true := (h.add ws).low _
theorem set_last {ls : Hp} {a b : Ob} : (ls ++ [a]).set ls.length b = ls ++ [b] := by
  rw [List.set_append_right _ _ (Nat.le_refl _), Nat.sub_self]
  rfl
def keys4 : List S := [sWay, sKind, sSide, sScale]
def pairsG : List (Gw × Gw) := [(.abs, .rel), (.fast, .cut), (.plain, .mirror), (.single, .double)]
/-- words of a block so far: of the groups K, at most m -/
structure WL (ns : List S) (K : List S) (m : Nat) (l : List Wd) : Prop where
  ok : ∀ w ∈ l, w.Ok
  nd : (l.map Wd.key).Nodup
  ks : ∀ w ∈ l, w.key ∈ K
  len : l.length ≤ m
  cl : ∀ s k, Wd.call s k ∈ l → s ∈ ns ∧ k ≤ 2
section
variable {ns : List S} {K K' : List S} {m m' : Nat} {l : List Wd} {w : Wd}
theorem WL.more (h : WL ns K m l) (hK : ∀ k ∈ K, k ∈ K') (hm : m ≤ m') : WL ns K' m' l := ⟨h.ok, h.nd, fun w hw => hK _ (h.ks w hw), Nat.le_trans h.len hm, h.cl⟩
theorem WL.add (h : WL ns K m l) (hw : w.Ok) (hk : w.key ∉ K) (hc : ∀ s k, w = .call s k → s ∈ ns ∧ k ≤ 2) : WL ns (w.key :: K) (m + 1) (l ++ [w]) where
  ok x hx := by
    rcases List.mem_append.mp hx with z | z
    · exact h.ok x z
    · rw [List.mem_singleton.mp z]; exact hw
  nd := by
    rw [List.map_append, List.nodup_append]
    refine ⟨h.nd, by simp, fun a ha b hb e => ?_⟩
    obtain ⟨x, hx, rfl⟩ := List.mem_map.mp ha
    simp only [List.map_cons, List.map_nil, List.mem_singleton] at hb
    subst hb
    exact hk (e ▸ h.ks x hx)
  ks x hx := by
    rcases List.mem_append.mp hx with z | z
    · exact List.mem_cons_of_mem _ (h.ks x z)
    · rw [List.mem_singleton.mp z]; exact List.mem_cons_self
  len := by have := h.len; simp; omega
  cl s k hx := by
    rcases List.mem_append.mp hx with z | z
    · exact h.cl s k z
    · exact hc s k (List.mem_singleton.mp z).symm
theorem WL.rev (h : WL ns K m l) : WL ns K m l.reverse := ⟨fun w hw => h.ok w (List.mem_reverse.mp hw), by rw [List.map_reverse]; exact List.pairwise_reverse.mpr (h.nd.imp fun q => Ne.symm q), fun w hw => h.ks w (List.mem_reverse.mp hw), by rw [List.length_reverse]; exact h.len, fun s k hx => h.cl s k (List.mem_reverse.mp hx)⟩
theorem WL.tail (h : WL ns K m l) : WL ns K (m - 1) (l.drop 1) := ⟨fun w hw => h.ok w (List.mem_of_mem_drop hw), by rw [List.map_drop]; exact List.Nodup.sublist (List.drop_sublist 1 _) h.nd, fun w hw => h.ks w (List.mem_of_mem_drop hw), by rw [List.length_drop]; have := h.len; omega, fun s k hx => h.cl s k (List.mem_of_mem_drop hx)⟩
theorem WL.turn {i j : Nat} {p : Gw × Gw} {g : Gw} (h : WL ns (keys4.take j) j l) (hi : i < 4) (hj : j = i) (hp : pairsG[i]? = some p) (hg : g = p.1 ∨ g = p.2) : WL ns (keys4.take (j + 1)) (j + 1) (l ++ [.g g]) := by
  subst hj
  have z : g.grp ∉ keys4.take j ∧ ∀ k ∈ g.grp :: keys4.take j, k ∈ keys4.take (j + 1) := by
    match j, hi with
    | 0, _ => cases hp; rcases hg with rfl | rfl <;> decide
    | 1, _ => cases hp; rcases hg with rfl | rfl <;> decide
    | 2, _ => cases hp; rcases hg with rfl | rfl <;> decide
    | 3, _ => cases hp; rcases hg with rfl | rfl <;> decide
  exact (h.add (w := .g g) trivial z.1 (fun s k e => by cases e)).more z.2 (Nat.le_refl _)
end
/-! ### drawn programs -/
theorem lcL_inv {f : Im → Hp → RT (Option V)} (I : Nat → List V → Hp → Prop) : ∀ {xs acc : List V} {M : Hp} {j : Nat}, (∀ i x, xs[i]? = some x → ∀ acc M, I (j + i) acc M → ∃ y M2, f (.one (.t x)) M = .ok (some y) M2 ∧ acc.length < 16777216 ∧ I (j + i + 1) (acc ++ [y]) M2) → I j acc M →
    ∃ acc' M', lcL f xs acc M = .ok acc' M' ∧ I (j + xs.length) acc' M'
  | [], acc, M, j, _, h0 => ⟨acc, M, rfl, h0⟩
  | x :: xs, acc, M, j, h, h0 => by
    obtain ⟨y, M2, e1, hs, i1⟩ := h 0 x rfl acc M h0
    obtain ⟨a2, M3, e2, i2⟩ := lcL_inv (xs := xs) (acc := acc ++ [y]) (M := M2) (j := j + 1) I (fun i y hy acc M ha => by
      have := h (i + 1) y (by simpa using hy) acc M (by rw [show j + (i + 1) = j + 1 + i by omega]; exact ha)
      rw [show j + (i + 1) = j + 1 + i by omega] at this
      exact this) i1
    refine ⟨a2, M3, ?_, by rw [List.length_cons, show j + (xs.length + 1) = j + 1 + xs.length by omega]; exact i2⟩
    rw [lcL, e1]
    dsimp only
    rw [if_pos (by simpa using hs)]
    exact e2
/-- a block that was drawn -/
structure BD (ns : List S) (b : Bk) : Prop where
  ok : b.Ok
  cl : ∀ s k, Wd.call s k ∈ b.2 → s ∈ ns ∧ k ≤ 2
theorem BD.calls {ns : List S} {b : Bk} (h : BD ns b) : ∀ s ∈ b.calls, s ∈ ns := fun s hs => by
  obtain ⟨k, q⟩ := mem_calls hs
  exact (h.cl s k q).1
def PD (ns : List S) (ps : List Pt) : Prop := ∀ (i : Nat) (q : Pt), ps[i]? = some q → ns[i]? = some q.1 ∧ q.2.length ≤ 3 ∧ ∀ b ∈ q.2, BD (ns.drop (i + 1)) b
theorem PD.nil {ns : List S} : PD ns [] := fun i q h => by simp at h
theorem PD.add {ns : List S} {ps : List Pt} {q : Pt} (h : PD ns ps) (h1 : ns[ps.length]? = some q.1) (h2 : q.2.length ≤ 3) (h3 : ∀ b ∈ q.2, BD (ns.drop (ps.length + 1)) b) : PD ns (ps ++ [q]) := fun i r e => by
  by_cases hi : i < ps.length
  · rw [List.getElem?_append_left hi] at e
    exact h i r e
  · rw [List.getElem?_append_right (by omega)] at e
    have : i - ps.length = 0 := by
      have := (List.getElem?_eq_some_iff.mp e).1
      simp at this; omega
    rw [this] at e
    simp at e
    subst e
    have : i = ps.length := by omega
    subst this
    exact ⟨h1, h2, h3⟩
theorem PD.tail {n : S} {ns : List S} {p : Pt} {ps : List Pt} (h : PD (n :: ns) (p :: ps)) : n = p.1 ∧ p.2.length ≤ 3 ∧ (∀ b ∈ p.2, BD ns b) ∧ PD ns ps := by
  obtain ⟨a, b, c⟩ := h 0 p rfl
  exact ⟨by simpa using a, b, by simpa using c, fun i q e => by
    have := h (i + 1) q (by simpa using e)
    simpa using this⟩
theorem PD.names : ∀ {ns : List S} {ps : List Pt}, PD ns ps → ps.length = ns.length → ps.map (·.1) = ns
  | [], [], _, _ => rfl
  | n :: ns, p :: ps, h, hl => by
    obtain ⟨a, _, _, t⟩ := h.tail
    rw [List.map_cons, PD.names t (by simpa using hl), a]
  | [], _ :: _, _, hl => by cases hl
  | _ :: _, [], _, hl => by cases hl
theorem PD.pts : ∀ {ns : List S} {ps : List Pt}, PD ns ps → ps.length = ns.length → ptsOk ps
  | [], [], _, _ => trivial
  | n :: ns, p :: ps, h, hl => by
    obtain ⟨a, _, c, t⟩ := h.tail
    exact ⟨fun b hb s hs => by rw [PD.names t (by simpa using hl)]; exact (c b hb).calls s hs, PD.pts t (by simpa using hl)⟩
  | [], _ :: _, _, hl => by cases hl
  | _ :: _, [], _, hl => by cases hl
/-- a program that was drawn -/
structure Drawn (p : Lp) : Prop where
  ok : p.Ok
  bl : p.bs.length ≤ 4
  pl : p.ps.length ≤ 2
  ns : ∃ k, p.ps.map (·.1) = ([[114, 105, 109], [104, 111, 108, 101], [97]] : List S).take k
  bd : ∀ b ∈ p.bs, BD (p.ps.map (·.1)) b
  pd : PD (p.ps.map (·.1)) p.ps
def namesL : List S := [[114, 105, 109], [104, 111, 108, 101], [97]]
theorem namesL_ok : ∀ s ∈ namesL, nmOk s := by
  intro s hs
  simp only [namesL, List.mem_cons, List.not_mem_nil, or_false] at hs
  rcases hs with rfl | rfl | rfl <;> refine ⟨by decide, by decide, by decide⟩
theorem namesL_nd : namesL.Nodup := by decide
theorem Drawn.mk' {k : Nat} {bs : List Bk} {ps : List Pt} (hk : k ≤ 2) (hp : PD (namesL.take k) ps) (hl : ps.length = (namesL.take k).length) (hb : bs.length ≤ 4) (hd : ∀ b ∈ bs, BD (namesL.take k) b) : Drawn ⟨bs, ps⟩ := by
  have en := hp.names hl
  have hl2 : ps.length ≤ 2 := by rw [hl, List.length_take]; omega
  have hq : ∀ q ∈ ps, q.2.length ≤ 3 ∧ (∀ b ∈ q.2, b.Ok) ∧ q.1 ∈ namesL.take k := fun q hq => by
    obtain ⟨i, hi, e⟩ := List.getElem_of_mem hq
    obtain ⟨a, b, c⟩ := hp i q (by rw [List.getElem?_eq_getElem hi, e])
    exact ⟨b, fun x hx => (c x hx).ok, List.mem_of_getElem? a⟩
  refine ⟨⟨by show bs.length ≤ 12; omega, fun b hb => (hd b hb).ok, fun b hb s hs => ?_, by show ps.length ≤ 4; omega, fun q h => namesL_ok _ (List.mem_of_mem_take (hq q h).2.2), ?_, fun q h => ⟨by have := (hq q h).1; omega, (hq q h).2.1⟩, hp.pts hl⟩, hb, hl2, ⟨k, en⟩, ?_, ?_⟩
  · show s ∈ ps.map (·.1)
    rw [en]; exact (hd b hb).calls s hs
  · show (ps.map (·.1)).Nodup
    rw [en]; exact List.Nodup.sublist (List.take_sublist _ _) namesL_nd
  · show ∀ b ∈ bs, BD (ps.map (·.1)) b
    rw [en]; exact hd
  · show PD (ps.map (·.1)) ps
    rw [en]; exact hp
end MT

set_option Elab.async false
set_option linter.all false
set_option maxRecDepth 100000
set_option maxHeartbeats 4000000
namespace MT
namespace k09
/-- is_whole -/
def f0 : Fn := ⟨3, 3, [(.ret (.and [(.isin (.var 0) .int), (.not (.isin (.var 0) .bool)), (.chain .le .le (.var 1) (.var 0) (.var 2))]))]⟩
/-- is_name -/
def f1 : Fn := ⟨1, 2, [(.ret (.and [(.isin (.var 0) .str), (.chain .le .le (.con (.int 1)) (.bi false .len [(.var 0)]) (.con (.int 8))), (.bi false .all [(.lc false [1] (.one 1) (.e (.var 0)) none (.cmp .inn (.var 1) (.glo 4)))])]))]⟩
/-- is_word -/
def f2 : Fn := ⟨1, 3, [(.ife (.or [(.not (.isin (.var 0) .tuple)), (.not (.var 0)), (.not (.isin (.idx (.var 0) (.con (.int 0))) .str))]) [(.ret (.con (.bl false)))] []), (.ife (.cmp .eq (.idx (.var 0) (.con (.int 0))) (.con (.str [116, 111]))) [(.set 1 (.and [(.cmp .eq (.bi false .len [(.var 0)]) (.con (.int 3))), (.cmp .ne (.sl1 false (.var 0) (.con (.int 1))) (.tup [(.con .non), (.con .non)]))])), (.ret (.and [(.var 1), (.bi false .all [(.lc false [2] (.one 2) (.e (.sl1 false (.var 0) (.con (.int 1)))) none (.or [(.cmp .isN (.var 2) (.con .non)), (.call false 0 [(.var 2), (.neg (.glo 3)), (.glo 3)] [])]))])]))] []), (.ife (.cmp .eq (.idx (.var 0) (.con (.int 0))) (.con (.str [99, 97, 108, 108]))) [(.ret (.and [(.cmp .eq (.bi false .len [(.var 0)]) (.con (.int 3))), (.call false 1 [(.idx (.var 0) (.con (.int 1)))] []), (.call false 0 [(.idx (.var 0) (.con (.int 2))), (.con (.int 1)), (.con (.int 9))] [])]))] []), (.ret (.and [(.cmp .eq (.bi false .len [(.var 0)]) (.con (.int 1))), (.or [(.gin (.idx (.var 0) (.con (.int 0)))), (.cmp .inn (.idx (.var 0) (.con (.int 0))) (.tup [(.con (.str [104, 101, 114, 101])), (.con (.str [104, 111, 112]))]))])]))]⟩
/-- group_of -/
def f3 : Fn := ⟨1, 1, [(.ife (.cmp .inn (.idx (.var 0) (.con (.int 0))) (.tup [(.con (.str [116, 111])), (.con (.str [99, 97, 108, 108]))])) [(.ret (.con (.str [100, 101, 101, 100])))] []), (.ret (.gget (.idx (.var 0) (.con (.int 0))) (.idx (.var 0) (.con (.int 0)))))]⟩
/-- is_block -/
def f4 : Fn := ⟨1, 2, [(.ife (.or [(.not (.isin (.var 0) .tuple)), (.cmp .ne (.bi false .len [(.var 0)]) (.con (.int 2))), (.not (.isin (.idx (.var 0) (.con (.int 0))) .bool))]) [(.ret (.con (.bl false)))] []), (.ife (.or [(.not (.isin (.idx (.var 0) (.con (.int 1))) .tuple)), (.cmp .gt (.bi false .len [(.idx (.var 0) (.con (.int 1)))]) (.glo 2)), (.not (.bi false .all [(.lc false [1] (.one 1) (.e (.idx (.var 0) (.con (.int 1)))) none (.call false 2 [(.var 1)] []))]))]) [(.ret (.con (.bl false)))] []), (.ret (.cmp .eq (.bi false .len [(.dc false [1] (.one 1) (.e (.idx (.var 0) (.con (.int 1)))) (.call false 3 [(.var 1)] []) (.con (.bl true)))]) (.bi false .len [(.idx (.var 0) (.con (.int 1)))])))]⟩
/-- are_blocks -/
def f5 : Fn := ⟨1, 2, [(.ret (.and [(.isin (.var 0) .tuple), (.cmp .le (.bi false .len [(.var 0)]) (.glo 0)), (.bi false .all [(.lc false [1] (.one 1) (.e (.var 0)) none (.call false 4 [(.var 1)] []))])]))]⟩
/-- called -/
def f6 : Fn := ⟨1, 2, [(.ret (.lc false [1] (.one 1) (.e (.idx (.var 0) (.con (.int 1)))) (some (.cmp .eq (.idx (.var 1) (.con (.int 0))) (.con (.str [99, 97, 108, 108])))) (.idx (.var 1) (.con (.int 1)))))]⟩
/-- may_call -/
def f7 : Fn := ⟨2, 3, [(.ret (.bi false .all [(.lc false [2] (.one 2) (.e (.call false 6 [(.var 0)] [])) none (.cmp .inn (.var 2) (.var 1)))]))]⟩
/-- are_parts -/
def f8 : Fn := ⟨1, 6, [(.ife (.or [(.not (.isin (.var 0) .tuple)), (.cmp .gt (.bi false .len [(.var 0)]) (.glo 1))]) [(.ret (.con (.bl false)))] []), (.for_ (.one 1) (.e (.var 0)) [(.ife (.or [(.not (.isin (.var 1) .tuple)), (.cmp .ne (.bi false .len [(.var 1)]) (.con (.int 2))), (.not (.call false 1 [(.idx (.var 1) (.con (.int 0)))] [])), (.not (.call false 5 [(.idx (.var 1) (.con (.int 1)))] []))]) [(.ret (.con (.bl false)))] [])]), (.set 2 (.lc false [1] (.one 1) (.e (.var 0)) none (.idx (.var 1) (.con (.int 0))))), (.ife (.cmp .lt (.bi false .len [(.dc false [3] (.one 3) (.e (.var 2)) (.var 3) (.con (.bl true)))]) (.bi false .len [(.var 2)])) [(.ret (.con (.bl false)))] []), (.ret (.bi false .all [(.lc2 false [4, 1, 5] [5] (.many [4, 1]) (.enum (.var 0)) (.one 5) (.e (.idx (.var 1) (.con (.int 1)))) (.call false 7 [(.var 5), (.sl1 false (.var 2) (.op2 false .add (.var 4) (.con (.int 1))))] []))]))]⟩
/-- Program.__init__ -/
def f9 : Fn := ⟨3, 6, [(.ife (.or [(.not (.call false 5 [(.var 1)] [])), (.not (.call false 8 [(.var 2)] []))]) [(.raise_ 1 none)] []), (.set 3 (.lc false [4] (.one 4) (.e (.var 2)) none (.idx (.var 4) (.con (.int 0))))), (.ife (.not (.bi false .all [(.lc false [5] (.one 5) (.e (.var 1)) none (.call false 7 [(.var 5), (.var 3)] []))])) [(.raise_ 1 none)] []), (.sfld (.var 0) 0 (.var 1)), (.sfld (.var 0) 1 (.var 2))]⟩
/-- Program.__eq__ -/
def f10 : Fn := ⟨2, 2, [(.ret (.and [(.isin (.var 1) (.cls 0)), (.cmp .eq (.tup [(.fld (.var 0) 0), (.fld (.var 0) 1)]) (.tup [(.fld (.var 1) 0), (.fld (.var 1) 1)]))]))]⟩
/-- number_of -/
def f11 : Fn := ⟨1, 3, [(.set 1 (.ife (.cmp .eq (.sl2 false (.var 0) (.con (.int 1))) (.con (.str [45]))) (.sl1 false (.var 0) (.con (.int 1))) (.var 0))), (.ife (.or [(.not (.chain .le .le (.con (.int 1)) (.bi false .len [(.var 1)]) (.con (.int 2)))), (.not (.bi false .all [(.lc false [2] (.one 2) (.e (.var 1)) none (.cmp .inn (.var 2) (.glo 5)))])), (.cmp .ne (.bi false .str [(.bi false .int [(.var 0)])]) (.var 0))]) [(.ret (.con .non))] []), (.ret (.bi false .int [(.var 0)]))]⟩
/-- value_in -/
def f12 : Fn := ⟨1, 2, [(.ife (.cmp .eq (.var 0) (.con (.str [45]))) [(.ret (.tup [(.con (.bl true)), (.con .non)]))] []), (.set 1 (.call false 11 [(.var 0)] [])), (.ret (.tup [(.cmp .notN (.var 1) (.con .non)), (.var 1)]))]⟩
/-- deed_in -/
def f13 : Fn := ⟨1, 3, [(.ife (.cmp .lt (.bi false .len [(.var 0)]) (.con (.int 3))) [(.ret (.con .non))] []), (.ife (.cmp .eq (.idx (.var 0) (.con (.int 0))) (.con (.str [99, 97, 108, 108]))) [(.ret (.tup [(.con (.str [99, 97, 108, 108])), (.idx (.var 0) (.con (.int 1))), (.call false 11 [(.idx (.var 0) (.con (.int 2)))] [])]))] []), (.par 1 2 (.call false 12 [(.idx (.var 0) (.con (.int 1)))] []) (.call false 12 [(.idx (.var 0) (.con (.int 2)))] [])), (.ret (.ife (.and [(.idx (.var 1) (.con (.int 0))), (.idx (.var 2) (.con (.int 0)))]) (.tup [(.con (.str [116, 111])), (.idx (.var 1) (.con (.int 1))), (.idx (.var 2) (.con (.int 1)))]) (.con .non)))]⟩
/-- words_in -/
def f14 : Fn := ⟨1, 4, [(.set 1 (.lst true [])), (.set 2 (.con (.int 0))), (.while_ (.cmp .lt (.var 2) (.bi false .len [(.var 0)])) [(.ife (.cmp .inn (.idx (.var 0) (.var 2)) (.tup [(.con (.str [116, 111])), (.con (.str [99, 97, 108, 108]))])) [(.set 3 (.call false 13 [(.sl3 false (.var 0) (.var 2) (.op2 false .add (.var 2) (.con (.int 3))))] [])), (.ife (.cmp .isN (.var 3) (.con .non)) [(.ret (.con .non))] []), (.expr (.bm false .append (.var 1) [(.var 3)])), (.aug 2 .add (.con (.int 3)))] [(.ife (.or [(.gin (.idx (.var 0) (.var 2))), (.cmp .inn (.idx (.var 0) (.var 2)) (.tup [(.con (.str [104, 101, 114, 101])), (.con (.str [104, 111, 112]))]))]) [(.expr (.bm false .append (.var 1) [(.tup [(.idx (.var 0) (.var 2))])])), (.aug 2 .add (.con (.int 1)))] [(.ret (.con .non))])])]), (.ret (.bi false .tuple [(.var 1)]))]⟩
/-- block_in -/
def f15 : Fn := ⟨1, 4, [(.set 1 (.bm false .startswith (.var 0) [(.con (.str [47, 32]))])), (.set 2 (.ife (.var 1) (.sl1 false (.var 0) (.con (.int 2))) (.var 0))), (.set 3 (.ife (.cmp .eq (.var 2) (.con (.str [46]))) (.tup []) (.call false 14 [(.bm false .split (.var 2) [(.con (.str [32]))])] []))), (.ife (.or [(.cmp .isN (.var 3) (.con .non)), (.and [(.not (.var 3)), (.cmp .ne (.var 2) (.con (.str [46])))]), (.not (.call false 4 [(.tup [(.var 1), (.var 3)])] []))]) [(.ret (.con .non))] []), (.ret (.tup [(.var 1), (.var 3)]))]⟩
/-- Reading.__init__ -/
def f16 : Fn := ⟨1, 1, [(.sfld (.var 0) 2 (.lst true [(.con .non)])), (.sfld (.var 0) 3 (.lst true [(.lst true [])]))]⟩
/-- Reading.part -/
def f17 : Fn := ⟨2, 2, [(.ife (.or [(.cmp .ne (.bi false .len [(.var 1)]) (.con (.int 2))), (.not (.call false 1 [(.idx (.var 1) (.con (.int 1)))] [])), (.cmp .inn (.idx (.var 1) (.con (.int 1))) (.fld (.var 0) 2)), (.cmp .gt (.bi false .len [(.fld (.var 0) 2)]) (.glo 1))]) [(.ret (.con (.bl false)))] []), (.expr (.bm false .append (.fld (.var 0) 2) [(.idx (.var 1) (.con (.int 1)))])), (.expr (.bm false .append (.fld (.var 0) 3) [(.lst true [])])), (.ret (.con (.bl true)))]⟩
/-- Reading.take -/
def f18 : Fn := ⟨3, 5, [(.set 3 (.bm false .split (.var 1) [(.con (.str [32]))])), (.ife (.cmp .eq (.idx (.var 3) (.con (.int 0))) (.con (.str [112, 97, 114, 116]))) [(.ret (.meth true 1 17 (.var 0) [(.var 3)]))] []), (.set 4 (.call false 15 [(.var 1)] [])), (.ife (.or [(.cmp .isN (.var 4) (.con .non)), (.cmp .eq (.bi false .len [(.idx (.fld (.var 0) 3) (.neg (.con (.int 1))))]) (.glo 0))]) [(.ret (.con (.bl false)))] []), (.expr (.bm false .append (.idx (.fld (.var 0) 3) (.neg (.con (.int 1)))) [(.tup [(.var 4), (.var 2)])])), (.ret (.con (.bl true)))]⟩
/-- Reading.bad_call -/
def f19 : Fn := ⟨1, 5, [(.for_ (.many [1, 2]) (.enum (.fld (.var 0) 3)) [(.for_ (.many [3, 4]) (.e (.var 2)) [(.ife (.not (.call false 7 [(.var 3), (.sl1 false (.fld (.var 0) 2) (.op2 false .add (.var 1) (.con (.int 1))))] [])) [(.ret (.var 4))] [])])]), (.ret (.con .non))]⟩
/-- read -/
def f20 : Fn := ⟨1, 8, [(.set 1 (.mk false 1 [])), (.for_ (.many [2, 3]) (.enum (.ife (.var 0) (.bm false .split (.var 0) [(.con (.str [10]))]) (.lst false []))) [(.ife (.not (.meth true 1 18 (.var 1) [(.var 3), (.op2 false .add (.var 2) (.con (.int 1)))])) [(.raise_ 2 (some (.op2 false .add (.var 2) (.con (.int 1)))))] [])]), (.set 4 (.meth false 1 19 (.var 1) [])), (.ife (.cmp .notN (.var 4) (.con .non)) [(.raise_ 2 (some (.var 4)))] []), (.set 5 (.lc false [7] (.one 7) (.e (.fld (.var 1) 3)) none (.bi false .tuple [(.lc false [6, 2] (.many [6, 2]) (.e (.var 7)) none (.var 6))]))), (.ret (.mk true 0 [(.idx (.var 5) (.con (.int 0))), (.bi false .tuple [(.sl1 false (.bi false .listzip [(.fld (.var 1) 2), (.var 5)]) (.con (.int 1)))])]))]⟩
/-- _law_begin -/
def f21 : Fn := ⟨1, 1, [(.ret (.lst true [(.bi false .list [(.var 0)]), (.con (.int 0)), (.con (.int 0)), (.con (.int 7))]))]⟩
/-- _law_draw -/
def f22 : Fn := ⟨2, 4, [(.ife (.cmp .eq (.idx (.var 0) (.con (.int 2))) (.con (.int 0))) [(.ife (.cmp .lt (.idx (.var 0) (.con (.int 1))) (.bi false .len [(.idx (.var 0) (.con (.int 0)))])) [(.set 2 (.idx (.idx (.var 0) (.con (.int 0))) (.idx (.var 0) (.con (.int 1))))), (.ssub (.var 0) (.con (.int 1)) (.op2 false .add (.idx (.var 0) (.con (.int 1))) (.con (.int 1)))), (.ife (.cmp .ge (.var 2) (.op2 false .pow (.con (.int 10)) (.con (.int 18)))) [(.ssub (.var 0) (.con (.int 2)) (.var 2))] [(.ssub (.var 0) (.con (.int 3)) (.op2 false .mod (.bi false .int [(.op2 false .add (.op2 false .add (.op2 false .mul (.idx (.var 0) (.con (.int 3))) (.con (.int 48271))) (.op2 false .mul (.var 2) (.con (.int 69621)))) (.con (.int 11)))]) (.con (.int 2147483647))))])] [(.ssub (.var 0) (.con (.int 3)) (.op2 false .mod (.bi false .int [(.op2 false .add (.op2 false .mul (.idx (.var 0) (.con (.int 3))) (.con (.int 48271))) (.con (.int 7)))]) (.con (.int 2147483647))))])] []), (.ife (.cmp .gt (.idx (.var 0) (.con (.int 2))) (.con (.int 0))) [(.set 3 (.op2 false .mod (.bi false .int [(.idx (.var 0) (.con (.int 2)))]) (.var 1))), (.ssub (.var 0) (.con (.int 2)) (.op2 false .fdiv (.idx (.var 0) (.con (.int 2))) (.var 1))), (.ret (.var 3))] []), (.ret (.op2 false .mod (.op2 false .mod (.bi false .int [(.op2 false .mul (.idx (.var 0) (.con (.int 3))) (.con (.int 16807)))]) (.con (.int 2147483629))) (.var 1)))]⟩
/-- _law_told -/
def f23 : Fn := ⟨1, 3, [(.set 1 (.con .non)), (.try_ [(.expr (.call false 20 [(.var 0)] []))] [(2, some 2, (.line 1 0))]), (.ret (.var 1))]⟩
/-- law -/
def f24 : Fn := ⟨1, 13, [(.set 1 (.call true 21 [(.var 0)] [])), (.set 2 (.lst false [(.con (.str [97, 98, 115, 32, 116, 111, 32, 49, 32, 45])), (.con (.str [47, 32, 99, 97, 108, 108, 32, 114, 105, 109, 32, 50, 32, 104, 111, 112])), (.con (.str [46])), (.con (.str [112, 97, 114, 116, 32, 114, 105, 109])), (.con (.str [104, 101, 114, 101, 32, 116, 111, 32, 45, 57, 57, 32, 57, 57])), (.con (.str [99, 97, 108, 108, 32, 104, 111, 108, 101, 32, 57]))])), (.set 2 (.op2 false .add (.var 2) (.lst false [(.con (.str [112, 97, 114, 116, 32, 104, 111, 108, 101])), (.con (.str [47, 32, 46]))]))), (.ife (.or [(.cmp .notN (.call false 23 [(.bm false .join (.con (.str [10])) [(.var 2)])] []) (.con .non)), (.cmp .notN (.call false 23 [(.con (.str []))] []) (.con .non))]) [(.ret (.con (.bl false)))] []), (.set 3 (.lst false [(.con (.str [])), (.con (.str [97, 98, 115, 32, 32, 116, 111, 32, 49, 32, 49])), (.con (.str [32, 97, 98, 115])), (.con (.str [97, 98, 115, 32])), (.con (.str [116, 111, 32, 49])), (.con (.str [116, 111, 32, 45, 32, 45])), (.con (.str [116, 111, 32, 49, 48, 48, 32, 49])), (.con (.str [116, 111, 32, 48, 49, 32, 49])), (.con (.str [116, 111, 32, 45, 48, 32, 49])), (.con (.str [116, 111, 32, 49, 32, 49, 32, 49]))])), (.set 3 (.op2 false .add (.var 3) (.lst false [(.con (.str [84, 111, 32, 49, 32, 49])), (.con (.str [99, 97, 108, 108, 32, 114, 105, 109])), (.con (.str [99, 97, 108, 108, 32, 114, 105, 109, 32, 48])), (.con (.str [99, 97, 108, 108, 32, 114, 105, 109, 32, 49, 48])), (.con (.str [99, 97, 108, 108, 32, 82, 105, 109, 32, 49])), (.con (.str [97, 98, 115, 32, 114, 101, 108])), (.con (.str [102, 97, 115, 116, 32, 102, 97, 115, 116]))]))), (.set 3 (.op2 false .add (.var 3) (.lst false [(.con (.str [116, 111, 32, 49, 32, 49, 32, 116, 111, 32, 49, 32, 49])), (.con (.str [47])), (.con (.str [47, 32])), (.con (.str [47, 97, 98, 115])), (.con (.str [47, 47, 32, 97, 98, 115])), (.con (.str [46, 32, 46])), (.con (.str [104, 111, 112, 32, 104, 111, 112])), (.con (.str [116, 111, 32, 49, 32, 49, 32, 99, 97, 108, 108, 32, 114, 105, 109, 32, 49])), (.con (.str [112, 97, 114, 116]))]))), (.set 3 (.op2 false .add (.var 3) (.lst false [(.con (.str [112, 97, 114, 116, 32, 82, 105, 109])), (.con (.str [112, 97, 114, 116, 32, 114, 105, 109, 32, 120])), (.con (.str [112, 97, 114, 116, 32, 110, 105, 110, 101, 115, 105, 103, 110, 115])), (.con (.str [97, 98, 115, 32, 102, 97, 115, 116, 32, 112, 108, 97, 105, 110, 32, 115, 105, 110, 103, 108, 101, 32, 104, 101, 114, 101, 32, 104, 111, 112, 32, 116, 111, 32, 49, 32, 49])), (.con (.str [106, 117, 109, 112]))]))), (.set 3 (.op2 false .add (.var 3) (.lst false [(.con (.str [116, 111, 32, 49, 32, 120])), (.con (.str [104, 101, 114, 101, 32, 104, 101, 114, 101])), (.con (.str [99, 97, 108, 108, 32, 114, 105, 109, 32, 49, 32, 99, 97, 108, 108, 32, 114, 105, 109, 32, 49])), (.con (.str [47, 32, 47, 32, 46]))]))), (.set 4 (.call false 22 [(.var 1), (.op2 false .add (.bi false .len [(.var 2)]) (.con (.int 1)))] [])), (.set 5 (.op2 false .add (.op2 false .add (.sl2 false (.var 2) (.var 4)) (.lst false [(.idx (.var 3) (.call false 22 [(.var 1), (.bi false .len [(.var 3)])] []))])) (.sl1 false (.var 2) (.var 4)))), (.ife (.cmp .ne (.call false 23 [(.bm false .join (.con (.str [10])) [(.var 5)])] []) (.op2 false .add (.var 4) (.con (.int 1)))) [(.ret (.con (.bl false)))] []), (.ife (.or [(.cmp .ne (.call false 23 [(.bm false .join (.con (.str [10])) [(.op2 false .add (.var 2) (.lst false [(.con (.str [112, 97, 114, 116, 32, 114, 105, 109]))]))])] []) (.con (.int 9))), (.cmp .ne (.call false 23 [(.bm false .join (.con (.str [10])) [(.op2 false .add (.var 2) (.lst false [(.con (.str []))]))])] []) (.con (.int 9)))]) [(.ret (.con (.bl false)))] []), (.set 6 (.lst false [(.lst false [(.con (.str [99, 97, 108, 108, 32, 114, 105, 109, 32, 49]))]), (.lst false [(.con (.str [46])), (.con (.str [112, 97, 114, 116, 32, 114, 105, 109])), (.con (.str [99, 97, 108, 108, 32, 114, 105, 109, 32, 49]))]), (.lst false [(.con (.str [112, 97, 114, 116, 32, 114, 105, 109])), (.con (.str [46])), (.con (.str [112, 97, 114, 116, 32, 104, 111, 108, 101])), (.con (.str [46])), (.con (.str [99, 97, 108, 108, 32, 114, 105, 109, 32, 49]))])])), (.set 6 (.op2 false .add (.var 6) (.lst false [(.lst false [(.con (.str [99, 97, 108, 108, 32, 97, 32, 49])), (.con (.str [112, 97, 114, 116, 32, 98]))]), (.lst false [(.con (.str [112, 97, 114, 116, 32, 97])), (.con (.str [112, 97, 114, 116, 32, 98])), (.con (.str [99, 97, 108, 108, 32, 99, 32, 50])), (.con (.str [112, 97, 114, 116, 32, 100]))])]))), (.set 7 (.idx (.var 6) (.call false 22 [(.var 1), (.bi false .len [(.var 6)])] []))), (.set 8 (.lc false [9] (.one 9) (.range (.bi false .len [(.var 7)])) (some (.cmp .eq (.sl2 false (.idx (.var 7) (.var 9)) (.con (.int 4))) (.con (.str [99, 97, 108, 108])))) (.op2 false .add (.var 9) (.con (.int 1))))), (.ife (.cmp .ne (.call false 23 [(.bm false .join (.con (.str [10])) [(.var 7)])] []) (.idx (.var 8) (.con (.int 0)))) [(.ret (.con (.bl false)))] []), (.set 10 (.op2 false .mul (.lst false [(.con (.str [46]))]) (.op2 false .add (.con (.int 12)) (.call false 22 [(.var 1), (.con (.int 3))] [])))), (.ife (.cmp .ne (.call false 23 [(.bm false .join (.con (.str [10])) [(.var 10)])] []) (.idx (.lst false [(.con .non), (.con (.int 13)), (.con (.int 13))]) (.op2 false .sub (.bi false .len [(.var 10)]) (.con (.int 12))))) [(.ret (.con (.bl false)))] []), (.set 11 (.lc false [12] (.one 12) (.e (.con (.str [97, 98, 99, 100, 101]))) none (.op2 false .add (.con (.str [112, 97, 114, 116, 32])) (.var 12)))), (.ret (.and [(.cmp .eq (.call false 23 [(.bm false .join (.con (.str [10])) [(.var 11)])] []) (.con (.int 5))), (.cmp .eq (.call false 23 [(.bm false .join (.con (.str [10])) [(.op2 false .add (.lst false [(.con (.str [99, 97, 108, 108, 32, 120, 32, 49]))]) (.var 11))])] []) (.con (.int 6)))]))]⟩
def gl : List V := [(.int 12), (.int 4), (.int 6), (.int 99), (.str [97, 98, 99, 100, 101, 102, 103, 104, 105, 106, 107, 108, 109, 110, 111, 112, 113, 114, 115, 116, 117, 118, 119, 120, 121, 122]), (.str [48, 49, 50, 51, 52, 53, 54, 55, 56, 57])]
def gr : List (Mini.S × Mini.S) := [([97, 98, 115], [119, 97, 121]), ([114, 101, 108], [119, 97, 121]), ([102, 97, 115, 116], [107, 105, 110, 100]), ([99, 117, 116], [107, 105, 110, 100]), ([112, 108, 97, 105, 110], [115, 105, 100, 101]), ([109, 105, 114, 114, 111, 114], [115, 105, 100, 101]), ([115, 105, 110, 103, 108, 101], [115, 99, 97, 108, 101]), ([100, 111, 117, 98, 108, 101], [115, 99, 97, 108, 101])]
def PT : Pg := { fns := [f0, f1, f2, f3, f4, f5, f6, f7, f8, f9, f10, f11, f12, f13, f14, f15, f16, f17, f18, f19, f20, f21, f22, f23, f24], glo := gl, grp := gr, init := [9, 16], eqm := [some 10, none], lenm := [none, none], sup := [[0], [1, 0], [2, 0]] }
end k09
end MT

set_option Elab.async false
set_option linter.all false
set_option maxRecDepth 100000
set_option maxHeartbeats 4000000
namespace MT
namespace k09
open Mini (S O2 Cm Bi Bm Ty T Hk D Tr big ixN atI cut rep small64 b2 get1 put1 putD splitS joinS intS intOf sortS sortR minI putAll isNon grpG clause Hh sOk)
theorem ca0 (n : Nat) (w0 w1 w2 : W) (M : Hp) : callT PT (n + 1) 0 [w0, w1, w2] M = body PT (callT PT n) f0 [w0, w1, w2] M := call_at rfl rfl
theorem ca1 (n : Nat) (w0 : W) (M : Hp) : callT PT (n + 1) 1 [w0] M = body PT (callT PT n) f1 [w0] M := call_at rfl rfl
theorem ca2 (n : Nat) (w0 : W) (M : Hp) : callT PT (n + 1) 2 [w0] M = body PT (callT PT n) f2 [w0] M := call_at rfl rfl
theorem ca3 (n : Nat) (w0 : W) (M : Hp) : callT PT (n + 1) 3 [w0] M = body PT (callT PT n) f3 [w0] M := call_at rfl rfl
theorem ca4 (n : Nat) (w0 : W) (M : Hp) : callT PT (n + 1) 4 [w0] M = body PT (callT PT n) f4 [w0] M := call_at rfl rfl
theorem ca5 (n : Nat) (w0 : W) (M : Hp) : callT PT (n + 1) 5 [w0] M = body PT (callT PT n) f5 [w0] M := call_at rfl rfl
theorem ca6 (n : Nat) (w0 : W) (M : Hp) : callT PT (n + 1) 6 [w0] M = body PT (callT PT n) f6 [w0] M := call_at rfl rfl
theorem ca7 (n : Nat) (w0 w1 : W) (M : Hp) : callT PT (n + 1) 7 [w0, w1] M = body PT (callT PT n) f7 [w0, w1] M := call_at rfl rfl
theorem ca8 (n : Nat) (w0 : W) (M : Hp) : callT PT (n + 1) 8 [w0] M = body PT (callT PT n) f8 [w0] M := call_at rfl rfl
theorem ca9 (n : Nat) (w0 w1 w2 : W) (M : Hp) : callT PT (n + 1) 9 [w0, w1, w2] M = body PT (callT PT n) f9 [w0, w1, w2] M := call_at rfl rfl
theorem ca10 (n : Nat) (w0 w1 : W) (M : Hp) : callT PT (n + 1) 10 [w0, w1] M = body PT (callT PT n) f10 [w0, w1] M := call_at rfl rfl
theorem ca11 (n : Nat) (w0 : W) (M : Hp) : callT PT (n + 1) 11 [w0] M = body PT (callT PT n) f11 [w0] M := call_at rfl rfl
theorem ca12 (n : Nat) (w0 : W) (M : Hp) : callT PT (n + 1) 12 [w0] M = body PT (callT PT n) f12 [w0] M := call_at rfl rfl
theorem ca13 (n : Nat) (w0 : W) (M : Hp) : callT PT (n + 1) 13 [w0] M = body PT (callT PT n) f13 [w0] M := call_at rfl rfl
theorem ca14 (n : Nat) (w0 : W) (M : Hp) : callT PT (n + 1) 14 [w0] M = body PT (callT PT n) f14 [w0] M := call_at rfl rfl
theorem ca15 (n : Nat) (w0 : W) (M : Hp) : callT PT (n + 1) 15 [w0] M = body PT (callT PT n) f15 [w0] M := call_at rfl rfl
theorem ca16 (n : Nat) (w0 : W) (M : Hp) : callT PT (n + 1) 16 [w0] M = body PT (callT PT n) f16 [w0] M := call_at rfl rfl
theorem ca17 (n : Nat) (w0 w1 : W) (M : Hp) : callT PT (n + 1) 17 [w0, w1] M = body PT (callT PT n) f17 [w0, w1] M := call_at rfl rfl
theorem ca18 (n : Nat) (w0 w1 w2 : W) (M : Hp) : callT PT (n + 1) 18 [w0, w1, w2] M = body PT (callT PT n) f18 [w0, w1, w2] M := call_at rfl rfl
theorem ca19 (n : Nat) (w0 : W) (M : Hp) : callT PT (n + 1) 19 [w0] M = body PT (callT PT n) f19 [w0] M := call_at rfl rfl
theorem ca20 (n : Nat) (w0 : W) (M : Hp) : callT PT (n + 1) 20 [w0] M = body PT (callT PT n) f20 [w0] M := call_at rfl rfl
theorem ca21 (n : Nat) (w0 : W) (M : Hp) : callT PT (n + 1) 21 [w0] M = body PT (callT PT n) f21 [w0] M := call_at rfl rfl
theorem ca22 (n : Nat) (w0 w1 : W) (M : Hp) : callT PT (n + 1) 22 [w0, w1] M = body PT (callT PT n) f22 [w0, w1] M := call_at rfl rfl
theorem ca23 (n : Nat) (w0 : W) (M : Hp) : callT PT (n + 1) 23 [w0] M = body PT (callT PT n) f23 [w0] M := call_at rfl rfl
theorem ca24 (n : Nat) (w0 : W) (M : Hp) : callT PT (n + 1) 24 [w0] M = body PT (callT PT n) f24 [w0] M := call_at rfl rfl
theorem glo0 : PT.glo[0]? = some (.int 12) := rfl
theorem glo1 : PT.glo[1]? = some (.int 4) := rfl
theorem glo2 : PT.glo[2]? = some (.int 6) := rfl
theorem glo3 : PT.glo[3]? = some (.int 99) := rfl
theorem glo4 : PT.glo[4]? = some (.str [97, 98, 99, 100, 101, 102, 103, 104, 105, 106, 107, 108, 109, 110, 111, 112, 113, 114, 115, 116, 117, 118, 119, 120, 121, 122]) := rfl
theorem glo5 : PT.glo[5]? = some (.str [48, 49, 50, 51, 52, 53, 54, 55, 56, 57]) := rfl
theorem init0 : PT.init[0]? = some 9 := rfl
theorem init1 : PT.init[1]? = some 16 := rfl
theorem eqm0 : PT.eqm[0]? = some (some 10) := rfl
theorem eqm1 : PT.eqm[1]? = some none := rfl
theorem draw1 (d : DS) (ls : Hp) (k : Int) (hk : 0 < k) (hk2 : k < 1073741824) (hb : d.b > 0) (n : Nat) : callT PT (n+1) 22 [.h 0, .t (.int k)] (d.ob :: ls) = .ok (.t (.int (d.b % k))) ({ d with b := d.b / k }.ob :: ls) := by
  have e1 : (d.b = 0) = False := by simp; omega
  have e2 : (0 < d.b) = True := by simp; omega
  have e3 : (0 < k) = True := by simp; omega
  have e4 : (k < 1073741824) = True := by simp; omega
  rw [ca22]
  simp only [body, f22, evE, evEs, evAnd, evOr, evC, evI, evS, evSs, bind_ok, bind_exc, toF_ok', toF_exc, toFB_def, wipeE, ofV_s, ofW_s, ofB_s, ofN_s, mkN_f, mkN_lst, cls_non, cls_bl, cls_int, cls_str, cls_tup, cls_lst, cls_dk, cls_dt, cls_scr, cls_ins, cls_h, clsO_ins, clsO_lst, clsO_lsw, clsO_dk, clsO_dt, ownEq_eq, ownC_n, ownC_s, ownEq_ne, ownEq_lt, ownEq_le, ownEq_gt, ownEq_ge, ownEq_isN, ownEq_notN, ownEq_inn, ownEq_notin, ownLen_len, ownLen_int, ownLen_str, ownLen_list, ownLen_tuple, ownLen_dict, ownLen_dictzip, ownLen_listzip, ownLen_sorted, ownLen_all, ownLen_any, ownLen_max2, ownLen_min1, ownLen_abs, cmpW_eq, cmpW_ne, cmpW_lt, cmpW_le, cmpW_gt, cmpW_ge, cmpW_in, cmpW_ni, cmpW_isN, cmpW_notN, cmpW_isNh, cmpW_notNh, isNon_non, isNon_bl, isNon_int, isNon_str, isNon_tup, isNon_lst, lt_ii, le_ii, gt_ii, ge_ii, eq_ii, eq_bb, eq_ss, eq_nn, eq_ni, eq_in, eq_ns, eq_sn, eq_nb, eq_bn, eq_tt, eq_ll, in_str, in_tup, in_lst, in_dk, ix_tup, ix_lst, ix_dk, ix_dt, idxW_t, idxW_h, idxO_lst, idxO_lsw, idxO_dk, idxO_dt, at0, at1, at2, at3, at4, at5, sl_tup, sl_lst, sl_str, rev_lst, add_ii, add_ss, add_tt, add_ll, sub_ii, mul_ii, mul_ti, mul_li, fdiv_ii, mod_ii, pow_ii, len_str, len_tup, len_lst, len_dk, int_int, int_bl, int_str, str_str, str_int, str_non, list_any, tuple_tup, tuple_lst, dict_tup, dz_tt, lz_ll, all_lst, any_lst, max2_ii, abs_int, isin_t, isin_non, isin_bl, isin_int, isin_str, isin_tup, isin_lst, isin_dk, isin_ins, fld_ins, fld_h, fldO_ins, ssub_h, ssub_hs, ssubO_lst, ssubO_dk, sfld_h, sfldO_ins, toFM_s, toFE_s, unp_tup, unp_lst, put_one, put_tup, put_lst, put_two, lcG_s, lcG2_s, tree_t, forG_s, app_h, appO_lst, bm_app, bm_pop, recv_join, recv_split, recv_starts, bm_join, bm_split, bm_starts, join_sl, split_ss, starts_ss, recv_app, recv_pop, isHl_h, hlO_lst, hlO_lsw, truth_h, truth_t, isIns_def, rdW_t, rdW_h, rdO_lst, rdO_dk, rdO_dt, tr_non, tr_bl, tr_int, tr_str, tr_tup, tr_lst, wk_tup, wk_lst, wk_str, wk_scr, wk_h, wkO_lst, wkO_lsw, it_tup, it_lst, it_scr, ts_nil, ts_cons, con_non, con_bl, con_int, con_str, sA_nil, sA_cons, gV_cons, gW_cons, pW_cons, pW_nil, rWs_nil, rWs_cons, ixn0, ixn1, ixn2, ixn3, lcF_d, lcF1_d, lcF2_d, dcF_d, lstN_d, dicN_d, ci0, big0, ci1, big1, ci2, big2, ci3, big3, ci4, big4, ci5, big5, ci6, big6, ci7, big7, ci8, big8, ci9, big9, ci10, big10, ci11, big11, ci12, big12, ci13, big13, ci14, big14, ci15, big15, ci16, big16, cut1, bA0, bB0, bC0, bA1, bB1, bC1, bA2, bB2, bC2, bA3, bB3, bC3, bA4, bB4, bC4, bA5, bB5, bC5, bA6, bB6, bC6, bA7, bB7, bC7, bA8, bB8, bC8, bA9, bB9, bC9, bA10, bB10, bC10, bA11, bB11, bC11, bA12, bB12, bC12, bls_nil, bls_cons, str_nil, str_cons, onM_ok, onM_exc, asB_s, cut_drop, cut_take, cut_mid, List.length_cons, List.length_nil, List.length_append, List.length_map, List.map_cons, List.map_nil, List.mapM_nil, List.replicate, List.cons_append, List.nil_append, List.append_nil, List.append_assoc, List.getD_eq_getElem?_getD, Option.getD_some, List.getElem?_cons_zero, List.getElem?_cons_succ, List.set_cons_zero, List.set_cons_succ, List.isEmpty_nil, List.isEmpty_cons, Bool.and_self, Bool.and_true, Bool.true_and, Bool.and_false, Bool.false_and, Bool.or_true, Bool.true_or, Bool.or_false, Bool.false_or, Bool.not_true, Bool.not_false, decide_true, decide_false, Bool.false_eq_true, Bool.true_eq_false, ite_true, ite_false, if_true, if_false, Int.reduceLT, Int.reduceLE, Int.reduceEq, Int.reduceNe, Int.reduceNeg, Int.reduceToNat, Int.reduceAdd, Int.reduceSub, Int.reduceMul, Nat.reduceAdd, Nat.reduceLT, Nat.reduceSub, Nat.reduceLeDiff, Nat.reduceEqDiff, Option.map_some, Option.map_none, Option.bind_some, Option.bind_none, Option.isSome_some, Option.isSome_none, Option.pure_def, b2, Nat.zero_add, reduceCtorEq, List.cons.injEq, and_true, true_and, and_false, false_and, id_eq, List.all_cons, List.all_nil, List.any_cons, List.any_nil, beq_self_eq_true, DS.ob, e1, e2, e3, e4]
theorem s64a : small64 10 = true := by decide
theorem s64b : small64 48271 = true := by decide
theorem s64c : small64 69621 = true := by decide
theorem s64d : small64 16807 = true := by decide
theorem p18 : (10 : Int) ^ 18 = 1000000000000000000 := by decide
theorem draw2 (d : DS) (ls : Hp) (k : Int) (hk : 0 < k) (hb : d.b < 0) (n : Nat) : ∃ r, 0 ≤ r ∧ r < k ∧ callT PT (n+1) 22 [.h 0, .t (.int k)] (d.ob :: ls) = .ok (.t (.int r)) (d.ob :: ls) := by
  have e1 : (d.b = 0) = False := by simp; omega
  have e2 : (0 < d.b) = False := by simp; omega
  have e3 : (0 < k) = True := by simp; omega
  refine ⟨(d.s * 16807) % 2147483629 % k, Int.emod_nonneg _ (by omega), Int.emod_lt_of_pos _ hk, ?_⟩
  rw [ca22]
  simp only [body, f22, evE, evEs, evAnd, evOr, evC, evI, evS, evSs, bind_ok, bind_exc, toF_ok', toF_exc, toFB_def, wipeE, ofV_s, ofW_s, ofB_s, ofN_s, mkN_f, mkN_lst, cls_non, cls_bl, cls_int, cls_str, cls_tup, cls_lst, cls_dk, cls_dt, cls_scr, cls_ins, cls_h, clsO_ins, clsO_lst, clsO_lsw, clsO_dk, clsO_dt, ownEq_eq, ownC_n, ownC_s, ownEq_ne, ownEq_lt, ownEq_le, ownEq_gt, ownEq_ge, ownEq_isN, ownEq_notN, ownEq_inn, ownEq_notin, ownLen_len, ownLen_int, ownLen_str, ownLen_list, ownLen_tuple, ownLen_dict, ownLen_dictzip, ownLen_listzip, ownLen_sorted, ownLen_all, ownLen_any, ownLen_max2, ownLen_min1, ownLen_abs, cmpW_eq, cmpW_ne, cmpW_lt, cmpW_le, cmpW_gt, cmpW_ge, cmpW_in, cmpW_ni, cmpW_isN, cmpW_notN, cmpW_isNh, cmpW_notNh, isNon_non, isNon_bl, isNon_int, isNon_str, isNon_tup, isNon_lst, lt_ii, le_ii, gt_ii, ge_ii, eq_ii, eq_bb, eq_ss, eq_nn, eq_ni, eq_in, eq_ns, eq_sn, eq_nb, eq_bn, eq_tt, eq_ll, in_str, in_tup, in_lst, in_dk, ix_tup, ix_lst, ix_dk, ix_dt, idxW_t, idxW_h, idxO_lst, idxO_lsw, idxO_dk, idxO_dt, at0, at1, at2, at3, at4, at5, sl_tup, sl_lst, sl_str, rev_lst, add_ii, add_ss, add_tt, add_ll, sub_ii, mul_ii, mul_ti, mul_li, fdiv_ii, mod_ii, pow_ii, len_str, len_tup, len_lst, len_dk, int_int, int_bl, int_str, str_str, str_int, str_non, list_any, tuple_tup, tuple_lst, dict_tup, dz_tt, lz_ll, all_lst, any_lst, max2_ii, abs_int, isin_t, isin_non, isin_bl, isin_int, isin_str, isin_tup, isin_lst, isin_dk, isin_ins, fld_ins, fld_h, fldO_ins, ssub_h, ssub_hs, ssubO_lst, ssubO_dk, sfld_h, sfldO_ins, toFM_s, toFE_s, unp_tup, unp_lst, put_one, put_tup, put_lst, put_two, lcG_s, lcG2_s, tree_t, forG_s, app_h, appO_lst, bm_app, bm_pop, recv_join, recv_split, recv_starts, bm_join, bm_split, bm_starts, join_sl, split_ss, starts_ss, recv_app, recv_pop, isHl_h, hlO_lst, hlO_lsw, truth_h, truth_t, isIns_def, rdW_t, rdW_h, rdO_lst, rdO_dk, rdO_dt, tr_non, tr_bl, tr_int, tr_str, tr_tup, tr_lst, wk_tup, wk_lst, wk_str, wk_scr, wk_h, wkO_lst, wkO_lsw, it_tup, it_lst, it_scr, ts_nil, ts_cons, con_non, con_bl, con_int, con_str, sA_nil, sA_cons, gV_cons, gW_cons, pW_cons, pW_nil, rWs_nil, rWs_cons, ixn0, ixn1, ixn2, ixn3, lcF_d, lcF1_d, lcF2_d, dcF_d, lstN_d, dicN_d, ci0, big0, ci1, big1, ci2, big2, ci3, big3, ci4, big4, ci5, big5, ci6, big6, ci7, big7, ci8, big8, ci9, big9, ci10, big10, ci11, big11, ci12, big12, ci13, big13, ci14, big14, ci15, big15, ci16, big16, cut1, bA0, bB0, bC0, bA1, bB1, bC1, bA2, bB2, bC2, bA3, bB3, bC3, bA4, bB4, bC4, bA5, bB5, bC5, bA6, bB6, bC6, bA7, bB7, bC7, bA8, bB8, bC8, bA9, bB9, bC9, bA10, bB10, bC10, bA11, bB11, bC11, bA12, bB12, bC12, bls_nil, bls_cons, str_nil, str_cons, onM_ok, onM_exc, asB_s, cut_drop, cut_take, cut_mid, List.length_cons, List.length_nil, List.length_append, List.length_map, List.map_cons, List.map_nil, List.mapM_nil, List.replicate, List.cons_append, List.nil_append, List.append_nil, List.append_assoc, List.getD_eq_getElem?_getD, Option.getD_some, List.getElem?_cons_zero, List.getElem?_cons_succ, List.set_cons_zero, List.set_cons_succ, List.isEmpty_nil, List.isEmpty_cons, Bool.and_self, Bool.and_true, Bool.true_and, Bool.and_false, Bool.false_and, Bool.or_true, Bool.true_or, Bool.or_false, Bool.false_or, Bool.not_true, Bool.not_false, decide_true, decide_false, Bool.false_eq_true, Bool.true_eq_false, ite_true, ite_false, if_true, if_false, Int.reduceLT, Int.reduceLE, Int.reduceEq, Int.reduceNe, Int.reduceNeg, Int.reduceToNat, Int.reduceAdd, Int.reduceSub, Int.reduceMul, Nat.reduceAdd, Nat.reduceLT, Nat.reduceSub, Nat.reduceLeDiff, Nat.reduceEqDiff, Option.map_some, Option.map_none, Option.bind_some, Option.bind_none, Option.isSome_some, Option.isSome_none, Option.pure_def, b2, Nat.zero_add, reduceCtorEq, List.cons.injEq, and_true, true_and, and_false, false_and, id_eq, List.all_cons, List.all_nil, List.any_cons, List.any_nil, beq_self_eq_true, DS.ob, e1, e2, e3, mul_ii, s64d]
theorem draw3 (d : DS) (ls : Hp) (k : Int) (hk : 0 < k) (hb : d.b = 0) (hi : d.ns.length ≤ d.i) (n : Nat) : ∃ r d', 0 ≤ r ∧ r < k ∧ callT PT (n+1) 22 [.h 0, .t (.int k)] (d.ob :: ls) = .ok (.t (.int r)) (DS.ob d' :: ls) := by
  have e1 : ((d.i : Int) < (d.ns.length : Int)) = False := by simp; omega
  have e3 : (0 < k) = True := by simp; omega
  refine ⟨(((d.s * 48271 + 7) % 2147483647) * 16807) % 2147483629 % k, { d with s := (d.s * 48271 + 7) % 2147483647, b := 0 }, Int.emod_nonneg _ (by omega), Int.emod_lt_of_pos _ hk, ?_⟩
  rw [ca22]
  simp only [body, f22, evE, evEs, evAnd, evOr, evC, evI, evS, evSs, bind_ok, bind_exc, toF_ok', toF_exc, toFB_def, wipeE, ofV_s, ofW_s, ofB_s, ofN_s, mkN_f, mkN_lst, cls_non, cls_bl, cls_int, cls_str, cls_tup, cls_lst, cls_dk, cls_dt, cls_scr, cls_ins, cls_h, clsO_ins, clsO_lst, clsO_lsw, clsO_dk, clsO_dt, ownEq_eq, ownC_n, ownC_s, ownEq_ne, ownEq_lt, ownEq_le, ownEq_gt, ownEq_ge, ownEq_isN, ownEq_notN, ownEq_inn, ownEq_notin, ownLen_len, ownLen_int, ownLen_str, ownLen_list, ownLen_tuple, ownLen_dict, ownLen_dictzip, ownLen_listzip, ownLen_sorted, ownLen_all, ownLen_any, ownLen_max2, ownLen_min1, ownLen_abs, cmpW_eq, cmpW_ne, cmpW_lt, cmpW_le, cmpW_gt, cmpW_ge, cmpW_in, cmpW_ni, cmpW_isN, cmpW_notN, cmpW_isNh, cmpW_notNh, isNon_non, isNon_bl, isNon_int, isNon_str, isNon_tup, isNon_lst, lt_ii, le_ii, gt_ii, ge_ii, eq_ii, eq_bb, eq_ss, eq_nn, eq_ni, eq_in, eq_ns, eq_sn, eq_nb, eq_bn, eq_tt, eq_ll, in_str, in_tup, in_lst, in_dk, ix_tup, ix_lst, ix_dk, ix_dt, idxW_t, idxW_h, idxO_lst, idxO_lsw, idxO_dk, idxO_dt, at0, at1, at2, at3, at4, at5, sl_tup, sl_lst, sl_str, rev_lst, add_ii, add_ss, add_tt, add_ll, sub_ii, mul_ii, mul_ti, mul_li, fdiv_ii, mod_ii, pow_ii, len_str, len_tup, len_lst, len_dk, int_int, int_bl, int_str, str_str, str_int, str_non, list_any, tuple_tup, tuple_lst, dict_tup, dz_tt, lz_ll, all_lst, any_lst, max2_ii, abs_int, isin_t, isin_non, isin_bl, isin_int, isin_str, isin_tup, isin_lst, isin_dk, isin_ins, fld_ins, fld_h, fldO_ins, ssub_h, ssub_hs, ssubO_lst, ssubO_dk, sfld_h, sfldO_ins, toFM_s, toFE_s, unp_tup, unp_lst, put_one, put_tup, put_lst, put_two, lcG_s, lcG2_s, tree_t, forG_s, app_h, appO_lst, bm_app, bm_pop, recv_join, recv_split, recv_starts, bm_join, bm_split, bm_starts, join_sl, split_ss, starts_ss, recv_app, recv_pop, isHl_h, hlO_lst, hlO_lsw, truth_h, truth_t, isIns_def, rdW_t, rdW_h, rdO_lst, rdO_dk, rdO_dt, tr_non, tr_bl, tr_int, tr_str, tr_tup, tr_lst, wk_tup, wk_lst, wk_str, wk_scr, wk_h, wkO_lst, wkO_lsw, it_tup, it_lst, it_scr, ts_nil, ts_cons, con_non, con_bl, con_int, con_str, sA_nil, sA_cons, gV_cons, gW_cons, pW_cons, pW_nil, rWs_nil, rWs_cons, ixn0, ixn1, ixn2, ixn3, lcF_d, lcF1_d, lcF2_d, dcF_d, lstN_d, dicN_d, ci0, big0, ci1, big1, ci2, big2, ci3, big3, ci4, big4, ci5, big5, ci6, big6, ci7, big7, ci8, big8, ci9, big9, ci10, big10, ci11, big11, ci12, big12, ci13, big13, ci14, big14, ci15, big15, ci16, big16, cut1, bA0, bB0, bC0, bA1, bB1, bC1, bA2, bB2, bC2, bA3, bB3, bC3, bA4, bB4, bC4, bA5, bB5, bC5, bA6, bB6, bC6, bA7, bB7, bC7, bA8, bB8, bC8, bA9, bB9, bC9, bA10, bB10, bC10, bA11, bB11, bC11, bA12, bB12, bC12, bls_nil, bls_cons, str_nil, str_cons, onM_ok, onM_exc, asB_s, cut_drop, cut_take, cut_mid, List.length_cons, List.length_nil, List.length_append, List.length_map, List.map_cons, List.map_nil, List.mapM_nil, List.replicate, List.cons_append, List.nil_append, List.append_nil, List.append_assoc, List.getD_eq_getElem?_getD, Option.getD_some, List.getElem?_cons_zero, List.getElem?_cons_succ, List.set_cons_zero, List.set_cons_succ, List.isEmpty_nil, List.isEmpty_cons, Bool.and_self, Bool.and_true, Bool.true_and, Bool.and_false, Bool.false_and, Bool.or_true, Bool.true_or, Bool.or_false, Bool.false_or, Bool.not_true, Bool.not_false, decide_true, decide_false, Bool.false_eq_true, Bool.true_eq_false, ite_true, ite_false, if_true, if_false, Int.reduceLT, Int.reduceLE, Int.reduceEq, Int.reduceNe, Int.reduceNeg, Int.reduceToNat, Int.reduceAdd, Int.reduceSub, Int.reduceMul, Nat.reduceAdd, Nat.reduceLT, Nat.reduceSub, Nat.reduceLeDiff, Nat.reduceEqDiff, Option.map_some, Option.map_none, Option.bind_some, Option.bind_none, Option.isSome_some, Option.isSome_none, Option.pure_def, b2, Nat.zero_add, reduceCtorEq, List.cons.injEq, and_true, true_and, and_false, false_and, id_eq, List.all_cons, List.all_nil, List.any_cons, List.any_nil, beq_self_eq_true, DS.ob, hb, e1, e3, mul_ii, s64b, s64d, List.length_map]
theorem draw4 (d : DS) (ls : Hp) (k : Int) (hk : 0 < k) (hk2 : k < 1073741824) (hb : d.b = 0) (hi : d.i < d.ns.length) (n : Nat) : ∃ r d', 0 ≤ r ∧ r < k ∧ callT PT (n+1) 22 [.h 0, .t (.int k)] (d.ob :: ls) = .ok (.t (.int r)) (DS.ob d' :: ls) := by
  have e1 : ((d.i : Int) < (d.ns.length : Int)) = True := by simp; omega
  have e3 : (0 < k) = True := by simp; omega
  have e4 : (k < 1073741824) = True := by simp; omega
  have e5 : atI (d.ns.map V.int) (d.i : Int) = some (.int d.ns[d.i]) := by rw [atN, List.getElem?_map, List.getElem?_eq_getElem hi]; rfl
  by_cases hc : (1000000000000000000 : Int) ≤ d.ns[d.i]
  · have e6 : ((1000000000000000000 : Int) ≤ d.ns[d.i]) = True := by simp [hc]
    have e7 : (0 < d.ns[d.i]) = True := by simp; omega
    refine ⟨d.ns[d.i] % k, { d with i := d.i + 1, b := d.ns[d.i] / k }, Int.emod_nonneg _ (by omega), Int.emod_lt_of_pos _ hk, ?_⟩
    rw [ca22]
    simp only [body, f22, evE, evEs, evAnd, evOr, evC, evI, evS, evSs, bind_ok, bind_exc, toF_ok', toF_exc, toFB_def, wipeE, ofV_s, ofW_s, ofB_s, ofN_s, mkN_f, mkN_lst, cls_non, cls_bl, cls_int, cls_str, cls_tup, cls_lst, cls_dk, cls_dt, cls_scr, cls_ins, cls_h, clsO_ins, clsO_lst, clsO_lsw, clsO_dk, clsO_dt, ownEq_eq, ownC_n, ownC_s, ownEq_ne, ownEq_lt, ownEq_le, ownEq_gt, ownEq_ge, ownEq_isN, ownEq_notN, ownEq_inn, ownEq_notin, ownLen_len, ownLen_int, ownLen_str, ownLen_list, ownLen_tuple, ownLen_dict, ownLen_dictzip, ownLen_listzip, ownLen_sorted, ownLen_all, ownLen_any, ownLen_max2, ownLen_min1, ownLen_abs, cmpW_eq, cmpW_ne, cmpW_lt, cmpW_le, cmpW_gt, cmpW_ge, cmpW_in, cmpW_ni, cmpW_isN, cmpW_notN, cmpW_isNh, cmpW_notNh, isNon_non, isNon_bl, isNon_int, isNon_str, isNon_tup, isNon_lst, lt_ii, le_ii, gt_ii, ge_ii, eq_ii, eq_bb, eq_ss, eq_nn, eq_ni, eq_in, eq_ns, eq_sn, eq_nb, eq_bn, eq_tt, eq_ll, in_str, in_tup, in_lst, in_dk, ix_tup, ix_lst, ix_dk, ix_dt, idxW_t, idxW_h, idxO_lst, idxO_lsw, idxO_dk, idxO_dt, at0, at1, at2, at3, at4, at5, sl_tup, sl_lst, sl_str, rev_lst, add_ii, add_ss, add_tt, add_ll, sub_ii, mul_ii, mul_ti, mul_li, fdiv_ii, mod_ii, pow_ii, len_str, len_tup, len_lst, len_dk, int_int, int_bl, int_str, str_str, str_int, str_non, list_any, tuple_tup, tuple_lst, dict_tup, dz_tt, lz_ll, all_lst, any_lst, max2_ii, abs_int, isin_t, isin_non, isin_bl, isin_int, isin_str, isin_tup, isin_lst, isin_dk, isin_ins, fld_ins, fld_h, fldO_ins, ssub_h, ssub_hs, ssubO_lst, ssubO_dk, sfld_h, sfldO_ins, toFM_s, toFE_s, unp_tup, unp_lst, put_one, put_tup, put_lst, put_two, lcG_s, lcG2_s, tree_t, forG_s, app_h, appO_lst, bm_app, bm_pop, recv_join, recv_split, recv_starts, bm_join, bm_split, bm_starts, join_sl, split_ss, starts_ss, recv_app, recv_pop, isHl_h, hlO_lst, hlO_lsw, truth_h, truth_t, isIns_def, rdW_t, rdW_h, rdO_lst, rdO_dk, rdO_dt, tr_non, tr_bl, tr_int, tr_str, tr_tup, tr_lst, wk_tup, wk_lst, wk_str, wk_scr, wk_h, wkO_lst, wkO_lsw, it_tup, it_lst, it_scr, ts_nil, ts_cons, con_non, con_bl, con_int, con_str, sA_nil, sA_cons, gV_cons, gW_cons, pW_cons, pW_nil, rWs_nil, rWs_cons, ixn0, ixn1, ixn2, ixn3, lcF_d, lcF1_d, lcF2_d, dcF_d, lstN_d, dicN_d, ci0, big0, ci1, big1, ci2, big2, ci3, big3, ci4, big4, ci5, big5, ci6, big6, ci7, big7, ci8, big8, ci9, big9, ci10, big10, ci11, big11, ci12, big12, ci13, big13, ci14, big14, ci15, big15, ci16, big16, cut1, bA0, bB0, bC0, bA1, bB1, bC1, bA2, bB2, bC2, bA3, bB3, bC3, bA4, bB4, bC4, bA5, bB5, bC5, bA6, bB6, bC6, bA7, bB7, bC7, bA8, bB8, bC8, bA9, bB9, bC9, bA10, bB10, bC10, bA11, bB11, bC11, bA12, bB12, bC12, bls_nil, bls_cons, str_nil, str_cons, onM_ok, onM_exc, asB_s, cut_drop, cut_take, cut_mid, List.length_cons, List.length_nil, List.length_append, List.length_map, List.map_cons, List.map_nil, List.mapM_nil, List.replicate, List.cons_append, List.nil_append, List.append_nil, List.append_assoc, List.getD_eq_getElem?_getD, Option.getD_some, List.getElem?_cons_zero, List.getElem?_cons_succ, List.set_cons_zero, List.set_cons_succ, List.isEmpty_nil, List.isEmpty_cons, Bool.and_self, Bool.and_true, Bool.true_and, Bool.and_false, Bool.false_and, Bool.or_true, Bool.true_or, Bool.or_false, Bool.false_or, Bool.not_true, Bool.not_false, decide_true, decide_false, Bool.false_eq_true, Bool.true_eq_false, ite_true, ite_false, if_true, if_false, Int.reduceLT, Int.reduceLE, Int.reduceEq, Int.reduceNe, Int.reduceNeg, Int.reduceToNat, Int.reduceAdd, Int.reduceSub, Int.reduceMul, Nat.reduceAdd, Nat.reduceLT, Nat.reduceSub, Nat.reduceLeDiff, Nat.reduceEqDiff, Option.map_some, Option.map_none, Option.bind_some, Option.bind_none, Option.isSome_some, Option.isSome_none, Option.pure_def, b2, Nat.zero_add, reduceCtorEq, List.cons.injEq, and_true, true_and, and_false, false_and, id_eq, List.all_cons, List.all_nil, List.any_cons, List.any_nil, beq_self_eq_true, DS.ob, hb, e1, e3, e4, e5, e6, e7, mul_ii, s64a, s64b, s64d, List.length_map, p18]
    rfl
  · have e6 : ((1000000000000000000 : Int) ≤ d.ns[d.i]) = False := by simp; omega
    refine ⟨(((d.s * 48271 + d.ns[d.i] * 69621 + 11) % 2147483647) * 16807) % 2147483629 % k, { d with i := d.i + 1, s := (d.s * 48271 + d.ns[d.i] * 69621 + 11) % 2147483647, b := 0 }, Int.emod_nonneg _ (by omega), Int.emod_lt_of_pos _ hk, ?_⟩
    rw [ca22]
    simp only [body, f22, evE, evEs, evAnd, evOr, evC, evI, evS, evSs, bind_ok, bind_exc, toF_ok', toF_exc, toFB_def, wipeE, ofV_s, ofW_s, ofB_s, ofN_s, mkN_f, mkN_lst, cls_non, cls_bl, cls_int, cls_str, cls_tup, cls_lst, cls_dk, cls_dt, cls_scr, cls_ins, cls_h, clsO_ins, clsO_lst, clsO_lsw, clsO_dk, clsO_dt, ownEq_eq, ownC_n, ownC_s, ownEq_ne, ownEq_lt, ownEq_le, ownEq_gt, ownEq_ge, ownEq_isN, ownEq_notN, ownEq_inn, ownEq_notin, ownLen_len, ownLen_int, ownLen_str, ownLen_list, ownLen_tuple, ownLen_dict, ownLen_dictzip, ownLen_listzip, ownLen_sorted, ownLen_all, ownLen_any, ownLen_max2, ownLen_min1, ownLen_abs, cmpW_eq, cmpW_ne, cmpW_lt, cmpW_le, cmpW_gt, cmpW_ge, cmpW_in, cmpW_ni, cmpW_isN, cmpW_notN, cmpW_isNh, cmpW_notNh, isNon_non, isNon_bl, isNon_int, isNon_str, isNon_tup, isNon_lst, lt_ii, le_ii, gt_ii, ge_ii, eq_ii, eq_bb, eq_ss, eq_nn, eq_ni, eq_in, eq_ns, eq_sn, eq_nb, eq_bn, eq_tt, eq_ll, in_str, in_tup, in_lst, in_dk, ix_tup, ix_lst, ix_dk, ix_dt, idxW_t, idxW_h, idxO_lst, idxO_lsw, idxO_dk, idxO_dt, at0, at1, at2, at3, at4, at5, sl_tup, sl_lst, sl_str, rev_lst, add_ii, add_ss, add_tt, add_ll, sub_ii, mul_ii, mul_ti, mul_li, fdiv_ii, mod_ii, pow_ii, len_str, len_tup, len_lst, len_dk, int_int, int_bl, int_str, str_str, str_int, str_non, list_any, tuple_tup, tuple_lst, dict_tup, dz_tt, lz_ll, all_lst, any_lst, max2_ii, abs_int, isin_t, isin_non, isin_bl, isin_int, isin_str, isin_tup, isin_lst, isin_dk, isin_ins, fld_ins, fld_h, fldO_ins, ssub_h, ssub_hs, ssubO_lst, ssubO_dk, sfld_h, sfldO_ins, toFM_s, toFE_s, unp_tup, unp_lst, put_one, put_tup, put_lst, put_two, lcG_s, lcG2_s, tree_t, forG_s, app_h, appO_lst, bm_app, bm_pop, recv_join, recv_split, recv_starts, bm_join, bm_split, bm_starts, join_sl, split_ss, starts_ss, recv_app, recv_pop, isHl_h, hlO_lst, hlO_lsw, truth_h, truth_t, isIns_def, rdW_t, rdW_h, rdO_lst, rdO_dk, rdO_dt, tr_non, tr_bl, tr_int, tr_str, tr_tup, tr_lst, wk_tup, wk_lst, wk_str, wk_scr, wk_h, wkO_lst, wkO_lsw, it_tup, it_lst, it_scr, ts_nil, ts_cons, con_non, con_bl, con_int, con_str, sA_nil, sA_cons, gV_cons, gW_cons, pW_cons, pW_nil, rWs_nil, rWs_cons, ixn0, ixn1, ixn2, ixn3, lcF_d, lcF1_d, lcF2_d, dcF_d, lstN_d, dicN_d, ci0, big0, ci1, big1, ci2, big2, ci3, big3, ci4, big4, ci5, big5, ci6, big6, ci7, big7, ci8, big8, ci9, big9, ci10, big10, ci11, big11, ci12, big12, ci13, big13, ci14, big14, ci15, big15, ci16, big16, cut1, bA0, bB0, bC0, bA1, bB1, bC1, bA2, bB2, bC2, bA3, bB3, bC3, bA4, bB4, bC4, bA5, bB5, bC5, bA6, bB6, bC6, bA7, bB7, bC7, bA8, bB8, bC8, bA9, bB9, bC9, bA10, bB10, bC10, bA11, bB11, bC11, bA12, bB12, bC12, bls_nil, bls_cons, str_nil, str_cons, onM_ok, onM_exc, asB_s, cut_drop, cut_take, cut_mid, List.length_cons, List.length_nil, List.length_append, List.length_map, List.map_cons, List.map_nil, List.mapM_nil, List.replicate, List.cons_append, List.nil_append, List.append_nil, List.append_assoc, List.getD_eq_getElem?_getD, Option.getD_some, List.getElem?_cons_zero, List.getElem?_cons_succ, List.set_cons_zero, List.set_cons_succ, List.isEmpty_nil, List.isEmpty_cons, Bool.and_self, Bool.and_true, Bool.true_and, Bool.and_false, Bool.false_and, Bool.or_true, Bool.true_or, Bool.or_false, Bool.false_or, Bool.not_true, Bool.not_false, decide_true, decide_false, Bool.false_eq_true, Bool.true_eq_false, ite_true, ite_false, if_true, if_false, Int.reduceLT, Int.reduceLE, Int.reduceEq, Int.reduceNe, Int.reduceNeg, Int.reduceToNat, Int.reduceAdd, Int.reduceSub, Int.reduceMul, Nat.reduceAdd, Nat.reduceLT, Nat.reduceSub, Nat.reduceLeDiff, Nat.reduceEqDiff, Option.map_some, Option.map_none, Option.bind_some, Option.bind_none, Option.isSome_some, Option.isSome_none, Option.pure_def, b2, Nat.zero_add, reduceCtorEq, List.cons.injEq, and_true, true_and, and_false, false_and, id_eq, List.all_cons, List.all_nil, List.any_cons, List.any_nil, beq_self_eq_true, DS.ob, hb, e1, e3, e4, e5, e6, mul_ii, s64a, s64b, s64c, s64d, List.length_map, p18]
    rfl
/-- a draw: a number below k -/
theorem draw_ok (d : DS) (ls : Hp) (hl : lows (ls.length + 1) ls = true) (k : Int) (hk : 0 < k) (hk2 : k < 1073741824) (n : Nat) : ∃ r d', 0 ≤ r ∧ r < k ∧ cook (callT PT (n+1)) 22 [.h 0, .t (.int k)] (d.ob :: ls) = .ok (.t (.int r)) (DS.ob d' :: ls) := by
  have z : ∃ r d', 0 ≤ r ∧ r < k ∧ callT PT (n+1) 22 [.h 0, .t (.int k)] (d.ob :: ls) = .ok (.t (.int r)) (DS.ob d' :: ls) := by
    by_cases h1 : d.b = 0
    · by_cases h2 : d.i < d.ns.length
      · exact draw4 d ls k hk hk2 h1 h2 n
      · exact draw3 d ls k hk h1 (by omega) n
    · by_cases h2 : d.b > 0
      · exact ⟨_, _, Int.emod_nonneg _ (by omega), Int.emod_lt_of_pos _ hk, draw1 d ls k hk hk2 h2 n⟩
      · obtain ⟨r, a, b, c⟩ := draw2 d ls k hk (by omega) n
        exact ⟨r, d, a, b, c⟩
  obtain ⟨r, d', a, b, c⟩ := z
  exact ⟨r, d', a, b, cook_h (g := []) rfl (by rw [c, List.append_nil]) rfl (by rw [List.length_cons, lows, hl]; rfl)⟩
theorem begin_ok (n : Nat) (ns : List Int) : callT PT (n+1) 21 [.t (.scr ns)] [] = .ok (.h 0) [DS.ob ⟨ns, 0, 0, 7⟩] := by
  rw [ca21]
  simp only [body, f21, evE, evEs, evAnd, evOr, evC, evI, evS, evSs, bind_ok, bind_exc, toF_ok', toF_exc, toFB_def, wipeE, ofV_s, ofW_s, ofB_s, ofN_s, mkN_f, mkN_lst, cls_non, cls_bl, cls_int, cls_str, cls_tup, cls_lst, cls_dk, cls_dt, cls_scr, cls_ins, cls_h, clsO_ins, clsO_lst, clsO_lsw, clsO_dk, clsO_dt, ownEq_eq, ownC_n, ownC_s, ownEq_ne, ownEq_lt, ownEq_le, ownEq_gt, ownEq_ge, ownEq_isN, ownEq_notN, ownEq_inn, ownEq_notin, ownLen_len, ownLen_int, ownLen_str, ownLen_list, ownLen_tuple, ownLen_dict, ownLen_dictzip, ownLen_listzip, ownLen_sorted, ownLen_all, ownLen_any, ownLen_max2, ownLen_min1, ownLen_abs, cmpW_eq, cmpW_ne, cmpW_lt, cmpW_le, cmpW_gt, cmpW_ge, cmpW_in, cmpW_ni, cmpW_isN, cmpW_notN, cmpW_isNh, cmpW_notNh, isNon_non, isNon_bl, isNon_int, isNon_str, isNon_tup, isNon_lst, lt_ii, le_ii, gt_ii, ge_ii, eq_ii, eq_bb, eq_ss, eq_nn, eq_ni, eq_in, eq_ns, eq_sn, eq_nb, eq_bn, eq_tt, eq_ll, in_str, in_tup, in_lst, in_dk, ix_tup, ix_lst, ix_dk, ix_dt, idxW_t, idxW_h, idxO_lst, idxO_lsw, idxO_dk, idxO_dt, at0, at1, at2, at3, at4, at5, sl_tup, sl_lst, sl_str, rev_lst, add_ii, add_ss, add_tt, add_ll, sub_ii, mul_ii, mul_ti, mul_li, fdiv_ii, mod_ii, pow_ii, len_str, len_tup, len_lst, len_dk, int_int, int_bl, int_str, str_str, str_int, str_non, list_any, tuple_tup, tuple_lst, dict_tup, dz_tt, lz_ll, all_lst, any_lst, max2_ii, abs_int, isin_t, isin_non, isin_bl, isin_int, isin_str, isin_tup, isin_lst, isin_dk, isin_ins, fld_ins, fld_h, fldO_ins, ssub_h, ssub_hs, ssubO_lst, ssubO_dk, sfld_h, sfldO_ins, toFM_s, toFE_s, unp_tup, unp_lst, put_one, put_tup, put_lst, put_two, lcG_s, lcG2_s, tree_t, forG_s, app_h, appO_lst, bm_app, bm_pop, recv_join, recv_split, recv_starts, bm_join, bm_split, bm_starts, join_sl, split_ss, starts_ss, recv_app, recv_pop, isHl_h, hlO_lst, hlO_lsw, truth_h, truth_t, isIns_def, rdW_t, rdW_h, rdO_lst, rdO_dk, rdO_dt, tr_non, tr_bl, tr_int, tr_str, tr_tup, tr_lst, wk_tup, wk_lst, wk_str, wk_scr, wk_h, wkO_lst, wkO_lsw, it_tup, it_lst, it_scr, ts_nil, ts_cons, con_non, con_bl, con_int, con_str, sA_nil, sA_cons, gV_cons, gW_cons, pW_cons, pW_nil, rWs_nil, rWs_cons, ixn0, ixn1, ixn2, ixn3, lcF_d, lcF1_d, lcF2_d, dcF_d, lstN_d, dicN_d, ci0, big0, ci1, big1, ci2, big2, ci3, big3, ci4, big4, ci5, big5, ci6, big6, ci7, big7, ci8, big8, ci9, big9, ci10, big10, ci11, big11, ci12, big12, ci13, big13, ci14, big14, ci15, big15, ci16, big16, cut1, bA0, bB0, bC0, bA1, bB1, bC1, bA2, bB2, bC2, bA3, bB3, bC3, bA4, bB4, bC4, bA5, bB5, bC5, bA6, bB6, bC6, bA7, bB7, bC7, bA8, bB8, bC8, bA9, bB9, bC9, bA10, bB10, bC10, bA11, bB11, bC11, bA12, bB12, bC12, bls_nil, bls_cons, str_nil, str_cons, onM_ok, onM_exc, asB_s, cut_drop, cut_take, cut_mid, List.length_cons, List.length_nil, List.length_append, List.length_map, List.map_cons, List.map_nil, List.mapM_nil, List.replicate, List.cons_append, List.nil_append, List.append_nil, List.append_assoc, List.getD_eq_getElem?_getD, Option.getD_some, List.getElem?_cons_zero, List.getElem?_cons_succ, List.set_cons_zero, List.set_cons_succ, List.isEmpty_nil, List.isEmpty_cons, Bool.and_self, Bool.and_true, Bool.true_and, Bool.and_false, Bool.false_and, Bool.or_true, Bool.true_or, Bool.or_false, Bool.false_or, Bool.not_true, Bool.not_false, decide_true, decide_false, Bool.false_eq_true, Bool.true_eq_false, ite_true, ite_false, if_true, if_false, Int.reduceLT, Int.reduceLE, Int.reduceEq, Int.reduceNe, Int.reduceNeg, Int.reduceToNat, Int.reduceAdd, Int.reduceSub, Int.reduceMul, Nat.reduceAdd, Nat.reduceLT, Nat.reduceSub, Nat.reduceLeDiff, Nat.reduceEqDiff, Option.map_some, Option.map_none, Option.bind_some, Option.bind_none, Option.isSome_some, Option.isSome_none, Option.pure_def, b2, Nat.zero_add, reduceCtorEq, List.cons.injEq, and_true, true_and, and_false, false_and, id_eq, List.all_cons, List.all_nil, List.any_cons, List.any_nil, beq_self_eq_true, DS.ob]

/-! the closed part -/
def tld (l : List V) : RT W := match bmV .join (.str [10]) [.lst l] with
  | some (.str s) => callT PT 59 23 [.t (.str s)] []
  | _ => .bad
def isI (r : RT W) (i : Int) : Bool := match r with
  | .ok (.t (.int n)) _ => decide (n = i)
  | _ => false
theorem tld_ok {l : List V} {i : Int} (h : isI (tld l) i = true) : ∃ s, bmV .join (.str [10]) [.lst l] = some (.str s) ∧ ∀ M, cook (callT PT 59) 23 [.t (.str s)] M = .ok (.t (.int i)) M := by
  unfold tld at h
  split at h
  · rename_i s e
    refine ⟨s, e, fun M => ?_⟩
    unfold isI at h
    split at h
    · rename_i e2
      rw [← of_decide_eq_true h]
      exact cook_t rfl e2
    · cases h
  · cases h
def eA : FT := evSs PT (callT PT 59) [stm f24 1, stm f24 2, stm f24 3, stm f24 4, stm f24 5, stm f24 6, stm f24 7, stm f24 8] (List.replicate 13 none) []
def linesL : List V := getL' eA 2
def oddL : List V := getL' eA 3
theorem lines_len : linesL.length = 8 := by kernel_rfl
theorem odd_len : oddL.length = 35 := by kernel_rfl
def spL (k j : Nat) : List V := linesL.take k ++ (oddL.getD j .non :: linesL.drop k)
theorem sp_bad : ∀ k, k < 9 → ∀ j, j < 35 → isI (tld (spL k j)) ((k : Int) + 1) = true := by decide +kernel
def eC : FT := evSs PT (callT PT 59) [stm f24 12, stm f24 13, stm f24 14] [none, none, some (.t (.lst linesL)), none, none, none, none, none, none, none, none, none, none] []
def callsL : List V := getL' eC 6
theorem calls_len : callsL.length = 5 := by kernel_rfl
def dueV (j : Nat) : V := getV' (evS PT (callT PT 59) (stm f24 16) [none, none, none, none, none, none, none, some (.t (callsL.getD j .non)), none, none, none, none, none] []) 8
section
variable (s0 s4 s5 s7 s8 : Option W) (M : Hp)
theorem lawA : evSs PT (callT PT 59) [stm f24 1, stm f24 2, stm f24 3, stm f24 4, stm f24 5, stm f24 6, stm f24 7, stm f24 8] [s0, some (.h 0), none, none, none, none, none, none, none, none, none, none, none] M =
    .nx [s0, some (.h 0), some (.t (.lst linesL)), some (.t (.lst oddL)), none, none, none, none, none, none, none, none, none] M := by kernel_rfl
theorem lawC : evSs PT (callT PT 59) [stm f24 12, stm f24 13, stm f24 14] [s0, some (.h 0), some (.t (.lst linesL)), some (.t (.lst oddL)), s4, s5, none, none, none, none, none, none, none] M =
    .nx [s0, some (.h 0), some (.t (.lst linesL)), some (.t (.lst oddL)), s4, s5, some (.t (.lst callsL)), none, none, none, none, none, none] M := by kernel_rfl
theorem lawD : ∀ j, j < 5 → evSs PT (callT PT 59) [stm f24 16, stm f24 17] [s0, some (.h 0), some (.t (.lst linesL)), some (.t (.lst oddL)), s4, s5, some (.t (.lst callsL)), some (.t (callsL.getD j .non)), none, none, none, none, none] M =
    .nx [s0, some (.h 0), some (.t (.lst linesL)), some (.t (.lst oddL)), s4, s5, some (.t (.lst callsL)), some (.t (callsL.getD j .non)), some (.t (dueV j)), none, none, none, none] M
  | 0, _ => by kernel_rfl
  | 1, _ => by kernel_rfl
  | 2, _ => by kernel_rfl
  | 3, _ => by kernel_rfl
  | 4, _ => by kernel_rfl
  | j + 5, h => absurd h (by omega)
theorem lawE : ∀ j, j < 3 → evSs PT (callT PT 59) [stm f24 19, stm f24 20, stm f24 21] [s0, some (.h 0), some (.t (.lst linesL)), some (.t (.lst oddL)), s4, s5, some (.t (.lst callsL)), s7, s8, none, some (.t (.lst (rep [.str [46]] (12 + j)))), none, none] M = .rt (.t (.bl true)) M
  | 0, _ => by kernel_rfl
  | 1, _ => by kernel_rfl
  | 2, _ => by kernel_rfl
  | j + 3, h => absurd h (by omega)
end
/-! the law -/
theorem lt_cases {r : Int} {c : Int} (h0 : 0 ≤ r) (h : r < c) : ∃ k : Nat, r = (k : Int) ∧ (k : Int) < c := ⟨r.toNat, by omega, by omega⟩
theorem plain (ns : List Int) (_ : ns.length ≤ 63) : ∃ M, callT PT 60 24 [.t (.scr ns)] [] = .ok (.t (.bl true)) M := by
  have e0 : callT PT 59 21 [.t (.scr ns)] [] = .ok (.h 0) [DS.ob ⟨ns, 0, 0, 7⟩] := begin_ok 58 ns
  have s0 : evS PT (callT PT 59) (stm f24 0) [some (.t (.scr ns)), none, none, none, none, none, none, none, none, none, none, none, none] [] = .nx [some (.t (.scr ns)), some (.h 0), none, none, none, none, none, none, none, none, none, none, none] [DS.ob ⟨ns, 0, 0, 7⟩] := by
    simp only [stm, f24, evE, evEs, evAnd, evOr, evC, evI, evS, evSs, bind_ok, bind_exc, toF_ok', toF_exc, toFB_def, wipeE, ofV_s, ofW_s, ofB_s, ofN_s, mkN_f, mkN_lst, cls_non, cls_bl, cls_int, cls_str, cls_tup, cls_lst, cls_dk, cls_dt, cls_scr, cls_ins, cls_h, clsO_ins, clsO_lst, clsO_lsw, clsO_dk, clsO_dt, ownEq_eq, ownC_n, ownC_s, ownEq_ne, ownEq_lt, ownEq_le, ownEq_gt, ownEq_ge, ownEq_isN, ownEq_notN, ownEq_inn, ownEq_notin, ownLen_len, ownLen_int, ownLen_str, ownLen_list, ownLen_tuple, ownLen_dict, ownLen_dictzip, ownLen_listzip, ownLen_sorted, ownLen_all, ownLen_any, ownLen_max2, ownLen_min1, ownLen_abs, cmpW_eq, cmpW_ne, cmpW_lt, cmpW_le, cmpW_gt, cmpW_ge, cmpW_in, cmpW_ni, cmpW_isN, cmpW_notN, cmpW_isNh, cmpW_notNh, isNon_non, isNon_bl, isNon_int, isNon_str, isNon_tup, isNon_lst, lt_ii, le_ii, gt_ii, ge_ii, eq_ii, eq_bb, eq_ss, eq_nn, eq_ni, eq_in, eq_ns, eq_sn, eq_nb, eq_bn, eq_tt, eq_ll, in_str, in_tup, in_lst, in_dk, ix_tup, ix_lst, ix_dk, ix_dt, idxW_t, idxW_h, idxO_lst, idxO_lsw, idxO_dk, idxO_dt, at0, at1, at2, at3, at4, at5, sl_tup, sl_lst, sl_str, rev_lst, add_ii, add_ss, add_tt, add_ll, sub_ii, mul_ii, mul_ti, mul_li, fdiv_ii, mod_ii, pow_ii, len_str, len_tup, len_lst, len_dk, int_int, int_bl, int_str, str_str, str_int, str_non, list_any, tuple_tup, tuple_lst, dict_tup, dz_tt, lz_ll, all_lst, any_lst, max2_ii, abs_int, isin_t, isin_non, isin_bl, isin_int, isin_str, isin_tup, isin_lst, isin_dk, isin_ins, fld_ins, fld_h, fldO_ins, ssub_h, ssub_hs, ssubO_lst, ssubO_dk, sfld_h, sfldO_ins, toFM_s, toFE_s, unp_tup, unp_lst, put_one, put_tup, put_lst, put_two, lcG_s, lcG2_s, tree_t, forG_s, app_h, appO_lst, bm_app, bm_pop, recv_join, recv_split, recv_starts, bm_join, bm_split, bm_starts, join_sl, split_ss, starts_ss, recv_app, recv_pop, isHl_h, hlO_lst, hlO_lsw, truth_h, truth_t, isIns_def, rdW_t, rdW_h, rdO_lst, rdO_dk, rdO_dt, tr_non, tr_bl, tr_int, tr_str, tr_tup, tr_lst, wk_tup, wk_lst, wk_str, wk_scr, wk_h, wkO_lst, wkO_lsw, it_tup, it_lst, it_scr, ts_nil, ts_cons, con_non, con_bl, con_int, con_str, sA_nil, sA_cons, gV_cons, gW_cons, pW_cons, pW_nil, rWs_nil, rWs_cons, ixn0, ixn1, ixn2, ixn3, lcF_d, lcF1_d, lcF2_d, dcF_d, lstN_d, dicN_d, ci0, big0, ci1, big1, ci2, big2, ci3, big3, ci4, big4, ci5, big5, ci6, big6, ci7, big7, ci8, big8, ci9, big9, ci10, big10, ci11, big11, ci12, big12, ci13, big13, ci14, big14, ci15, big15, ci16, big16, cut1, bA0, bB0, bC0, bA1, bB1, bC1, bA2, bB2, bC2, bA3, bB3, bC3, bA4, bB4, bC4, bA5, bB5, bC5, bA6, bB6, bC6, bA7, bB7, bC7, bA8, bB8, bC8, bA9, bB9, bC9, bA10, bB10, bC10, bA11, bB11, bC11, bA12, bB12, bC12, bls_nil, bls_cons, str_nil, str_cons, onM_ok, onM_exc, asB_s, cut_drop, cut_take, cut_mid, List.length_cons, List.length_nil, List.length_append, List.length_map, List.map_cons, List.map_nil, List.mapM_nil, List.replicate, List.cons_append, List.nil_append, List.append_nil, List.append_assoc, List.getD_eq_getElem?_getD, Option.getD_some, List.getElem?_cons_zero, List.getElem?_cons_succ, List.set_cons_zero, List.set_cons_succ, List.isEmpty_nil, List.isEmpty_cons, Bool.and_self, Bool.and_true, Bool.true_and, Bool.and_false, Bool.false_and, Bool.or_true, Bool.true_or, Bool.or_false, Bool.false_or, Bool.not_true, Bool.not_false, decide_true, decide_false, Bool.false_eq_true, Bool.true_eq_false, ite_true, ite_false, if_true, if_false, Int.reduceLT, Int.reduceLE, Int.reduceEq, Int.reduceNe, Int.reduceNeg, Int.reduceToNat, Int.reduceAdd, Int.reduceSub, Int.reduceMul, Nat.reduceAdd, Nat.reduceLT, Nat.reduceSub, Nat.reduceLeDiff, Nat.reduceEqDiff, Option.map_some, Option.map_none, Option.bind_some, Option.bind_none, Option.isSome_some, Option.isSome_none, Option.pure_def, b2, Nat.zero_add, reduceCtorEq, List.cons.injEq, and_true, true_and, and_false, false_and, id_eq, List.all_cons, List.all_nil, List.any_cons, List.any_nil, beq_self_eq_true, e0]
  have sA := lawA (some (.t (.scr ns))) [DS.ob ⟨ns, 0, 0, 7⟩]
  -- the place
  obtain ⟨r, d1, h0, h1, e1⟩ := draw_ok ⟨ns, 0, 0, 7⟩ [] rfl 9 (by decide) (by decide) 58
  obtain ⟨k, rfl, hk⟩ := lt_cases h0 h1
  have hk : k < 9 := by omega
  have e1 : cook (callT PT 59) 22 [.h 0, .t (.int 9)] [DS.ob ⟨ns, 0, 0, 7⟩] = .ok (.t (.int (k : Int))) [DS.ob d1] := e1
  have l1 : ((linesL.length : Nat) : Int) = 8 := by rw [lines_len]; rfl
  have s9 : evS PT (callT PT 59) (stm f24 9) [some (.t (.scr ns)), some (.h 0), some (.t (.lst linesL)), some (.t (.lst oddL)), none, none, none, none, none, none, none, none, none] [DS.ob ⟨ns, 0, 0, 7⟩] =
      .nx [some (.t (.scr ns)), some (.h 0), some (.t (.lst linesL)), some (.t (.lst oddL)), some (.t (.int (k : Int))), none, none, none, none, none, none, none, none] [DS.ob d1] := by
    simp only [stm, f24, evE, evEs, evAnd, evOr, evC, evI, evS, evSs, bind_ok, bind_exc, toF_ok', toF_exc, toFB_def, wipeE, ofV_s, ofW_s, ofB_s, ofN_s, mkN_f, mkN_lst, cls_non, cls_bl, cls_int, cls_str, cls_tup, cls_lst, cls_dk, cls_dt, cls_scr, cls_ins, cls_h, clsO_ins, clsO_lst, clsO_lsw, clsO_dk, clsO_dt, ownEq_eq, ownC_n, ownC_s, ownEq_ne, ownEq_lt, ownEq_le, ownEq_gt, ownEq_ge, ownEq_isN, ownEq_notN, ownEq_inn, ownEq_notin, ownLen_len, ownLen_int, ownLen_str, ownLen_list, ownLen_tuple, ownLen_dict, ownLen_dictzip, ownLen_listzip, ownLen_sorted, ownLen_all, ownLen_any, ownLen_max2, ownLen_min1, ownLen_abs, cmpW_eq, cmpW_ne, cmpW_lt, cmpW_le, cmpW_gt, cmpW_ge, cmpW_in, cmpW_ni, cmpW_isN, cmpW_notN, cmpW_isNh, cmpW_notNh, isNon_non, isNon_bl, isNon_int, isNon_str, isNon_tup, isNon_lst, lt_ii, le_ii, gt_ii, ge_ii, eq_ii, eq_bb, eq_ss, eq_nn, eq_ni, eq_in, eq_ns, eq_sn, eq_nb, eq_bn, eq_tt, eq_ll, in_str, in_tup, in_lst, in_dk, ix_tup, ix_lst, ix_dk, ix_dt, idxW_t, idxW_h, idxO_lst, idxO_lsw, idxO_dk, idxO_dt, at0, at1, at2, at3, at4, at5, sl_tup, sl_lst, sl_str, rev_lst, add_ii, add_ss, add_tt, add_ll, sub_ii, mul_ii, mul_ti, mul_li, fdiv_ii, mod_ii, pow_ii, len_str, len_tup, len_lst, len_dk, int_int, int_bl, int_str, str_str, str_int, str_non, list_any, tuple_tup, tuple_lst, dict_tup, dz_tt, lz_ll, all_lst, any_lst, max2_ii, abs_int, isin_t, isin_non, isin_bl, isin_int, isin_str, isin_tup, isin_lst, isin_dk, isin_ins, fld_ins, fld_h, fldO_ins, ssub_h, ssub_hs, ssubO_lst, ssubO_dk, sfld_h, sfldO_ins, toFM_s, toFE_s, unp_tup, unp_lst, put_one, put_tup, put_lst, put_two, lcG_s, lcG2_s, tree_t, forG_s, app_h, appO_lst, bm_app, bm_pop, recv_join, recv_split, recv_starts, bm_join, bm_split, bm_starts, join_sl, split_ss, starts_ss, recv_app, recv_pop, isHl_h, hlO_lst, hlO_lsw, truth_h, truth_t, isIns_def, rdW_t, rdW_h, rdO_lst, rdO_dk, rdO_dt, tr_non, tr_bl, tr_int, tr_str, tr_tup, tr_lst, wk_tup, wk_lst, wk_str, wk_scr, wk_h, wkO_lst, wkO_lsw, it_tup, it_lst, it_scr, ts_nil, ts_cons, con_non, con_bl, con_int, con_str, sA_nil, sA_cons, gV_cons, gW_cons, pW_cons, pW_nil, rWs_nil, rWs_cons, ixn0, ixn1, ixn2, ixn3, lcF_d, lcF1_d, lcF2_d, dcF_d, lstN_d, dicN_d, ci0, big0, ci1, big1, ci2, big2, ci3, big3, ci4, big4, ci5, big5, ci6, big6, ci7, big7, ci8, big8, ci9, big9, ci10, big10, ci11, big11, ci12, big12, ci13, big13, ci14, big14, ci15, big15, ci16, big16, cut1, bA0, bB0, bC0, bA1, bB1, bC1, bA2, bB2, bC2, bA3, bB3, bC3, bA4, bB4, bC4, bA5, bB5, bC5, bA6, bB6, bC6, bA7, bB7, bC7, bA8, bB8, bC8, bA9, bB9, bC9, bA10, bB10, bC10, bA11, bB11, bC11, bA12, bB12, bC12, bls_nil, bls_cons, str_nil, str_cons, onM_ok, onM_exc, asB_s, cut_drop, cut_take, cut_mid, List.length_cons, List.length_nil, List.length_append, List.length_map, List.map_cons, List.map_nil, List.mapM_nil, List.replicate, List.cons_append, List.nil_append, List.append_nil, List.append_assoc, List.getD_eq_getElem?_getD, Option.getD_some, List.getElem?_cons_zero, List.getElem?_cons_succ, List.set_cons_zero, List.set_cons_succ, List.isEmpty_nil, List.isEmpty_cons, Bool.and_self, Bool.and_true, Bool.true_and, Bool.and_false, Bool.false_and, Bool.or_true, Bool.true_or, Bool.or_false, Bool.false_or, Bool.not_true, Bool.not_false, decide_true, decide_false, Bool.false_eq_true, Bool.true_eq_false, ite_true, ite_false, if_true, if_false, Int.reduceLT, Int.reduceLE, Int.reduceEq, Int.reduceNe, Int.reduceNeg, Int.reduceToNat, Int.reduceAdd, Int.reduceSub, Int.reduceMul, Nat.reduceAdd, Nat.reduceLT, Nat.reduceSub, Nat.reduceLeDiff, Nat.reduceEqDiff, Option.map_some, Option.map_none, Option.bind_some, Option.bind_none, Option.isSome_some, Option.isSome_none, Option.pure_def, b2, Nat.zero_add, reduceCtorEq, List.cons.injEq, and_true, true_and, and_false, false_and, id_eq, List.all_cons, List.all_nil, List.any_cons, List.any_nil, beq_self_eq_true, l1, e1]
  -- the spoilt line
  obtain ⟨r, d2, h0, h1, e2⟩ := draw_ok d1 [] rfl 35 (by decide) (by decide) 58
  obtain ⟨j, rfl, hj⟩ := lt_cases h0 h1
  have hj : j < 35 := by omega
  have e2 : cook (callT PT 59) 22 [.h 0, .t (.int 35)] [DS.ob d1] = .ok (.t (.int (j : Int))) [DS.ob d2] := e2
  have l2 : ((oddL.length : Nat) : Int) = 35 := by rw [odd_len]; rfl
  have a2 : atI oddL (j : Int) = some (oddL.getD j .non) := by rw [atN, List.getD_eq_getElem?_getD, List.getElem?_eq_getElem (by rw [odd_len]; exact hj)]; rfl
  obtain ⟨s, j1, t1⟩ := tld_ok (sp_bad k hk j hj)
  have eS : spL k j = linesL.take k ++ (oddL.getD j .non :: linesL.drop k) := rfl
  have g1 : big (min k 8 + 1) = true := by unfold big; simp; omega
  have g2 : big (min k 8 + 1 + (8 - k)) = true := by unfold big; simp; omega
  have s10 : evS PT (callT PT 59) (stm f24 10) [some (.t (.scr ns)), some (.h 0), some (.t (.lst linesL)), some (.t (.lst oddL)), some (.t (.int (k : Int))), none, none, none, none, none, none, none, none] [DS.ob d1] =
      .nx [some (.t (.scr ns)), some (.h 0), some (.t (.lst linesL)), some (.t (.lst oddL)), some (.t (.int (k : Int))), some (.t (.lst (spL k j))), none, none, none, none, none, none, none] [DS.ob d2] := by
    rw [eS]
    generalize oddL.getD j .non = X at a2
    simp only [stm, f24, evE, evEs, evAnd, evOr, evC, evI, evS, evSs, bind_ok, bind_exc, toF_ok', toF_exc, toFB_def, wipeE, ofV_s, ofW_s, ofB_s, ofN_s, mkN_f, mkN_lst, cls_non, cls_bl, cls_int, cls_str, cls_tup, cls_lst, cls_dk, cls_dt, cls_scr, cls_ins, cls_h, clsO_ins, clsO_lst, clsO_lsw, clsO_dk, clsO_dt, ownEq_eq, ownC_n, ownC_s, ownEq_ne, ownEq_lt, ownEq_le, ownEq_gt, ownEq_ge, ownEq_isN, ownEq_notN, ownEq_inn, ownEq_notin, ownLen_len, ownLen_int, ownLen_str, ownLen_list, ownLen_tuple, ownLen_dict, ownLen_dictzip, ownLen_listzip, ownLen_sorted, ownLen_all, ownLen_any, ownLen_max2, ownLen_min1, ownLen_abs, cmpW_eq, cmpW_ne, cmpW_lt, cmpW_le, cmpW_gt, cmpW_ge, cmpW_in, cmpW_ni, cmpW_isN, cmpW_notN, cmpW_isNh, cmpW_notNh, isNon_non, isNon_bl, isNon_int, isNon_str, isNon_tup, isNon_lst, lt_ii, le_ii, gt_ii, ge_ii, eq_ii, eq_bb, eq_ss, eq_nn, eq_ni, eq_in, eq_ns, eq_sn, eq_nb, eq_bn, eq_tt, eq_ll, in_str, in_tup, in_lst, in_dk, ix_tup, ix_lst, ix_dk, ix_dt, idxW_t, idxW_h, idxO_lst, idxO_lsw, idxO_dk, idxO_dt, at0, at1, at2, at3, at4, at5, sl_tup, sl_lst, sl_str, rev_lst, add_ii, add_ss, add_tt, add_ll, sub_ii, mul_ii, mul_ti, mul_li, fdiv_ii, mod_ii, pow_ii, len_str, len_tup, len_lst, len_dk, int_int, int_bl, int_str, str_str, str_int, str_non, list_any, tuple_tup, tuple_lst, dict_tup, dz_tt, lz_ll, all_lst, any_lst, max2_ii, abs_int, isin_t, isin_non, isin_bl, isin_int, isin_str, isin_tup, isin_lst, isin_dk, isin_ins, fld_ins, fld_h, fldO_ins, ssub_h, ssub_hs, ssubO_lst, ssubO_dk, sfld_h, sfldO_ins, toFM_s, toFE_s, unp_tup, unp_lst, put_one, put_tup, put_lst, put_two, lcG_s, lcG2_s, tree_t, forG_s, app_h, appO_lst, bm_app, bm_pop, recv_join, recv_split, recv_starts, bm_join, bm_split, bm_starts, join_sl, split_ss, starts_ss, recv_app, recv_pop, isHl_h, hlO_lst, hlO_lsw, truth_h, truth_t, isIns_def, rdW_t, rdW_h, rdO_lst, rdO_dk, rdO_dt, tr_non, tr_bl, tr_int, tr_str, tr_tup, tr_lst, wk_tup, wk_lst, wk_str, wk_scr, wk_h, wkO_lst, wkO_lsw, it_tup, it_lst, it_scr, ts_nil, ts_cons, con_non, con_bl, con_int, con_str, sA_nil, sA_cons, gV_cons, gW_cons, pW_cons, pW_nil, rWs_nil, rWs_cons, ixn0, ixn1, ixn2, ixn3, lcF_d, lcF1_d, lcF2_d, dcF_d, lstN_d, dicN_d, ci0, big0, ci1, big1, ci2, big2, ci3, big3, ci4, big4, ci5, big5, ci6, big6, ci7, big7, ci8, big8, ci9, big9, ci10, big10, ci11, big11, ci12, big12, ci13, big13, ci14, big14, ci15, big15, ci16, big16, cut1, bA0, bB0, bC0, bA1, bB1, bC1, bA2, bB2, bC2, bA3, bB3, bC3, bA4, bB4, bC4, bA5, bB5, bC5, bA6, bB6, bC6, bA7, bB7, bC7, bA8, bB8, bC8, bA9, bB9, bC9, bA10, bB10, bC10, bA11, bB11, bC11, bA12, bB12, bC12, bls_nil, bls_cons, str_nil, str_cons, onM_ok, onM_exc, asB_s, cut_drop, cut_take, cut_mid, List.length_cons, List.length_nil, List.length_append, List.length_map, List.map_cons, List.map_nil, List.mapM_nil, List.replicate, List.cons_append, List.nil_append, List.append_nil, List.append_assoc, List.getD_eq_getElem?_getD, Option.getD_some, List.getElem?_cons_zero, List.getElem?_cons_succ, List.set_cons_zero, List.set_cons_succ, List.isEmpty_nil, List.isEmpty_cons, Bool.and_self, Bool.and_true, Bool.true_and, Bool.and_false, Bool.false_and, Bool.or_true, Bool.true_or, Bool.or_false, Bool.false_or, Bool.not_true, Bool.not_false, decide_true, decide_false, Bool.false_eq_true, Bool.true_eq_false, ite_true, ite_false, if_true, if_false, Int.reduceLT, Int.reduceLE, Int.reduceEq, Int.reduceNe, Int.reduceNeg, Int.reduceToNat, Int.reduceAdd, Int.reduceSub, Int.reduceMul, Nat.reduceAdd, Nat.reduceLT, Nat.reduceSub, Nat.reduceLeDiff, Nat.reduceEqDiff, Option.map_some, Option.map_none, Option.bind_some, Option.bind_none, Option.isSome_some, Option.isSome_none, Option.pure_def, b2, Nat.zero_add, reduceCtorEq, List.cons.injEq, and_true, true_and, and_false, false_and, id_eq, List.all_cons, List.all_nil, List.any_cons, List.any_nil, beq_self_eq_true, l2, e2, a2, List.length_take, List.length_drop, lines_len, g1, g2]
  have s11 : evS PT (callT PT 59) (stm f24 11) [some (.t (.scr ns)), some (.h 0), some (.t (.lst linesL)), some (.t (.lst oddL)), some (.t (.int (k : Int))), some (.t (.lst (spL k j))), none, none, none, none, none, none, none] [DS.ob d2] =
      .nx [some (.t (.scr ns)), some (.h 0), some (.t (.lst linesL)), some (.t (.lst oddL)), some (.t (.int (k : Int))), some (.t (.lst (spL k j))), none, none, none, none, none, none, none] [DS.ob d2] := by
    generalize spL k j = X at j1
    simp only [stm, f24, evE, evEs, evAnd, evOr, evC, evI, evS, evSs, bind_ok, bind_exc, toF_ok', toF_exc, toFB_def, wipeE, ofV_s, ofW_s, ofB_s, ofN_s, mkN_f, mkN_lst, cls_non, cls_bl, cls_int, cls_str, cls_tup, cls_lst, cls_dk, cls_dt, cls_scr, cls_ins, cls_h, clsO_ins, clsO_lst, clsO_lsw, clsO_dk, clsO_dt, ownEq_eq, ownC_n, ownC_s, ownEq_ne, ownEq_lt, ownEq_le, ownEq_gt, ownEq_ge, ownEq_isN, ownEq_notN, ownEq_inn, ownEq_notin, ownLen_len, ownLen_int, ownLen_str, ownLen_list, ownLen_tuple, ownLen_dict, ownLen_dictzip, ownLen_listzip, ownLen_sorted, ownLen_all, ownLen_any, ownLen_max2, ownLen_min1, ownLen_abs, cmpW_eq, cmpW_ne, cmpW_lt, cmpW_le, cmpW_gt, cmpW_ge, cmpW_in, cmpW_ni, cmpW_isN, cmpW_notN, cmpW_isNh, cmpW_notNh, isNon_non, isNon_bl, isNon_int, isNon_str, isNon_tup, isNon_lst, lt_ii, le_ii, gt_ii, ge_ii, eq_ii, eq_bb, eq_ss, eq_nn, eq_ni, eq_in, eq_ns, eq_sn, eq_nb, eq_bn, eq_tt, eq_ll, in_str, in_tup, in_lst, in_dk, ix_tup, ix_lst, ix_dk, ix_dt, idxW_t, idxW_h, idxO_lst, idxO_lsw, idxO_dk, idxO_dt, at0, at1, at2, at3, at4, at5, sl_tup, sl_lst, sl_str, rev_lst, add_ii, add_ss, add_tt, add_ll, sub_ii, mul_ii, mul_ti, mul_li, fdiv_ii, mod_ii, pow_ii, len_str, len_tup, len_lst, len_dk, int_int, int_bl, int_str, str_str, str_int, str_non, list_any, tuple_tup, tuple_lst, dict_tup, dz_tt, lz_ll, all_lst, any_lst, max2_ii, abs_int, isin_t, isin_non, isin_bl, isin_int, isin_str, isin_tup, isin_lst, isin_dk, isin_ins, fld_ins, fld_h, fldO_ins, ssub_h, ssub_hs, ssubO_lst, ssubO_dk, sfld_h, sfldO_ins, toFM_s, toFE_s, unp_tup, unp_lst, put_one, put_tup, put_lst, put_two, lcG_s, lcG2_s, tree_t, forG_s, app_h, appO_lst, bm_app, bm_pop, recv_join, recv_split, recv_starts, bm_join, bm_split, bm_starts, join_sl, split_ss, starts_ss, recv_app, recv_pop, isHl_h, hlO_lst, hlO_lsw, truth_h, truth_t, isIns_def, rdW_t, rdW_h, rdO_lst, rdO_dk, rdO_dt, tr_non, tr_bl, tr_int, tr_str, tr_tup, tr_lst, wk_tup, wk_lst, wk_str, wk_scr, wk_h, wkO_lst, wkO_lsw, it_tup, it_lst, it_scr, ts_nil, ts_cons, con_non, con_bl, con_int, con_str, sA_nil, sA_cons, gV_cons, gW_cons, pW_cons, pW_nil, rWs_nil, rWs_cons, ixn0, ixn1, ixn2, ixn3, lcF_d, lcF1_d, lcF2_d, dcF_d, lstN_d, dicN_d, ci0, big0, ci1, big1, ci2, big2, ci3, big3, ci4, big4, ci5, big5, ci6, big6, ci7, big7, ci8, big8, ci9, big9, ci10, big10, ci11, big11, ci12, big12, ci13, big13, ci14, big14, ci15, big15, ci16, big16, cut1, bA0, bB0, bC0, bA1, bB1, bC1, bA2, bB2, bC2, bA3, bB3, bC3, bA4, bB4, bC4, bA5, bB5, bC5, bA6, bB6, bC6, bA7, bB7, bC7, bA8, bB8, bC8, bA9, bB9, bC9, bA10, bB10, bC10, bA11, bB11, bC11, bA12, bB12, bC12, bls_nil, bls_cons, str_nil, str_cons, onM_ok, onM_exc, asB_s, cut_drop, cut_take, cut_mid, List.length_cons, List.length_nil, List.length_append, List.length_map, List.map_cons, List.map_nil, List.mapM_nil, List.replicate, List.cons_append, List.nil_append, List.append_nil, List.append_assoc, List.getD_eq_getElem?_getD, Option.getD_some, List.getElem?_cons_zero, List.getElem?_cons_succ, List.set_cons_zero, List.set_cons_succ, List.isEmpty_nil, List.isEmpty_cons, Bool.and_self, Bool.and_true, Bool.true_and, Bool.and_false, Bool.false_and, Bool.or_true, Bool.true_or, Bool.or_false, Bool.false_or, Bool.not_true, Bool.not_false, decide_true, decide_false, Bool.false_eq_true, Bool.true_eq_false, ite_true, ite_false, if_true, if_false, Int.reduceLT, Int.reduceLE, Int.reduceEq, Int.reduceNe, Int.reduceNeg, Int.reduceToNat, Int.reduceAdd, Int.reduceSub, Int.reduceMul, Nat.reduceAdd, Nat.reduceLT, Nat.reduceSub, Nat.reduceLeDiff, Nat.reduceEqDiff, Option.map_some, Option.map_none, Option.bind_some, Option.bind_none, Option.isSome_some, Option.isSome_none, Option.pure_def, b2, Nat.zero_add, reduceCtorEq, List.cons.injEq, and_true, true_and, and_false, false_and, id_eq, List.all_cons, List.all_nil, List.any_cons, List.any_nil, beq_self_eq_true, j1, t1]
  have sC := lawC (some (.t (.scr ns))) (some (.t (.int (k : Int)))) (some (.t (.lst (spL k j)))) [DS.ob d2]
  -- the calls
  obtain ⟨r, d3, h0, h1, e3⟩ := draw_ok d2 [] rfl 5 (by decide) (by decide) 58
  obtain ⟨i, rfl, hi⟩ := lt_cases h0 h1
  have hi : i < 5 := by omega
  have e3 : cook (callT PT 59) 22 [.h 0, .t (.int 5)] [DS.ob d2] = .ok (.t (.int (i : Int))) [DS.ob d3] := e3
  have l3 : ((callsL.length : Nat) : Int) = 5 := by rw [calls_len]; rfl
  have a3 : atI callsL (i : Int) = some (callsL.getD i .non) := by rw [atN, List.getD_eq_getElem?_getD, List.getElem?_eq_getElem (by rw [calls_len]; exact hi)]; rfl
  have s15 : evS PT (callT PT 59) (stm f24 15) [some (.t (.scr ns)), some (.h 0), some (.t (.lst linesL)), some (.t (.lst oddL)), some (.t (.int (k : Int))), some (.t (.lst (spL k j))), some (.t (.lst callsL)), none, none, none, none, none, none] [DS.ob d2] =
      .nx [some (.t (.scr ns)), some (.h 0), some (.t (.lst linesL)), some (.t (.lst oddL)), some (.t (.int (k : Int))), some (.t (.lst (spL k j))), some (.t (.lst callsL)), some (.t (callsL.getD i .non)), none, none, none, none, none] [DS.ob d3] := by
    generalize callsL.getD i .non = X at a3
    generalize spL k j = Y
    simp only [stm, f24, evE, evEs, evAnd, evOr, evC, evI, evS, evSs, bind_ok, bind_exc, toF_ok', toF_exc, toFB_def, wipeE, ofV_s, ofW_s, ofB_s, ofN_s, mkN_f, mkN_lst, cls_non, cls_bl, cls_int, cls_str, cls_tup, cls_lst, cls_dk, cls_dt, cls_scr, cls_ins, cls_h, clsO_ins, clsO_lst, clsO_lsw, clsO_dk, clsO_dt, ownEq_eq, ownC_n, ownC_s, ownEq_ne, ownEq_lt, ownEq_le, ownEq_gt, ownEq_ge, ownEq_isN, ownEq_notN, ownEq_inn, ownEq_notin, ownLen_len, ownLen_int, ownLen_str, ownLen_list, ownLen_tuple, ownLen_dict, ownLen_dictzip, ownLen_listzip, ownLen_sorted, ownLen_all, ownLen_any, ownLen_max2, ownLen_min1, ownLen_abs, cmpW_eq, cmpW_ne, cmpW_lt, cmpW_le, cmpW_gt, cmpW_ge, cmpW_in, cmpW_ni, cmpW_isN, cmpW_notN, cmpW_isNh, cmpW_notNh, isNon_non, isNon_bl, isNon_int, isNon_str, isNon_tup, isNon_lst, lt_ii, le_ii, gt_ii, ge_ii, eq_ii, eq_bb, eq_ss, eq_nn, eq_ni, eq_in, eq_ns, eq_sn, eq_nb, eq_bn, eq_tt, eq_ll, in_str, in_tup, in_lst, in_dk, ix_tup, ix_lst, ix_dk, ix_dt, idxW_t, idxW_h, idxO_lst, idxO_lsw, idxO_dk, idxO_dt, at0, at1, at2, at3, at4, at5, sl_tup, sl_lst, sl_str, rev_lst, add_ii, add_ss, add_tt, add_ll, sub_ii, mul_ii, mul_ti, mul_li, fdiv_ii, mod_ii, pow_ii, len_str, len_tup, len_lst, len_dk, int_int, int_bl, int_str, str_str, str_int, str_non, list_any, tuple_tup, tuple_lst, dict_tup, dz_tt, lz_ll, all_lst, any_lst, max2_ii, abs_int, isin_t, isin_non, isin_bl, isin_int, isin_str, isin_tup, isin_lst, isin_dk, isin_ins, fld_ins, fld_h, fldO_ins, ssub_h, ssub_hs, ssubO_lst, ssubO_dk, sfld_h, sfldO_ins, toFM_s, toFE_s, unp_tup, unp_lst, put_one, put_tup, put_lst, put_two, lcG_s, lcG2_s, tree_t, forG_s, app_h, appO_lst, bm_app, bm_pop, recv_join, recv_split, recv_starts, bm_join, bm_split, bm_starts, join_sl, split_ss, starts_ss, recv_app, recv_pop, isHl_h, hlO_lst, hlO_lsw, truth_h, truth_t, isIns_def, rdW_t, rdW_h, rdO_lst, rdO_dk, rdO_dt, tr_non, tr_bl, tr_int, tr_str, tr_tup, tr_lst, wk_tup, wk_lst, wk_str, wk_scr, wk_h, wkO_lst, wkO_lsw, it_tup, it_lst, it_scr, ts_nil, ts_cons, con_non, con_bl, con_int, con_str, sA_nil, sA_cons, gV_cons, gW_cons, pW_cons, pW_nil, rWs_nil, rWs_cons, ixn0, ixn1, ixn2, ixn3, lcF_d, lcF1_d, lcF2_d, dcF_d, lstN_d, dicN_d, ci0, big0, ci1, big1, ci2, big2, ci3, big3, ci4, big4, ci5, big5, ci6, big6, ci7, big7, ci8, big8, ci9, big9, ci10, big10, ci11, big11, ci12, big12, ci13, big13, ci14, big14, ci15, big15, ci16, big16, cut1, bA0, bB0, bC0, bA1, bB1, bC1, bA2, bB2, bC2, bA3, bB3, bC3, bA4, bB4, bC4, bA5, bB5, bC5, bA6, bB6, bC6, bA7, bB7, bC7, bA8, bB8, bC8, bA9, bB9, bC9, bA10, bB10, bC10, bA11, bB11, bC11, bA12, bB12, bC12, bls_nil, bls_cons, str_nil, str_cons, onM_ok, onM_exc, asB_s, cut_drop, cut_take, cut_mid, List.length_cons, List.length_nil, List.length_append, List.length_map, List.map_cons, List.map_nil, List.mapM_nil, List.replicate, List.cons_append, List.nil_append, List.append_nil, List.append_assoc, List.getD_eq_getElem?_getD, Option.getD_some, List.getElem?_cons_zero, List.getElem?_cons_succ, List.set_cons_zero, List.set_cons_succ, List.isEmpty_nil, List.isEmpty_cons, Bool.and_self, Bool.and_true, Bool.true_and, Bool.and_false, Bool.false_and, Bool.or_true, Bool.true_or, Bool.or_false, Bool.false_or, Bool.not_true, Bool.not_false, decide_true, decide_false, Bool.false_eq_true, Bool.true_eq_false, ite_true, ite_false, if_true, if_false, Int.reduceLT, Int.reduceLE, Int.reduceEq, Int.reduceNe, Int.reduceNeg, Int.reduceToNat, Int.reduceAdd, Int.reduceSub, Int.reduceMul, Nat.reduceAdd, Nat.reduceLT, Nat.reduceSub, Nat.reduceLeDiff, Nat.reduceEqDiff, Option.map_some, Option.map_none, Option.bind_some, Option.bind_none, Option.isSome_some, Option.isSome_none, Option.pure_def, b2, Nat.zero_add, reduceCtorEq, List.cons.injEq, and_true, true_and, and_false, false_and, id_eq, List.all_cons, List.all_nil, List.any_cons, List.any_nil, beq_self_eq_true, l3, e3, a3]
  have sD := lawD (some (.t (.scr ns))) (some (.t (.int (k : Int)))) (some (.t (.lst (spL k j)))) [DS.ob d3] i hi
  -- many
  obtain ⟨r, d4, h0, h1, e4⟩ := draw_ok d3 [] rfl 3 (by decide) (by decide) 58
  obtain ⟨m, rfl, hm⟩ := lt_cases h0 h1
  have hm : m < 3 := by omega
  have e4 : cook (callT PT 59) 22 [.h 0, .t (.int 3)] [DS.ob d3] = .ok (.t (.int (m : Int))) [DS.ob d4] := e4
  have s18 : evS PT (callT PT 59) (stm f24 18) [some (.t (.scr ns)), some (.h 0), some (.t (.lst linesL)), some (.t (.lst oddL)), some (.t (.int (k : Int))), some (.t (.lst (spL k j))), some (.t (.lst callsL)), some (.t (callsL.getD i .non)), some (.t (dueV i)), none, none, none, none] [DS.ob d3] =
      .nx [some (.t (.scr ns)), some (.h 0), some (.t (.lst linesL)), some (.t (.lst oddL)), some (.t (.int (k : Int))), some (.t (.lst (spL k j))), some (.t (.lst callsL)), some (.t (callsL.getD i .non)), some (.t (dueV i)), none, some (.t (.lst (rep [.str [46]] (12 + m)))), none, none] [DS.ob d4] := by
    generalize callsL.getD i .non = X
    generalize spL k j = Y
    generalize dueV i = Z
    have z : op2V .mul (.lst [.str [46]]) (.int (12 + (m : Int))) = some (.lst (rep [.str [46]] (12 + m))) := by
      match m, hm with
      | 0, _ => rfl
      | 1, _ => rfl
      | 2, _ => rfl
      | m + 3, h => exact absurd h (by omega)
    generalize rep [V.str [46]] (12 + m) = T at z
    simp only [stm, f24, evE, evEs, evAnd, evOr, evC, evI, evS, evSs, bind_ok, bind_exc, toF_ok', toF_exc, toFB_def, wipeE, ofV_s, ofW_s, ofB_s, ofN_s, mkN_f, mkN_lst, cls_non, cls_bl, cls_int, cls_str, cls_tup, cls_lst, cls_dk, cls_dt, cls_scr, cls_ins, cls_h, clsO_ins, clsO_lst, clsO_lsw, clsO_dk, clsO_dt, ownEq_eq, ownC_n, ownC_s, ownEq_ne, ownEq_lt, ownEq_le, ownEq_gt, ownEq_ge, ownEq_isN, ownEq_notN, ownEq_inn, ownEq_notin, ownLen_len, ownLen_int, ownLen_str, ownLen_list, ownLen_tuple, ownLen_dict, ownLen_dictzip, ownLen_listzip, ownLen_sorted, ownLen_all, ownLen_any, ownLen_max2, ownLen_min1, ownLen_abs, cmpW_eq, cmpW_ne, cmpW_lt, cmpW_le, cmpW_gt, cmpW_ge, cmpW_in, cmpW_ni, cmpW_isN, cmpW_notN, cmpW_isNh, cmpW_notNh, isNon_non, isNon_bl, isNon_int, isNon_str, isNon_tup, isNon_lst, lt_ii, le_ii, gt_ii, ge_ii, eq_ii, eq_bb, eq_ss, eq_nn, eq_ni, eq_in, eq_ns, eq_sn, eq_nb, eq_bn, eq_tt, eq_ll, in_str, in_tup, in_lst, in_dk, ix_tup, ix_lst, ix_dk, ix_dt, idxW_t, idxW_h, idxO_lst, idxO_lsw, idxO_dk, idxO_dt, at0, at1, at2, at3, at4, at5, sl_tup, sl_lst, sl_str, rev_lst, add_ii, add_ss, add_tt, add_ll, sub_ii, mul_ii, mul_ti, mul_li, fdiv_ii, mod_ii, pow_ii, len_str, len_tup, len_lst, len_dk, int_int, int_bl, int_str, str_str, str_int, str_non, list_any, tuple_tup, tuple_lst, dict_tup, dz_tt, lz_ll, all_lst, any_lst, max2_ii, abs_int, isin_t, isin_non, isin_bl, isin_int, isin_str, isin_tup, isin_lst, isin_dk, isin_ins, fld_ins, fld_h, fldO_ins, ssub_h, ssub_hs, ssubO_lst, ssubO_dk, sfld_h, sfldO_ins, toFM_s, toFE_s, unp_tup, unp_lst, put_one, put_tup, put_lst, put_two, lcG_s, lcG2_s, tree_t, forG_s, app_h, appO_lst, bm_app, bm_pop, recv_join, recv_split, recv_starts, bm_join, bm_split, bm_starts, join_sl, split_ss, starts_ss, recv_app, recv_pop, isHl_h, hlO_lst, hlO_lsw, truth_h, truth_t, isIns_def, rdW_t, rdW_h, rdO_lst, rdO_dk, rdO_dt, tr_non, tr_bl, tr_int, tr_str, tr_tup, tr_lst, wk_tup, wk_lst, wk_str, wk_scr, wk_h, wkO_lst, wkO_lsw, it_tup, it_lst, it_scr, ts_nil, ts_cons, con_non, con_bl, con_int, con_str, sA_nil, sA_cons, gV_cons, gW_cons, pW_cons, pW_nil, rWs_nil, rWs_cons, ixn0, ixn1, ixn2, ixn3, lcF_d, lcF1_d, lcF2_d, dcF_d, lstN_d, dicN_d, ci0, big0, ci1, big1, ci2, big2, ci3, big3, ci4, big4, ci5, big5, ci6, big6, ci7, big7, ci8, big8, ci9, big9, ci10, big10, ci11, big11, ci12, big12, ci13, big13, ci14, big14, ci15, big15, ci16, big16, cut1, bA0, bB0, bC0, bA1, bB1, bC1, bA2, bB2, bC2, bA3, bB3, bC3, bA4, bB4, bC4, bA5, bB5, bC5, bA6, bB6, bC6, bA7, bB7, bC7, bA8, bB8, bC8, bA9, bB9, bC9, bA10, bB10, bC10, bA11, bB11, bC11, bA12, bB12, bC12, bls_nil, bls_cons, str_nil, str_cons, onM_ok, onM_exc, asB_s, cut_drop, cut_take, cut_mid, List.length_cons, List.length_nil, List.length_append, List.length_map, List.map_cons, List.map_nil, List.mapM_nil, List.replicate, List.cons_append, List.nil_append, List.append_nil, List.append_assoc, List.getD_eq_getElem?_getD, Option.getD_some, List.getElem?_cons_zero, List.getElem?_cons_succ, List.set_cons_zero, List.set_cons_succ, List.isEmpty_nil, List.isEmpty_cons, Bool.and_self, Bool.and_true, Bool.true_and, Bool.and_false, Bool.false_and, Bool.or_true, Bool.true_or, Bool.or_false, Bool.false_or, Bool.not_true, Bool.not_false, decide_true, decide_false, Bool.false_eq_true, Bool.true_eq_false, ite_true, ite_false, if_true, if_false, Int.reduceLT, Int.reduceLE, Int.reduceEq, Int.reduceNe, Int.reduceNeg, Int.reduceToNat, Int.reduceAdd, Int.reduceSub, Int.reduceMul, Nat.reduceAdd, Nat.reduceLT, Nat.reduceSub, Nat.reduceLeDiff, Nat.reduceEqDiff, Option.map_some, Option.map_none, Option.bind_some, Option.bind_none, Option.isSome_some, Option.isSome_none, Option.pure_def, b2, Nat.zero_add, reduceCtorEq, List.cons.injEq, and_true, true_and, and_false, false_and, id_eq, List.all_cons, List.all_nil, List.any_cons, List.any_nil, beq_self_eq_true, e4, z]
  have sE := lawE (some (.t (.scr ns))) (some (.t (.int (k : Int)))) (some (.t (.lst (spL k j)))) (some (.t (callsL.getD i .non))) (some (.t (dueV i))) [DS.ob d4] m hm
  refine ⟨[DS.ob d4], ?_⟩
  rw [ca24 59]
  refine body_rt ?_
  show evSs PT (callT PT 59) (stm f24 0 :: ([stm f24 1, stm f24 2, stm f24 3, stm f24 4, stm f24 5, stm f24 6, stm f24 7, stm f24 8] ++ (stm f24 9 :: stm f24 10 :: stm f24 11 :: ([stm f24 12, stm f24 13, stm f24 14] ++ (stm f24 15 :: ([stm f24 16, stm f24 17] ++ (stm f24 18 :: [stm f24 19, stm f24 20, stm f24 21]))))))) [some (.t (.scr ns)), none, none, none, none, none, none, none, none, none, none, none, none] [] = _
  rw [evSs_nx s0, evSs_app sA, evSs_nx s9, evSs_nx s10, evSs_nx s11, evSs_app sC, evSs_nx s15, evSs_app sD, evSs_nx s18, sE]

end k09
end MT

set_option Elab.async false
set_option linter.all false
set_option maxRecDepth 100000
set_option maxHeartbeats 4000000
namespace Mini
namespace k09
open PySem L2
open MT.k09 (f0 f1 f2 f3 f4 f5 f6 f7 f8 f9 f10 f11 f12 f13 f14 f15 f16 f17 f18 f19 f20 f21 f22 f23 f24 PT)
abbrev P : Pg := PT.un
def tb : Tb := { fn := [("is_whole", (0, 3, [])), ("is_name", (1, 1, [])), ("is_word", (2, 1, [])), ("group_of", (3, 1, [])), ("is_block", (4, 1, [])), ("are_blocks", (5, 1, [])), ("called", (6, 1, [])), ("may_call", (7, 2, [])), ("are_parts", (8, 1, [])), ("number_of", (11, 1, [])), ("value_in", (12, 1, [])), ("deed_in", (13, 1, [])), ("words_in", (14, 1, [])), ("block_in", (15, 1, [])), ("read", (20, 1, [])), ("_law_begin", (21, 1, [])), ("_law_draw", (22, 2, [])), ("_law_told", (23, 1, [])), ("law", (24, 1, []))], cl := [("Program", 0), ("Reading", 1)], er := [("WordError", 0), ("BadProgram", 1), ("BadLine", 2)], gl := [("MOST_BLOCKS", 0), ("MOST_PARTS", 1), ("MOST_WORDS", 2), ("FAR", 3), ("SMALL", 4), ("FIGURES", 5)], me := [(("part", 1), (1, 17)), (("take", 2), (1, 18)), (("bad_call", 0), (1, 19))], fl := ["blocks", "parts", "names", "lots"], gr := some "GROUPS", lo := some 2 }
def topS (i : Nat) : Stmt := PySem.Challenge.pw_lastingwords_k09_texts_refused.main.body.getD i (.Pass ⟨0, 0, 0, 0⟩)
abbrev st0 : Stmt := topS 11
def N0 : List Str := ["thing", "least", "most"]
theorem cmp0 : cSs tb 60 60 ⟨N0, defScope st0, none⟩ (defBody st0) = MT.unSs f0.body := by kernel_rfl
abbrev st1 : Stmt := topS 12
def N1 : List Str := ["thing", "sign"]
theorem cmp1 : cSs tb 60 60 ⟨N1, defScope st1, none⟩ (defBody st1) = MT.unSs f1.body := by kernel_rfl
abbrev st2 : Stmt := topS 13
def N2 : List Str := ["thing", "fits", "one"]
theorem cmp2 : cSs tb 60 60 ⟨N2, defScope st2, none⟩ (defBody st2) = MT.unSs f2.body := by kernel_rfl
abbrev st3 : Stmt := topS 14
def N3 : List Str := ["word"]
theorem cmp3 : cSs tb 60 60 ⟨N3, defScope st3, none⟩ (defBody st3) = MT.unSs f3.body := by kernel_rfl
abbrev st4 : Stmt := topS 15
def N4 : List Str := ["thing", "word"]
theorem cmp4 : cSs tb 60 60 ⟨N4, defScope st4, none⟩ (defBody st4) = MT.unSs f4.body := by kernel_rfl
abbrev st5 : Stmt := topS 16
def N5 : List Str := ["thing", "block"]
theorem cmp5 : cSs tb 60 60 ⟨N5, defScope st5, none⟩ (defBody st5) = MT.unSs f5.body := by kernel_rfl
abbrev st6 : Stmt := topS 17
def N6 : List Str := ["block", "word"]
theorem cmp6 : cSs tb 60 60 ⟨N6, defScope st6, none⟩ (defBody st6) = MT.unSs f6.body := by kernel_rfl
abbrev st7 : Stmt := topS 18
def N7 : List Str := ["block", "names", "name"]
theorem cmp7 : cSs tb 60 60 ⟨N7, defScope st7, none⟩ (defBody st7) = MT.unSs f7.body := by kernel_rfl
abbrev st8 : Stmt := topS 19
def N8 : List Str := ["thing", "part", "names", "name", "at", "block"]
theorem cmp8 : cSs tb 60 60 ⟨N8, defScope st8, none⟩ (defBody st8) = MT.unSs f8.body := by kernel_rfl
abbrev st9 : Stmt := inClass (topS 20) 0
def N9 : List Str := ["self", "blocks", "parts", "names", "part", "block"]
theorem cmp9 : cSs tb 60 60 ⟨N9, defScope st9, none⟩ (defBody st9) = MT.unSs f9.body := by kernel_rfl
abbrev st10 : Stmt := inClass (topS 20) 1
def N10 : List Str := ["self", "other"]
theorem cmp10 : cSs tb 60 60 ⟨N10, defScope st10, none⟩ (defBody st10) = MT.unSs f10.body := by kernel_rfl
abbrev st11 : Stmt := topS 23
def N11 : List Str := ["word", "bare", "sign"]
theorem cmp11 : cSs tb 60 60 ⟨N11, defScope st11, none⟩ (defBody st11) = MT.unSs f11.body := by kernel_rfl
abbrev st12 : Stmt := topS 24
def N12 : List Str := ["word", "found"]
theorem cmp12 : cSs tb 60 60 ⟨N12, defScope st12, none⟩ (defBody st12) = MT.unSs f12.body := by kernel_rfl
abbrev st13 : Stmt := topS 25
def N13 : List Str := ["parts", "x", "y"]
theorem cmp13 : cSs tb 60 60 ⟨N13, defScope st13, none⟩ (defBody st13) = MT.unSs f13.body := by kernel_rfl
abbrev st14 : Stmt := topS 26
def N14 : List Str := ["parts", "found", "at", "word"]
theorem cmp14 : cSs tb 60 60 ⟨N14, defScope st14, none⟩ (defBody st14) = MT.unSs f14.body := by kernel_rfl
abbrev st15 : Stmt := topS 27
def N15 : List Str := ["line", "marked", "rest", "words"]
theorem cmp15 : cSs tb 60 60 ⟨N15, defScope st15, none⟩ (defBody st15) = MT.unSs f15.body := by kernel_rfl
abbrev st16 : Stmt := inClass (topS 28) 0
def N16 : List Str := ["self"]
theorem cmp16 : cSs tb 60 60 ⟨N16, defScope st16, none⟩ (defBody st16) = MT.unSs f16.body := by kernel_rfl
abbrev st17 : Stmt := inClass (topS 28) 1
def N17 : List Str := ["self", "words"]
theorem cmp17 : cSs tb 60 60 ⟨N17, defScope st17, none⟩ (defBody st17) = MT.unSs f17.body := by kernel_rfl
abbrev st18 : Stmt := inClass (topS 28) 2
def N18 : List Str := ["self", "line", "at", "words", "block"]
theorem cmp18 : cSs tb 60 60 ⟨N18, defScope st18, none⟩ (defBody st18) = MT.unSs f18.body := by kernel_rfl
abbrev st19 : Stmt := inClass (topS 28) 3
def N19 : List Str := ["self", "place", "lot", "block", "at"]
theorem cmp19 : cSs tb 60 60 ⟨N19, defScope st19, none⟩ (defBody st19) = MT.unSs f19.body := by kernel_rfl
abbrev st20 : Stmt := topS 29
def N20 : List Str := ["text", "reading", "at", "line", "bad", "lots", "block", "lot"]
theorem cmp20 : cSs tb 60 60 ⟨N20, defScope st20, none⟩ (defBody st20) = MT.unSs f20.body := by kernel_rfl
abbrev st21 : Stmt := topS 31
def N21 : List Str := ["_law_script"]
theorem cmp21 : cSs tb 60 60 ⟨N21, defScope st21, none⟩ (defBody st21) = MT.unSs f21.body := by kernel_rfl
abbrev st22 : Stmt := topS 32
def N22 : List Str := ["_law_draws", "_law_size", "_law_cell", "_law_found"]
theorem cmp22 : cSs tb 60 60 ⟨N22, defScope st22, none⟩ (defBody st22) = MT.unSs f22.body := by kernel_rfl
abbrev st23 : Stmt := topS 33
def N23 : List Str := ["_law_text", "_law_told_here", "e"]
theorem cmp23 : cSs tb 60 60 ⟨N23, defScope st23, none⟩ (defBody st23) = MT.unSs f23.body := by kernel_rfl
abbrev st24 : Stmt := topS 34
def N24 : List Str := ["_law_script", "_law_draws", "_law_lines", "_law_odd", "_law_at", "_law_spoilt", "_law_calls", "_law_some", "_law_due", "_law_k", "_law_many", "_law_parts", "_law_name"]
theorem cmp24 : cSs tb 60 60 ⟨N24, defScope st24, none⟩ (defBody st24) = MT.unSs f24.body := by kernel_rfl
def Mm : Md := { fns := [⟨"is_whole", none⟩, ⟨"is_name", none⟩, ⟨"is_word", none⟩, ⟨"group_of", none⟩, ⟨"is_block", none⟩, ⟨"are_blocks", none⟩, ⟨"called", none⟩, ⟨"may_call", none⟩, ⟨"are_parts", none⟩, ⟨"__init__", some "Program"⟩, ⟨"__eq__", some "Program"⟩, ⟨"number_of", none⟩, ⟨"value_in", none⟩, ⟨"deed_in", none⟩, ⟨"words_in", none⟩, ⟨"block_in", none⟩, ⟨"__init__", some "Reading"⟩, ⟨"part", some "Reading"⟩, ⟨"take", some "Reading"⟩, ⟨"bad_call", some "Reading"⟩, ⟨"read", none⟩, ⟨"_law_begin", none⟩, ⟨"_law_draw", none⟩, ⟨"_law_told", none⟩, ⟨"law", none⟩], cls := ["Program", "Reading"], ers := ["WordError", "BadProgram", "BadLine"], fl := ["blocks", "parts", "names", "lots"], nd := by decide +kernel, nb := by decide +kernel }
def P0 : List Str := ["thing", "least", "most"]
theorem sc0 : FnScope N0 P0 (defScope st0) := ⟨rfl, rfl, rfl, by decide +kernel, rfl, by decide +kernel, by decide +kernel⟩
theorem df0 {K : PySem.W.Frag} {a : Addr} (ha : faN K Mm 0 = a) (h : DefK K a "is_whole" "is_whole" st0) : DefOk P (NmOf Mm K) tb K 60 60 0 (fdK K a) P0 ∧ Binds K (fdK K a) P0 [] ∧ ∀ us : List Value, us.length = P0.length → bindArgs (fdK K a) ⟨us, []⟩ = pure (P0.zip us) :=
  defK_ok (fn := f0.un) ha h sc0 rfl rfl rfl cmp0 fun _ _ _ _ _ _ us hl => match us, hl with | [_, _, _], _ => rfl
def P1 : List Str := ["thing"]
theorem sc1 : FnScope N1 P1 (defScope st1) := ⟨rfl, rfl, rfl, by decide +kernel, rfl, by decide +kernel, by decide +kernel⟩
theorem df1 {K : PySem.W.Frag} {a : Addr} (ha : faN K Mm 1 = a) (h : DefK K a "is_name" "is_name" st1) : DefOk P (NmOf Mm K) tb K 60 60 1 (fdK K a) P1 ∧ Binds K (fdK K a) P1 [] ∧ ∀ us : List Value, us.length = P1.length → bindArgs (fdK K a) ⟨us, []⟩ = pure (P1.zip us) :=
  defK_ok (fn := f1.un) ha h sc1 rfl rfl rfl cmp1 fun _ _ _ _ _ _ us hl => match us, hl with | [_], _ => rfl
def P2 : List Str := ["thing"]
theorem sc2 : FnScope N2 P2 (defScope st2) := ⟨rfl, rfl, rfl, by decide +kernel, rfl, by decide +kernel, by decide +kernel⟩
theorem df2 {K : PySem.W.Frag} {a : Addr} (ha : faN K Mm 2 = a) (h : DefK K a "is_word" "is_word" st2) : DefOk P (NmOf Mm K) tb K 60 60 2 (fdK K a) P2 ∧ Binds K (fdK K a) P2 [] ∧ ∀ us : List Value, us.length = P2.length → bindArgs (fdK K a) ⟨us, []⟩ = pure (P2.zip us) :=
  defK_ok (fn := f2.un) ha h sc2 rfl rfl rfl cmp2 fun _ _ _ _ _ _ us hl => match us, hl with | [_], _ => rfl
def P3 : List Str := ["word"]
theorem sc3 : FnScope N3 P3 (defScope st3) := ⟨rfl, rfl, rfl, by decide +kernel, rfl, by decide +kernel, by decide +kernel⟩
theorem df3 {K : PySem.W.Frag} {a : Addr} (ha : faN K Mm 3 = a) (h : DefK K a "group_of" "group_of" st3) : DefOk P (NmOf Mm K) tb K 60 60 3 (fdK K a) P3 ∧ Binds K (fdK K a) P3 [] ∧ ∀ us : List Value, us.length = P3.length → bindArgs (fdK K a) ⟨us, []⟩ = pure (P3.zip us) :=
  defK_ok (fn := f3.un) ha h sc3 rfl rfl rfl cmp3 fun _ _ _ _ _ _ us hl => match us, hl with | [_], _ => rfl
def P4 : List Str := ["thing"]
theorem sc4 : FnScope N4 P4 (defScope st4) := ⟨rfl, rfl, rfl, by decide +kernel, rfl, by decide +kernel, by decide +kernel⟩
theorem df4 {K : PySem.W.Frag} {a : Addr} (ha : faN K Mm 4 = a) (h : DefK K a "is_block" "is_block" st4) : DefOk P (NmOf Mm K) tb K 60 60 4 (fdK K a) P4 ∧ Binds K (fdK K a) P4 [] ∧ ∀ us : List Value, us.length = P4.length → bindArgs (fdK K a) ⟨us, []⟩ = pure (P4.zip us) :=
  defK_ok (fn := f4.un) ha h sc4 rfl rfl rfl cmp4 fun _ _ _ _ _ _ us hl => match us, hl with | [_], _ => rfl
def P5 : List Str := ["thing"]
theorem sc5 : FnScope N5 P5 (defScope st5) := ⟨rfl, rfl, rfl, by decide +kernel, rfl, by decide +kernel, by decide +kernel⟩
theorem df5 {K : PySem.W.Frag} {a : Addr} (ha : faN K Mm 5 = a) (h : DefK K a "are_blocks" "are_blocks" st5) : DefOk P (NmOf Mm K) tb K 60 60 5 (fdK K a) P5 ∧ Binds K (fdK K a) P5 [] ∧ ∀ us : List Value, us.length = P5.length → bindArgs (fdK K a) ⟨us, []⟩ = pure (P5.zip us) :=
  defK_ok (fn := f5.un) ha h sc5 rfl rfl rfl cmp5 fun _ _ _ _ _ _ us hl => match us, hl with | [_], _ => rfl
def P6 : List Str := ["block"]
theorem sc6 : FnScope N6 P6 (defScope st6) := ⟨rfl, rfl, rfl, by decide +kernel, rfl, by decide +kernel, by decide +kernel⟩
theorem df6 {K : PySem.W.Frag} {a : Addr} (ha : faN K Mm 6 = a) (h : DefK K a "called" "called" st6) : DefOk P (NmOf Mm K) tb K 60 60 6 (fdK K a) P6 ∧ Binds K (fdK K a) P6 [] ∧ ∀ us : List Value, us.length = P6.length → bindArgs (fdK K a) ⟨us, []⟩ = pure (P6.zip us) :=
  defK_ok (fn := f6.un) ha h sc6 rfl rfl rfl cmp6 fun _ _ _ _ _ _ us hl => match us, hl with | [_], _ => rfl
def P7 : List Str := ["block", "names"]
theorem sc7 : FnScope N7 P7 (defScope st7) := ⟨rfl, rfl, rfl, by decide +kernel, rfl, by decide +kernel, by decide +kernel⟩
theorem df7 {K : PySem.W.Frag} {a : Addr} (ha : faN K Mm 7 = a) (h : DefK K a "may_call" "may_call" st7) : DefOk P (NmOf Mm K) tb K 60 60 7 (fdK K a) P7 ∧ Binds K (fdK K a) P7 [] ∧ ∀ us : List Value, us.length = P7.length → bindArgs (fdK K a) ⟨us, []⟩ = pure (P7.zip us) :=
  defK_ok (fn := f7.un) ha h sc7 rfl rfl rfl cmp7 fun _ _ _ _ _ _ us hl => match us, hl with | [_, _], _ => rfl
def P8 : List Str := ["thing"]
theorem sc8 : FnScope N8 P8 (defScope st8) := ⟨rfl, rfl, rfl, by decide +kernel, rfl, by decide +kernel, by decide +kernel⟩
theorem df8 {K : PySem.W.Frag} {a : Addr} (ha : faN K Mm 8 = a) (h : DefK K a "are_parts" "are_parts" st8) : DefOk P (NmOf Mm K) tb K 60 60 8 (fdK K a) P8 ∧ Binds K (fdK K a) P8 [] ∧ ∀ us : List Value, us.length = P8.length → bindArgs (fdK K a) ⟨us, []⟩ = pure (P8.zip us) :=
  defK_ok (fn := f8.un) ha h sc8 rfl rfl rfl cmp8 fun _ _ _ _ _ _ us hl => match us, hl with | [_], _ => rfl
def P9 : List Str := ["self", "blocks", "parts"]
theorem sc9 : FnScope N9 P9 (defScope st9) := ⟨rfl, rfl, rfl, by decide +kernel, rfl, by decide +kernel, by decide +kernel⟩
theorem df9 {K : PySem.W.Frag} {a : Addr} (ha : faN K Mm 9 = a) (h : DefK K a "__init__" "Program.__init__" st9) : DefOk P (NmOf Mm K) tb K 60 60 9 (fdK K a) P9 ∧ Binds K (fdK K a) P9 [] ∧ ∀ us : List Value, us.length = P9.length → bindArgs (fdK K a) ⟨us, []⟩ = pure (P9.zip us) :=
  defK_ok (fn := f9.un) ha h sc9 rfl rfl rfl cmp9 fun _ _ _ _ _ _ us hl => match us, hl with | [_, _, _], _ => rfl
def P10 : List Str := ["self", "other"]
theorem sc10 : FnScope N10 P10 (defScope st10) := ⟨rfl, rfl, rfl, by decide +kernel, rfl, by decide +kernel, by decide +kernel⟩
theorem df10 {K : PySem.W.Frag} {a : Addr} (ha : faN K Mm 10 = a) (h : DefK K a "__eq__" "Program.__eq__" st10) : DefOk P (NmOf Mm K) tb K 60 60 10 (fdK K a) P10 ∧ Binds K (fdK K a) P10 [] ∧ ∀ us : List Value, us.length = P10.length → bindArgs (fdK K a) ⟨us, []⟩ = pure (P10.zip us) :=
  defK_ok (fn := f10.un) ha h sc10 rfl rfl rfl cmp10 fun _ _ _ _ _ _ us hl => match us, hl with | [_, _], _ => rfl
def P11 : List Str := ["word"]
theorem sc11 : FnScope N11 P11 (defScope st11) := ⟨rfl, rfl, rfl, by decide +kernel, rfl, by decide +kernel, by decide +kernel⟩
theorem df11 {K : PySem.W.Frag} {a : Addr} (ha : faN K Mm 11 = a) (h : DefK K a "number_of" "number_of" st11) : DefOk P (NmOf Mm K) tb K 60 60 11 (fdK K a) P11 ∧ Binds K (fdK K a) P11 [] ∧ ∀ us : List Value, us.length = P11.length → bindArgs (fdK K a) ⟨us, []⟩ = pure (P11.zip us) :=
  defK_ok (fn := f11.un) ha h sc11 rfl rfl rfl cmp11 fun _ _ _ _ _ _ us hl => match us, hl with | [_], _ => rfl
def P12 : List Str := ["word"]
theorem sc12 : FnScope N12 P12 (defScope st12) := ⟨rfl, rfl, rfl, by decide +kernel, rfl, by decide +kernel, by decide +kernel⟩
theorem df12 {K : PySem.W.Frag} {a : Addr} (ha : faN K Mm 12 = a) (h : DefK K a "value_in" "value_in" st12) : DefOk P (NmOf Mm K) tb K 60 60 12 (fdK K a) P12 ∧ Binds K (fdK K a) P12 [] ∧ ∀ us : List Value, us.length = P12.length → bindArgs (fdK K a) ⟨us, []⟩ = pure (P12.zip us) :=
  defK_ok (fn := f12.un) ha h sc12 rfl rfl rfl cmp12 fun _ _ _ _ _ _ us hl => match us, hl with | [_], _ => rfl
def P13 : List Str := ["parts"]
theorem sc13 : FnScope N13 P13 (defScope st13) := ⟨rfl, rfl, rfl, by decide +kernel, rfl, by decide +kernel, by decide +kernel⟩
theorem df13 {K : PySem.W.Frag} {a : Addr} (ha : faN K Mm 13 = a) (h : DefK K a "deed_in" "deed_in" st13) : DefOk P (NmOf Mm K) tb K 60 60 13 (fdK K a) P13 ∧ Binds K (fdK K a) P13 [] ∧ ∀ us : List Value, us.length = P13.length → bindArgs (fdK K a) ⟨us, []⟩ = pure (P13.zip us) :=
  defK_ok (fn := f13.un) ha h sc13 rfl rfl rfl cmp13 fun _ _ _ _ _ _ us hl => match us, hl with | [_], _ => rfl
def P14 : List Str := ["parts"]
theorem sc14 : FnScope N14 P14 (defScope st14) := ⟨rfl, rfl, rfl, by decide +kernel, rfl, by decide +kernel, by decide +kernel⟩
theorem df14 {K : PySem.W.Frag} {a : Addr} (ha : faN K Mm 14 = a) (h : DefK K a "words_in" "words_in" st14) : DefOk P (NmOf Mm K) tb K 60 60 14 (fdK K a) P14 ∧ Binds K (fdK K a) P14 [] ∧ ∀ us : List Value, us.length = P14.length → bindArgs (fdK K a) ⟨us, []⟩ = pure (P14.zip us) :=
  defK_ok (fn := f14.un) ha h sc14 rfl rfl rfl cmp14 fun _ _ _ _ _ _ us hl => match us, hl with | [_], _ => rfl
def P15 : List Str := ["line"]
theorem sc15 : FnScope N15 P15 (defScope st15) := ⟨rfl, rfl, rfl, by decide +kernel, rfl, by decide +kernel, by decide +kernel⟩
theorem df15 {K : PySem.W.Frag} {a : Addr} (ha : faN K Mm 15 = a) (h : DefK K a "block_in" "block_in" st15) : DefOk P (NmOf Mm K) tb K 60 60 15 (fdK K a) P15 ∧ Binds K (fdK K a) P15 [] ∧ ∀ us : List Value, us.length = P15.length → bindArgs (fdK K a) ⟨us, []⟩ = pure (P15.zip us) :=
  defK_ok (fn := f15.un) ha h sc15 rfl rfl rfl cmp15 fun _ _ _ _ _ _ us hl => match us, hl with | [_], _ => rfl
def P16 : List Str := ["self"]
theorem sc16 : FnScope N16 P16 (defScope st16) := ⟨rfl, rfl, rfl, by decide +kernel, rfl, by decide +kernel, by decide +kernel⟩
theorem df16 {K : PySem.W.Frag} {a : Addr} (ha : faN K Mm 16 = a) (h : DefK K a "__init__" "Reading.__init__" st16) : DefOk P (NmOf Mm K) tb K 60 60 16 (fdK K a) P16 ∧ Binds K (fdK K a) P16 [] ∧ ∀ us : List Value, us.length = P16.length → bindArgs (fdK K a) ⟨us, []⟩ = pure (P16.zip us) :=
  defK_ok (fn := f16.un) ha h sc16 rfl rfl rfl cmp16 fun _ _ _ _ _ _ us hl => match us, hl with | [_], _ => rfl
def P17 : List Str := ["self", "words"]
theorem sc17 : FnScope N17 P17 (defScope st17) := ⟨rfl, rfl, rfl, by decide +kernel, rfl, by decide +kernel, by decide +kernel⟩
theorem df17 {K : PySem.W.Frag} {a : Addr} (ha : faN K Mm 17 = a) (h : DefK K a "part" "Reading.part" st17) : DefOk P (NmOf Mm K) tb K 60 60 17 (fdK K a) P17 ∧ Binds K (fdK K a) P17 [] ∧ ∀ us : List Value, us.length = P17.length → bindArgs (fdK K a) ⟨us, []⟩ = pure (P17.zip us) :=
  defK_ok (fn := f17.un) ha h sc17 rfl rfl rfl cmp17 fun _ _ _ _ _ _ us hl => match us, hl with | [_, _], _ => rfl
def P18 : List Str := ["self", "line", "at"]
theorem sc18 : FnScope N18 P18 (defScope st18) := ⟨rfl, rfl, rfl, by decide +kernel, rfl, by decide +kernel, by decide +kernel⟩
theorem df18 {K : PySem.W.Frag} {a : Addr} (ha : faN K Mm 18 = a) (h : DefK K a "take" "Reading.take" st18) : DefOk P (NmOf Mm K) tb K 60 60 18 (fdK K a) P18 ∧ Binds K (fdK K a) P18 [] ∧ ∀ us : List Value, us.length = P18.length → bindArgs (fdK K a) ⟨us, []⟩ = pure (P18.zip us) :=
  defK_ok (fn := f18.un) ha h sc18 rfl rfl rfl cmp18 fun _ _ _ _ _ _ us hl => match us, hl with | [_, _, _], _ => rfl
def P19 : List Str := ["self"]
theorem sc19 : FnScope N19 P19 (defScope st19) := ⟨rfl, rfl, rfl, by decide +kernel, rfl, by decide +kernel, by decide +kernel⟩
theorem df19 {K : PySem.W.Frag} {a : Addr} (ha : faN K Mm 19 = a) (h : DefK K a "bad_call" "Reading.bad_call" st19) : DefOk P (NmOf Mm K) tb K 60 60 19 (fdK K a) P19 ∧ Binds K (fdK K a) P19 [] ∧ ∀ us : List Value, us.length = P19.length → bindArgs (fdK K a) ⟨us, []⟩ = pure (P19.zip us) :=
  defK_ok (fn := f19.un) ha h sc19 rfl rfl rfl cmp19 fun _ _ _ _ _ _ us hl => match us, hl with | [_], _ => rfl
def P20 : List Str := ["text"]
theorem sc20 : FnScope N20 P20 (defScope st20) := ⟨rfl, rfl, rfl, by decide +kernel, rfl, by decide +kernel, by decide +kernel⟩
theorem df20 {K : PySem.W.Frag} {a : Addr} (ha : faN K Mm 20 = a) (h : DefK K a "read" "read" st20) : DefOk P (NmOf Mm K) tb K 60 60 20 (fdK K a) P20 ∧ Binds K (fdK K a) P20 [] ∧ ∀ us : List Value, us.length = P20.length → bindArgs (fdK K a) ⟨us, []⟩ = pure (P20.zip us) :=
  defK_ok (fn := f20.un) ha h sc20 rfl rfl rfl cmp20 fun _ _ _ _ _ _ us hl => match us, hl with | [_], _ => rfl
def P21 : List Str := ["_law_script"]
theorem sc21 : FnScope N21 P21 (defScope st21) := ⟨rfl, rfl, rfl, by decide +kernel, rfl, by decide +kernel, by decide +kernel⟩
theorem df21 {K : PySem.W.Frag} {a : Addr} (ha : faN K Mm 21 = a) (h : DefK K a "_law_begin" "_law_begin" st21) : DefOk P (NmOf Mm K) tb K 60 60 21 (fdK K a) P21 ∧ Binds K (fdK K a) P21 [] ∧ ∀ us : List Value, us.length = P21.length → bindArgs (fdK K a) ⟨us, []⟩ = pure (P21.zip us) :=
  defK_ok (fn := f21.un) ha h sc21 rfl rfl rfl cmp21 fun _ _ _ _ _ _ us hl => match us, hl with | [_], _ => rfl
def P22 : List Str := ["_law_draws", "_law_size"]
theorem sc22 : FnScope N22 P22 (defScope st22) := ⟨rfl, rfl, rfl, by decide +kernel, rfl, by decide +kernel, by decide +kernel⟩
theorem df22 {K : PySem.W.Frag} {a : Addr} (ha : faN K Mm 22 = a) (h : DefK K a "_law_draw" "_law_draw" st22) : DefOk P (NmOf Mm K) tb K 60 60 22 (fdK K a) P22 ∧ Binds K (fdK K a) P22 [] ∧ ∀ us : List Value, us.length = P22.length → bindArgs (fdK K a) ⟨us, []⟩ = pure (P22.zip us) :=
  defK_ok (fn := f22.un) ha h sc22 rfl rfl rfl cmp22 fun _ _ _ _ _ _ us hl => match us, hl with | [_, _], _ => rfl
def P23 : List Str := ["_law_text"]
theorem sc23 : FnScope N23 P23 (defScope st23) := ⟨rfl, rfl, rfl, by decide +kernel, rfl, by decide +kernel, by decide +kernel⟩
theorem df23 {K : PySem.W.Frag} {a : Addr} (ha : faN K Mm 23 = a) (h : DefK K a "_law_told" "_law_told" st23) : DefOk P (NmOf Mm K) tb K 60 60 23 (fdK K a) P23 ∧ Binds K (fdK K a) P23 [] ∧ ∀ us : List Value, us.length = P23.length → bindArgs (fdK K a) ⟨us, []⟩ = pure (P23.zip us) :=
  defK_ok (fn := f23.un) ha h sc23 rfl rfl rfl cmp23 fun _ _ _ _ _ _ us hl => match us, hl with | [_], _ => rfl
def P24 : List Str := ["_law_script"]
theorem sc24 : FnScope N24 P24 (defScope st24) := ⟨rfl, rfl, rfl, by decide +kernel, rfl, by decide +kernel, by decide +kernel⟩
theorem df24 {K : PySem.W.Frag} {a : Addr} (ha : faN K Mm 24 = a) (h : DefK K a "law" "law" st24) : DefOk P (NmOf Mm K) tb K 60 60 24 (fdK K a) P24 ∧ Binds K (fdK K a) P24 [] ∧ ∀ us : List Value, us.length = P24.length → bindArgs (fdK K a) ⟨us, []⟩ = pure (P24.zip us) :=
  defK_ok (fn := f24.un) ha h sc24 rfl rfl rfl cmp24 fun _ _ _ _ _ _ us hl => match us, hl with | [_], _ => rfl
abbrev stLow : Stmt := inClass (topS 3) 0
theorem lowSt : ∃ p1 p2 q1 q2 q3 q4, defArgs stLow = PySem.LowX.iA p1 p2 ∧ defBody stLow = PySem.LowX.iB q1 q2 q3 q4 ∧ defScope stLow = PySem.LowX.iS := ⟨_, _, _, _, _, _, rfl, rfl, rfl⟩
def PS : List (List Str) := [P0, P1, P2, P3, P4, P5, P6, P7, P8, P9, P10, P11, P12, P13, P14, P15, P16, P17, P18, P19, P20, P21, P22, P23, P24]
theorem all_mk {w : World} {K : PySem.W.Frag} {h : Heap} {mg : Str → Option Value} {fa : Addr} (KX : K.In h) (G : h.Ns mainGlobals mg) (hfa : mg "law" = some (.ref fa)) (d0 : DefK K (faN K Mm 0) "is_whole" "is_whole" st0) (d1 : DefK K (faN K Mm 1) "is_name" "is_name" st1) (d2 : DefK K (faN K Mm 2) "is_word" "is_word" st2) (d3 : DefK K (faN K Mm 3) "group_of" "group_of" st3) (d4 : DefK K (faN K Mm 4) "is_block" "is_block" st4) (d5 : DefK K (faN K Mm 5) "are_blocks" "are_blocks" st5) (d6 : DefK K (faN K Mm 6) "called" "called" st6) (d7 : DefK K (faN K Mm 7) "may_call" "may_call" st7) (d8 : DefK K (faN K Mm 8) "are_parts" "are_parts" st8) (d9 : DefK K (faN K Mm 9) "__init__" "Program.__init__" st9) (d10 : DefK K (faN K Mm 10) "__eq__" "Program.__eq__" st10) (d11 : DefK K (faN K Mm 11) "number_of" "number_of" st11) (d12 : DefK K (faN K Mm 12) "value_in" "value_in" st12) (d13 : DefK K (faN K Mm 13) "deed_in" "deed_in" st13) (d14 : DefK K (faN K Mm 14) "words_in" "words_in" st14) (d15 : DefK K (faN K Mm 15) "block_in" "block_in" st15) (d16 : DefK K (faN K Mm 16) "__init__" "Reading.__init__" st16) (d17 : DefK K (faN K Mm 17) "part" "Reading.part" st17) (d18 : DefK K (faN K Mm 18) "take" "Reading.take" st18) (d19 : DefK K (faN K Mm 19) "bad_call" "Reading.bad_call" st19) (d20 : DefK K (faN K Mm 20) "read" "read" st20) (d21 : DefK K (faN K Mm 21) "_law_begin" "_law_begin" st21) (d22 : DefK K (faN K Mm 22) "_law_draw" "_law_draw" st22) (d23 : DefK K (faN K Mm 23) "_law_told" "_law_told" st23) (d24 : DefK K (faN K Mm 24) "law" "law" st24) (chk : modB P (NmOf Mm K) tb K = true)
    (grp : ∀ x, tb.gr = some x → ∃ d es n, mg x = some (.ref d) ∧ GrpG P.grp K w d es n) (low : ∀ c, tb.lo = some c → ∃ fI, PySem.LowX.LowTxt K mg ((NmOf Mm K).er c) fI) : ∃ (fdo : Nat → FuncData) (pso : Nat → List Str), MG P (NmOf Mm K) tb w K mg fdo pso 60 60 ∧ 24 < P.fns.length ∧ (NmOf Mm K).fa 24 = fa ∧ pso 24 = [("_law_script" : Str)] ∧
    ∀ (s : Shared) (u : Value), BindsTo s (fdo 24) ⟨[u], []⟩ [("_law_script", u)] := by
  have D : ∀ f, f < P.fns.length → DefOk P (NmOf Mm K) tb K 60 60 f (fdK K (faN K Mm f)) (PS.getD f []) ∧ Binds K (fdK K (faN K Mm f)) (PS.getD f []) [] := fun f hf => match f, hf with
    | 0, _ => ⟨(df0 rfl d0).1, (df0 rfl d0).2.1⟩
    | 1, _ => ⟨(df1 rfl d1).1, (df1 rfl d1).2.1⟩
    | 2, _ => ⟨(df2 rfl d2).1, (df2 rfl d2).2.1⟩
    | 3, _ => ⟨(df3 rfl d3).1, (df3 rfl d3).2.1⟩
    | 4, _ => ⟨(df4 rfl d4).1, (df4 rfl d4).2.1⟩
    | 5, _ => ⟨(df5 rfl d5).1, (df5 rfl d5).2.1⟩
    | 6, _ => ⟨(df6 rfl d6).1, (df6 rfl d6).2.1⟩
    | 7, _ => ⟨(df7 rfl d7).1, (df7 rfl d7).2.1⟩
    | 8, _ => ⟨(df8 rfl d8).1, (df8 rfl d8).2.1⟩
    | 9, _ => ⟨(df9 rfl d9).1, (df9 rfl d9).2.1⟩
    | 10, _ => ⟨(df10 rfl d10).1, (df10 rfl d10).2.1⟩
    | 11, _ => ⟨(df11 rfl d11).1, (df11 rfl d11).2.1⟩
    | 12, _ => ⟨(df12 rfl d12).1, (df12 rfl d12).2.1⟩
    | 13, _ => ⟨(df13 rfl d13).1, (df13 rfl d13).2.1⟩
    | 14, _ => ⟨(df14 rfl d14).1, (df14 rfl d14).2.1⟩
    | 15, _ => ⟨(df15 rfl d15).1, (df15 rfl d15).2.1⟩
    | 16, _ => ⟨(df16 rfl d16).1, (df16 rfl d16).2.1⟩
    | 17, _ => ⟨(df17 rfl d17).1, (df17 rfl d17).2.1⟩
    | 18, _ => ⟨(df18 rfl d18).1, (df18 rfl d18).2.1⟩
    | 19, _ => ⟨(df19 rfl d19).1, (df19 rfl d19).2.1⟩
    | 20, _ => ⟨(df20 rfl d20).1, (df20 rfl d20).2.1⟩
    | 21, _ => ⟨(df21 rfl d21).1, (df21 rfl d21).2.1⟩
    | 22, _ => ⟨(df22 rfl d22).1, (df22 rfl d22).2.1⟩
    | 23, _ => ⟨(df23 rfl d23).1, (df23 rfl d23).2.1⟩
    | 24, _ => ⟨(df24 rfl d24).1, (df24 rfl d24).2.1⟩
    | f + 25, hf => absurd hf (by show ¬ (f + 25 < 25); omega)
  have M := modB_ok (w := w) (fdo := fun f => fdK K (faN K Mm f)) (pso := fun f => PS.getD f []) KX G chk rfl (fun f hf => (D f hf).1) (fun f hf => (D f hf).2) (by decide +kernel) grp low
  refine ⟨_, _, M, by decide, ?_, rfl, fun s u => .of_eq ((df24 rfl d24).2.2 [u] rfl)⟩
  have z := (M.fn "law" 24 1 [] (by kernel_rfl)).2.1
  rw [hfa] at z
  injection z with z1
  injection z1 with z2
  exact z2.symm
end k09
end Mini

open PySem PySem.W PyProof.Rows
set_option maxHeartbeats 0 in
theorem PySem.Challenge.cw_lastingwords_k09_texts_refused_holds : PySem.Challenge.rw_lastingwords_k09_texts_refused.Holds := by
  w_on; o_law; k_head; (case hw => w_witness2)
  k_fill
  refine Mini.walkN (pg := Mini.k09.P) (M := Mini.k09.Mm) (tb := Mini.k09.tb) (m := 60) (n := 60) (lv := 60) (law := 24) (x := "_law_script") rfl rfl Mini.room60 (fun w h Y => PySem.W.kIn_of Y) ?F (fun ns hl => MT.law_ok rfl (MT.k09.plain ns hl))
  case F =>
    intro w mg fa h KX G hmg
    refine' Mini.k09.all_mk KX G hmg ?d0 ?d1 ?d2 ?d3 ?d4 ?d5 ?d6 ?d7 ?d8 ?d9 ?d10 ?d11 ?d12 ?d13 ?d14 ?d15 ?d16 ?d17 ?d18 ?d19 ?d20 ?d21 ?d22 ?d23 ?d24 ?chk ?grp ?low
    (case d0 => refine' Mini.defK_fn rfl ?a ?b ?c; (case a => k_is); (case b => k_is); (case c => k_is))
    (case d1 => refine' Mini.defK_fn rfl ?a ?b ?c; (case a => k_is); (case b => k_is); (case c => k_is))
    (case d2 => refine' Mini.defK_fn rfl ?a ?b ?c; (case a => k_is); (case b => k_is); (case c => k_is))
    (case d3 => refine' Mini.defK_fn rfl ?a ?b ?c; (case a => k_is); (case b => k_is); (case c => k_is))
    (case d4 => refine' Mini.defK_fn rfl ?a ?b ?c; (case a => k_is); (case b => k_is); (case c => k_is))
    (case d5 => refine' Mini.defK_fn rfl ?a ?b ?c; (case a => k_is); (case b => k_is); (case c => k_is))
    (case d6 => refine' Mini.defK_fn rfl ?a ?b ?c; (case a => k_is); (case b => k_is); (case c => k_is))
    (case d7 => refine' Mini.defK_fn rfl ?a ?b ?c; (case a => k_is); (case b => k_is); (case c => k_is))
    (case d8 => refine' Mini.defK_fn rfl ?a ?b ?c; (case a => k_is); (case b => k_is); (case c => k_is))
    (case d9 => refine' Mini.defK_me rfl ?o ?a ?b ?c; (case o => k_is); (case a => k_is); (case b => k_is); (case c => k_is))
    (case d10 => refine' Mini.defK_me rfl ?o ?a ?b ?c; (case o => k_is); (case a => k_is); (case b => k_is); (case c => k_is))
    (case d11 => refine' Mini.defK_fn rfl ?a ?b ?c; (case a => k_is); (case b => k_is); (case c => k_is))
    (case d12 => refine' Mini.defK_fn rfl ?a ?b ?c; (case a => k_is); (case b => k_is); (case c => k_is))
    (case d13 => refine' Mini.defK_fn rfl ?a ?b ?c; (case a => k_is); (case b => k_is); (case c => k_is))
    (case d14 => refine' Mini.defK_fn rfl ?a ?b ?c; (case a => k_is); (case b => k_is); (case c => k_is))
    (case d15 => refine' Mini.defK_fn rfl ?a ?b ?c; (case a => k_is); (case b => k_is); (case c => k_is))
    (case d16 => refine' Mini.defK_me rfl ?o ?a ?b ?c; (case o => k_is); (case a => k_is); (case b => k_is); (case c => k_is))
    (case d17 => refine' Mini.defK_me rfl ?o ?a ?b ?c; (case o => k_is); (case a => k_is); (case b => k_is); (case c => k_is))
    (case d18 => refine' Mini.defK_me rfl ?o ?a ?b ?c; (case o => k_is); (case a => k_is); (case b => k_is); (case c => k_is))
    (case d19 => refine' Mini.defK_me rfl ?o ?a ?b ?c; (case o => k_is); (case a => k_is); (case b => k_is); (case c => k_is))
    (case d20 => refine' Mini.defK_fn rfl ?a ?b ?c; (case a => k_is); (case b => k_is); (case c => k_is))
    (case d21 => refine' Mini.defK_fn rfl ?a ?b ?c; (case a => k_is); (case b => k_is); (case c => k_is))
    (case d22 => refine' Mini.defK_fn rfl ?a ?b ?c; (case a => k_is); (case b => k_is); (case c => k_is))
    (case d23 => refine' Mini.defK_fn rfl ?a ?b ?c; (case a => k_is); (case b => k_is); (case c => k_is))
    (case d24 => refine' Mini.defK_fn rfl ?a ?b ?c; (case a => k_is); (case b => k_is); (case c => k_is))
    (case chk => kernel_rfl)
    (case low =>
      intro c e
      injection e with e
      subst e
      refine' Mini.low_of (st := Mini.k09.stLow) KX G rfl Mini.k09.lowSt ?aC ?xL ?hbm ?sa ?ga ?gg ?nb ?a1 ?t1 ?l1 ?c1 ?kC ?eC ?tC ?hC ?iC ?sC
      (case aC => k_is)
      (case xL => k_is)
      (case hbm => decide +kernel)
      (case sa => k_is)
      (case ga => k_is)
      (case gg => k_is)
      (case nb => k_is)
      (case a1 => k_is)
      (case t1 => k_is)
      (case l1 => k_is)
      (case c1 => k_is)
      (case kC => k_is)
      (case eC => k_is)
      (case tC => k_is)
      (case hC => k_is)
      (case iC => k_is)
      (case sC => first | rfl | k_is))
    (case grp =>
      intro x e
      injection e with e
      subst e
      refine' Mini.grpG_of KX G ?a ?b ?c ?d ?f; (case a => k_is); (case b => k_is); (case c => exact ⟨⟨_, _, rfl, rfl⟩, ⟨_, _, rfl, rfl⟩, ⟨_, _, rfl, rfl⟩, ⟨_, _, rfl, rfl⟩, ⟨_, _, rfl, rfl⟩, ⟨_, _, rfl, rfl⟩, ⟨_, _, rfl, rfl⟩, ⟨_, _, rfl, rfl⟩, trivial⟩); (case d => rfl); (case f => kernel_rfl))
