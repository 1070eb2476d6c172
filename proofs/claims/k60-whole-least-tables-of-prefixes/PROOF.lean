import PyProof.Rows.All
import Wide.All
import OpenK.AllK
import Wide.FinOn
import HandS.ForMost
import PyProof.EqAt
import HandS.Deep
import HandS.TupAny
import HandS.TupLe
import HandS.More
import HandS.SetBool
import KE.DataEq
import HandS.Wide
import HandS.TupMul
import HandS.IsInst
import HandS.Conv
import HandS.TupLen
import HandS.Flow
import HandS.RevRange
import PyProof.FactsAll.list_0
import PyProof.FactsAll.list_3
import PyProof.FactsAll.dict_0
import PyProof.FactsAll.dict_3
import PyProof.FactsAll.dict_4
import KE.GoesMore
import KE.KDictWalk
import PyProof.EnumMake
import PyProof.EnumFor
import HandS.Iter
import HandS.TupSets
import KE.KDictPairs
import HandS.DictComp
import HandS.Words
import PySem.Challenge.RW_gateproof_k60_whole_least_tables_of_pref
set_option Elab.async false
set_option linter.all false
set_option maxRecDepth 100000
/-! EvA: the values, the heap, the small language and its evaluator; no program in sight. -/
namespace Ev
open PySem

/-- a value; tuples are written out, what can change stands in the heap -/
inductive D where
  | und | non | bl (b : Bool) | int (i : Int) | str (s : Str) | tup (xs : List D) | ref (a : Nat)
  deriving Inhabited

/-- an object of the heap -/
inductive O where
  | lst (xs : List D)
  | frz (xs : List D)
  | dct (kvs : List (D × D))
  | ins (c : Nat) (fs : List (Str × D))
  deriving Inhabited

/-! ### the heap: a binary tree by the bits of the address -/
inductive Tr where
  | lf | nd (o : Option O) (l r : Tr)
def bitsF : Nat → Nat → List Bool
  | 0, _ => []
  | f + 1, n => if n = 0 then [] else (n % 2 == 1) :: bitsF f (n / 2)
def bits (n : Nat) : List Bool := bitsF n n
def Tr.get : Tr → List Bool → Option O
  | .lf, _ => none
  | .nd o _ _, [] => o
  | .nd _ l r, b :: bs => if b then l.get bs else r.get bs
def Tr.set (o : O) : Tr → List Bool → Tr
  | .lf, [] => .nd (some o) .lf .lf
  | .lf, b :: bs => if b then .nd none (Tr.set o .lf bs) .lf else .nd none .lf (Tr.set o .lf bs)
  | .nd _ l r, [] => .nd (some o) l r
  | .nd u l r, b :: bs => if b then .nd u (Tr.set o l bs) r else .nd u l (Tr.set o r bs)
structure Hh where
  n : Nat
  t : Tr
def Hh.empty : Hh := ⟨0, .lf⟩
def Hh.get (G : Hh) (a : Nat) : Option O := if a < G.n then G.t.get (bits a) else none
def Hh.set (G : Hh) (a : Nat) (o : O) : Hh := ⟨G.n, G.t.set o (bits a)⟩
def Hh.new (G : Hh) (o : O) : Hh := ⟨G.n + 1, G.t.set o (bits G.n)⟩

/-! ### results -/
inductive Res (α : Type) where
  | ok (x : α) (G : Hh) | ex (c : Nat) (as : List D) (G : Hh) | bad
def M (α : Type) : Type := Hh → Res α
def M.pure {α : Type} (x : α) : M α := fun G => .ok x G
def M.bind {α β : Type} (m : M α) (f : α → M β) : M β := fun G =>
  match m G with
  | .ok x G' => f x G'
  | .ex c as G' => .ex c as G'
  | .bad => .bad
def M.bad {α : Type} : M α := fun _ => .bad
instance : Monad M where
  pure := M.pure
  bind := M.bind
/-- look at the heap -/
def rd {α : Type} (f : Hh → Option α) : M α := fun G => match f G with | some x => .ok x G | none => .bad
def alloc (o : O) : M D := fun G => .ok (.ref G.n) (G.new o)
def wr (a : Nat) (o : O) : M D := fun G => .ok .non (G.set a o)
def ofOpt {α : Type} (o : Option α) : M α := match o with | some x => M.pure x | none => M.bad

/-! ### data -/
mutual
/-- nothing in it stands in the heap -/
def D.flat : D → Bool
  | .ref _ => false
  | .und => false
  | .tup xs => D.flats xs
  | _ => true
def D.flats : List D → Bool
  | [] => true
  | x :: xs => x.flat && D.flats xs
end
def b2i (b : Bool) : Int := if b then 1 else 0
mutual
/-- == of values without heap (True is 1) -/
def D.eqv : D → D → Bool
  | .non, .non => true
  | .bl a, .bl b => a == b
  | .bl a, .int j => b2i a == j
  | .int i, .bl b => i == b2i b
  | .int i, .int j => i == j
  | .str a, .str b => a == b
  | .tup xs, .tup ys => D.eqvs xs ys
  | _, _ => false
def D.eqvs : List D → List D → Bool
  | [], [] => true
  | x :: xs, y :: ys => x.eqv y && D.eqvs xs ys
  | _, _ => false
end
mutual
def D.depth : D → Nat
  | .tup xs => D.depths xs + 1
  | _ => 0
def D.depths : List D → Nat
  | [] => 0
  | x :: xs => max x.depth (D.depths xs)
end
mutual
/-- <, where Python has it -/
def D.lt : D → D → Option Bool
  | .int i, .int j => some (decide (i < j))
  | .str a, .str b => some (decide (a.cps.toList < b.cps.toList))
  | .tup xs, .tup ys => D.lts xs ys
  | _, _ => none
def D.lts : List D → List D → Option Bool
  | [], [] => some false
  | [], _ :: _ => some true
  | _ :: _, [] => some false
  | x :: xs, y :: ys => if x.eqv y then D.lts xs ys else x.lt y
end
def ltD (x y : D) : Option Bool :=
  match x, y with
  | .int i, .int j => some (decide (i < j))
  | .str a, .str b => some (decide (a.cps.toList < b.cps.toList))
  | x, y => if x.flat && y.flat && decide (x.depth ≤ 40) && decide (y.depth ≤ 40) then x.lt y else none
def seqOf (G : Hh) : D → Option (List D)
  | .tup xs => some xs
  | .ref a => match G.get a with | some (.lst xs) => some xs | some (.frz xs) => some xs | _ => none
  | _ => none
/-- == -/
def eqD (G : Hh) (x y : D) : Option Bool :=
  match x, y with
  | .ref a, .ref b =>
    match seqOf G (.ref a), seqOf G (.ref b) with
    | some xs, some ys => if D.flats xs && D.flats ys && decide (D.depths xs ≤ 40) && decide (D.depths ys ≤ 40) then some (D.eqvs xs ys) else none
    | _, _ => none
  | .ref a, y => match seqOf G (.ref a) with | some xs => if D.flats xs && y.flat && decide (D.depths xs ≤ 40) && decide (y.depth ≤ 40) then some false else none | none => none
  | x, .ref a => match seqOf G (.ref a) with | some xs => if D.flats xs && x.flat && decide (D.depths xs ≤ 40) && decide (x.depth ≤ 40) then some false else none | none => none
  | x, y => if x.flat && y.flat && decide (x.depth ≤ 40) && decide (y.depth ≤ 40) then some (x.eqv y) else none
/-- a dict's entry -/
def look (k : D) : List (D × D) → Option D
  | [] => none
  | (a, v) :: r => if a.eqv k then some v else look k r
def put (k v : D) : List (D × D) → List (D × D)
  | [] => [(k, v)]
  | (a, u) :: r => if a.eqv k then (a, v) :: r else (a, u) :: put k v r
def keyOk (k : D) : Bool := k.flat && decide (k.depth ≤ 7)
def memD (x : D) : List D → Bool
  | [] => false
  | y :: ys => y.eqv x || memD x ys
def sizeMax : Nat := 16777216
/-- a list's or tuple's place -/
def ixN (n : Nat) (i : Int) : Option Nat :=
  if 0 ≤ i then (if i < n then some i.toNat else none) else (if 0 ≤ i + n then some (i + n).toNat else none)
def truth (G : Hh) : D → Option Bool
  | .non => some false
  | .bl b => some b
  | .int i => some (i != 0)
  | .str s => if s.length ≤ sizeMax then some (s.length != 0) else none
  | .tup xs => some (!xs.isEmpty)
  | .ref a => match G.get a with
    | some (.lst xs) => some (!xs.isEmpty)
    | some (.frz xs) => some (!xs.isEmpty)
    | _ => none
  | .und => none
def mulOk (i j : Int) : Bool := (decide (-(2 ^ 64) < i) && decide (i < 2 ^ 64)) || (decide (-(2 ^ 64) < j) && decide (j < 2 ^ 64)) ||
  (decide (i.natAbs < 2 ^ 100000) && decide (j.natAbs < 2 ^ 100000))
def cutL (xs : List D) (lo hi : Option Int) : List D :=
  let a := match lo with | none => 0 | some v => if v < 0 then (v + (xs.length : Int)).toNat else min v.toNat xs.length
  let b := match hi with | none => xs.length | some v => if v < 0 then (v + (xs.length : Int)).toNat else min v.toNat xs.length
  (xs.drop a).take (b - a)

/-! ### the language -/
inductive Op where
  | add | sub | mul | fdiv | mod | pow | shl | xor
  | eq | ne | lt | le | gt | ge | isin | notin | idx
  deriving DecidableEq
inductive Ik where
  | seq | range | enum | items
  deriving DecidableEq
inductive Bf where
  | len | int | isInt | isBool | isStr | isTup | isLst | isDct | min2 | max2 | minL | sorted | tuple | list
  | append | extend | pop | index | get2 | update | dictP | all | any | str
  deriving DecidableEq
/-- a target of an assignment -/
inductive T where
  | nm (i : Nat) | nil | cons (a r : T) | tup (t : T)
inductive E where
  | bad
  | var (i : Nat)
  | con (d : D)
  | nil | cons (a r : E)
  | tup (a : E) | lst (a : E) | dnew
  | bin (o : Op) (a b : E)
  | chain (o o' : Op) (a b c : E)
  | isK (neg : Bool) (k : Option Bool) (a : E)
  | neg (a : E)
  | and (a b : E) | or (a b : E) | not (a : E)
  | ite (c a b : E)
  | call (f : Nat) (a : E)
  | bfn (f : Bf) (a : E)
  | meth (f : Bf) (o a : E)
  | slice (a : E) (hl : Bool) (lo : E) (hh : Bool) (hi : E)
  | comp (own : List Nat) (k : Ik) (src : E) (t : T) (hc : Bool) (c e : E)
  | comp2 (own own1 : List Nat) (k : Ik) (src : E) (t : T) (hc : Bool) (c : E) (k1 : Ik) (src1 : E) (t1 : T) (hc1 : Bool) (c1 e : E)
  | dcomp (own : List Nat) (k : Ik) (src : E) (t : T) (hc : Bool) (c ek ev : E)
inductive S where
  | bad | skip | seq (a b : S)
  | asg (t : T) (e : E)
  | par (i j : Nat) (a : E)
  | setix (o i e : E)
  | aug (i : Nat) (o : Op) (e : E)
  | expr (e : E) | ret (e : E)
  | ite (c : E) (a b : S)
  | for (k : Ik) (src : E) (t : T) (b : S)
  | whl (c : E) (b : S)
  | brk | cnt
structure Fn where
  np : Nat
  nl : Nat
  body : S

/-! ### what operators tell -/
def itemG (xs : List D) (i : Int) (G : Hh) : Res D :=
  match ixN xs.length i with
  | some k => (match xs[k]? with | some v => .ok v G | none => .bad)
  | none => .bad
def bin (o : Op) (x y : D) : M D := fun G =>
  match o with
  | .add => match x, y with
    | .int i, .int j => .ok (.int (i + j)) G
    | .str a, .str b => if a.length + b.length ≤ sizeMax then .ok (.str (a ++ b)) G else .bad
    | .tup xs, .tup ys => if xs.length + ys.length ≤ sizeMax then .ok (.tup (xs ++ ys)) G else .bad
    | .ref a, .ref b => match G.get a, G.get b with
      | some (.lst xs), some (.lst ys) => if xs.length + ys.length ≤ sizeMax then .ok (.ref G.n) (G.new (.lst (xs ++ ys))) else .bad
      | _, _ => .bad
    | _, _ => .bad
  | .sub => match x, y with | .int i, .int j => .ok (.int (i - j)) G | _, _ => .bad
  | .mul => match x, y with
    | .int i, .int j => if mulOk i j then .ok (.int (i * j)) G else .bad
    | .tup xs, .int j => if decide (0 ≤ j) && decide (j ≤ 1000) && decide (xs.length ≤ 1000) && !xs.isEmpty then .ok (.tup (List.replicate j.toNat xs).flatten) G else .bad
    | _, _ => .bad
  | .fdiv => match x, y with | .int i, .int j => if 0 < j ∧ j < 1073741824 then .ok (.int (i / j)) G else .bad | _, _ => .bad
  | .mod => match x, y with | .int i, .int j => if 0 < j then .ok (.int (i % j)) G else .bad | _, _ => .bad
  | .pow => match x, y with | .int i, .int j => if 0 ≤ j ∧ j ≤ 1000000 ∧ i.natAbs < 2 ^ 64 then .ok (.int (i ^ j.toNat)) G else .bad | _, _ => .bad
  | .shl => match x, y with | .int i, .int j => if 0 ≤ j ∧ j ≤ 1000000 ∧ i.natAbs < 2 ^ 64 then .ok (.int (i * 2 ^ j.toNat)) G else .bad | _, _ => .bad
  | .xor => .bad
  | .eq => match eqD G x y with | some b => .ok (.bl b) G | none => .bad
  | .ne => match eqD G x y with | some b => .ok (.bl !b) G | none => .bad
  | .lt => match ltD x y with | some b => .ok (.bl b) G | none => .bad
  | .gt => match ltD y x with | some b => .ok (.bl b) G | none => .bad
  | .le => match x, y with | .int i, .int j => .ok (.bl (decide (i ≤ j))) G | _, _ => .bad
  | .ge => match x, y with | .int i, .int j => .ok (.bl (decide (j ≤ i))) G | _, _ => .bad
  | .isin => match y with
    | .ref a => match G.get a with
      | some (.dct kvs) => if keyOk x then .ok (.bl (look x kvs).isSome) G else .bad
      | some (.lst xs) => if x.flat && D.flats xs && decide (x.depth ≤ 40) && decide (D.depths xs ≤ 40) then .ok (.bl (memD x xs)) G else .bad
      | _ => .bad
    | .tup xs => if x.flat && D.flats xs && decide (x.depth ≤ 40) && decide (D.depths xs ≤ 40) then .ok (.bl (memD x xs)) G else .bad
    | _ => .bad
  | .notin => match y with
    | .ref a => match G.get a with
      | some (.dct kvs) => if keyOk x then .ok (.bl (look x kvs).isNone) G else .bad
      | some (.lst xs) => if x.flat && D.flats xs && decide (x.depth ≤ 40) && decide (D.depths xs ≤ 40) then .ok (.bl !(memD x xs)) G else .bad
      | _ => .bad
    | .tup xs => if x.flat && D.flats xs && decide (x.depth ≤ 40) && decide (D.depths xs ≤ 40) then .ok (.bl !(memD x xs)) G else .bad
    | _ => .bad
  | .idx => match x with
    | .tup xs => match y with
      | .int i => itemG xs i G
      | _ => .bad
    | .ref a => match G.get a with
      | some (.dct kvs) => if keyOk y then (match look y kvs with | some v => .ok v G | none => .bad) else .bad
      | some (.lst xs) => match y with
        | .int i => itemG xs i G
        | _ => .bad
      | some (.frz xs) => match y with
        | .int i => itemG xs i G
        | _ => .bad
      | _ => .bad
    | _ => .bad

/-- triples of small numbers, in their order -/
def codeT (t : Int × Int × Int) : Int := t.1 * 4096 + t.2.1 * 64 + t.2.2
def small (i : Int) : Bool := decide (0 ≤ i) && decide (i < 64)
def tripD (t : Int × Int × Int) : D := .tup [.int t.1, .int t.2.1, .int t.2.2]
def tripsD : List D → Option (List (Int × Int × Int))
  | [] => some []
  | .tup [.int a, .int b, .int c] :: r => if small a && small b && small c then (tripsD r).map ((a, b, c) :: ·) else none
  | _ => none
def insT (x : Int × Int × Int) : List (Int × Int × Int) → List (Int × Int × Int)
  | [] => [x]
  | y :: ys => if codeT x < codeT y then x :: y :: ys else y :: insT x ys
def sortT : List (Int × Int × Int) → List (Int × Int × Int)
  | [] => []
  | x :: xs => insT x (sortT xs)
def intsD : List D → Option (List Int)
  | [] => some []
  | .int i :: r => (intsD r).map (i :: ·)
  | _ => none
def minI : Int → List Int → Int
  | m, [] => m
  | m, x :: xs => minI (if x < m then x else m) xs
def findD (x : D) : List D → Nat → Option Nat
  | [], _ => none
  | y :: ys, k => if y.eqv x then some k else findD x ys (k + 1)
def lenD (G : Hh) : D → Option Nat
  | .tup xs => some xs.length
  | .str s => if s.length ≤ sizeMax then some s.length else none
  | .ref a => match G.get a with
    | some (.lst xs) => some xs.length
    | some (.frz xs) => some xs.length
    | some (.dct kvs) => some kvs.length
    | _ => none
  | _ => none
/-- the kind of a value -/
def kindN (G : Hh) : D → Option Nat
  | .und => none
  | .non => some 0
  | .bl _ => some 1
  | .int _ => some 2
  | .str _ => some 3
  | .tup _ => some 4
  | .ref a => match G.get a with
    | some (.lst _) => some 5
    | some (.frz _) => some 5
    | some (.dct _) => some 6
    | _ => none
def putAll : List (D × D) → List (D × D) → List (D × D)
  | [], kvs => kvs
  | (k, v) :: r, kvs => putAll r (put k v kvs)
def pairsD : List D → Option (List (D × D))
  | [] => some []
  | .tup [k, v] :: r => (pairsD r).map ((k, v) :: ·)
  | _ => none
/-- all keys are texts, none stands twice -/
def distB : List (D × D) → Bool
  | [] => true
  | (.str z, _) :: r => (look (.str z) r).isNone && distB r
  | _ => false
def boolsD : List D → Option (List Bool)
  | [] => some []
  | .bl b :: r => (boolsD r).map (b :: ·)
  | _ => none
def isaN (f : Nat → Bool) (as : List D) (G : Hh) : Res D :=
  match as with
  | [d] => (match kindN G d with | some t => .ok (.bl (f t)) G | none => .bad)
  | _ => .bad
/-- built-in functions and methods (the receiver first) -/
def bfn (f : Bf) (as : List D) : M D := fun G =>
  match f with
  | .len => match as with | [x] => (match lenD G x with | some n => .ok (.int n) G | none => .bad) | _ => .bad
  | .int => match as with | [.int i] => .ok (.int i) G | [.bl b] => .ok (.int (b2i b)) G | _ => .bad
  | .isInt => isaN (fun t => t == 1 || t == 2) as G
  | .isBool => isaN (fun t => t == 1) as G
  | .isStr => isaN (fun t => t == 3) as G
  | .isTup => isaN (fun t => t == 4) as G
  | .isLst => isaN (fun t => t == 5) as G
  | .isDct => isaN (fun t => t == 6) as G
  | .min2 => match as with | [.int i, .int j] => .ok (.int (if j < i then j else i)) G | _ => .bad
  | .max2 => match as with | [.int i, .int j] => .ok (.int (if i < j then j else i)) G | _ => .bad
  | .minL => match as with
    | [.ref a] => (match seqOf G (.ref a) with
      | some xs => match intsD xs with | some (m :: r) => .ok (.int (minI m r)) G | _ => .bad
      | none => .bad)
    | _ => .bad
  | .sorted => match as with
    | [x] => (match seqOf G x with
      | some xs => (match tripsD xs with
        | some ts => if ts.length < 64 then .ok (.ref G.n) (G.new (.lst ((sortT ts).map tripD))) else .bad
        | none => .bad)
      | none => .bad)
    | _ => .bad
  | .tuple => match as with
    | [x] => (match seqOf G x with | some xs => .ok (.tup xs) G | none => .bad)
    | _ => .bad
  | .list => match as with
    | [x] => (match seqOf G x with | some xs => .ok (.ref G.n) (G.new (.lst xs)) | none => .bad)
    | _ => .bad
  | .append => match as with
    | [.ref a, x] => (match G.get a with | some (.lst xs) => if xs.length < sizeMax then .ok .non (G.set a (.lst (xs ++ [x]))) else .bad | _ => .bad)
    | _ => .bad
  | .extend => match as with
    | [.ref a, .ref b] => (match G.get a, G.get b with
      | some (.lst xs), some (.lst ys) => if xs.length + ys.length ≤ sizeMax then .ok .non (G.set a (.lst (xs ++ ys))) else .bad
      | _, _ => .bad)
    | _ => .bad
  | .pop => match as with
    | [.ref a] => (match G.get a with
      | some (.lst xs) => (match xs[xs.length - 1]? with | some y => .ok y (G.set a (.lst xs.dropLast)) | none => .bad)
      | _ => .bad)
    | _ => .bad
  | .index => match as with
    | [.ref a, x] => (match G.get a with
      | some (.lst xs) => if x.flat && D.flats xs && decide (x.depth ≤ 40) && decide (D.depths xs ≤ 40) then (match findD x xs 0 with | some k => .ok (.int k) G | none => .bad) else .bad
      | _ => .bad)
    | _ => .bad
  | .get2 => match as with
    | [.ref a, k, d] => (match G.get a with
      | some (.dct kvs) => if keyOk k then .ok ((look k kvs).getD d) G else .bad
      | _ => .bad)
    | _ => .bad
  | .update => match as with
    | [.ref a, .ref b] => (match G.get a, G.get b with
      | some (.dct _), some (.dct []) => .ok .non G
      | _, _ => .bad)
    | _ => .bad
  | .dictP => match as with
    | [x] => (match seqOf G x with
      | some xs => (match pairsD xs with
        | some kvs => if distB kvs && decide (kvs.length < sizeMax) then .ok (.ref G.n) (G.new (.dct kvs)) else .bad
        | none => .bad)
      | none => .bad)
    | _ => .bad
  | .all => match as with
    | [.ref a] => (match G.get a with
      | some (.lst xs) => (match boolsD xs with | some bs => .ok (.bl (bs.all id)) G | none => .bad)
      | _ => .bad)
    | _ => .bad
  | .any => match as with
    | [.ref a] => (match G.get a with
      | some (.lst xs) => (match boolsD xs with | some bs => .ok (.bl (bs.any id)) G | none => .bad)
      | _ => .bad)
    | _ => .bad
  | .str => match as with
    | [.int i] => if decide (0 ≤ i) && decide (i < 1000000) then .ok (.str (toString i)) G else .bad
    | _ => .bad

/-! ### targets, walks -/
def asgT : T → D → List D → Option (List D)
  | .nm i, d, σ => if i < σ.length then some (σ.set i d) else none
  | .nil, .tup [], σ => some σ
  | .cons a r, .tup (x :: xs), σ => match asgT a x σ with | some σ' => asgT r (.tup xs) σ' | none => none
  | .tup t, .tup xs, σ => asgT t (.tup xs) σ
  | _, _, _ => none
/-- what is walked: by the kind, from what its part tells -/
inductive Src where
  | items (xs : List D)
  | live (a : Nat) (n : Nat)
  | enumL (a : Nat) (n : Nat)
  | enumT (xs : List D)
  | rng (lo : Int) (step : Int) (n : Nat)
  | dict (a : Nat) (kvs : List (D × D))
def Src.n : Src → Nat
  | .items xs => xs.length
  | .live _ n => n
  | .enumL _ n => n
  | .enumT xs => xs.length
  | .rng _ _ n => n
  | .dict _ kvs => kvs.length
def rngN (i j c : Int) : Nat := if 0 < c then ((j - i + c - 1) / c).toNat else ((i - j + (-c) - 1) / (-c)).toNat
def smallI (i : Int) : Bool := decide (-(2 ^ 62) ≤ i) && decide (i < 2 ^ 62)
def srcOf (k : Ik) (x : D) (G : Hh) : Option Src :=
  match k with
  | .seq => match x with
    | .tup xs => some (.items xs)
    | .ref a => match G.get a with
      | some (.lst xs) => some (.live a xs.length)
      | some (.frz xs) => some (.live a xs.length)
      | some (.dct kvs) => some (.dict a kvs)
      | _ => none
    | _ => none
  | .range => match x with
    | .tup [.int j] => if smallI j then some (.rng 0 1 j.toNat) else none
    | .tup [.int i, .int j] => if smallI i && smallI j then some (.rng i 1 (j - i).toNat) else none
    | .tup [.int i, .int j, .int c] => if smallI i && smallI j && decide (c = -1) then some (.rng i (-1) (i - j).toNat) else none
    | _ => none
  | .enum => match x with
    | .tup [.tup xs] => some (.enumT xs)
    | .tup [.ref a] => match G.get a with
      | some (.lst xs) => some (.enumL a xs.length)
      | _ => none
    | _ => none
  | .items => none
/-- the i-th thing of a walk: none: the walk is not to be told; some none: its end -/
def Src.at (s : Src) (i : Nat) (G : Hh) : Option (Option D) :=
  match s with
  | .items xs => some xs[i]?
  | .live a n => match G.get a with
    | some (.lst xs) => if xs.length = n then some xs[i]? else none
    | some (.frz xs) => if xs.length = n then some xs[i]? else none
    | _ => none
  | .enumL a n => match G.get a with
    | some (.lst xs) => if xs.length = n then some (xs[i]?.map fun x => .tup [.int i, x]) else none
    | _ => none
  | .enumT xs => some (xs[i]?.map fun x => .tup [.int i, x])
  | .rng lo c n => if i < n then some (some (.int (lo + i * c))) else some none
  | .dict a kvs => match G.get a with
    | some (.dct k2) => if k2.length = kvs.length then some (kvs[i]?.map (·.1)) else none
    | _ => none

/-! ### the evaluator -/
inductive Fl where
  | nx | bk | ct | rt (d : D)
def wipeD (σ : List D) : List Nat → List D
  | [] => σ
  | v :: vs => (wipeD σ vs).set v .und
/-- a comprehension's turns: m left, at i -/
def compN {α : Type} (s : Src) (t : T) (σ : List D) (f : List D → α → M α) : Nat → Nat → α → M α
  | 0, i, acc => fun G => match s.at i G with | some none => .ok acc G | _ => .bad
  | m + 1, i, acc => fun G => match s.at i G with
    | some (some x) => match asgT t x σ with
      | some σ' => match f σ' acc G with
        | .ok acc' G' => compN s t σ f m (i + 1) acc' G'
        | .ex c as G' => .ex c as G'
        | .bad => .bad
      | none => .bad
    | _ => .bad
def forN (s : Src) (t : T) (f : List D → M (Fl × List D)) : Nat → Nat → List D → M (Fl × List D)
  | 0, i, σ => fun G => match s.at i G with | some none => .ok (.nx, σ) G | _ => .bad
  | m + 1, i, σ => fun G => match s.at i G with
    | some (some x) => match asgT t x σ with
      | some σ' => match f σ' G with
        | .ok (.nx, σ2) G' => forN s t f m (i + 1) σ2 G'
        | .ok (.ct, σ2) G' => forN s t f m (i + 1) σ2 G'
        | .ok (.bk, σ2) G' => .ok (.nx, σ2) G'
        | .ok (.rt d, σ2) G' => .ok (.rt d, σ2) G'
        | .ex c as G' => .ex c as G'
        | .bad => .bad
      | none => .bad
    | _ => .bad
def whileN (c : List D → M Bool) (f : List D → M (Fl × List D)) : Nat → List D → M (Fl × List D)
  | 0, _ => M.bad
  | m + 1, σ => fun G => match c σ G with
    | .ok true G1 => match f σ G1 with
      | .ok (.nx, σ2) G' => whileN c f m σ2 G'
      | .ok (.ct, σ2) G' => whileN c f m σ2 G'
      | .ok (.bk, σ2) G' => .ok (.nx, σ2) G'
      | .ok (.rt d, σ2) G' => .ok (.rt d, σ2) G'
      | .ex c as G' => .ex c as G'
      | .bad => .bad
    | .ok false G1 => .ok (.nx, σ) G1
    | .ex c as G' => .ex c as G'
    | .bad => .bad
def whileFuel : Nat := 1000000
/-- what a body may call -/
structure Cl where
  call : Nat → List D → M D
def unTup : D → M (List D)
  | .tup xs => M.pure xs
  | _ => M.bad
def optI (h : Bool) : D → M (Option Int)
  | .int i => if h then M.pure (some i) else M.pure none
  | _ => M.bad
def isStrD : D → Bool
  | .str _ => true
  | _ => false
def pushM (acc : List D) (y : D) : M (List D) := if acc.length < sizeMax then M.pure (acc ++ [y]) else M.bad
def mtKind : Bf → Nat
  | .get2 => 6
  | .update => 6
  | _ => 5
def mtK (f : Bf) (x : D) (G : Hh) : Option Unit := if kindN G x = some (mtKind f) then some () else none
def truthM (d : D) : M Bool := fun G => match truth G d with | some b => .ok b G | none => .bad
def isKD (neg : Bool) (k : Option Bool) (d : D) : M D :=
  match d with
  | .und => M.bad
  | .non => M.pure (.bl (xor neg (decide (k = none))))
  | .bl b => M.pure (.bl (xor neg (decide (k = some b))))
  | _ => M.pure (.bl neg)
def sliceD (x : D) (lo hi : Option Int) : M D := fun G =>
  match x with
  | .tup xs => .ok (.tup (cutL xs lo hi)) G
  | .ref a => match G.get a with
    | some (.lst xs) => .ok (.ref G.n) (G.new (.lst (cutL xs lo hi)))
    | _ => .bad
  | _ => .bad

def evE (C : Cl) : E → List D → M D
  | .bad, _ => M.bad
  | .var i, σ => fun G => match σ[i]? with | some .und => .bad | some d => .ok d G | none => .bad
  | .con d, _ => M.pure d
  | .nil, _ => M.pure (.tup [])
  | .cons a r, σ => M.bind (evE C a σ) fun x => M.bind (evE C r σ) fun y => M.bind (unTup y) fun xs => M.pure (.tup (x :: xs))
  | .tup a, σ => M.bind (evE C a σ) fun y => M.bind (unTup y) fun xs => if xs.length ≤ sizeMax then M.pure (.tup xs) else M.bad
  | .lst a, σ => M.bind (evE C a σ) fun y => M.bind (unTup y) fun xs => if xs.length ≤ sizeMax then alloc (.lst xs) else M.bad
  | .dnew, _ => alloc (.dct [])
  | .bin o a b, σ => M.bind (evE C a σ) fun x => M.bind (evE C b σ) fun y => bin o x y
  | .chain o o' a b c, σ => M.bind (evE C a σ) fun x => M.bind (evE C b σ) fun y => M.bind (bin o x y) fun z =>
      match z with
      | .bl true => M.bind (evE C c σ) fun u => bin o' y u
      | .bl false => M.pure (.bl false)
      | _ => M.bad
  | .isK n k a, σ => M.bind (evE C a σ) fun x => isKD n k x
  | .neg a, σ => M.bind (evE C a σ) fun x => match x with | .int i => M.pure (.int (-i)) | _ => M.bad
  | .and a b, σ => M.bind (evE C a σ) fun x => M.bind (truthM x) fun t => if t then evE C b σ else M.pure x
  | .or a b, σ => M.bind (evE C a σ) fun x => M.bind (truthM x) fun t => if t then M.pure x else evE C b σ
  | .not a, σ => M.bind (evE C a σ) fun x => M.bind (truthM x) fun t => M.pure (.bl !t)
  | .ite c a b, σ => M.bind (evE C c σ) fun x => M.bind (truthM x) fun t => if t then evE C a σ else evE C b σ
  | .call f a, σ => M.bind (evE C a σ) fun y => M.bind (unTup y) fun xs => C.call f xs
  | .bfn f a, σ => M.bind (evE C a σ) fun y => M.bind (unTup y) fun xs => bfn f xs
  | .slice a hl l hh h, σ => M.bind (evE C a σ) fun x => M.bind (evE C l σ) fun lo => M.bind (optI hl lo) fun lo => M.bind (evE C h σ) fun hi => M.bind (optI hh hi) fun hi => sliceD x lo hi
  | .meth f o a, σ => M.bind (evE C o σ) fun x => M.bind (rd (mtK f x)) fun _ => M.bind (evE C a σ) fun y => M.bind (unTup y) fun xs => bfn f (x :: xs)
  | .comp own k src t hc c e, σ => M.bind (evE C src σ) fun x => M.bind (rd (srcOf k x)) fun s =>
      M.bind (compN s t (wipeD σ own) (fun σ' acc =>
        M.bind (if hc then M.bind (evE C c σ') truthM else M.pure true) fun b => if b then M.bind (evE C e σ') fun y => pushM acc y else M.pure acc) s.n 0 []) fun ys => alloc (.lst ys)
  | .comp2 own own1 k src t hc c k1 src1 t1 hc1 c1 e, σ => M.bind (evE C src σ) fun x => M.bind (rd (srcOf k x)) fun s =>
      M.bind (compN s t (wipeD σ own) (fun σ' acc =>
        M.bind (if hc then M.bind (evE C c σ') truthM else M.pure true) fun b => if b then
          M.bind (evE C src1 σ') fun x1 => M.bind (rd (srcOf k1 x1)) fun s1 =>
            compN s1 t1 (wipeD σ' own1) (fun σ2 acc =>
              M.bind (if hc1 then M.bind (evE C c1 σ2) truthM else M.pure true) fun b1 => if b1 then M.bind (evE C e σ2) fun y => pushM acc y else M.pure acc) s1.n 0 acc
        else M.pure acc) s.n 0 []) fun ys => alloc (.lst ys)
  | .dcomp own k src t hc c ek ev, σ => M.bind (evE C src σ) fun x => M.bind (rd (srcOf k x)) fun s =>
      M.bind (compN s t (wipeD σ own) (fun σ' acc =>
        M.bind (if hc then M.bind (evE C c σ') truthM else M.pure true) fun b => if b then
          M.bind (evE C ek σ') fun u => M.bind (evE C ev σ') fun y => if isStrD u && (look u acc).isNone && decide (acc.length < sizeMax) then M.pure (acc ++ [(u, y)]) else M.bad
        else M.pure acc) s.n 0 []) fun kvs => alloc (.dct kvs)

def setIx (o i v : D) : M D := fun G =>
  match o with
  | .ref a => match G.get a with
    | some (.lst xs) => match i with
      | .int k => match ixN xs.length k with | some j => .ok .non (G.set a (.lst (xs.set j v))) | none => .bad
      | _ => .bad
    | some (.dct kvs) => if keyOk i && decide (kvs.length < sizeMax) then .ok .non (G.set a (.dct (put i v kvs))) else .bad
    | _ => .bad
  | _ => .bad

def evS (C : Cl) : S → List D → M (Fl × List D)
  | .bad, _ => M.bad
  | .par i j a, σ => M.bind (evE C a σ) fun y => M.bind (unTup y) fun xs => match xs with
    | [u, v] => if i < σ.length ∧ j < σ.length then M.pure (.nx, (σ.set i u).set j v) else M.bad
    | _ => M.bad
  | .skip, σ => M.pure (.nx, σ)
  | .seq a b, σ => M.bind (evS C a σ) fun r => match r with
    | (.nx, σ') => evS C b σ'
    | r => M.pure r
  | .asg t e, σ => M.bind (evE C e σ) fun x => M.bind (ofOpt (asgT t x σ)) fun σ' => M.pure (.nx, σ')
  | .setix o i e, σ => M.bind (evE C e σ) fun v => M.bind (evE C o σ) fun x => M.bind (evE C i σ) fun k => M.bind (setIx x k v) fun _ => M.pure (.nx, σ)
  | .aug i o e, σ => fun G => match σ[i]? with
    | some x => if i < σ.length then M.bind (evE C e σ) (fun y => M.bind (bin o x y) fun z => M.pure (Fl.nx, σ.set i z)) G else .bad
    | none => .bad
  | .expr e, σ => M.bind (evE C e σ) fun _ => M.pure (.nx, σ)
  | .ret e, σ => M.bind (evE C e σ) fun x => M.pure (.rt x, σ)
  | .ite c a b, σ => M.bind (evE C c σ) fun x => M.bind (truthM x) fun t => if t then evS C a σ else evS C b σ
  | .for k src t b, σ => M.bind (evE C src σ) fun x => M.bind (rd (srcOf k x)) fun s => forN s t (fun σ' => evS C b σ') s.n 0 σ
  | .whl c b, σ => whileN (fun σ' => M.bind (evE C c σ') truthM) (fun σ' => evS C b σ') whileFuel σ
  | .brk, σ => M.pure (.bk, σ)
  | .cnt, σ => M.pure (.ct, σ)

/-- a def's call, k levels deep at most -/
def runF (C : Cl) (F : Fn) (ds : List D) : M D := fun G =>
  if ds.length = F.np then
    match evS C F.body (ds ++ List.replicate (F.nl - F.np) .und) G with
    | .ok (.rt d, _) G' => .ok d G'
    | .ok (.nx, _) G' => .ok .non G'
    | .ok _ _ => .bad
    | .ex c as G' => .ex c as G'
    | .bad => .bad
  else .bad
def callN (P : List Fn) : Nat → Nat → List D → M D
  | 0, _, _ => M.bad
  | k + 1, f, ds => match P[f]? with
    | some F => runF ⟨callN P k⟩ F ds
    | none => M.bad
end Ev

/-! EvC: from the text's syntax to the small language. What is not told becomes bad. -/
namespace Ev
open PySem PySem.Spec PyProof.Rows L2

/-- what is compiled against: the slots' names, the defs by name, the module's plain names, the module's tables by name and key -/
structure Tab where
  N : List Str
  fs : List (Str × Nat)
  ks : List (Str × D)
  kd : List ((Str × Str) × D)

def idxS (x : Str) : List Str → Nat → Option Nat
  | [], _ => none
  | y :: ys, k => if y = x then some k else idxS x ys (k + 1)
def opOf : Operator → Option Op
  | .Add => some .add | .Sub => some .sub | .Mult => some .mul | .FloorDiv => some .fdiv | .Mod => some .mod | .Pow => some .pow | .LShift => some .shl
  | _ => none
def cmpOf : CmpOp → Option Op
  | .Eq => some .eq | .NotEq => some .ne | .Lt => some .lt | .LtE => some .le | .Gt => some .gt | .GtE => some .ge | .In => some .isin | .NotIn => some .notin
  | _ => none
/-- a slot's name that is to be seen -/
def varOf (N : List Str) (sc : Scope) (x : Str) : Option Nat :=
  if x = ("__debug__" : Str) ∨ x = ("__classdict__" : Str) then none else
  match sc.names.lookup x with
  | some .local => idxS x N 0
  | some .cell => idxS x N 0
  | some .free => idxS x N 0
  | _ => none
def isGl (sc : Scope) (x : Str) : Bool := decide (sc.names.lookup x = some .globalImplicit)
def kOf : Expr → Option (Option Bool)
  | .Constant .none _ _ => some none
  | .Constant (.bool b) _ _ => some (some b)
  | _ => none
def bfTab : List ((Str × Nat) × Bf) := [((Str.ofString "len", 1), .len), ((Str.ofString "int", 1), .int), ((Str.ofString "min", 2), .min2), ((Str.ofString "max", 2), .max2), ((Str.ofString "min", 1), .minL), ((Str.ofString "tuple", 1), .tuple), ((Str.ofString "list", 1), .list), ((Str.ofString "dict", 1), .dictP), ((Str.ofString "all", 1), .all), ((Str.ofString "any", 1), .any), ((Str.ofString "str", 1), .str), ((Str.ofString "sorted", 1), .sorted)]
def bfOf (f : Str) (n : Nat) : Option Bf := bfTab.lookup (f, n)
def isaOf (T : Str) : Option Bf :=
  if T = ("int" : Str) then some .isInt else
  if T = ("bool" : Str) then some .isBool else
  if T = ("str" : Str) then some .isStr else
  if T = ("tuple" : Str) then some .isTup else
  if T = ("list" : Str) then some .isLst else
  if T = ("dict" : Str) then some .isDct else none
def mtOf (m : Str) (n : Nat) : Option Bf :=
  if m = ("append" : Str) ∧ n = 1 then some .append else
  if m = ("extend" : Str) ∧ n = 1 then some .extend else
  if m = ("pop" : Str) ∧ n = 0 then some .pop else
  if m = ("index" : Str) ∧ n = 1 then some .index else
  if m = ("get" : Str) ∧ n = 2 then some .get2 else
  if m = ("update" : Str) ∧ n = 1 then some .update else none
def isComp : Expr → Bool
  | .ListComp .. => true | .SetComp .. => true | .DictComp .. => true | _ => false
def isStar : Expr → Bool
  | .Starred .. => true | _ => false
def isSetE : Expr → Bool
  | .Set .. => true | _ => false
def isCall0 : Expr → Bool
  | .Call (.Name _ _) [] [] _ => true | _ => false
def isSl : Expr → Bool
  | .Slice .. => true | _ => false
def ownOf (N : List Str) (sc : Scope) : List (Str × Nat) :=
  sc.names.filterMap fun y => match y.2 with
    | .local => (idxS y.1 N 0).map fun i => (y.1, i)
    | .cell => (idxS y.1 N 0).map fun i => (y.1, i)
    | _ => none
/-- a name that may be stored in a block whose own scope is sc -/
def stoOf (N : List Str) (sc : Scope) (x : Str) : Option Nat :=
  match sc.names.lookup x with
  | some .local => idxS x N 0
  | some .cell => idxS x N 0
  | _ => none
/-- the slots of a target -/
def T.slots : T → List Nat
  | .nm i => [i]
  | .nil => []
  | .cons a r => a.slots ++ r.slots
  | .tup t => t.slots
def T.within (t : T) (l : List Nat) : Bool := t.slots.all fun i => l.contains i
mutual
def cE' (T : Tab) (sc : Scope) : Nat → Expr → Option E
  | 0, _ => none
  | f + 1, e =>
    match e with
    | .Constant .none _ _ => some (.con .non)
    | .Constant (.bool b) _ _ => some (.con (.bl b))
    | .Constant (.int i) _ _ => some (.con (.int i))
    | .Constant (.str s) _ _ => some (.con (.str s))
    | .Name x _ => match varOf T.N sc x with
      | some i => some (.var i)
      | none => if isGl sc x ∧ x ≠ ("__debug__" : Str) then (T.ks.lookup x).map .con else none
    | .BinOp a o b _ => do return .bin (← opOf o) ((cE' T sc f a).getD .bad) ((cE' T sc f b).getD .bad)
    | .UnaryOp .Not a _ => some (.not ((cE' T sc f a).getD .bad))
    | .UnaryOp .USub a _ => some (.neg ((cE' T sc f a).getD .bad))
    | .BoolOp o es _ => cB T sc f o es
    | .Compare a [o] [b] _ =>
      match o, kOf b with
      | .Is, some k => some (.isK false k ((cE' T sc f a).getD .bad))
      | .IsNot, some k => some (.isK true k ((cE' T sc f a).getD .bad))
      | o, _ => if isSetE b then none else do return .bin (← cmpOf o) ((cE' T sc f a).getD .bad) ((cE' T sc f b).getD .bad)
    | .Compare a [o, o'] [b, c] _ => if isSetE c then none else do return .chain (← cmpOf o) (← cmpOf o') ((cE' T sc f a).getD .bad) ((cE' T sc f b).getD .bad) ((cE' T sc f c).getD .bad)
    | .IfExp c a b _ => some (.ite ((cE' T sc f c).getD .bad) ((cE' T sc f a).getD .bad) ((cE' T sc f b).getD .bad))
    | .Call (.Name g _) as [] _ =>
      if isGl sc g ∧ g ≠ ("__debug__" : Str) ∧ g ≠ ("__name__" : Str) then
        match T.fs.lookup g with
        | some i => do return .call i (← cA T sc f as)
        | none =>
          if g = ("isinstance" : Str) then
            match as with
            | [a, .Name t _] => if isGl sc t ∧ isStar a = false then do return .bfn (← isaOf t) (.cons ((cE' T sc f a).getD .bad) .nil) else none
            | _ => none
          else do return .bfn (← bfOf g as.length) (← cA T sc f as)
      else none
    | .Call (.Attribute o m apos) as [] cpos =>
      if apos.endLine = cpos.line ∧ isCall0 o = false then do return .meth (← mtOf m as.length) ((cE' T sc f o).getD .bad) (← cA T sc f as) else none
    | .Subscript (.Name g p) (.Constant (.str k) j p') q =>
      match T.kd.lookup (g, k) with
      | some d => if isGl sc g then some (.con d) else none
      | none => some (.bin .idx ((cE' T sc f (.Name g p)).getD .bad) (.con (.str k)))
    | .Subscript a (.Slice lo hi none _) _ => some (.slice ((cE' T sc f a).getD .bad) lo.isSome (cO T sc f lo) hi.isSome (cO T sc f hi))
    | .Subscript a i _ => if isSl i then none else some (.bin .idx ((cE' T sc f a).getD .bad) ((cE' T sc f i).getD .bad))
    | .Tuple es _ _ => do return .tup (← cA T sc f es)
    | .List es _ => do return .lst (← cA T sc f es)
    | .Dict [] [] _ => some .dnew
    | .ListComp elt [⟨tg, it, ifs, 0⟩] so _ =>
      if blkC T.N sc so (ownOf T.N so) ∧ isSetE it = false then do
        let s := cI T sc f tg it
        let t ← cT T so f tg
        let sc' := relS so sc
        if t.within ((ownOf T.N so).map (·.2)) then do
          let c ← cIfs T sc' f ifs
          return .comp ((ownOf T.N so).map (·.2)) s.1 s.2 t c.1 c.2 ((cE' T sc' f elt).getD .bad)
        else none
      else none
    | .ListComp elt [⟨tg, it, ifs, 0⟩, ⟨tg1, it1, ifs1, 0⟩] so _ =>
      if blkC T.N sc so (ownOf T.N so) ∧ isSetE it = false ∧ isSetE it1 = false then do
        let s := cI T sc f tg it
        let t ← cT T so f tg
        let sc' := relS so sc
        let s1 := cI T sc' f tg1 it1
        let t1 ← cT T so f tg1
        if t.within ((ownOf T.N so).map (·.2)) ∧ (t1.slots.all fun i => ((ownOf T.N so).map (·.2)).contains i) = true then do
          let c ← cIfs T sc' f ifs
          let c1 ← cIfs T sc' f ifs1
          return .comp2 ((ownOf T.N so).map (·.2)) t1.slots s.1 s.2 t c.1 c.2 s1.1 s1.2 t1 c1.1 c1.2 ((cE' T sc' f elt).getD .bad)
        else none
      else none
    | _ => none
def cA (T : Tab) (sc : Scope) : Nat → List Expr → Option E
  | 0, _ => none
  | f + 1, [] => some .nil
  | f + 1, e :: es => if isStar e then none else do return .cons ((cE' T sc f e).getD .bad) (← cA T sc f es)
def cB (T : Tab) (sc : Scope) : Nat → BoolOp → List Expr → Option E
  | 0, _, _ => none
  | f + 1, _, [] => none
  | f + 1, _, [e] => some ((cE' T sc f e).getD .bad)
  | f + 1, .And, e :: es => do return .and ((cE' T sc f e).getD .bad) (← cB T sc f .And es)
  | f + 1, .Or, e :: es => do return .or ((cE' T sc f e).getD .bad) (← cB T sc f .Or es)
def cO (T : Tab) (sc : Scope) : Nat → Option Expr → E
  | 0, _ => .bad
  | f + 1, none => .con (.int 0)
  | f + 1, some e => (cE' T sc f e).getD .bad
def cIfs (T : Tab) (sc : Scope) : Nat → List Expr → Option (Bool × E)
  | 0, _ => none
  | f + 1, [] => some (false, .bad)
  | f + 1, [c] => some (true, (cE' T sc f c).getD .bad)
  | f + 1, _ => none
/-- what a for walks -/
def cI (T : Tab) (sc : Scope) : Nat → Expr → Expr → Ik × E
  | 0, _, _ => (.seq, .bad)
  | f + 1, tg, e =>
    match e with
    | .Call (.Name g p) as [] q =>
      if g = ("range" : Str) then
        if isGl sc g ∧ T.fs.lookup g = none then (.range, (cA T sc f as).getD .bad) else (.seq, .bad)
      else if g = ("enumerate" : Str) then
        match tg with
        | .Tuple _ _ _ => if isGl sc g ∧ T.fs.lookup g = none then (.enum, (cA T sc f as).getD .bad) else (.seq, .bad)
        | _ => (.seq, .bad)
      else (.seq, (cE' T sc f (.Call (.Name g p) as [] q)).getD .bad)
    | e => (.seq, (cE' T sc f e).getD .bad)
def cT (T : Tab) (so : Scope) : Nat → Expr → Option Ev.T
  | 0, _ => none
  | f + 1, .Name x _ => (stoOf T.N so x).map .nm
  | f + 1, .Tuple es _ _ => do return .tup (← cTs T so f es)
  | _, _ => none
def cTs (T : Tab) (so : Scope) : Nat → List Expr → Option Ev.T
  | 0, _ => none
  | f + 1, [] => some .nil
  | f + 1, e :: es => if isStar e then none else do return .cons (← cT T so f e) (← cTs T so f es)
end
def cE (T : Tab) (sc : Scope) (f : Nat) (e : Expr) : E := (cE' T sc f e).getD .bad
mutual
def cS' (T : Tab) (sc : Scope) : Nat → Stmt → Option S
  | 0, _ => none
  | f + 1, s =>
    match s with
    | .Expr e _ => if isComp e then none else some (.expr (cE T sc f e))
    | .Pass _ => some .skip
    | .Break _ => some .brk
    | .Continue _ => some .cnt
    | .Return (some e) _ => some (.ret (cE T sc f e))
    | .Return none _ => some (.ret (.con .non))
    | .Assign [.Name x p] (.ListComp elt gs so q) _ => do return .asg (.nm (← stoOf T.N sc x)) (cE T sc f (.ListComp elt gs so q))
    | .Assign [.Name x p] (.DictComp kx vx [⟨tg, it, ifs, 0⟩] so q) _ =>
      if p.line = q.line ∧ sc.names.lookup x = some .local ∧ (so.names.any fun y => y.1 == x && (y.2 == .local || y.2 == .cell)) = false ∧ blkC T.N sc so (ownOf T.N so) ∧ isSetE it = false then do
        let s := cI T sc f tg it
        let t ← cT T so f tg
        let sc' := relS so sc
        let i ← stoOf T.N sc x
        if t.within ((ownOf T.N so).map (·.2)) then do
          let c ← cIfs T sc' f ifs
          return .asg (.nm i) (.dcomp ((ownOf T.N so).map (·.2)) s.1 s.2 t c.1 c.2 (cE T sc' f kx) (cE T sc' f vx))
        else none
      else none
    | .Assign [.Name x p] e _ => if isComp e then none else do return .asg (.nm (← stoOf T.N sc x)) (cE T sc f e)
    | .Assign [.Tuple [.Name x px, .Name y py] kt pt] (.Tuple [a, b] k2 pt2) _ =>
      if [a, b].all (foldedForSure 8) = true then do return .asg (← cT T sc f (.Tuple [.Name x px, .Name y py] kt pt)) (cE T sc f (.Tuple [a, b] k2 pt2)) else
      if sc.names.lookup x = some .local ∧ sc.names.lookup y = some .local ∧ px.line = py.line ∧ x ≠ y ∧ isStar a = false ∧ isStar b = false ∧ [a, b].all (foldedForSure 8) = false ∧ [a, b].all (constantsAlone 8) = false then do
        return .par (← stoOf T.N sc x) (← stoOf T.N sc y) (← cA T sc f [a, b])
      else none
    | .Assign [.Tuple es k p] e _ => match e with
      | .Tuple .. => none
      | e => if isComp e then none else do return .asg (← cT T sc f (.Tuple es k p)) (cE T sc f e)
    | .Assign [.Subscript o i _] e _ => if isComp e = true ∨ isSl i = true then none else some (.setix (cE T sc f o) (cE T sc f i) (cE T sc f e))
    | .If c a b _ => some (.ite (cE T sc f c) (cSs T sc f a) (cSs T sc f b))
    | .While c a [] _ => some (.whl (cE T sc f c) (cSs T sc f a))
    | .For t it a [] _ => if isSetE it then none else do
      let s := cI T sc f t it
      return .for s.1 s.2 (← cT T sc f t) (cSs T sc f a)
    | _ => none
def cSs (T : Tab) (sc : Scope) : Nat → List Stmt → S
  | 0, _ => .bad
  | f + 1, [] => .skip
  | f + 1, [s] => (cS' T sc f s).getD .bad
  | f + 1, s :: ss => .seq ((cS' T sc f s).getD .bad) (cSs T sc f ss)
end
def cS (T : Tab) (sc : Scope) (f : Nat) (s : Stmt) : S := (cS' T sc f s).getD .bad
end Ev

/-! EvH: laws of the heap. -/
namespace Ev
open PySem

theorem bitsF_inj : ∀ (f g a b : Nat), a ≤ f → b ≤ g → bitsF f a = bitsF g b → a = b
  | 0, g, a, b, ha, hb, h => by
    have ha0 : a = 0 := by omega
    subst ha0
    cases g with
    | zero => omega
    | succ g =>
      unfold bitsF at h
      by_cases hb0 : b = 0
      · exact hb0.symm
      · rw [if_neg hb0] at h; cases h
  | f + 1, g, a, b, ha, hb, h => by
    by_cases ha0 : a = 0
    · subst ha0
      cases g with
      | zero => omega
      | succ g =>
        unfold bitsF at h
        rw [if_pos rfl] at h
        by_cases hb0 : b = 0
        · exact hb0.symm
        · rw [if_neg hb0] at h; cases h
    · cases g with
      | zero =>
        unfold bitsF at h
        rw [if_neg ha0] at h; cases h
      | succ g =>
        unfold bitsF at h
        rw [if_neg ha0] at h
        by_cases hb0 : b = 0
        · rw [if_pos hb0] at h; cases h
        · rw [if_neg hb0] at h
          injection h with h1 h2
          have e := bitsF_inj f g (a / 2) (b / 2) (by omega) (by omega) h2
          have h3 : (a % 2 == 1) = (b % 2 == 1) := h1
          have h4 : a % 2 = b % 2 := by
            have ca : a % 2 = 0 ∨ a % 2 = 1 := by omega
            have cb : b % 2 = 0 ∨ b % 2 = 1 := by omega
            rcases ca with ca | ca <;> rcases cb with cb | cb <;> simp [ca, cb] at h3 ⊢
          omega
theorem bits_inj {a b : Nat} (h : bits a = bits b) : a = b := bitsF_inj a b a b (Nat.le_refl _) (Nat.le_refl _) h

theorem Tr.get_lf : ∀ bs, Tr.get .lf bs = none
  | [] => rfl
  | _ :: _ => rfl
theorem Tr.get_set_self (o : O) : ∀ (t : Tr) (bs : List Bool), (t.set o bs).get bs = some o
  | .lf, [] => rfl
  | .nd _ _ _, [] => rfl
  | .lf, b :: bs => by
    unfold Tr.set
    cases b with
    | true => rw [if_pos rfl]; unfold Tr.get; rw [if_pos rfl]; exact Tr.get_set_self o .lf bs
    | false => rw [if_neg Bool.false_ne_true]; unfold Tr.get; rw [if_neg Bool.false_ne_true]; exact Tr.get_set_self o .lf bs
  | .nd u l r, b :: bs => by
    unfold Tr.set
    cases b with
    | true => rw [if_pos rfl]; unfold Tr.get; rw [if_pos rfl]; exact Tr.get_set_self o l bs
    | false => rw [if_neg Bool.false_ne_true]; unfold Tr.get; rw [if_neg Bool.false_ne_true]; exact Tr.get_set_self o r bs
theorem Tr.get_set_ne (o : O) : ∀ (t : Tr) (bs cs : List Bool), bs ≠ cs → (t.set o bs).get cs = t.get cs
  | .lf, [], [], h => absurd rfl h
  | .nd _ _ _, [], [], h => absurd rfl h
  | .lf, [], c :: cs, _ => by
    show (if c = true then Tr.get .lf cs else Tr.get .lf cs) = none
    split <;> exact Tr.get_lf _
  | .nd _ _ _, [], _ :: _, _ => rfl
  | .lf, b :: bs, [], _ => by
    unfold Tr.set
    cases b <;> rfl
  | .nd _ _ _, b :: bs, [], _ => by
    unfold Tr.set
    cases b <;> rfl
  | .lf, b :: bs, c :: cs, h => by
    have hne : b = c → bs ≠ cs := fun e z => h (by rw [e, z])
    unfold Tr.set
    cases b <;> cases c
    · simp only [Bool.false_eq_true, if_false, Tr.get]
      rw [Tr.get_set_ne o .lf bs cs (hne rfl), Tr.get_lf]
    · simp [Tr.get, Tr.get_lf]
    · simp [Tr.get, Tr.get_lf]
    · simp only [if_true, Tr.get]
      rw [Tr.get_set_ne o .lf bs cs (hne rfl), Tr.get_lf]
  | .nd u l r, b :: bs, c :: cs, h => by
    have hne : b = c → bs ≠ cs := fun e z => h (by rw [e, z])
    unfold Tr.set
    cases b <;> cases c
    · simp only [Bool.false_eq_true, if_false, Tr.get]
      exact Tr.get_set_ne o r bs cs (hne rfl)
    · simp [Tr.get]
    · simp [Tr.get]
    · simp only [if_true, Tr.get]
      exact Tr.get_set_ne o l bs cs (hne rfl)

theorem Hh.get_lt {G : Hh} {a : Nat} {o : O} (h : G.get a = some o) : a < G.n := by
  unfold Hh.get at h
  split at h
  · assumption
  · cases h
theorem Hh.get_ge {G : Hh} {a : Nat} (h : G.n ≤ a) : G.get a = none := by
  unfold Hh.get
  rw [if_neg (by omega)]
@[simp] theorem Hh.n_set (G : Hh) (a : Nat) (o : O) : (G.set a o).n = G.n := rfl
@[simp] theorem Hh.n_new (G : Hh) (o : O) : (G.new o).n = G.n + 1 := rfl
theorem Hh.get_set_self {G : Hh} {a : Nat} (o : O) (h : a < G.n) : (G.set a o).get a = some o := by
  unfold Hh.get Hh.set
  simp only
  rw [if_pos h]
  exact Tr.get_set_self o _ _
theorem Hh.get_set_ne {G : Hh} {a b : Nat} (o : O) (h : b ≠ a) : (G.set a o).get b = G.get b := by
  unfold Hh.get Hh.set
  simp only
  rw [Tr.get_set_ne o _ _ _ (fun e => h (bits_inj e).symm)]
theorem Hh.get_new_self {G : Hh} (o : O) : (G.new o).get G.n = some o := by
  unfold Hh.get Hh.new
  simp only
  rw [if_pos (Nat.lt_succ_self _)]
  exact Tr.get_set_self o _ _
theorem Hh.get_new_lt {G : Hh} {a : Nat} (o : O) (h : a < G.n) : (G.new o).get a = G.get a := by
  unfold Hh.get Hh.new
  simp only
  rw [if_pos (by omega), if_pos h, Tr.get_set_ne o _ _ _ (fun e => by have := bits_inj e; omega)]
theorem Hh.get_new_of {G : Hh} {a : Nat} {u : O} (o : O) (h : G.get a = some u) : (G.new o).get a = some u := by
  rw [Hh.get_new_lt o (Hh.get_lt h)]; exact h
theorem Hh.get_new {G : Hh} {a : Nat} {o u : O} (h : (G.new o).get a = some u) : (a < G.n ∧ G.get a = some u) ∨ (a = G.n ∧ u = o) := by
  have hl : a < G.n + 1 := Hh.get_lt h
  by_cases e : a = G.n
  · subst e
    rw [Hh.get_new_self] at h
    exact .inr ⟨rfl, (Option.some.inj h).symm⟩
  · have hl' : a < G.n := by omega
    rw [Hh.get_new_lt o hl'] at h
    exact .inl ⟨hl', h⟩
theorem Hh.get_set {G : Hh} {a b : Nat} {o u : O} (h : (G.set a o).get b = some u) : (b ≠ a ∧ G.get b = some u) ∨ (b = a ∧ u = o) := by
  by_cases e : b = a
  · subst e
    have hl : b < G.n := (Hh.get_lt h : b < (G.set b o).n)
    rw [Hh.get_set_self o hl] at h
    exact .inr ⟨rfl, (Option.some.inj h).symm⟩
  · rw [Hh.get_set_ne o e] at h
    exact .inl ⟨e, h⟩
end Ev

/-! EvR: how the evaluator's values and heap stand in the machine's. -/
namespace Ev
open PySem PySem.Spec
open PyProof.Rows hiding St
open L2

abbrev Rho := Nat → Addr
theorem sizeMax_eq : sizeMax = sizeLine := by rfl

/-- a tuple's object, without a dict of its own -/
def SqN (K : PySem.W.Frag) (H : Hp) (a : Addr) (vs : List V) : Prop := SqT K H a vs ∧ ((∃ o, H a = some (.frz o (.tup vs)) ∧ o.dict = none) ∨ ∃ o, K.lookup a = some o ∧ o.dict = none)
theorem SqN.new {K : PySem.W.Frag} {H : Hp} {p : Addr} {o : Obj} {vs : List V} (h : o.dict = none) : SqN K (upd H p (.frz o (.tup vs))) p vs := ⟨.inl (.inr ⟨o, upd_same⟩), .inl ⟨o, upd_same, h⟩⟩
section
variable (K : PySem.W.Frag) (ρ : Rho) (n : Nat) (H : Hp)
mutual
/-- d stands as the machine's value v -/
def RV : D → V → Prop
  | .und, _ => False
  | .non, v => v = .non
  | .bl b, v => v = .bl b
  | .int i, v => v = .int i
  | .str s, v => v = .str s
  | .ref a, v => a < n ∧ v = .ref (ρ a)
  | .tup xs, v => ∃ a vs, v = .ref a ∧ SqN K H a vs ∧ RVs xs vs
def RVs : List D → List V → Prop
  | [], vs => vs = []
  | x :: xs, vs => ∃ v r, vs = v :: r ∧ RV x v ∧ RVs xs r
end
end

/-- the tokens of a dict's entries do not matter -/
def dictP (a : Addr) (ep : Nat) (es : List (Int × V × V)) : Heap → Prop := fun h => es.length ≤ sizeLine ∧ (a == sysModules) = false ∧
  (∃ (o : Obj) (ds : List DictEntry), h.get? a = some o ∧ o.ExactDict ∧ o.data = .dict ds.toArray ep ∧ Paired (fun (e : Int × V × V) (d : DictEntry) => d.hash = e.1 ∧ RelV e.2.1 d.key ∧ RelV e.2.2 d.val) es ds)

/-- the hash of a key -/
def hashB (b : Bool) : Int := hashInt (b2i b)
mutual
def hashD (w : World) : D → Int
  | .non => 0xFCA86420
  | .bl b => hashB b
  | .int i => hashInt i
  | .str s => hashStr w s
  | .tup xs => reduceHash (Builtin.Tuple.tupleHashOf (hashDs w xs))
  | .ref _ => 0
  | .und => 0
def hashDs (w : World) : List D → List Int
  | [] => []
  | x :: xs => hashD w x :: hashDs w xs
end

section
variable (K : PySem.W.Frag) (w : World) (ρ : Rho) (n : Nat) (H : Hp)
/-- a dict's entries -/
def RK : List (D × D) → List (Int × V × V) → Prop := Paired fun (p : D × D) (e : Int × V × V) => p.1.flat = true ∧ p.1.depth ≤ 7 ∧ e.1 = hashD w p.1 ∧ RV K ρ n H p.1 e.2.1 ∧ RV K ρ n H p.2 e.2.2
/-- no key stands twice -/
def distinctK : List (D × D) → Prop
  | [] => True
  | (k, _) :: r => look k r = none ∧ distinctK r
/-- an object at i -/
def RO (i : Nat) : O → Prop
  | .lst xs => ∃ vs, H (ρ i) = some (.lst vs) ∧ RVs K ρ n H xs vs
  | .frz xs => ∃ vs, ((∃ o, H (ρ i) = some (.frz o (.lst vs))) ∨ ∀ H', SqL K H' (ρ i) vs) ∧ RVs K ρ n H xs vs
  | .dct kvs => ∃ ep es, H (ρ i) = some (.ext (dictP (ρ i) ep es)) ∧ RK K w ρ n H kvs es ∧ distinctK kvs ∧ ∃ h, dictP (ρ i) ep es h
  | .ins _ _ => False
end
def O.isMut : O → Bool
  | .frz _ => false
  | _ => true
def mutAt (G : Hh) (i : Nat) : Prop := ∃ o, G.get i = some o ∧ o.isMut = true
/-- the evaluator's heap stands in the machine's -/
structure Rel (K : PySem.W.Frag) (w : World) (ρ : Rho) (G : Hh) (H : Hp) : Prop where
  ob : ∀ i o, G.get i = some o → RO K w ρ G.n H i o
  inj : ∀ i j, mutAt G i → mutAt G j → ρ i = ρ j → i = j
/-- a dict of as many keys as before has the same ones, and they may be walked on -/
def DStay (ρ : Rho) (H : Hp) (ρ' : Rho) (H' : Hp) (i : Nat) (kvs kvs' : List (D × D)) : Prop :=
  kvs.length ≤ kvs'.length ∧ (kvs'.length = kvs.length → ∀ ep es, H (ρ i) = some (.ext (dictP (ρ i) ep es)) → ∃ es', H' (ρ' i) = some (.ext (dictP (ρ' i) ep es')) ∧ es'.map (·.2.1) = es.map (·.2.1))
/-- one goes on to the other: nothing but what the evaluator has written is other -/
structure Stp (ρ : Rho) (G : Hh) (H : Hp) (ρ' : Rho) (G' : Hh) (H' : Hp) : Prop where
  le : G.n ≤ G'.n
  same : ∀ i, i < G.n → ρ' i = ρ i
  keep : ∀ b o, H b = some o → (∀ i, mutAt G i → ρ i ≠ b) → H' b = some o
  mutk : ∀ i, i < G.n → mutAt G' i → mutAt G i
  new : ∀ i, G.n ≤ i → mutAt G' i → H (ρ' i) = none
  dom : ∀ b, H' b = none → H b = none
  dk : ∀ i kvs, G.get i = some (.dct kvs) → ∃ kvs', G'.get i = some (.dct kvs') ∧ DStay ρ H ρ' H' i kvs kvs'
/-- the slots -/
def RS (K : PySem.W.Frag) (ρ : Rho) (n : Nat) (H : Hp) (σd : List D) (σ : St) : Prop :=
  σ.length = σd.length ∧ ∀ (i : Nat) (d : D), σd[i]? = some d → d ≠ .und → ∃ v, σ[i]? = some (some v) ∧ RV K ρ n H d v

section
variable {K : PySem.W.Frag} {w : World} {ρ ρ' ρ'' : Rho} {G G' G'' : Hh} {H H' H'' : Hp}
theorem mutAt.lt {i : Nat} (h : mutAt G i) : i < G.n := let ⟨_, e, _⟩ := h; Hh.get_lt e
theorem Stp.refl (ρ : Rho) (G : Hh) (H : Hp) : Stp ρ G H ρ G H :=
  ⟨Nat.le_refl _, fun _ _ => rfl, fun _ _ e _ => e, fun _ _ m => m, fun i h m => absurd m.lt (by omega), fun _ h => h, fun i kvs e => ⟨kvs, e, Nat.le_refl _, fun _ ep es h => ⟨es, h, rfl⟩⟩⟩
theorem Stp.trans (a : Stp ρ G H ρ' G' H') (b : Stp ρ' G' H' ρ'' G'' H'') : Stp ρ G H ρ'' G'' H'' where
  le := Nat.le_trans a.le b.le
  same := fun i h => (b.same i (Nat.lt_of_lt_of_le h a.le)).trans (a.same i h)
  keep := fun c o e n => b.keep c o (a.keep c o e n) fun i m => by
    by_cases hi : i < G.n
    · rw [a.same i hi]; exact n i (a.mutk i hi m)
    · intro z
      have := a.new i (by omega) m
      rw [z, e] at this; cases this
  mutk := fun i h m => a.mutk i h (b.mutk i (Nat.lt_of_lt_of_le h a.le) m)
  new := fun i h m => by
    by_cases hi : i < G'.n
    · rw [b.same i hi]; exact a.new i h (b.mutk i hi m)
    · exact a.dom _ (b.new i (by omega) m)
  dom := fun c h => a.dom c (b.dom c h)
  dk := fun i kvs e => by
    obtain ⟨k1, e1, l1, q1⟩ := a.dk i kvs e
    obtain ⟨k2, e2, l2, q2⟩ := b.dk i k1 e1
    refine ⟨k2, e2, Nat.le_trans l1 l2, fun l ep es h => ?_⟩
    obtain ⟨es1, h1, m1⟩ := q1 (by omega) ep es h
    obtain ⟨es2, h2, m2⟩ := q2 (by omega) ep es1 h1
    exact ⟨es2, h2, m2.trans m1⟩

/-- what stands at a mutable object's place -/
theorem Rel.isMut (R : Rel K w ρ G H) {i : Nat} (m : mutAt G i) : ∃ o, H (ρ i) = some o ∧ Mut (some o) := by
  obtain ⟨o, e, im⟩ := m
  have q := R.ob i o e
  cases o with
  | lst xs => obtain ⟨vs, h, _⟩ := q; exact ⟨_, h, trivial⟩
  | frz xs => cases im
  | dct kvs => obtain ⟨ep, es, h, _⟩ := q; exact ⟨_, h, trivial⟩
  | ins c fs => exact q.elim
theorem Stp.keepN (R : Rel K w ρ G H) (s : Stp ρ G H ρ' G' H') {b : Addr} {o : HO} (e : H b = some o) (nm : ¬ Mut (some o)) : H' b = some o :=
  s.keep b o e fun i m z => by
    obtain ⟨o', e', m'⟩ := R.isMut m
    rw [z, e] at e'; cases e'
    exact nm m'
theorem Stp.rdT (R : Rel K w ρ G H) (s : Stp ρ G H ρ' G' H') {a : Addr} {xs : List V} (h : SqT K H a xs) : SqT K H' a xs := by
  rcases h with (h | ⟨o, h⟩) | h
  · exact .inl (.inl (s.keepN R h fun z => z))
  · exact .inl (.inr ⟨o, s.keepN R h fun z => z⟩)
  · exact .inr h
theorem Stp.rdN (R : Rel K w ρ G H) (s : Stp ρ G H ρ' G' H') {a : Addr} {xs : List V} (h : SqN K H a xs) : SqN K H' a xs := by
  refine ⟨s.rdT R h.1, ?_⟩
  rcases h.2 with ⟨o, h, hd⟩ | h
  · exact .inl ⟨o, s.keepN R h fun z => z, hd⟩
  · exact .inr h
mutual
theorem RV.step (R : Rel K w ρ G H) (s : Stp ρ G H ρ' G' H') : ∀ (d : D) (v : V), RV K ρ G.n H d v → RV K ρ' G'.n H' d v
  | .und, _, h => h
  | .non, _, h => h
  | .bl _, _, h => h
  | .int _, _, h => h
  | .str _, _, h => h
  | .ref a, v, h => by
    obtain ⟨h1, h2⟩ := h
    exact ⟨Nat.lt_of_lt_of_le h1 s.le, by rw [s.same a h1]; exact h2⟩
  | .tup xs, v, h => by
    obtain ⟨a, vs, e, q, r⟩ := h
    exact ⟨a, vs, e, s.rdN R q, RVs.step R s xs vs r⟩
theorem RVs.step (R : Rel K w ρ G H) (s : Stp ρ G H ρ' G' H') : ∀ (ds : List D) (vs : List V), RVs K ρ G.n H ds vs → RVs K ρ' G'.n H' ds vs
  | [], _, h => h
  | d :: ds, vs, h => by
    obtain ⟨v, r, e, h1, h2⟩ := h
    exact ⟨v, r, e, RV.step R s d v h1, RVs.step R s ds r h2⟩
end
theorem RS.step {σd : List D} {σ : St} (R : Rel K w ρ G H) (s : Stp ρ G H ρ' G' H') (h : RS K ρ G.n H σd σ) : RS K ρ' G'.n H' σd σ :=
  ⟨h.1, fun i d e n => let ⟨v, e1, r⟩ := h.2 i d e n; ⟨v, e1, RV.step R s d v r⟩⟩
theorem RK.step {kvs : List (D × D)} {es : List (Int × V × V)} (R : Rel K w ρ G H) (s : Stp ρ G H ρ' G' H') (h : RK K w ρ G.n H kvs es) : RK K w ρ' G'.n H' kvs es :=
  Paired.mapP h fun p e q => ⟨q.1, q.2.1, q.2.2.1, RV.step R s _ _ q.2.2.2.1, RV.step R s _ _ q.2.2.2.2⟩
theorem RVs.length : ∀ {ds : List D} {vs : List V} {n : Nat}, RVs K ρ n H ds vs → vs.length = ds.length
  | [], _, _, h => by cases h; rfl
  | _ :: ds, vs, n, h => by
    obtain ⟨v, r, e, _, h2⟩ := h
    subst e
    simp [RVs.length h2]
theorem RVs.get {n : Nat} : ∀ {ds : List D} {vs : List V} {i : Nat} {d : D}, RVs K ρ n H ds vs → ds[i]? = some d → ∃ v, vs[i]? = some v ∧ RV K ρ n H d v
  | [], _, _, _, _, h => by simp at h
  | x :: xs, vs, 0, d, h, e => by
    obtain ⟨v, r, e1, h1, _⟩ := h
    subst e1
    simp at e
    subst e
    exact ⟨v, rfl, h1⟩
  | x :: xs, vs, i + 1, d, h, e => by
    obtain ⟨v, r, e1, _, h2⟩ := h
    subst e1
    obtain ⟨v', q1, q2⟩ := RVs.get (i := i) h2 (by simpa using e)
    exact ⟨v', by simpa using q1, q2⟩
theorem RVs.append {n : Nat} : ∀ {xs ys : List D} {vs us : List V}, RVs K ρ n H xs vs → RVs K ρ n H ys us → RVs K ρ n H (xs ++ ys) (vs ++ us)
  | [], _, _, _, h, h' => by cases h; exact h'
  | x :: xs, ys, vs, us, h, h' => by
    obtain ⟨v, r, e1, h1, h2⟩ := h
    subst e1
    exact ⟨v, r ++ us, rfl, h1, RVs.append h2 h'⟩
theorem RVs.one {n : Nat} {x : D} {v : V} (h : RV K ρ n H x v) : RVs K ρ n H [x] [v] := ⟨v, [], rfl, h, rfl⟩
theorem RVs.set {n : Nat} {x : D} {v : V} (h : RV K ρ n H x v) : ∀ {xs : List D} {vs : List V} (i : Nat), RVs K ρ n H xs vs → RVs K ρ n H (xs.set i x) (vs.set i v)
  | [], _, i, h' => by cases h'; exact rfl
  | y :: ys, vs, 0, h' => by
    obtain ⟨u, r, e1, _, h2⟩ := h'
    subst e1
    exact ⟨v, r, rfl, h, h2⟩
  | y :: ys, vs, i + 1, h' => by
    obtain ⟨u, r, e1, h1, h2⟩ := h'
    subst e1
    exact ⟨u, r.set i v, rfl, h1, RVs.set h i h2⟩
theorem RVs.take {n : Nat} : ∀ {xs : List D} {vs : List V} (i : Nat), RVs K ρ n H xs vs → RVs K ρ n H (xs.take i) (vs.take i)
  | _, _, 0, _ => by
    rw [List.take_zero, List.take_zero]; exact rfl
  | [], _, _ + 1, h => by cases h; exact rfl
  | x :: xs, vs, i + 1, h => by
    obtain ⟨u, r, e1, h1, h2⟩ := h
    subst e1
    exact ⟨u, r.take i, rfl, h1, RVs.take i h2⟩
theorem RVs.drop {n : Nat} : ∀ {xs : List D} {vs : List V} (i : Nat), RVs K ρ n H xs vs → RVs K ρ n H (xs.drop i) (vs.drop i)
  | _, _, 0, h => by
    rw [List.drop_zero, List.drop_zero]; exact h
  | [], _, _ + 1, h => by cases h; exact rfl
  | x :: xs, vs, i + 1, h => by
    obtain ⟨u, r, e1, h1, h2⟩ := h
    subst e1
    exact RVs.drop i h2
theorem RVs.dropLast {n : Nat} {xs : List D} {vs : List V} (h : RVs K ρ n H xs vs) : RVs K ρ n H xs.dropLast vs.dropLast := by
  rw [List.dropLast_eq_take, List.dropLast_eq_take, h.length]
  exact h.take _
theorem RVs.cons_inv {n : Nat} {x : D} {xs : List D} {vs : List V} (h : RVs K ρ n H (x :: xs) vs) : ∃ v r, vs = v :: r ∧ RV K ρ n H x v ∧ RVs K ρ n H xs r := h

/-! ### the three steps: a new untold thing of the machine, a new object, a written object -/
/-- a new thing that the evaluator does not tell (a tuple) -/
theorem Rel.laid (R : Rel K w ρ G H) {p : Addr} {o : HO} (hp : H p = none) (hm : ¬ Mut (some o)) : Rel K w ρ G (upd H p o) ∧ Stp ρ G H ρ G (upd H p o) := by
  have st : Stp ρ G H ρ G (upd H p o) := ⟨Nat.le_refl _, fun _ _ => rfl, fun b u e _ => by rw [upd_ne (ne_of_none e hp)]; exact e, fun _ _ m => m, fun i h m => absurd m.lt (by omega), fun b h => by
    by_cases hb : b = p
    · subst hb; exact hp
    · rw [upd_ne hb] at h; exact h, fun i kvs e => ⟨kvs, e, Nat.le_refl _, fun _ ep es h => ⟨es, by rw [upd_ne (ne_of_none h hp)]; exact h, rfl⟩⟩⟩
  refine ⟨⟨fun i u e => ?_, R.inj⟩, st⟩
  have q := R.ob i u e
  cases u with
  | lst xs =>
    obtain ⟨vs, h, r⟩ := q
    exact ⟨vs, by rw [upd_ne (ne_of_none h hp)]; exact h, RVs.step R st _ _ r⟩
  | frz xs =>
    obtain ⟨vs, h, r⟩ := q
    refine ⟨vs, ?_, RVs.step R st _ _ r⟩
    rcases h with ⟨z, h⟩ | h
    · exact .inl ⟨z, by rw [upd_ne (ne_of_none h hp)]; exact h⟩
    · exact .inr h
  | dct kvs =>
    obtain ⟨ep, es, h, r, dk⟩ := q
    exact ⟨ep, es, by rw [upd_ne (ne_of_none h hp)]; exact h, RK.step R st r, dk⟩
  | ins c fs => exact q
def Rho.put (ρ : Rho) (i : Nat) (p : Addr) : Rho := fun j => if j = i then p else ρ j
theorem Rho.put_self {i : Nat} {p : Addr} : (ρ.put i p) i = p := by unfold Rho.put; rw [if_pos rfl]
theorem Rho.put_ne {i j : Nat} {p : Addr} (h : j ≠ i) : (ρ.put i p) j = ρ j := by unfold Rho.put; rw [if_neg h]
/-- the machine has a new object at p, the evaluator one at its end -/
theorem Rel.stepNew (R : Rel K w ρ G H) {p : Addr} {o : HO} {u : O} (hp : H p = none) : Stp ρ G H (ρ.put G.n p) (G.new u) (upd H p o) where
  le := Nat.le_succ _
  same := fun i h => Rho.put_ne (by omega)
  keep := fun b v e _ => by rw [upd_ne (ne_of_none e hp)]; exact e
  mutk := fun i h m => by
    obtain ⟨v, e, im⟩ := m
    rw [Hh.get_new_lt u h] at e
    exact ⟨v, e, im⟩
  new := fun i h m => by
    have hl : i < G.n + 1 := m.lt
    have e : i = G.n := by omega
    subst e
    rw [Rho.put_self]; exact hp
  dom := fun b h => by
    by_cases hb : b = p
    · subst hb; exact hp
    · rw [upd_ne hb] at h; exact h
  dk := fun i kvs e => by
    have hi := Hh.get_lt e
    exact ⟨kvs, by rw [Hh.get_new_lt u hi]; exact e, Nat.le_refl _, fun _ ep es h => ⟨es, by rw [Rho.put_ne (by omega), upd_ne (ne_of_none h hp)]; exact h, rfl⟩⟩
theorem RO.stay (R : Rel K w ρ G H) (s : Stp ρ G H ρ' G' H') {i : Nat} {u : O} (hi : i < G.n) (q : RO K w ρ G.n H i u) (hk : u.isMut = true → H' (ρ i) = H (ρ i)) : RO K w ρ' G'.n H' i u := by
  have es := s.same i hi
  cases u with
  | lst xs =>
    obtain ⟨vs, h, r⟩ := q
    exact ⟨vs, by rw [es, hk rfl]; exact h, RVs.step R s _ _ r⟩
  | frz xs =>
    obtain ⟨vs, h, r⟩ := q
    refine ⟨vs, ?_, RVs.step R s _ _ r⟩
    rw [es]
    rcases h with ⟨z, h⟩ | h
    · exact .inl ⟨z, s.keepN R h fun z => z⟩
    · exact .inr h
  | dct kvs =>
    obtain ⟨ep, es', h, r, dk, sat⟩ := q
    exact ⟨ep, es', by rw [es, hk rfl]; exact h, RK.step R s r, dk, by rw [es]; exact sat⟩
  | ins c fs => exact q
theorem Rel.alloc (R : Rel K w ρ G H) {p : Addr} {o : HO} {u : O} (hp : H p = none) (hu : u.isMut = true)
    (q : RO K w (ρ.put G.n p) (G.n + 1) (upd H p o) G.n u) : Rel K w (ρ.put G.n p) (G.new u) (upd H p o) := by
  have st := R.stepNew (o := o) (u := u) hp
  refine ⟨fun i v e => ?_, fun i j mi mj e => ?_⟩
  · rcases Hh.get_new e with ⟨hi, e⟩ | ⟨rfl, rfl⟩
    · refine RO.stay R st hi (R.ob i v e) fun im => ?_
      obtain ⟨o', e', _⟩ := R.isMut ⟨v, e, im⟩
      rw [upd_ne (ne_of_none e' hp)]
    · exact q
  · have hi : i < G.n + 1 := mi.lt
    have hj : j < G.n + 1 := mj.lt
    have old : ∀ i, i < G.n → mutAt (G.new u) i → mutAt G i := fun i h m => st.mutk i h m
    by_cases hin : i = G.n
    · by_cases hjn : j = G.n
      · omega
      · subst hin
        rw [Rho.put_self, Rho.put_ne hjn] at e
        obtain ⟨o', e', _⟩ := R.isMut (old j (by omega) mj)
        rw [← e, hp] at e'; cases e'
    · by_cases hjn : j = G.n
      · subst hjn
        rw [Rho.put_self, Rho.put_ne hin] at e
        obtain ⟨o', e', _⟩ := R.isMut (old i (by omega) mi)
        rw [e, hp] at e'; cases e'
      · rw [Rho.put_ne hin, Rho.put_ne hjn] at e
        exact R.inj i j (old i (by omega) mi) (old j (by omega) mj) e
/-- what a write does to a dict -/
def DWr (ρ : Rho) (G : Hh) (H : Hp) (a : Nat) (o : HO) (u : O) : Prop := ∀ kvs, G.get a = some (.dct kvs) → ∃ kvs', u = .dct kvs' ∧ kvs.length ≤ kvs'.length ∧
  (kvs'.length = kvs.length → ∀ ep es, H (ρ a) = some (.ext (dictP (ρ a) ep es)) → ∃ es', o = .ext (dictP (ρ a) ep es') ∧ es'.map (·.2.1) = es.map (·.2.1))
theorem DWr.lst {xs : List D} {a : Nat} {o : HO} {u : O} (h : G.get a = some (.lst xs)) : DWr ρ G H a o u := fun kvs e => by rw [h] at e; cases e
/-- an object is written -/
theorem Rel.stepWr (R : Rel K w ρ G H) {a : Nat} {o : HO} {u : O} (m : mutAt G a) (hu : u.isMut = true) (hd : DWr ρ G H a o u) : Stp ρ G H ρ (G.set a u) (upd H (ρ a) o) where
  le := Nat.le_refl _
  same := fun _ _ => rfl
  keep := fun b v e n => by rw [upd_ne (fun z => n a m z.symm)]; exact e
  mutk := fun i h mi => by
    obtain ⟨v, e, im⟩ := mi
    rcases Hh.get_set e with ⟨_, e⟩ | ⟨rfl, _⟩
    · exact ⟨v, e, im⟩
    · exact m
  new := fun i h mi => absurd (show i < G.n from mi.lt) (by omega)
  dom := fun b h => by
    by_cases hb : b = ρ a
    · rw [hb, upd_same] at h; cases h
    · rw [upd_ne hb] at h; exact h
  dk := fun i kvs e => by
    by_cases hi : i = a
    · subst hi
      obtain ⟨kvs', rfl, l, q⟩ := hd kvs e
      refine ⟨kvs', Hh.get_set_self _ m.lt, l, fun hl ep es h => ?_⟩
      obtain ⟨es', rfl, mm⟩ := q hl ep es h
      exact ⟨es', upd_same, mm⟩
    · refine ⟨kvs, by rw [Hh.get_set_ne _ hi]; exact e, Nat.le_refl _, fun _ ep es h => ⟨es, ?_, rfl⟩⟩
      rw [upd_ne fun z => hi (R.inj i a ⟨_, e, rfl⟩ m z)]; exact h
theorem Rel.wr (R : Rel K w ρ G H) {a : Nat} {o : HO} {u : O} (m : mutAt G a) (hu : u.isMut = true) (hd : DWr ρ G H a o u) (q : RO K w ρ G.n (upd H (ρ a) o) a u) : Rel K w ρ (G.set a u) (upd H (ρ a) o) := by
  have st := R.stepWr (o := o) (u := u) m hu hd
  have old : ∀ i, mutAt (G.set a u) i → mutAt G i := fun i mi => st.mutk i (show i < G.n from mi.lt) mi
  refine ⟨fun i v e => ?_, fun i j mi mj e => R.inj i j (old i mi) (old j mj) e⟩
  rcases Hh.get_set e with ⟨hi, e⟩ | ⟨rfl, rfl⟩
  · refine RO.stay R st (Hh.get_lt e) (R.ob i v e) fun im => ?_
    exact upd_ne fun z => hi (R.inj i a ⟨v, e, im⟩ m z)
  · exact q
end
end Ev

/-! EvD: data in the machine: ==, hash, the search in a dict. -/
namespace Ev
open PySem PySem.Spec
open PyProof.Rows hiding St
open L2
open Sem (wp)

/-! ### flat data as the library's data -/
mutual
def D.toP : D → PyData
  | .und => .none
  | .non => .none
  | .bl b => .bool b
  | .int i => .int i
  | .str s => .str s
  | .ref _ => .none
  | .tup xs => .tuple (D.toPs xs)
def D.toPs : List D → List PyData
  | [] => []
  | x :: xs => x.toP :: D.toPs xs
end
mutual
theorem D.plain_toP : ∀ d : D, d.toP.plain = true
  | .und => rfl
  | .non => rfl
  | .bl _ => rfl
  | .int _ => rfl
  | .str _ => rfl
  | .ref _ => rfl
  | .tup xs => by simp only [D.toP, PyData.plain]; exact D.plain_toPs xs
theorem D.plain_toPs : ∀ ds : List D, PyData.plainAll (D.toPs ds) = true
  | [] => rfl
  | x :: xs => by simp only [D.toPs, PyData.plainAll, D.plain_toP x, D.plain_toPs xs, Bool.and_self]
end
mutual
theorem D.depth_toP : ∀ d : D, d.toP.depth = d.depth
  | .und => rfl
  | .non => rfl
  | .bl _ => rfl
  | .int _ => rfl
  | .str _ => rfl
  | .ref _ => rfl
  | .tup xs => by simp only [D.toP, PyData.depth, D.depth, D.depth_toPs xs]
theorem D.depth_toPs : ∀ ds : List D, PyData.depthAll (D.toPs ds) = D.depths ds
  | [] => rfl
  | x :: xs => by simp only [D.toPs, PyData.depthAll, D.depths, D.depth_toP x, D.depth_toPs xs]
end
theorem D.toPs_eq : ∀ ds : List D, D.toPs ds = ds.map D.toP
  | [] => rfl
  | x :: xs => by simp only [D.toPs, List.map_cons, D.toPs_eq xs]
mutual
theorem D.eqv_toP : ∀ a b : D, a.flat = true → b.flat = true → PyData.eqv a.toP b.toP = a.eqv b
  | .und, _, h, _ => by simp [D.flat] at h
  | .ref _, _, h, _ => by simp [D.flat] at h
  | .non, b, _, h => by cases b <;> simp_all [D.flat, D.toP, PyData.eqv, D.eqv]
  | .bl x, b, _, h => by cases b <;> simp_all [D.flat, D.toP, PyData.eqv, D.eqv, b2i]
  | .int x, b, _, h => by cases b <;> simp_all [D.flat, D.toP, PyData.eqv, D.eqv, b2i]
  | .str x, b, _, h => by cases b <;> simp_all [D.flat, D.toP, PyData.eqv, D.eqv]
  | .tup xs, b, h, h' => by
    cases b with
    | tup ys =>
      simp only [D.toP, PyData.eqv, D.eqv]
      exact D.eqvs_toP xs ys (by simpa [D.flat] using h) (by simpa [D.flat] using h')
    | und => simp [D.flat] at h'
    | ref _ => simp [D.flat] at h'
    | _ => simp [D.toP, PyData.eqv, D.eqv]
theorem D.eqvs_toP : ∀ xs ys : List D, D.flats xs = true → D.flats ys = true → PyData.eqvAll (D.toPs xs) (D.toPs ys) = D.eqvs xs ys
  | [], [], _, _ => rfl
  | [], _ :: _, _, _ => rfl
  | _ :: _, [], _, _ => rfl
  | x :: xs, y :: ys, h, h' => by
    simp only [D.flats, Bool.and_eq_true] at h h'
    simp only [D.toPs, PyData.eqvAll, D.eqvs, D.eqv_toP x y h.1 h'.1, D.eqvs_toP xs ys h.2 h'.2]
end

/-! ### == is an equality of forms -/
mutual
def D.nrm : D → D
  | .bl b => .int (b2i b)
  | .tup xs => .tup (D.nrms xs)
  | .und => .und
  | .non => .non
  | .int i => .int i
  | .str s => .str s
  | .ref a => .ref a
def D.nrms : List D → List D
  | [] => []
  | x :: xs => x.nrm :: D.nrms xs
end
theorem b2i_inj {a b : Bool} (h : b2i a = b2i b) : a = b := by cases a <;> cases b <;> simp_all [b2i]
mutual
theorem D.eqv_nrm : ∀ a b : D, a.flat = true → b.flat = true → (a.eqv b = true ↔ a.nrm = b.nrm)
  | .und, _, h, _ => by simp [D.flat] at h
  | .ref _, _, h, _ => by simp [D.flat] at h
  | .non, b, _, h => by cases b <;> simp_all [D.flat, D.nrm, D.eqv]
  | .bl x, b, _, h => by
    cases b with
    | bl y => simp only [D.eqv, D.nrm, D.int.injEq, beq_iff_eq]; exact ⟨fun e => by rw [e], b2i_inj⟩
    | _ => simp_all [D.flat, D.nrm, D.eqv]
  | .int x, b, _, h => by cases b <;> simp_all [D.flat, D.nrm, D.eqv]
  | .str x, b, _, h => by cases b <;> simp_all [D.flat, D.nrm, D.eqv]
  | .tup xs, b, h, h' => by
    cases b with
    | tup ys =>
      simp only [D.nrm, D.eqv, D.tup.injEq]
      exact D.eqvs_nrm xs ys (by simpa [D.flat] using h) (by simpa [D.flat] using h')
    | und => simp [D.flat] at h'
    | ref _ => simp [D.flat] at h'
    | _ => simp [D.nrm, D.eqv]
theorem D.eqvs_nrm : ∀ xs ys : List D, D.flats xs = true → D.flats ys = true → (D.eqvs xs ys = true ↔ D.nrms xs = D.nrms ys)
  | [], [], _, _ => by simp [D.eqvs, D.nrms]
  | [], _ :: _, _, _ => by simp [D.eqvs, D.nrms]
  | _ :: _, [], _, _ => by simp [D.eqvs, D.nrms]
  | x :: xs, y :: ys, h, h' => by
    simp only [D.flats, Bool.and_eq_true] at h h'
    simp only [D.eqvs, D.nrms, Bool.and_eq_true, D.eqv_nrm x y h.1 h'.1, D.eqvs_nrm xs ys h.2 h'.2, List.cons.injEq]
end
theorem D.eqv_refl {a : D} (h : a.flat = true) : a.eqv a = true := (D.eqv_nrm a a h h).mpr rfl
theorem D.eqv_symm {a b : D} (ha : a.flat = true) (hb : b.flat = true) (h : a.eqv b = true) : b.eqv a = true := (D.eqv_nrm b a hb ha).mpr ((D.eqv_nrm a b ha hb).mp h).symm
theorem D.eqv_trans {a b c : D} (ha : a.flat = true) (hb : b.flat = true) (hc : c.flat = true) (h : a.eqv b = true) (h' : b.eqv c = true) : a.eqv c = true :=
  (D.eqv_nrm a c ha hc).mpr (((D.eqv_nrm a b ha hb).mp h).trans ((D.eqv_nrm b c hb hc).mp h'))
mutual
theorem hashD_nrm (w : World) : ∀ a : D, hashD w a.nrm = hashD w a
  | .und => rfl
  | .ref _ => rfl
  | .non => rfl
  | .bl b => rfl
  | .int _ => rfl
  | .str _ => rfl
  | .tup xs => by simp only [D.nrm, hashD, hashDs_nrm w xs]
theorem hashDs_nrm (w : World) : ∀ as : List D, hashDs w (D.nrms as) = hashDs w as
  | [] => rfl
  | x :: xs => by simp only [D.nrms, hashDs, hashD_nrm w x, hashDs_nrm w xs]
end
theorem hashD_of_eqv {w : World} {a b : D} (ha : a.flat = true) (hb : b.flat = true) (h : a.eqv b = true) : hashD w a = hashD w b := by
  rw [← hashD_nrm w a, (D.eqv_nrm a b ha hb).mp h, hashD_nrm]

/-! ### a value reads as data -/
section
variable {X : Cx} {pins : List (Addr × Obj)} {σ : St} {H : Hp} {s : Shared} {ρ : Rho} {n : Nat}
mutual
theorem RV.reads (I : Inv X pins σ H s) : ∀ (d : D) (v : V) (u : Value), d.flat = true → RV X.K ρ n H d v → RelV v u → ∃ as, Reads s.heap u d.toP as
  | .und, _, _, h, _, _ => by simp [D.flat] at h
  | .ref _, _, _, h, _, _ => by simp [D.flat] at h
  | .non, _, _, _, h, r => by cases h; cases r; exact ⟨_, Reads.none⟩
  | .bl b, _, _, _, h, r => by cases h; cases r; exact ⟨_, Reads.bool b⟩
  | .int i, _, _, _, h, r => by cases h; obtain ⟨t, rfl⟩ := r; exact ⟨_, Reads.int i t⟩
  | .str i, _, _, _, h, r => by cases h; obtain ⟨t, rfl⟩ := r; exact ⟨_, Reads.str i t⟩
  | .tup xs, _, _, f, h, r => by
    obtain ⟨a, vs, e, hs, ha⟩ := h
    subst e
    cases r
    obtain ⟨its, rv, ⟨o, ho, hc, n, hd⟩, _⟩ := I.tuple hs.1
    obtain ⟨as, hr⟩ := RVs.reads I xs vs its (by simpa [D.flat] using f) ha rv
    exact ⟨_, Reads.tuple ho hc hd hr⟩
theorem RVs.reads (I : Inv X pins σ H s) : ∀ (ds : List D) (vs : List V) (us : List Value), D.flats ds = true → RVs X.K ρ n H ds vs → Vals vs us → ∃ as, ReadsAll s.heap us (D.toPs ds) as
  | [], _, _, _, h, r => by cases h; cases r; exact ⟨_, ReadsAll.nil⟩
  | d :: ds, _, _, f, h, r => by
    obtain ⟨v, vr, e, h1, h2⟩ := h
    subst e
    simp only [D.flats, Bool.and_eq_true] at f
    cases r with
    | cons r1 r2 =>
      obtain ⟨as, q1⟩ := RV.reads I d _ _ f.1 h1 r1
      obtain ⟨bs, q2⟩ := RVs.reads I ds _ _ f.2 h2 r2
      exact ⟨_, ReadsAll.cons q1 q2⟩
end
end

theorem wp_ite {α : Type} {M : Model} {A : Around} {E : Value → Shared → Prop} {s : Shared} {c : Prop} [Decidable c] {t e : Sem α} {Q : α → Shared → Prop} (h1 : c → wpAny M A t Q E s) (h2 : ¬ c → wpAny M A e Q E s) :
    wpAny M A (if c then t else e) Q E s := by
  by_cases h : c
  · rw [if_pos h]; exact h1 h
  · rw [if_neg h]; exact h2 h

/-! ### hash -/
section
variable {prog : Program} {w : World} {E : Value → Shared → Prop}
theorem pyHash_none {A : Around} {s : Shared} {Q : Int → Shared → Prop} (h : ∀ tk, Q 0xFCA86420 { s with toks := tk }) : wpAny (model prog w) A (pyHash .none) Q E s := by
  have hT : s.TypeIs .none "NoneType" := rfl
  unfold pyHash
  have hv : [Value.none].any Value.onHeap = false := rfl
  refine wpAny_bind ?_
  rw [cRoomFor, if_neg (by rw [hv]; exact Bool.false_ne_true)]; refine wpAny_pure ?_
  refine wpAny_bind (wpAny_specialOf hT PySem.F.slot_NoneType_hash.lookup ?_)
  show wpAny _ _ (if (some (Value.builtin "NoneType.__hash__") == some Value.none) = true then _ else _) Q E s
  rw [if_neg (by rw [beq_builtin_none]; exact Bool.false_ne_true)]
  refine wpAny_bind (wpAny_specialOf hT PySem.F.slot_NoneType_hash.lookup ?_)
  show wpAny _ _ (callSpecialIfBoundUnlessNone? .none "__hash__" _ >>= _) Q E s
  refine wpAny_bind (wpAny_callSpecialIfBoundUnlessNone?_slot hT PySem.F.slot_NoneType_hash
    (wpAny_call_entry PySem.F.slot_NoneType_hash hT PySem.F.entry_NoneType_hash
      (show wpAny _ _ (do ret (← mkInt 0xFCA86420)) _ _ s from wpAny_ret_mkInt ?_) (PySem.F.args_NoneType_hash_1 _)))
  show wpAny _ _ (if (decide (-(2 : Int) ^ 63 ≤ 0xFCA86420) && decide ((0xFCA86420 : Int) < 2 ^ 63)) = true then _ else _) Q E _
  rw [if_pos (by decide)]
  exact wpAny_pure (h _)
mutual
theorem hash_data : ∀ (d : D) (A : Around) (s : Shared) (v : Value) (as : List Addr) (Q : Int → Shared → Prop), d.flat = true → Reads s.heap v d.toP as → A.units + d.depth < cLine →
    (∀ tk, Q (hashD w d) { s with toks := tk }) → wpAny (model prog w) A (pyHash v) Q E s
  | .und, _, _, _, _, _, f, _, _, _ => by simp [D.flat] at f
  | .ref _, _, _, _, _, _, f, _, _, _ => by simp [D.flat] at f
  | .non, A, s, _, _, Q, _, r, _, h => by cases r; exact pyHash_none h
  | .bl b, A, s, _, _, Q, _, r, _, h => by cases r; exact PpSet.pyHash_bool (h _)
  | .int i, A, s, _, _, Q, _, r, _, h => by cases r; exact wpAny_pyHash_int (h _)
  | .str x, A, s, _, _, Q, _, r, _, h => by cases r; exact wpAny_pyHash_str (h _)
  | .tup xs, A, s, _, _, Q, f, r, hu, h => by
    cases r with
    | @tuple a o items n _ as ho hc hd hi =>
    have hT : s.TypeIs (.ref a) "tuple" := ⟨o, ho, hc⟩
    have hu0 : A.units < cLine := by omega
    have f' : D.flats xs = true := by simpa [D.flat] using f
    have hdep : A.units + 1 + D.depths xs < cLine := by simp only [D.depth] at hu; omega
    unfold pyHash
    refine wpAny_bind (wpAny_cRoomFor_or (.inr hu0) ?_)
    refine wpAny_bind (wpAny_specialOf hT PySem.F.slot_tuple_hash.lookup ?_)
    show wpAny _ _ (if (some (Value.builtin "tuple.__hash__") == some Value.none) = true then _ else _) Q E s
    rw [if_neg (by rw [beq_builtin_none]; exact Bool.false_ne_true)]
    refine wpAny_bind (wpAny_specialOf hT PySem.F.slot_tuple_hash.lookup ?_)
    show wpAny _ _ (callSpecialIfBoundUnlessNone? (.ref a) "__hash__" _ >>= _) Q E s
    refine wpAny_bind (wpAny_callSpecialIfBoundUnlessNone?_slot hT PySem.F.slot_tuple_hash (wpAny_call_entry PySem.F.slot_tuple_hash hT PySem.F.entry_tuple_hash ?_ (PySem.F.args_tuple_hash_1 _)))
    show wpAny _ _ (Builtin.Tuple.tupleItemsOf (.ref a) >>= _) _ _ s
    refine wpAny_bind (wpAny_tupleItemsOf ho hd ?_)
    refine wpAny_bind ?_
    rw [← Array.forIn_toList]
    refine hash_datas xs A.in1 s items.toList _ #[] _ f' hi (show A.units + 1 + D.depths xs < cLine from hdep) (fun b tk hb => ?_)
    show wpAny _ _ (retInt (Builtin.Tuple.tupleHashOf b.toList)) _ _ _
    rw [hb]
    refine wpAny_ret_mkInt ?_
    show wpAny _ _ (if (decide (-(2 : Int) ^ 63 ≤ Builtin.Tuple.tupleHashOf (hashDs w xs)) && decide (Builtin.Tuple.tupleHashOf (hashDs w xs) < 2 ^ 63)) = true then _ else _) Q E _
    have hq : ∀ tk, Q (reduceHash (Builtin.Tuple.tupleHashOf (hashDs w xs))) { s with toks := tk } := h
    unfold reduceHash at hq
    by_cases hr : (decide (-(2 : Int) ^ 63 ≤ Builtin.Tuple.tupleHashOf (hashDs w xs)) && decide (Builtin.Tuple.tupleHashOf (hashDs w xs) < 2 ^ 63)) = true
    · rw [if_pos hr]
      rw [if_pos hr] at hq
      exact wpAny_pure (hq _)
    · rw [if_neg hr]
      rw [if_neg hr] at hq
      exact wpAny_bind (wpAny_rule (wpAny_pure (hq _)))
theorem hash_datas : ∀ (xs : List D) (A : Around) (s : Shared) (vs : List Value) (as : List Addr) (b : Array Int) (Q : Array Int → Shared → Prop), D.flats xs = true → ReadsAll s.heap vs (D.toPs xs) as → A.units + D.depths xs < cLine →
    (∀ (b' : Array Int) (tk : Nat), b'.toList = b.toList ++ hashDs w xs → Q b' { s with toks := tk }) →
    wpAny (model prog w) A (forIn vs b fun x (b : Array Int) => do let h ← pyHash x; pure (ForInStep.yield (b.push h))) Q E s
  | [], A, s, vs, as, b, Q, _, r, _, h => by
    cases r
    exact wpAny_pure (h b s.toks (by simp [hashDs]))
  | x :: xs, A, s, vs, as, b, Q, f, r, hu, h => by
    simp only [D.flats, Bool.and_eq_true] at f
    simp only [D.depths] at hu
    cases r with
    | @cons v vs' _ _ as1 bs1 r1 r2 =>
      rw [List.forIn_cons]
      refine wpAny_bind (wpAny_bind (hash_data x A s v _ _ f.1 r1 (by omega) fun tk => wpAny_pure ?_))
      refine hash_datas xs A { s with toks := tk } vs' _ (b.push (hashD w x)) Q f.2 r2 (by omega) fun b' tk' hb' => h b' tk' ?_
      rw [hb']
      simp [hashDs]
end

/-! ### == asks nothing of the text -/
mutual
theorem quiet_data : ∀ (d : D) (k : Nat) (A : Around) (s : Shared) (v : Value) (as : List Addr) (Q : Bool → Shared → Prop), d.flat = true → d.depth ≤ k → Reads s.heap v d.toP as → Q true s →
    wpAny (model prog w) A (eqIsQuiet k v) Q E s
  | .und, _, _, _, _, _, _, f, _, _, _ => by simp [D.flat] at f
  | .ref _, _, _, _, _, _, _, f, _, _, _ => by simp [D.flat] at f
  | .non, k, A, s, _, _, Q, _, _, r, h => by cases r; rw [eqIsQuiet_byValue k rfl]; exact wpAny_pure h
  | .bl b, k, A, s, _, _, Q, _, _, r, h => by cases r; rw [eqIsQuiet_byValue k rfl]; exact wpAny_pure h
  | .int i, k, A, s, _, _, Q, _, _, r, h => by cases r; rw [eqIsQuiet_byValue k rfl]; exact wpAny_pure h
  | .str x, k, A, s, _, _, Q, _, _, r, h => by cases r; rw [eqIsQuiet_byValue k rfl]; exact wpAny_pure h
  | .tup xs, k, A, s, _, _, Q, f, hk, r, h => by
    cases r with
    | @tuple a o items n _ as ho hc hd hi =>
    have hT : s.TypeIs (.ref a) "tuple" := ⟨o, ho, hc⟩
    have f' : D.flats xs = true := by simpa [D.flat] using f
    obtain ⟨k', rfl⟩ : ∃ k', k = k' + 1 := ⟨k - 1, by simp only [D.depth] at hk; omega⟩
    have hk' : D.depths xs ≤ k' := by simp only [D.depth] at hk; omega
    unfold eqIsQuiet
    refine wpAny_bind (wpAny_specialOf hT PySem.F.slot_tuple_eq.lookup ?_)
    show wpAny _ _ (isInstance (.ref a) (.type "tuple") >>= _) _ _ s
    refine wpAny_bind (wpAny_isInstance hT isSubtype_tuple_tuple ?_)
    simp only [Bool.not_true, Bool.false_eq_true, if_false]
    refine wpAny_bind (wpAny_seqItems ho hd ?_)
    refine wpAny_bind ?_
    show wpAny _ _ (forIn items _ _) _ _ s
    rw [← Array.forIn_toList]
    refine quiet_datas xs k' A s items.toList _ _ f' hk' hi ?_
    exact wpAny_pure h
theorem quiet_datas : ∀ (xs : List D) (k : Nat) (A : Around) (s : Shared) (vs : List Value) (as : List Addr) (Q : Option Bool × Unit → Shared → Prop), D.flats xs = true → D.depths xs ≤ k → ReadsAll s.heap vs (D.toPs xs) as → Q (none, ()) s →
    wpAny (model prog w) A (forIn vs ((none, ()) : Option Bool × Unit) fun y r => do
      let __do_lift ← eqIsQuiet k y
      if (!__do_lift) = true then pure (ForInStep.done (some false, ())) else pure (ForInStep.yield (none, ()))) Q E s
  | [], k, A, s, vs, as, Q, _, _, r, h => by
    cases r
    exact wpAny_pure h
  | x :: xs, k, A, s, vs, as, Q, f, hk, r, h => by
    simp only [D.flats, Bool.and_eq_true] at f
    simp only [D.depths] at hk
    cases r with
    | @cons v vs' _ _ as1 bs1 r1 r2 =>
      rw [List.forIn_cons]
      refine wpAny_bind (wpAny_bind (quiet_data x k A s v _ _ f.1 (by omega) r1 ?_))
      simp only [Bool.not_true, Bool.false_eq_true, if_false]
      exact wpAny_pure (quiet_datas xs k A s vs' _ Q f.2 (by omega) r2 h)
end

/-! ### the search in a dict -/
/-- a key at a value -/
def KA (h : Heap) (d : D) (v : Value) : Prop := d.flat = true ∧ d.depth ≤ 7 ∧ ∃ as, Reads h v d.toP as
/-- the entries' keys -/
abbrev KAs (w : World) (h : Heap) : List D → List DictEntry → Prop := Paired fun (k : D) (e : DictEntry) => e.hash = hashD w k ∧ KA h k e.key
theorem KAs.length {w : World} {h : Heap} {ks : List D} {es : List DictEntry} (x : KAs w h ks es) : ks.length = es.length := Paired.length x
theorem KAs.get {w : World} {h : Heap} : ∀ {ks : List D} {es : List DictEntry} {i : Nat} {k : D}, KAs w h ks es → ks[i]? = some k → ∃ e, es[i]? = some e ∧ e.hash = hashD w k ∧ KA h k e.key
  | _, _, _, _, .nil, e => by simp at e
  | _, _, 0, _, .cons r _, e => by simp at e; subst e; exact ⟨_, rfl, r⟩
  | _, _, i + 1, k, .cons _ t, e => by
    obtain ⟨u, h1, h2⟩ := KAs.get (i := i) (k := k) t (by simpa using e)
    exact ⟨u, by simpa using h1, h2⟩
theorem KAs.back {w : World} {h : Heap} {ks : List D} {es : List DictEntry} (x : KAs w h ks es) {i : Nat} {e : DictEntry} (he : es[i]? = some e) : ∃ k, ks[i]? = some k ∧ e.hash = hashD w k ∧ KA h k e.key := by
  have hl : i < ks.length := by rw [x.length]; exact (List.getElem?_eq_some_iff.mp he).1
  obtain ⟨e', h1, h2⟩ := x.get (List.getElem?_eq_getElem hl)
  rw [he] at h1; cases h1
  exact ⟨_, List.getElem?_eq_getElem hl, h2⟩
/-- no two keys are equal -/
def Apart (ks : List D) : Prop := ∀ (i j : Nat) (a b : D), ks[i]? = some a → ks[j]? = some b → a.eqv b = true → i = j
theorem toP_nrm_inj {h : Heap} {a b : D} {v : Value} {as bs : List Addr} (fa : a.flat = true) (fb : b.flat = true) (ra : Reads h v a.toP as) (rb : Reads h v b.toP bs) : a.eqv b = true := by
  have e := SeqAt.plain_unique _ _ _ _ _ (D.plain_toP a) ra rb
  rw [← D.eqv_toP a b fa fb, ← e]
  exact SeqAt.eqv_refl_plain _ (D.plain_toP a)
theorem KA.eqBool {A : Around} {s : Shared} {a b : D} {u v : Value} {Q : Bool → Shared → Prop} (hu : A.units + 7 < cLine) (ka : KA s.heap a u) (kb : KA s.heap b v) (h : Q (a.eqv b) s) :
    wpAny (model prog w) A (eqBool u v) Q E s := by
  obtain ⟨fa, da, as, ra⟩ := ka
  obtain ⟨fb, db, bs, rb⟩ := kb
  refine SeqAt.eqAt_plain _ _ A s u v _ _ ra rb (D.plain_toP a) (D.plain_toP b) ?_ prog w E Q ?_
  · rw [D.depth_toP, D.depth_toP]; omega
  · rw [D.eqv_toP a b fa fb]; exact h
section
variable {A : Around} {s : Shared} {d : Addr} {o : Obj} {es : Array DictEntry} {ep : Nat} {ks : List D} {k : D} {key : Value} {Q : Option Nat → Shared → Prop}
theorem mayTell_data {stored : List Value} {Q : Bool → Shared → Prop} (hk : KA s.heap k key) (hst : ∀ v ∈ stored, ∃ k', KA s.heap k' v) (h : Q false s) : wpAny (model prog w) A (tableMayTell key stored) Q E s := by
  obtain ⟨fk, dk, as, rk⟩ := hk
  unfold tableMayTell
  split
  · exact wpAny_pure h
  · refine wpAny_bind (quiet_data k 8 A s key _ _ fk (by omega) rk ?_)
    simp only [Bool.not_true, Bool.false_eq_true, if_false]
    refine wpAny_bind ?_
    refine wpAny_forIn_list _ (fun rest r s' => s' = s ∧ r = (none, ()) ∧ ∀ v ∈ rest, ∃ k', KA s.heap k' v) _ ?_ ?_ _ _ ⟨rfl, rfl, hst⟩
    · rintro x rest r s' ⟨rfl, rfl, hr⟩
      obtain ⟨k', f', d', as', r'⟩ := hr x List.mem_cons_self
      refine wpAny_bind (quiet_data k' 8 A s' x _ _ f' (by omega) r' ?_)
      simp only [Bool.not_true, Bool.false_eq_true, if_false]
      exact wpAny_pure ⟨rfl, rfl, fun v hv => hr v (List.mem_cons_of_mem _ hv)⟩
    · rintro r s' ⟨rfl, rfl, _⟩
      exact wpAny_pure h

/-- the walk over the entries of one hash; first tells whether it ends at once -/
theorem walkPlain_data (hu : A.units + 7 < cLine) (hk : KA s.heap k key) (ho : s.heap.get? d = some o) (hd : o.data = .dict es ep) (he : KAs w s.heap ks es.toList)
    (hnone : (∀ (j : Nat) (k' : D), ks[j]? = some k' → k'.eqv k = false) → Q none s) (hsome : ∀ (j : Nat) (k' : D), ks[j]? = some k' → k'.eqv k = true → Q (some j) s) :
    wpAny (model prog w) A (dictWalkPlain d key (hashD w k) es (placesWithHash es.size (fun i => es[i]?.map (·.hash)) (hashD w k))) Q E s := by
  have hsz : es.size = ks.length := by rw [he.length, Array.length_toList]
  have hat : ∀ {i : Nat} {e : DictEntry}, es[i]? = some e → ∃ k', ks[i]? = some k' ∧ e.hash = hashD w k' ∧ KA s.heap k' e.key := fun {i e} q => he.back (by rw [Array.getElem?_toList]; exact q)
  have nohash : ∀ (j : Nat) (k' : D), ks[j]? = some k' → ((es[j]?.map (·.hash)) == some (hashD w k)) = false → k'.eqv k = false := by
    intro j k' hj hp
    obtain ⟨e, h1, h2, h3⟩ := he.get hj
    rw [Array.getElem?_toList] at h1
    rw [h1, Option.map_some, h2] at hp
    cases hq : k'.eqv k with
    | false => rfl
    | true =>
      rw [hashD_of_eqv h3.1 hk.1 hq] at hp
      simp at hp
  refine wpAny_bind ?_
  refine wpAny_forIn_list _
    (fun rest b s' => s' = s ∧ b = (none, ()) ∧ ∃ i, rest = (List.range' i (es.size - i)).filter (fun i => (es[i]?.map (·.hash)) == some (hashD w k)) ∧ i ≤ es.size ∧
      ∀ (j : Nat) (k' : D), ks[j]? = some k' → j < i → k'.eqv k = false) _ ?_ ?_ _ _
    ⟨rfl, rfl, 0, by rw [placesWithHash, List.range_eq_range', Nat.sub_zero], Nat.zero_le _, fun _ _ _ h => absurd h (Nat.not_lt_zero _)⟩
  · rintro x rest b s' ⟨rfl, rfl, i, hr, hi, hno⟩
    obtain ⟨hix, hxn, hpx, hskip, hrest⟩ := filter_range'_cons _ _ _ _ _ hr.symm
    have hlt : x < es.size := by omega
    obtain ⟨k', hk', hhash, hka⟩ := hat (Array.getElem?_eq_getElem hlt)
    have hnext : k'.eqv k = false → ∃ i, rest = (List.range' i (es.size - i)).filter (fun i => (es[i]?.map (·.hash)) == some (hashD w k)) ∧ i ≤ es.size ∧
        ∀ (j : Nat) (k' : D), ks[j]? = some k' → j < i → k'.eqv k = false := fun hne =>
      ⟨x + 1, by rw [hrest]; congr 2; omega, hlt, fun j kj hj hji => by
        rcases Nat.lt_or_ge j i with h | h
        · exact hno j kj hj h
        · rcases Nat.lt_or_ge j x with h' | h'
          · exact nohash j kj hj (hskip j h h')
          · have : j = x := by omega
            subst this
            rw [hk'] at hj; cases hj
            exact hne⟩
    simp only [Array.getElem?_eq_getElem hlt]
    by_cases hh : (es[x].hash == hashD w k) = true
    · rw [if_pos hh]
      refine wpAny_bind (wpAny_dictEpoch ho hd (wpAny_bind (KA.eqBool hu hka hk (wpAny_bind (wpAny_dictEpoch ho hd ?_)))))
      show wpAny _ _ (if (ep != ep) = true then _ else _) _ E _
      rw [if_neg (by simp)]
      cases hq : k'.eqv k with
      | true => exact wpAny_bind (wpAny_rule (wpAny_pure (wpAny_pure (hsome x k' hk' hq))))
      | false => exact wpAny_bind (wpAny_rule (wpAny_pure ⟨rfl, rfl, hnext hq⟩))
    · rw [if_neg hh]
      refine wpAny_pure ⟨rfl, rfl, hnext ?_⟩
      cases hq : k'.eqv k with
      | false => rfl
      | true =>
        rw [hhash, hashD_of_eqv hka.1 hk.1 hq] at hh; simp at hh
  · rintro b s' ⟨rfl, rfl, i, hr, hi, hno⟩
    refine wpAny_pure (hnone fun j k' hj => ?_)
    rcases Nat.lt_or_ge j i with h | h
    · exact hno j k' hj h
    · refine nohash j k' hj ?_
      have hjl : j < es.size := by rw [hsz]; exact (List.getElem?_eq_some_iff.mp hj).1
      have := List.filter_eq_nil_iff.mp hr.symm j (List.mem_range'_1.mpr ⟨h, by omega⟩)
      simpa using this
set_option maxHeartbeats 4000000 in
theorem dictFind_data (hu : A.units + 7 < cLine) (hk : KA s.heap k key) (ho : s.heap.get? d = some o) (hd : o.data = .dict es ep) (he : KAs w s.heap ks es.toList) (hap : Apart ks)
    (hnone : (∀ (j : Nat) (k' : D), ks[j]? = some k' → k'.eqv k = false) → Q none s) (hsome : ∀ (j : Nat) (k' : D), ks[j]? = some k' → k'.eqv k = true → Q (some j) s) :
    wpAny (model prog w) A (dictFind d key (hashD w k)) Q E s := by
  have hsz : es.size = ks.length := by rw [he.length, Array.length_toList]
  have hat : ∀ {i : Nat} {e : DictEntry}, es[i]? = some e → ∃ k', ks[i]? = some k' ∧ e.hash = hashD w k' ∧ KA s.heap k' e.key := fun {i e} q => he.back (by rw [Array.getElem?_toList]; exact q)
  have old := walkPlain_data (prog := prog) (E := E) hu hk ho hd he hnone hsome
  have nohash : ∀ (j : Nat) (k' : D), ks[j]? = some k' → ((es[j]?.map (·.hash)) == some (hashD w k)) = false → k'.eqv k = false := by
    intro j k' hj hp
    obtain ⟨e, h1, h2, h3⟩ := he.get hj
    rw [Array.getElem?_toList] at h1
    rw [h1, Option.map_some, h2] at hp
    cases hq : k'.eqv k with
    | false => rfl
    | true =>
      rw [hashD_of_eqv h3.1 hk.1 hq] at hp
      simp at hp
  have hst : ∀ v ∈ (placesWithHash es.size (fun i => es[i]?.map (·.hash)) (hashD w k)).filterMap (fun i => es[i]?.map (·.key)), ∃ k', KA s.heap k' v := by
    intro v hv
    obtain ⟨i, _, hi⟩ := List.mem_filterMap.mp hv
    cases hei : es[i]? with
    | none => rw [hei] at hi; cases hi
    | some e =>
      rw [hei] at hi
      obtain rfl : e.key = v := by simpa using hi
      obtain ⟨k', _, _, q⟩ := hat hei
      exact ⟨k', q⟩
  unfold dictFind
  try with_reducible refine wpAny_holding ?_
  refine wpAny_bind (wpAny_dictEntries ho hd ?_)
  dsimp only
  by_cases hall : ((key :: (placesWithHash es.size (fun i => es[i]?.map (·.hash)) (hashD w k)).filterMap (fun i => es[i]?.map (·.key))).all carriedByValue) = true
  · rw [if_pos hall]
    split
    next x t =>
      split
      next hstrs =>
        obtain ⟨fk, dk, as, rk⟩ := hk
        have ek : k = .str x := by
          cases k with
          | str y =>
            have rk' : Reads s.heap (.str x t) (.str y) as := rk
            cases rk'
            rfl
          | und => simp [D.flat] at fk
          | ref _ => simp [D.flat] at fk
          | non => have rk' : Reads s.heap (.str x t) .none as := rk; cases rk'
          | bl b => have rk' : Reads s.heap (.str x t) (.bool b) as := rk; cases rk'
          | int b => have rk' : Reads s.heap (.str x t) (.int b) as := rk; cases rk'
          | tup b => have rk' : Reads s.heap (.str x t) (.tuple (D.toPs b)) as := by simpa [D.toP] using rk
                     cases rk'
        subst ek
        have key_str : ∀ {i : Nat} {e : DictEntry} {k' : D}, es[i]? = some e → ks[i]? = some k' → k'.eqv (.str x) = e.key.isStr x := by
          intro i e k' hei hki
          obtain ⟨k2, h1, h2, f2, d2, as2, r2⟩ := hat hei
          rw [hki] at h1; cases h1
          have hx := List.all_eq_true.mp (by rw [← Array.all_toList] at hstrs; exact hstrs) e (by rw [List.mem_iff_getElem?]; exact ⟨i, by rw [Array.getElem?_toList]; exact hei⟩)
          cases hek : e.key with
          | str y t' =>
            rw [hek] at r2
            cases k' with
            | str z =>
              have r3 : Reads s.heap (.str y t') (.str z) as2 := r2
              cases r3
              rfl
            | und => simp [D.flat] at f2
            | ref _ => simp [D.flat] at f2
            | non => have r3 : Reads s.heap (.str y t') .none as2 := r2; cases r3
            | bl b => have r3 : Reads s.heap (.str y t') (.bool b) as2 := r2; cases r3
            | int b => have r3 : Reads s.heap (.str y t') (.int b) as2 := r2; cases r3
            | tup b => have r3 : Reads s.heap (.str y t') (.tuple (D.toPs b)) as2 := by simpa [D.toP] using r2
                       cases r3
          | _ => rw [hek] at hx; simp [isExactStrKey] at hx
        unfold foundByValue
        cases hf : es.findIdx? (fun e => e.key.isStr x) with
        | none =>
          refine wpAny_pure (hnone fun j k' hj => ?_)
          obtain ⟨e, h1, _⟩ := he.get hj
          rw [Array.getElem?_toList] at h1
          rw [key_str h1 hj]
          exact Array.findIdx?_eq_none_iff.mp hf e (Array.mem_of_getElem? h1)
        | some i =>
          obtain ⟨hlt, hi, _⟩ := Array.findIdx?_eq_some_iff_getElem.mp hf
          obtain ⟨k', hk', hhash, hka⟩ := hat (Array.getElem?_eq_getElem hlt)
          have hq : k'.eqv (.str x) = true := by rw [key_str (Array.getElem?_eq_getElem hlt) hk']; exact hi
          simp only [Array.getElem?_eq_getElem hlt]
          refine wpAny_bind (wpAny_dictEpoch ho hd (wpAny_bind (KA.eqBool hu hka ⟨fk, dk, as, rk⟩ (wpAny_bind (wpAny_dictEpoch ho hd ?_)))))
          show wpAny _ _ (if (ep != ep) = true then _ else _) _ E _
          rw [if_neg (by simp), hq]
          exact wpAny_bind (wpAny_rule (wpAny_pure (hsome i k' hk' hq)))
      next => exact old
    next => exact old
  · rw [if_neg hall]
    have hany : ∀ a, key = .ref a → ¬ (es.any fun e => e.key == key && e.hash != hashD w k) = true := by
      intro a ea
      rw [← Array.any_toList, List.any_eq_true]
      rintro ⟨e, hin, hc⟩
      obtain ⟨i, hi⟩ := List.mem_iff_getElem?.mp hin
      obtain ⟨k', _, h2, f2, _, as2, r2⟩ := hat (by rw [← Array.getElem?_toList]; exact hi)
      rw [Bool.and_eq_true] at hc
      have e1 : e.key = key := eq_of_beq hc.1
      rw [e1] at r2
      obtain ⟨fk, _, as, rk⟩ := hk
      have e2 := hashD_of_eqv (w := w) f2 fk (toP_nrm_inj f2 fk r2 rk)
      rw [h2, e2] at hc
      simp at hc
    have hnstr : ∀ x t, key = .str x t → ¬ (es.all fun e => isExactStrKey e.key) = true := by
      intro x t ex hs
      apply hall
      rw [List.all_cons, ex]
      refine Bool.and_eq_true_iff.mpr ⟨rfl, List.all_eq_true.mpr fun v hv => ?_⟩
      obtain ⟨i, _, hi⟩ := List.mem_filterMap.mp hv
      cases hei : es[i]? with
      | none => rw [hei] at hi; cases hi
      | some e =>
        rw [hei] at hi
        obtain rfl : e.key = v := by simpa using hi
        have hx := List.all_eq_true.mp (by rw [← Array.all_toList] at hs; exact hs) e (by rw [List.mem_iff_getElem?]; exact ⟨i, by rw [Array.getElem?_toList]; exact hei⟩)
        cases hek : e.key with
        | str y t' => rfl
        | _ => rw [hek] at hx; simp [isExactStrKey] at hx
    have hrd : ∃ dd as, Reads s.heap key dd as := let ⟨_, _, as, rk⟩ := hk; ⟨_, as, rk⟩
    clear old
    cases key <;> dsimp only <;> (first | rw [if_neg (hany _ rfl)] | rw [if_neg (hnstr _ _ rfl)] | skip) <;>
    refine wp_ite (fun _ => ?_) (fun _ => ?_) <;> (first | refine wpAny_bind (wpAny_pure ?_) | refine wpAny_bind (mayTell_data hk hst ?_)) <;> (
    rw [if_neg (by simp)]
    refine wpAny_bind ?_
    refine wpAny_forIn_list _
      (fun rest b s' => s' = s ∧ ∃ i hit, b = (none, hit) ∧ rest = (List.range' i (es.size - i)).filter (fun i => (es[i]?.map (·.hash)) == some (hashD w k)) ∧ i ≤ es.size ∧
        ((hit = none ∧ ∀ (j : Nat) (k' : D), j < i → ks[j]? = some k' → k'.eqv k = false) ∨ ∃ (j : Nat) (k' : D), hit = some j ∧ j < i ∧ ks[j]? = some k' ∧ k'.eqv k = true)) _ ?_ ?_ _ _
      ⟨rfl, 0, none, rfl, by rw [placesWithHash, List.range_eq_range', Nat.sub_zero], Nat.zero_le _, .inl ⟨rfl, fun _ _ h => absurd h (Nat.not_lt_zero _)⟩⟩
    · rintro x rest b s' ⟨rfl, i, hit, rfl, hr, hi, hH⟩
      obtain ⟨hix, hxn, hpx, hskip, hrest⟩ := filter_range'_cons _ _ _ _ _ hr.symm
      have hlt : x < es.size := by omega
      have hrest' : rest = (List.range' (x + 1) (es.size - (x + 1))).filter (fun i => (es[i]?.map (·.hash)) == some (hashD w k)) := by rw [hrest]; congr 2; omega
      obtain ⟨k', hk', hhash, hka⟩ := hat (Array.getElem?_eq_getElem hlt)
      have hHx : (hit = none ∧ ∀ (j : Nat) (k' : D), j < x → ks[j]? = some k' → k'.eqv k = false) ∨ ∃ (j : Nat) (k' : D), hit = some j ∧ j < x ∧ ks[j]? = some k' ∧ k'.eqv k = true := by
        rcases hH with ⟨h0, hno⟩ | ⟨j, p, h1, hji, hj⟩
        · refine .inl ⟨h0, fun j p hjx hj => ?_⟩
          rcases Nat.lt_or_ge j i with h | h
          · exact hno j p h hj
          · exact nohash j p hj (hskip j h hjx)
        · exact .inr ⟨j, p, h1, by omega, hj⟩
      have hstay : k'.eqv k = false → ((hit = none ∧ ∀ (j : Nat) (k' : D), j < x + 1 → ks[j]? = some k' → k'.eqv k = false) ∨ ∃ (j : Nat) (k' : D), hit = some j ∧ j < x + 1 ∧ ks[j]? = some k' ∧ k'.eqv k = true) := by
        intro hne
        rcases hHx with ⟨h0, hno⟩ | ⟨j, p, h1, hjx, hj⟩
        · refine .inl ⟨h0, fun j p hjx hj => ?_⟩
          rcases Nat.lt_or_ge j x with h | h
          · exact hno j p h hj
          · have hjx' : j = x := by omega
            subst hjx'
            rw [hk'] at hj; cases hj
            exact hne
        · exact .inr ⟨j, p, h1, by omega, hj⟩
      simp only [Array.getElem?_eq_getElem hlt]
      by_cases hh : (es[x].hash == hashD w k) = true
      · rw [if_pos hh]
        refine wpAny_bind (wpAny_dictEpoch ho hd (wpAny_bind (KA.eqBool hu hka hk (wpAny_bind (wpAny_dictEpoch ho hd ?_)))))
        show wpAny _ _ (if (ep != ep) = true then _ else _) _ E _
        rw [if_neg (by simp)]
        cases hq : k'.eqv k with
        | true =>
          rcases hHx with ⟨rfl, _⟩ | ⟨j, p, _, hjx, hj, hje⟩
          · simp only [if_true]
            simp only [Option.isSome_none, Bool.false_eq_true, if_false]
            refine wpAny_bind (wpAny_rule ?_)
            refine wp_ite (fun _ => ?_) (fun _ => ?_)
            · exact wpAny_pure (wpAny_pure (hsome x k' hk' hq))
            · exact wpAny_pure ⟨rfl, x + 1, some x, rfl, hrest', hlt, .inr ⟨x, k', rfl, Nat.lt_succ_self x, hk', hq⟩⟩
          · have fp : p.flat = true := by
              obtain ⟨_, _, _, q⟩ := he.get hj
              exact q.1
            have e := hap j x p k' hj hk' (D.eqv_trans fp hk.1 hka.1 hje (D.eqv_symm hka.1 hk.1 hq))
            omega
        | false =>
          simp only [Bool.false_eq_true, if_false]
          refine wpAny_bind (wpAny_rule ?_)
          first | rw [if_neg (by simp)] | skip
          first
            | exact wpAny_pure ⟨rfl, x + 1, hit, rfl, hrest', hlt, hstay hq⟩
            | exact wpAny_bind (wpAny_pure (wpAny_pure ⟨rfl, x + 1, hit, rfl, hrest', hlt, hstay hq⟩))
      · rw [if_neg hh]
        refine wpAny_pure ⟨rfl, x + 1, hit, rfl, hrest', hlt, hstay ?_⟩
        cases hq : k'.eqv k with
        | false => rfl
        | true =>
          rw [hhash, hashD_of_eqv hka.1 hk.1 hq] at hh; simp at hh
    · rintro b s' ⟨rfl, i, hit, rfl, hr, hi, hH⟩
      rcases hH with ⟨rfl, hno⟩ | ⟨j, p, rfl, _, hj, hje⟩
      · refine wpAny_pure (hnone fun j k' hj => ?_)
        rcases Nat.lt_or_ge j i with h | h
        · exact hno j k' h hj
        · refine nohash j k' hj ?_
          have hjl : j < es.size := by rw [hsz]; exact (List.getElem?_eq_some_iff.mp hj).1
          have := List.filter_eq_nil_iff.mp hr.symm j (List.mem_range'_1.mpr ⟨h, by omega⟩)
          simpa using this
      · exact wpAny_pure (hsome j p hj hje))
end
end
end Ev

/-! EvK: dicts with any data as keys. -/
namespace Ev
open PySem PySem.Spec
open PyProof.Rows hiding St
open L2
open Sem (wp)

theorem look_none {k : D} : ∀ {kvs : List (D × D)}, (∀ (j : Nat) (k' : D), (kvs.map (·.1))[j]? = some k' → k'.eqv k = false) → look k kvs = none
  | [], _ => rfl
  | (a, v) :: r, h => by
    unfold look
    rw [h 0 a rfl]
    exact look_none fun j k' e => h (j + 1) k' (by simpa using e)
theorem look_some {k : D} : ∀ {kvs : List (D × D)} {v : D}, look k kvs = some v → ∃ (j : Nat) (k' : D), kvs[j]? = some (k', v) ∧ k'.eqv k = true
  | [], _, h => by cases h
  | (a, u) :: r, v, h => by
    unfold look at h
    by_cases e : a.eqv k = true
    · rw [if_pos e] at h; cases h
      exact ⟨0, a, rfl, e⟩
    · rw [if_neg e] at h
      obtain ⟨j, k', h1, h2⟩ := look_some h
      exact ⟨j + 1, k', by simpa using h1, h2⟩
theorem look_isSome_false {k : D} {kvs : List (D × D)} (h : look k kvs = none) : ∀ (j : Nat) (k' : D), (kvs.map (·.1))[j]? = some k' → k'.eqv k = false := by
  induction kvs with
  | nil => intro j k' e; simp at e
  | cons p r ih =>
    obtain ⟨a, v⟩ := p
    intro j k' e
    unfold look at h
    by_cases q : a.eqv k = true
    · rw [if_pos q] at h; cases h
    · rw [if_neg q] at h
      cases j with
      | zero => simp at e; subst e; simpa using q
      | succ j => exact ih h j k' (by simpa using e)
theorem apart_of {kvs : List (D × D)} (f : ∀ p ∈ kvs, p.1.flat = true) (h : distinctK kvs) : Apart (kvs.map (·.1)) := by
  induction kvs with
  | nil => intro i j a b e; simp at e
  | cons p r ih =>
    obtain ⟨k, v⟩ := p
    obtain ⟨h1, h2⟩ := h
    have ih' := ih (fun p hp => f p (List.mem_cons_of_mem _ hp)) h2
    have fk : k.flat = true := f (k, v) List.mem_cons_self
    have fr : ∀ (j : Nat) (b : D), (r.map (·.1))[j]? = some b → b.flat = true := fun j b e => by
      obtain ⟨q, hq, rfl⟩ := List.mem_map.mp (List.mem_of_getElem? e)
      exact f q (List.mem_cons_of_mem _ hq)
    have no := look_isSome_false h1
    intro i j a b ei ej he
    cases i with
    | zero =>
      cases j with
      | zero => rfl
      | succ j =>
        simp at ei; subst ei
        have ej' : (r.map (·.1))[j]? = some b := by simpa using ej
        have := no j b ej'
        rw [D.eqv_symm fk (fr j b ej') he] at this; cases this
    | succ i =>
      cases j with
      | zero =>
        simp at ej; subst ej
        have := no i a (by simpa using ei)
        rw [he] at this; cases this
      | succ j =>
        have := ih' i j a b (by simpa using ei) (by simpa using ej) he
        omega
theorem look_at {k : D} {kvs : List (D × D)} (f : ∀ p ∈ kvs, p.1.flat = true) (h : distinctK kvs) (fk : k.flat = true) {j : Nat} {k' v : D} (e : kvs[j]? = some (k', v)) (q : k'.eqv k = true) : look k kvs = some v := by
  have fk' : k'.flat = true := f (k', v) (List.mem_of_getElem? e)
  cases hl : look k kvs with
  | none =>
    have := look_isSome_false hl j k' (by rw [List.getElem?_map, e]; rfl)
    rw [q] at this; cases this
  | some u =>
    obtain ⟨i, k2, h1, h2⟩ := look_some hl
    have fk2 : k2.flat = true := f (k2, u) (List.mem_of_getElem? h1)
    have := apart_of f h i j k2 k' (by rw [List.getElem?_map, h1]; rfl) (by rw [List.getElem?_map, e]; rfl) (D.eqv_trans fk2 fk fk' h2 (D.eqv_symm fk' fk q))
    subst this
    rw [e] at h1; cases h1; rfl
theorem put_new {k v : D} : ∀ {kvs : List (D × D)}, look k kvs = none → put k v kvs = kvs ++ [(k, v)]
  | [], _ => rfl
  | (a, u) :: r, h => by
    unfold look at h
    by_cases q : a.eqv k = true
    · rw [if_pos q] at h; cases h
    · rw [if_neg q] at h
      unfold put
      rw [if_neg q, put_new h]
      rfl
theorem put_at {k v : D} : ∀ {kvs : List (D × D)} {j : Nat} {k' u : D}, (∀ (i : Nat) (a : D), i < j → (kvs.map (·.1))[i]? = some a → a.eqv k = false) → kvs[j]? = some (k', u) → k'.eqv k = true → put k v kvs = kvs.set j (k', v)
  | [], j, _, _, _, e, _ => by simp at e
  | (a, w) :: r, 0, k', u, _, e, q => by
    simp at e
    obtain ⟨rfl, rfl⟩ := e
    unfold put
    rw [if_pos q]
    rfl
  | (a, w) :: r, j + 1, k', u, no, e, q => by
    have na := no 0 a (Nat.succ_pos _) rfl
    unfold put
    rw [if_neg (by rw [na]; exact Bool.false_ne_true), put_at (j := j) (fun i b hi hb => no (i + 1) b (by omega) (by simpa using hb)) (by simpa using e) q]
    rfl
theorem look_put_keys {x k v : D} : ∀ {kvs : List (D × D)}, look x kvs = none → k.eqv x = false → look x (put k v kvs) = none
  | [], _, h => by unfold put look; rw [h]; rfl
  | (a, u) :: r, h, hk => by
    unfold look at h
    by_cases q : a.eqv x = true
    · rw [if_pos q] at h; cases h
    · rw [if_neg q] at h
      unfold put
      by_cases e : a.eqv k = true
      · rw [if_pos e]
        unfold look
        rw [if_neg q]; exact h
      · rw [if_neg e]
        unfold look
        rw [if_neg q]; exact look_put_keys h hk
theorem distinct_put {k v : D} (fk : k.flat = true) : ∀ {kvs : List (D × D)}, (∀ p ∈ kvs, p.1.flat = true) → distinctK kvs → distinctK (put k v kvs)
  | [], _, _ => ⟨rfl, trivial⟩
  | (a, u) :: r, f, ⟨h1, h2⟩ => by
    have fa : a.flat = true := f (a, u) List.mem_cons_self
    unfold put
    by_cases e : a.eqv k = true
    · rw [if_pos e]
      exact ⟨h1, h2⟩
    · rw [if_neg e]
      refine ⟨look_put_keys h1 ?_, distinct_put fk (fun p hp => f p (List.mem_cons_of_mem _ hp)) h2⟩
      cases q : k.eqv a with
      | false => rfl
      | true => exact absurd (D.eqv_symm fk fa q) e
theorem put_length_le {k v : D} : ∀ (kvs : List (D × D)), (put k v kvs).length ≤ kvs.length + 1
  | [] => Nat.le_refl _
  | (a, u) :: r => by
    unfold put
    split
    · simp
    · simp only [List.length_cons]
      have := put_length_le (k := k) (v := v) r
      omega

/-! ### a dict of the evaluator's in the machine -/
section
variable {X : Cx} {pins : List (Addr × Obj)} {σ : St} {H : Hp} {s : Shared} {ρ : Rho} {n : Nat}
theorem keys_of (I : Inv X pins σ H s) : ∀ {kvs : List (D × D)} {es : List (Int × V × V)} {ds : List DictEntry}, RK X.K X.w ρ n H kvs es → Paired (fun (e : Int × V × V) (d : DictEntry) => d.hash = e.1 ∧ RelV e.2.1 d.key ∧ RelV e.2.2 d.val) es ds → KAs X.w s.heap (kvs.map (·.1)) ds
  | _, _, _, .nil, h => by cases h; exact .nil
  | _, _, _, .cons r1 t, h => by
    cases h with
    | cons q1 q2 =>
      obtain ⟨fk, dk, hk, rk, rv⟩ := r1
      exact .cons ⟨q1.1.trans hk, fk, dk, RV.reads I _ _ _ fk rk q1.2.1⟩ (keys_of I t q2)
/-- what the machine's heap has of it -/
theorem dict_obj (I : Inv X pins σ H s) {a : Addr} {ep : Nat} {es : List (Int × V × V)} {kvs : List (D × D)} (h : H a = some (.ext (dictP a ep es))) (r : RK X.K X.w ρ n H kvs es) :
    es.length ≤ sizeLine ∧ (a == sysModules) = false ∧ ∃ (o : Obj) (ds : List DictEntry), s.heap.get? a = some o ∧ o.ExactDict ∧ o.data = .dict ds.toArray ep ∧
      Paired (fun (e : Int × V × V) (d : DictEntry) => d.hash = e.1 ∧ RelV e.2.1 d.key ∧ RelV e.2.2 d.val) es ds ∧ KAs X.w s.heap (kvs.map (·.1)) ds := by
  obtain ⟨⟨h1, h2, o, ds, h3, h4, h5, h6⟩, _⟩ := I.hok a _ h
  exact ⟨h1, h2, o, ds, h3, h4, h5, h6, keys_of I r h6⟩
theorem RK.flat {K : PySem.W.Frag} {w : World} {kvs : List (D × D)} {es : List (Int × V × V)} (r : RK K w ρ n H kvs es) : ∀ p ∈ kvs, p.1.flat = true := by
  induction r with
  | nil => intro p hp; cases hp
  | cons r1 _ ih =>
    intro p hp
    rcases List.mem_cons.mp hp with rfl | hp
    · exact r1.1
    · exact ih p hp
theorem RK.get {K : PySem.W.Frag} {w : World} : ∀ {kvs : List (D × D)} {es : List (Int × V × V)} {i : Nat} {p : D × D}, RK K w ρ n H kvs es → kvs[i]? = some p → ∃ e, es[i]? = some e ∧ RV K ρ n H p.1 e.2.1 ∧ RV K ρ n H p.2 e.2.2
  | _, _, _, _, .nil, e => by simp at e
  | _, _, 0, _, .cons r _, e => by simp at e; subst e; exact ⟨_, rfl, r.2.2.2.1, r.2.2.2.2⟩
  | _, _, i + 1, p, .cons _ t, e => by
    obtain ⟨u, h1, h2⟩ := RK.get (i := i) (p := p) t (by simpa using e)
    exact ⟨u, by simpa using h1, h2⟩
theorem paired_get {α β : Type} {R : α → β → Prop} : ∀ {xs : List α} {ys : List β} {i : Nat} {x : α}, Paired R xs ys → xs[i]? = some x → ∃ y, ys[i]? = some y ∧ R x y
  | _, _, _, _, .nil, e => by simp at e
  | _, _, 0, _, .cons r _, e => by simp at e; subst e; exact ⟨_, rfl, r⟩
  | _, _, i + 1, x, .cons _ t, e => by
    obtain ⟨u, h1, h2⟩ := paired_get (i := i) (x := x) t (by simpa using e)
    exact ⟨u, by simpa using h1, h2⟩
theorem paired_append {α β : Type} {R : α → β → Prop} : ∀ {xs xs' : List α} {ys ys' : List β}, Paired R xs ys → Paired R xs' ys' → Paired R (xs ++ xs') (ys ++ ys')
  | _, _, _, _, .nil, h => h
  | _, _, _, _, .cons r t, h => .cons r (paired_append t h)
theorem paired_set {α β : Type} {R : α → β → Prop} {x : α} {y : β} (r : R x y) : ∀ {xs : List α} {ys : List β} (i : Nat), Paired R xs ys → Paired R (xs.set i x) (ys.set i y)
  | _, _, _, .nil => .nil
  | _, _, 0, .cons _ t => .cons r t
  | _, _, i + 1, .cons q t => .cons q (paired_set r i t)

/-- the search: with what is told of it -/
theorem dictGet_data (I : Inv X pins σ H s) {E : Value → Shared → Prop} {A : Around} {a : Addr} {ep : Nat} {es : List (Int × V × V)} {kvs : List (D × D)} {k : D} {kv : V} {key : Value} {Q : Option Value → Shared → Prop} (hu : A.units + 7 < cLine)
    (h : H a = some (.ext (dictP a ep es))) (r : RK X.K X.w ρ n H kvs es) (dk : distinctK kvs) (fk : keyOk k = true) (rk : RV X.K ρ n H k kv) (rv : RelV kv key)
    (hnone : look k kvs = none → ∀ tk, Q none { s with toks := tk }) (hsome : ∀ v vv u, look k kvs = some v → RV X.K ρ n H v vv → RelV vv u → ∀ tk, Q (some u) { s with toks := tk }) :
    wpAny (model X.prog X.w) A (dictGet a key) Q E s := by
  obtain ⟨z1, z2, o, ds, ho, hx, hd, hp, hka⟩ := dict_obj I h r
  unfold keyOk at fk
  rw [Bool.and_eq_true, decide_eq_true_eq] at fk
  obtain ⟨as, rr⟩ := RV.reads I k kv key fk.1 rk rv
  have hk : KA s.heap k key := ⟨fk.1, fk.2, as, rr⟩
  unfold dictGet
  try with_reducible refine wpAny_holding ?_
  refine wpAny_bind (hash_data k A s key as _ fk.1 rr (by have := fk.2; omega) fun tk => wpAny_bind ?_)
  refine dictFind_data (s := { s with toks := tk }) (ks := kvs.map (·.1)) hu hk ho hd (by simpa using hka) (apart_of r.flat dk) (fun hno => ?_) (fun j k' hj he => ?_)
  · exact wpAny_pure (hnone (look_none hno) tk)
  · have hj' : ∃ p, kvs[j]? = some p ∧ p.1 = k' := by
      rw [List.getElem?_map] at hj
      cases q : kvs[j]? with
      | none => rw [q] at hj; cases hj
      | some p => rw [q] at hj; exact ⟨p, rfl, Option.some.inj hj⟩
    obtain ⟨⟨k2, v⟩, hp1, rfl⟩ := hj'
    obtain ⟨e, he1, _, rve⟩ := RK.get r hp1
    obtain ⟨d, hd1, _, _, rd⟩ := paired_get hp he1
    refine wpAny_bind (wpAny_dictEntries (s := { s with toks := tk }) ho hd ?_)
    rw [List.getElem?_toArray, hd1]
    exact wpAny_pure (hsome v _ _ (look_at r.flat dk fk.1 hp1 he) rve rd tk)

/-! ### d[k], k in d, d[k] = v -/
/-- the state behind a search -/
theorem Inv.tk (I : Inv X pins σ H s) (tk : Nat) : Inv X pins σ H { s with toks := tk } := I.kept (h' := s.heap) (t' := tk) fun _ _ e => e
theorem typeIs_dict (I : Inv X pins σ H s) {a : Addr} {ep : Nat} {es : List (Int × V × V)} (h : H a = some (.ext (dictP a ep es))) : s.TypeIs (.ref a) "dict" := by
  obtain ⟨⟨_, _, o, _, ho, hx, _⟩, _⟩ := I.hok a _ h
  exact ⟨o, ho, hx.1⟩
theorem getItem_dictD (I : Inv X pins σ H s) {a : Addr} {ep : Nat} {es : List (Int × V × V)} {kvs : List (D × D)} {k v : D} {kv : V} {key : Value} {Q : VK} (hu : X.A.units + 8 < cLine)
    (h : H a = some (.ext (dictP a ep es))) (r : RK X.K X.w ρ n H kvs es) (dk : distinctK kvs) (fk : keyOk k = true) (rk : RV X.K ρ n H k kv) (rv : RelV kv key) (hl : look k kvs = some v)
    (q : ∀ vv, RV X.K ρ n H v vv → Q vv H) : wpAny (model X.prog X.w) X.A (getItem (.ref a) key) (EP X pins σ Q) X.xe s := by
  have hT := typeIs_dict I h
  unfold getItem
  try with_reducible refine wpAny_holding ?_
  refine wpAny_bind (wpAny_sequenceKey hT (by decide) ?_)
  refine wpAny_bind (wpAny_callSpecial?_slot (name := Str.ofString "__getitem__") hT PySem.slot_dict_getitem
    (wpAny_call_entry PySem.slot_dict_getitem hT PySem.entry_dict_getitem ?_ (PySem.args_dict_getitem _ _)))
  show wpAny _ _ (dictGet a key >>= _) _ _ s
  refine wpAny_bind (dictGet_data I (show X.A.units + 1 + 7 < cLine by omega) h r dk fk rk rv (fun e => by rw [hl] at e; cases e) fun v' vv u e hr hv tk => ?_)
  rw [hl] at e; cases e
  exact wpAny_pure ⟨u, rfl, wpAny_pure ⟨vv, H, Inv.tk I tk, hv, q vv hr⟩⟩
theorem in_dictD (I : Inv X pins σ H s) {a : Addr} {ep : Nat} {es : List (Int × V × V)} {kvs : List (D × D)} {k : D} {kv : V} {key : Value} {Q : VK} (hu : X.A.units + 8 < cLine)
    (h : H a = some (.ext (dictP a ep es))) (r : RK X.K X.w ρ n H kvs es) (dk : distinctK kvs) (fk : keyOk k = true) (rk : RV X.K ρ n H k kv) (rv : RelV kv key)
    (q : Q (.bl (look k kvs).isSome) H) : wpAny (model X.prog X.w) X.A (compareOp .In key (.ref a)) (EP X pins σ Q) X.xe s := by
  have hT := typeIs_dict I h
  have hd : (a == sysModules) = false := (dict_obj I h r).2.1
  show wpAny _ _ ((do return Value.bool (← contains (.ref a) key)) : Sem Value) _ _ s
  refine wpAny_bind ?_
  unfold contains
  try with_reducible refine wpAny_holding ?_
  refine wpAny_bind (wpAny_specialOf hT PySem.slot_dict_contains.lookup ?_)
  show wpAny _ _ (if (some (Value.builtin "dict.__contains__") == some Value.none) = true then _ else _) _ _ s
  rw [if_neg (by rw [beq_builtin_none]; exact Bool.false_ne_true)]
  refine wpAny_bind (wpAny_callSpecialUnlessNone?_slot (name := Str.ofString "__contains__") hT PySem.slot_dict_contains
    (wpAny_call_entry PySem.slot_dict_contains hT PySem.entry_dict_contains ?_ (PySem.args_dict_contains _ _)))
  show wpAny _ _ (dictGet a key >>= _) _ _ s
  refine wpAny_bind (dictGet_data I (show X.A.units + 1 + 7 < cLine by omega) h r dk fk rk rv (fun e tk => ?_) fun v' vv u e hr hv tk => ?_)
  · rw [e] at q
    show wpAny _ _ (Builtin.Dict.pendingKey? a key >>= _) _ _ _
    exact wpAny_bind (wpAny_pendingKey_other hd (wpAny_pure ⟨_, rfl, wpAny_truthy_bool (wpAny_pure ⟨.bl false, H, Inv.tk I tk, rfl, q⟩)⟩))
  · rw [e] at q
    show wpAny _ _ (ret (.bool true)) _ _ _
    exact wpAny_pure ⟨_, rfl, wpAny_truthy_bool (wpAny_pure ⟨.bl true, H, Inv.tk I tk, rfl, q⟩)⟩
theorem notIn_dictD (I : Inv X pins σ H s) {a : Addr} {ep : Nat} {es : List (Int × V × V)} {kvs : List (D × D)} {k : D} {kv : V} {key : Value} {Q : VK} (hu : X.A.units + 8 < cLine)
    (h : H a = some (.ext (dictP a ep es))) (r : RK X.K X.w ρ n H kvs es) (dk : distinctK kvs) (fk : keyOk k = true) (rk : RV X.K ρ n H k kv) (rv : RelV kv key)
    (q : Q (.bl (look k kvs).isNone) H) : wpAny (model X.prog X.w) X.A (compareOp .NotIn key (.ref a)) (EP X pins σ Q) X.xe s := by
  have hT := typeIs_dict I h
  have hd : (a == sysModules) = false := (dict_obj I h r).2.1
  show wpAny _ _ ((do return Value.bool !(← contains (.ref a) key)) : Sem Value) _ _ s
  refine wpAny_bind ?_
  unfold contains
  try with_reducible refine wpAny_holding ?_
  refine wpAny_bind (wpAny_specialOf hT PySem.slot_dict_contains.lookup ?_)
  show wpAny _ _ (if (some (Value.builtin "dict.__contains__") == some Value.none) = true then _ else _) _ _ s
  rw [if_neg (by rw [beq_builtin_none]; exact Bool.false_ne_true)]
  refine wpAny_bind (wpAny_callSpecialUnlessNone?_slot (name := Str.ofString "__contains__") hT PySem.slot_dict_contains
    (wpAny_call_entry PySem.slot_dict_contains hT PySem.entry_dict_contains ?_ (PySem.args_dict_contains _ _)))
  show wpAny _ _ (dictGet a key >>= _) _ _ s
  refine wpAny_bind (dictGet_data I (show X.A.units + 1 + 7 < cLine by omega) h r dk fk rk rv (fun e tk => ?_) fun v' vv u e hr hv tk => ?_)
  · rw [e] at q
    show wpAny _ _ (Builtin.Dict.pendingKey? a key >>= _) _ _ _
    exact wpAny_bind (wpAny_pendingKey_other hd (wpAny_pure ⟨_, rfl, wpAny_truthy_bool (wpAny_pure ⟨.bl true, H, Inv.tk I tk, rfl, q⟩)⟩))
  · rw [e] at q
    show wpAny _ _ (ret (.bool true)) _ _ _
    exact wpAny_pure ⟨_, rfl, wpAny_truthy_bool (wpAny_pure ⟨.bl false, H, Inv.tk I tk, rfl, q⟩)⟩
/-- the object of a dict is written -/
theorem Inv.dictWr (I : Inv X pins σ H s) {a : Addr} {ep ep' : Nat} {es es' : List (Int × V × V)} {h' : Heap} {tk : Nat} (h : H a = some (.ext (dictP a ep es))) (sb : Heap.SameBut a s.heap h') (hp : dictP a ep' es' h') :
    Inv X pins σ (upd H a (.ext (dictP a ep' es'))) { s with heap := h', toks := tk } := by
  have mu : Mut (H a) := by rw [h]; trivial
  have k : ∀ b u, b ≠ a → s.heap.get? b = some u → h'.get? b = some u := fun b u hb e => (sb.2 b hb).trans e
  have there : ∃ u, h'.get? a = some u := let ⟨_, _, o, _, e, _⟩ := hp; ⟨o, e⟩
  refine I.un (Un.write mu (.inl rfl) k there) (I.hok.write mu (.inl rfl) k there ⟨hp, there, fun h1 h2 p q => ?_⟩)
  obtain ⟨p1, p2, o, ds, e, p3⟩ := p
  exact ⟨p1, p2, o, ds, q o e, p3⟩
theorem setItem_dictD (I : Inv X pins σ H s) {a : Addr} {ep : Nat} {es : List (Int × V × V)} {kvs : List (D × D)} {k : D} {kv vv : V} {key v : Value} {Q : Hp → Prop} (hu : X.A.units + 8 < cLine)
    (h : H a = some (.ext (dictP a ep es))) (r : RK X.K X.w ρ n H kvs es) (dk : distinctK kvs) (fk : keyOk k = true) (rk : RV X.K ρ n H k kv) (rv : RelV kv key) (rvv : RelV vv v) (hz : kvs.length < sizeMax)
    (q : ∀ ep' es' h', dictP a ep' es' h' → ((look k kvs = none ∧ es' = es ++ [(hashD X.w k, kv, vv)]) ∨ ∃ (j : Nat) (k' u : D) (e : Int × V × V), kvs[j]? = some (k', u) ∧ k'.eqv k = true ∧ es[j]? = some e ∧ es' = es.set j (e.1, e.2.1, vv) ∧ ep' = ep) → Q (upd H a (.ext (dictP a ep' es')))) :
    wpAny (model X.prog X.w) X.A (setItem (.ref a) key v) (fun _ s' => ∃ H', Inv X pins σ H' s' ∧ Q H') X.xe s := by
  have hT := typeIs_dict I h
  obtain ⟨z1, z2, o, ds, ho, hx, hd, hp, hka⟩ := dict_obj I h r
  have hlen : ds.length = kvs.length := by rw [← hka.length, List.length_map]
  have hlen2 : es.length = ds.length := Paired.length hp
  have hz' : kvs.length < sizeLine := by rw [← sizeMax_eq]; exact hz
  unfold keyOk at fk
  rw [Bool.and_eq_true, decide_eq_true_eq] at fk
  obtain ⟨as, rr⟩ := RV.reads I k kv key fk.1 rk rv
  have hk : KA s.heap k key := ⟨fk.1, fk.2, as, rr⟩
  unfold setItem
  try with_reducible refine wpAny_holding ?_
  refine wpAny_bind (wpAny_sequenceKey hT (by decide) ?_)
  refine wpAny_bind (wpAny_callSpecial?_slot (name := Str.ofString "__setitem__") hT PySem.slot_dict_setitem
    (wpAny_call_entry PySem.slot_dict_setitem hT PySem.entry_dict_setitem ?_ (PySem.args_dict_setitem _ _ _)))
  show wpAny _ _ (Builtin.Dict.notOrdered "__setitem__" ⟨[.ref a, key, v], []⟩ >>= _) _ _ s
  refine wpAny_bind (wpAny_notOrdered_dict hT ?_)
  show wpAny _ _ (dictSet a key v >>= _) _ _ s
  refine wpAny_bind ?_
  unfold dictSet
  try with_reducible refine wpAny_holding ?_
  have hu1 : X.A.in1.units + 7 < cLine := by show X.A.units + 1 + 7 < cLine; omega
  refine wpAny_bind (hash_data k _ s key as _ fk.1 rr (by have := fk.2; omega) fun tk => ?_)
  unfold dictSetHashed
  try with_reducible refine wpAny_holding ?_
  refine wpAny_bind (dictFind_data (s := { s with toks := tk }) (ks := kvs.map (·.1)) hu1 hk ho hd (by simpa using hka) (apart_of r.flat dk) (fun hno => ?_) (fun j k' hj he => ?_))
  · refine wpAny_bind (wpAny_rule (wpAny_updateDictKeys (hz := by simp; omega) (s := { s with toks := tk }) ho hd ?_))
    have hp' : dictP a (ep + 1) (es ++ [(hashD X.w k, kv, vv)]) (s.heap.update a (Obj.mapDictKeys (·.push ⟨hashD X.w k, key, v⟩))) := by
      refine ⟨by simp; omega, z2, _, ds ++ [⟨hashD X.w k, key, v⟩], Heap.get?_update_self _ ho (Obj.isFreed_of_dict (Obj.data_mapDictKeys hd _)), hx.mapDictKeys _, ?_, paired_append hp (.cons ⟨rfl, rv, rvv⟩ .nil)⟩
      rw [Obj.data_mapDictKeys hd]
      simp
    exact wpAny_pure ⟨.none, rfl, wpAny_pure ⟨_, Inv.dictWr I h (Heap.SameBut.update ..) hp', q _ _ _ hp' (.inl ⟨look_none hno, rfl⟩)⟩⟩
  · have hj' : ∃ p, kvs[j]? = some p ∧ p.1 = k' := by
      rw [List.getElem?_map] at hj
      cases q : kvs[j]? with
      | none => rw [q] at hj; cases hj
      | some p => rw [q] at hj; exact ⟨p, rfl, Option.some.inj hj⟩
    obtain ⟨⟨k2, u⟩, hp1, rfl⟩ := hj'
    obtain ⟨e, he1, _, _⟩ := RK.get r hp1
    obtain ⟨d, hd1, hd2, hd3, hd4⟩ := paired_get hp he1
    refine wpAny_bind (wpAny_rule (wpAny_bind (wpAny_updateDict (s := { s with toks := tk }) ho hd (wpAny_point ?_))))
    have hp' : dictP a ep (es.set j (e.1, e.2.1, vv)) (s.heap.update a (Obj.mapDict (·.modify j fun e => { e with val := v }))) := by
      refine ⟨by simpa using z1, z2, _, ds.set j ⟨d.hash, d.key, v⟩, Heap.get?_update_self _ ho (Obj.isFreed_of_dict (Obj.data_mapDict hd _)), hx.mapDict _, ?_, paired_set (y := (⟨d.hash, d.key, v⟩ : DictEntry)) ⟨hd2, hd3, rvv⟩ j hp⟩
      rw [Obj.data_mapDict hd]
      congr 1
      apply Array.ext_getElem?
      intro i
      rw [Array.getElem?_modify, List.getElem?_toArray, List.getElem?_toArray, List.getElem?_set]
      have hjl : j < ds.length := (List.getElem?_eq_some_iff.mp hd1).1
      by_cases e1 : j = i
      · subst e1
        rw [if_pos rfl, if_pos rfl, if_pos hjl, hd1]
        rfl
      · rw [if_neg e1, if_neg e1]
    exact wpAny_pure ⟨.none, rfl, wpAny_pure ⟨_, Inv.dictWr I h (Heap.SameBut.update ..) hp', q _ _ _ hp' (.inr ⟨j, _, u, e, hp1, he, he1, rfl, rfl⟩)⟩⟩
theorem keys_same : ∀ {es es' : List (Int × V × V)} {ds : List DictEntry}, Paired (fun (e : Int × V × V) (d : DictEntry) => d.hash = e.1 ∧ RelV e.2.1 d.key ∧ RelV e.2.2 d.val) es ds →
    Paired (fun (e : Int × V × V) (d : DictEntry) => d.hash = e.1 ∧ RelV e.2.1 d.key ∧ RelV e.2.2 d.val) es' ds → es'.map (·.2.1) = es.map (·.2.1)
  | [], _, _, .nil, h => by cases h; rfl
  | _ :: _, _, _, .cons r t, h => by
    cases h with
    | cons r' t' =>
      simp only [List.map_cons]
      rw [keys_same t t', r'.2.1.inj r.2.1]
/-- the same thing told twice: the same place in the epochs, the same keys -/
theorem dictP_same {a : Addr} {ep ep' : Nat} {es es' : List (Int × V × V)} (e : dictP a ep es = dictP a ep' es') (sat : ∃ h, dictP a ep es h) : ep' = ep ∧ es'.map (·.2.1) = es.map (·.2.1) := by
  obtain ⟨h, p⟩ := sat
  have p' : dictP a ep' es' h := by rw [← e]; exact p
  obtain ⟨_, _, o, ds, ho, _, hd, hp⟩ := p
  obtain ⟨_, _, o', ds', ho', _, hd', hp'⟩ := p'
  rw [ho] at ho'; cases ho'
  rw [hd] at hd'
  injection hd' with h1 h2
  have h1 : ds = ds' := by simpa using h1
  subst h1
  exact ⟨h2.symm, keys_same hp hp'⟩
end
end Ev

/-! EvO: operators, as the evaluator tells them, are the machine's. -/
namespace Ev
open PySem PySem.Spec
open PyProof.Rows hiding St
open L2
open Sem (wp)

/-- what is wanted behind a step of the evaluator -/
def After (K : PySem.W.Frag) (w : World) (ρ : Rho) (G : Hh) (H : Hp) (G' : Hh) (R : Rho → Hp → Prop) : Prop := ∀ ρ' H', Stp ρ G H ρ' G' H' → Rel K w ρ' G' H' → R ρ' H'
/-- .. behind a value -/
def AfterV (K : PySem.W.Frag) (w : World) (ρ : Rho) (G : Hh) (H : Hp) (d : D) (G' : Hh) (Q : VK) : Prop := ∀ ρ' v H', Stp ρ G H ρ' G' H' → Rel K w ρ' G' H' → RV K ρ' G'.n H' d v → Q v H'
def rOp (K : PySem.W.Frag) (w : World) (o : Op) : R2 := fun x y H Q => ∃ ρ G dx dy d G', Rel K w ρ G H ∧ RV K ρ G.n H dx x ∧ RV K ρ G.n H dy y ∧ bin o dx dy G = .ok d G' ∧ AfterV K w ρ G H d G' Q
section
variable {K : PySem.W.Frag} {w : World} {ρ : Rho} {G : Hh} {H : Hp} {Q : VK}
theorem AfterV.here {d : D} {v : V} (q : AfterV K w ρ G H d G Q) (R : Rel K w ρ G H) (r : RV K ρ G.n H d v) : Q v H := q ρ v H (Stp.refl _ _ _) R r
/-- a new list -/
theorem AfterV.newL {xs : List D} {vs : List V} (q : AfterV K w ρ G H (.ref G.n) (G.new (.lst xs)) Q) (R : Rel K w ρ G H) (r : RVs K ρ G.n H xs vs) (p : Addr) (hp : H p = none) : Q (.ref p) (upd H p (.lst vs)) := by
  have st := R.stepNew (o := HO.lst vs) (u := .lst xs) hp
  refine q (ρ.put G.n p) (.ref p) _ st (R.alloc hp rfl ⟨vs, ?_, RVs.step R st xs vs r⟩) ⟨Nat.lt_succ_self _, by rw [Rho.put_self]⟩
  rw [Rho.put_self, upd_same]
/-- a new tuple -/
theorem AfterV.newT {xs : List D} {vs : List V} (q : AfterV K w ρ G H (.tup xs) G Q) (R : Rel K w ρ G H) (r : RVs K ρ G.n H xs vs) (p : Addr) (hp : H p = none) : ∀ o : Obj, o.dict = none → Q (.ref p) (upd H p (.frz o (.tup vs))) := fun o ho => by
  obtain ⟨R', st⟩ := R.laid (o := HO.frz o (.tup vs)) hp fun z => z
  exact q ρ (.ref p) _ st R' ⟨p, vs, rfl, SqN.new ho, RVs.step R st xs vs r⟩
theorem Rel.lst (R : Rel K w ρ G H) {a : Nat} {xs : List D} (h : G.get a = some (.lst xs)) : ∃ vs, H (ρ a) = some (.lst vs) ∧ RVs K ρ G.n H xs vs := R.ob a _ h
theorem Rel.sqL (R : Rel K w ρ G H) {a : Nat} {xs : List D} (h : G.get a = some (.lst xs) ∨ G.get a = some (.frz xs)) : ∃ vs, SqL K H (ρ a) vs ∧ RVs K ρ G.n H xs vs := by
  rcases h with h | h
  · obtain ⟨vs, h1, h2⟩ := R.ob a _ h
    exact ⟨vs, SqL.of h1, h2⟩
  · obtain ⟨vs, h1, h2⟩ := R.ob a _ h
    rcases h1 with ⟨o, h1⟩ | h1
    · exact ⟨vs, .inl (.inr ⟨o, h1⟩), h2⟩
    · exact ⟨vs, h1 H, h2⟩
theorem Rel.dct (R : Rel K w ρ G H) {a : Nat} {kvs : List (D × D)} (h : G.get a = some (.dct kvs)) : ∃ ep es, H (ρ a) = some (.ext (dictP (ρ a) ep es)) ∧ RK K w ρ G.n H kvs es ∧ distinctK kvs ∧ ∃ h, dictP (ρ a) ep es h := R.ob a _ h
theorem seqOf_ref {a : Nat} {xs : List D} (h : seqOf G (.ref a) = some xs) : G.get a = some (.lst xs) ∨ G.get a = some (.frz xs) := by
  unfold seqOf at h
  simp only at h
  cases e : G.get a with
  | none => rw [e] at h; cases h
  | some o => rw [e] at h; cases o <;> simp_all

/- data in the abstract heap -/
mutual
theorem RV.dp {n : Nat} : ∀ (d : D) (v : V), d.flat = true → RV K ρ n H d v → Dp K H v d.toP
  | .und, _, h, _ => by simp [D.flat] at h
  | .ref _, _, h, _ => by simp [D.flat] at h
  | .non, _, _, h => by cases h; exact .non
  | .bl b, _, _, h => by cases h; exact .bl b
  | .int i, _, _, h => by cases h; exact .int i
  | .str i, _, _, h => by cases h; exact .str i
  | .tup xs, _, f, h => by
    obtain ⟨a, vs, e, hs, ha⟩ := h
    subst e
    exact .tup hs.1 (RVs.dp xs vs (by simpa [D.flat] using f) ha)
theorem RVs.dp {n : Nat} : ∀ (ds : List D) (vs : List V), D.flats ds = true → RVs K ρ n H ds vs → DpAll K H vs (D.toPs ds)
  | [], _, _, h => by cases h; exact .nil
  | d :: ds, _, f, h => by
    obtain ⟨v, r, e, h1, h2⟩ := h
    subst e
    simp only [D.flats, Bool.and_eq_true] at f
    exact .cons (RV.dp d v f.1 h1) (RVs.dp ds r f.2 h2)
end
end
theorem _root_.L2.OpR.weak {X : Cx} {f : Value → Value → Sem Value} {r r' : R2} (h : OpR X f r) (hw : ∀ x y H Q, r' x y H Q → r x y H Q) : OpR X f r' :=
  fun pins s σ H x y v u Q I rx ry q => h pins s σ H x y v u Q I rx ry (hw _ _ _ _ q)

@[simp] theorem ite_ok {c : Prop} [Decidable c] {α : Type} {a b : α} {G G' : Hh} : ((if c then Res.ok a G else Res.bad) = Res.ok b G') ↔ (c ∧ a = b ∧ G = G') := by
  split <;> simp_all
theorem tuple_mul1 (l : Addr) (items : Array Value) (n : Nat) (dd : Option Addr) (sl : Array (Option Value)) (x : Int) (u : Tok) (hx : x = 1) :
    Meets (Builtin.«tuple.__mul__» ⟨[.ref l, .int x u], []⟩) (fun _ R s => s.heap.get? l = some { cls := .type "tuple", dict := dd, data := .seq items n, slots := sl } ∧
      R (.ok (.ret (Value.ref l))) s) :=
  .of_wp fun prog w A R s h => by
    obtain ⟨hp, g, d, tk, os⟩ := s
    obtain ⟨hl, h⟩ := h
    subst hx
    have f1 := AutoSeq1.idx_int
    have c0 : (decide ((1 : Int) < -(2 ^ 63)) || decide ((1 : Int) ≥ 2 ^ 63)) = false := by decide
    have c1 : (items.isEmpty || (1 : Int) == 1) = true := by simp
    wp_walk using wpAny_loadPart' hl
    repeat (first
      | (refine wpAny_ite_false (decide_eq_false (by rw [c0]; exact Bool.false_ne_true)) ?_; wp_walk using wpAny_loadPart' hl)
      | (refine wpAny_ite_true (decide_eq_true (by rw [c1])) ?_; wp_walk using wpAny_loadPart' hl))
    exact ⟨_, rfl, h⟩
theorem tuple_mul0 (l : Addr) (items : Array Value) (n : Nat) (dd : Option Addr) (sl : Array (Option Value)) (x : Int) (u : Tok) (hx : x = 0) (c1 : (items.isEmpty || x == 1) = false)  :
    Meets (Builtin.«tuple.__mul__» ⟨[.ref l, .int x u], []⟩) (fun _ R s => s.heap.get? l = some { cls := .type "tuple", dict := dd, data := .seq items n, slots := sl } ∧
      R (.ok (.ret (Value.ref s.heap.objs.size))) { s with heap := s.heap.push { cls := Value.type "tuple", data := Data.seq #[] }, toks := s.toks }) :=
  .of_wp fun prog w A R s h => by
    obtain ⟨hp, g, d, tk, os⟩ := s
    obtain ⟨hl, h⟩ := h
    subst hx
    have f1 := AutoSeq1.idx_int
    have c0 : (decide ((0 : Int) < -(2 ^ 63)) || decide ((0 : Int) ≥ 2 ^ 63)) = false := by decide
    have c2 : (decide ((0:Int) ≤ 0) || items.isEmpty) = true := by simp
    wp_walk using wpAny_loadPart' hl
    repeat (first
      | (refine wpAny_ite_false (decide_eq_false (by rw [c0]; exact Bool.false_ne_true)) ?_; wp_walk using wpAny_loadPart' hl)
      | (refine wpAny_ite_false (decide_eq_false (by rw [c1]; exact Bool.false_ne_true)) ?_; wp_walk using wpAny_loadPart' hl)
      | (refine wpAny_ite_true (decide_eq_true (by rw [c2])) ?_; wp_walk using wpAny_loadPart' hl))
    exact ⟨_, rfl, h⟩

def rRep01 (K : PySem.W.Frag) : R2 := fun x y H Q => ∃ l k xs, x = .ref l ∧ y = .int k ∧ SqT K H l xs ∧ xs ≠ [] ∧ (k = 1 ∧ Q (.ref l) H ∨ k = 0 ∧ ∀ p, H p = none → ∀ o : Obj, o.dict = none → Q (.ref p) (upd H p (.frz o (.tup []))))
theorem op_rep01 {X : Cx} : OpR X (binaryOp .Mult) (rRep01 X.K) := by
  intro pins s σ H x y v u Q I rx ry h
  obtain ⟨l, k, xs, rfl, rfl, hT, hne, hk⟩ := h
  cases rx
  obtain ⟨t, rfl⟩ := ry
  obtain ⟨its, r, ⟨⟨cls, dd, data, sl⟩, ho, hc, n, hd⟩, hs⟩ := I.tuple hT
  simp only at hc hd
  subst hc hd
  have hle : its.length = xs.length := r.length.symm
  have hn : its ≠ [] := fun e => hne (by
    rw [e] at hle
    exact List.eq_nil_of_length_eq_zero hle.symm)
  have hi : its.toArray.isEmpty = false := by
    cases its with
    | nil => exact absurd rfl hn
    | cons a b => rfl
  rcases hk with ⟨rfl, q⟩ | ⟨rfl, q⟩
  · refine wpAny_binaryOp_repeat_ref (T := "tuple") (U := "int") (by decide) ⟨_, ho, rfl⟩ (fun s' => typeIs_int s' _ t) noFill_tuple_mul F.fills_int_mul F.slot_int_rmul repeat_tuple F.slot_int_index.lookup
      (call_meets F.slot_int_rmul (typeIs_int s _ t) F.entry_int_rmul (F.args_int_rmul_2 _ _) (int_rmul_tuple _ t l its.toArray n dd sl)
        ⟨ho, rfl, ⟨_, ho, rfl⟩, call_meets F.slot_tuple_mul ⟨_, ho, rfl⟩ F.entry_tuple_mul (F.args_tuple_mul_2 _ _) (tuple_mul1 l its.toArray n dd sl _ t rfl) ⟨ho, ?_⟩⟩)
    exact ⟨.ref l, H, I, rfl, q⟩
  · refine wpAny_binaryOp_repeat_ref (T := "tuple") (U := "int") (by decide) ⟨_, ho, rfl⟩ (fun s' => typeIs_int s' _ t) noFill_tuple_mul F.fills_int_mul F.slot_int_rmul repeat_tuple F.slot_int_index.lookup
      (call_meets F.slot_int_rmul (typeIs_int s _ t) F.entry_int_rmul (F.args_int_rmul_2 _ _) (int_rmul_tuple _ t l its.toArray n dd sl)
        ⟨ho, rfl, ⟨_, ho, rfl⟩, call_meets F.slot_tuple_mul ⟨_, ho, rfl⟩ F.entry_tuple_mul (F.args_tuple_mul_2 _ _) (tuple_mul0 l its.toArray n dd sl _ t rfl (by rw [hi]; rfl)) ⟨ho, ?_⟩⟩)
    refine ⟨.ref s.heap.objs.size, _, I.laid (t' := s.toks) (o := .frz { cls := .type "tuple", data := .seq #[] } (.tup [])) (fun b ob q => Heap.get?_push_of_some _ q) (Nat.le_refl _) ?_, rfl, q _ (I.hok.fresh (Nat.le_refl _)) _ rfl⟩
    exact ⟨Heap.get?_push_size _ rfl, Nat.zero_le _, [], .nil, IsTup.new _ _⟩
section
variable {X : Cx}
theorem opO_sub : OpR X (binaryOp .Sub) (rOp X.K X.w .sub) := op_sub.weak fun x y H Q h => by
  obtain ⟨ρ, G, dx, dy, d, G', R, hx, hy, e, q⟩ := h
  cases dx <;> cases dy <;> simp [bin] at e
  obtain ⟨rfl, rfl⟩ := e
  cases hx; cases hy
  exact ⟨_, _, rfl, rfl, q.here R rfl⟩
def rRepN (K : PySem.W.Frag) : R2 := fun x y H Q => ∃ l k xs, x = .ref l ∧ y = .int k ∧ SqT K H l xs ∧ xs ≠ [] ∧ 2 ≤ k ∧ k ≤ 1000 ∧ xs.length ≤ 1000 ∧ ∀ p, H p = none → ∀ o : Obj, o.dict = none → Q (.ref p) (upd H p (.frz o (.tup (List.replicate k.toNat xs).flatten)))
theorem op_repN {X : Cx} : OpR X (binaryOp .Mult) (rRepN X.K) := by
  intro pins s σ H x y v u Q I rx ry h
  obtain ⟨l, k, xs, rfl, rfl, hT, hne, h1, h2, hz, q⟩ := h
  cases rx
  obtain ⟨t, rfl⟩ := ry
  obtain ⟨its, r, ⟨⟨cls, dd, data, sl⟩, ho, hc, n, hd⟩, hs⟩ := I.tuple hT
  simp only at hc hd
  subst hc hd
  have hle : its.length = xs.length := r.length.symm
  have hn : its ≠ [] := fun e => hne (by
    rw [e] at hle
    exact List.eq_nil_of_length_eq_zero hle.symm)
  have hi : its.toArray.isEmpty = false := by
    cases its with
    | nil => exact absurd rfl hn
    | cons a b => rfl
  have hsz0 : its.toArray.size = xs.length := by rw [List.size_toArray, hle]
  have hm : ((its.toArray.size : Nat) : Int) * k ≤ 1000000 := by
    rw [hsz0]
    have a1 : ((xs.length : Nat) : Int) * k ≤ 1000 * k := Int.mul_le_mul_of_nonneg_right (by omega) (by omega)
    omega
  have flen : (List.replicate k.toNat its).flatten.length ≤ sizeLine := by
    rw [PyProof.Rows.lm_len_rep_flat, hle, sizeLine_eq]
    have a1 : k.toNat * xs.length ≤ 1000 * 1000 := Nat.mul_le_mul (by omega) hz
    omega
  have c0 : (decide (k < -(2 ^ 63)) || decide (k ≥ 2 ^ 63)) = false := by
    rw [decide_eq_false (by omega), decide_eq_false (by omega)] <;> rfl
  have c1 : (its.toArray.isEmpty || k == 1) = false := by
    rw [hi, Bool.false_or]
    exact beq_eq_false_iff_ne.mpr (by omega)
  have c2 : (decide (k ≤ 0) || its.toArray.isEmpty) = false := by
    rw [hi, Bool.or_false]
    exact decide_eq_false (by omega)
  have c4 : Builtin.Tuple.tupleTooMany (((its.toArray.size : Nat) : Int) * k) = false := by
    unfold Builtin.Tuple.tupleTooMany
    rw [sizeLine_eq]
    exact decide_eq_false (by omega)
  refine wpAny_binaryOp_repeat_ref (T := "tuple") (U := "int") (by decide) ⟨_, ho, rfl⟩ (fun s' => typeIs_int s' k t) noFill_tuple_mul F.fills_int_mul F.slot_int_rmul repeat_tuple F.slot_int_index.lookup
    (call_meets F.slot_int_rmul (typeIs_int s k t) F.entry_int_rmul (F.args_int_rmul_2 _ _) (int_rmul_tuple k t l its.toArray n dd sl)
      ⟨ho, rfl, ⟨_, ho, rfl⟩, call_meets F.slot_tuple_mul ⟨_, ho, rfl⟩ F.entry_tuple_mul (F.args_tuple_mul_2 _ _) (tuple_mulW l its.toArray n dd sl k t c0 c1 c2 (by omega) c4 (by rw [size_rep, List.size_toArray]; exact flen)) ⟨ho, ?_⟩⟩)
  rw [size_rep]
  refine ⟨.ref s.heap.objs.size, _, I.laid (t' := s.toks) (o := .frz { cls := .type "tuple", data := .seq (List.replicate k.toNat its).flatten.toArray } (.tup (List.replicate k.toNat xs).flatten)) (fun b ob q => Heap.get?_push_of_some _ q) (Nat.le_refl _) ?_, rfl, q _ (I.hok.fresh (Nat.le_refl _)) _ rfl⟩
  exact ⟨Heap.get?_push_size _ rfl, by rw [PyProof.Rows.lm_len_rep_flat, sizeLine_eq]; have a1 : k.toNat * xs.length ≤ 1000 * 1000 := Nat.mul_le_mul (by omega) hz; omega, _, r.rep k.toNat, IsTup.new _ _⟩
theorem RVs.flatten {K : PySem.W.Frag} {ρ : Rho} {n : Nat} {H : Hp} {xs : List D} {vs : List V} (r : RVs K ρ n H xs vs) : ∀ k, RVs K ρ n H (List.replicate k xs).flatten (List.replicate k vs).flatten
  | 0 => rfl
  | k + 1 => by rw [List.replicate_succ, List.replicate_succ, List.flatten_cons, List.flatten_cons]; exact r.append (RVs.flatten r k)
theorem opO_mul : OpR X (binaryOp .Mult) (rOp X.K X.w .mul) := by
  intro pins s σ H x y v u Q I rx ry h
  obtain ⟨ρ, G, dx, dy, d, G', R, hx, hy, e, q⟩ := h
  cases dx with
  | int i =>
    cases dy <;> simp [bin] at e
    obtain ⟨hm, rfl, rfl⟩ := e
    cases hx; cases hy
    have q' := q.here R rfl
    unfold mulOk at hm
    simp only [Bool.or_eq_true, Bool.and_eq_true, decide_eq_true_eq] at hm
    rcases hm with (hm | hm) | hm
    · exact op_mul pins s σ H _ _ v u Q I rx ry ⟨_, _, rfl, rfl, .inl hm, q'⟩
    · exact op_mul pins s σ H _ _ v u Q I rx ry ⟨_, _, rfl, rfl, .inr hm, q'⟩
    · exact op_mulW pins s σ H _ _ v u Q I rx ry ⟨_, _, rfl, rfl, wide_mul hm.1 hm.2 (by decide) (by decide) (by decide), q'⟩
  | tup xs =>
    cases dy <;> simp [bin] at e
    rename_i k
    obtain ⟨⟨⟨⟨h0, h1⟩, h2⟩, hne⟩, rfl, rfl⟩ := e
    obtain ⟨a, vs, rfl, ht, rr⟩ := hx
    cases hy
    have hvne : vs ≠ [] := fun z => by
      have := rr.length
      rw [z] at this
      cases xs with
      | nil => exact hne rfl
      | cons a b => simp at this
    rcases (show k = 0 ∨ k = 1 ∨ 2 ≤ k by omega) with rfl | rfl | hk
    · exact op_rep01 pins s σ H _ _ v u Q I rx ry ⟨a, 0, vs, rfl, rfl, ht.1, hvne, .inr ⟨rfl, fun p hp => q.newT R rfl p hp⟩⟩
    · refine op_rep01 pins s σ H _ _ v u Q I rx ry ⟨a, 1, vs, rfl, rfl, ht.1, hvne, .inl ⟨rfl, q.here R ?_⟩⟩
      rw [show (1 : Int).toNat = 1 from rfl, List.replicate_one, List.flatten_singleton]
      exact ⟨a, vs, rfl, ht, rr⟩
    · exact op_repN pins s σ H _ _ v u Q I rx ry ⟨a, k, vs, rfl, rfl, ht.1, hvne, hk, h1, by rw [rr.length]; exact h2, fun p hp => q.newT R (rr.flatten _) p hp⟩
  | und => cases dy <;> simp [bin] at e
  | non => cases dy <;> simp [bin] at e
  | bl b => cases dy <;> simp [bin] at e
  | str b => cases dy <;> simp [bin] at e
  | ref b => cases dy <;> simp [bin] at e
theorem opO_fdiv : OpR X (binaryOp .FloorDiv) (rOp X.K X.w .fdiv) := op_fdiv.weak fun x y H Q h => by
  obtain ⟨ρ, G, dx, dy, d, G', R, hx, hy, e, q⟩ := h
  cases dx <;> cases dy <;> simp [bin] at e
  obtain ⟨hm, rfl, rfl⟩ := e
  cases hx; cases hy
  exact ⟨_, _, rfl, rfl, hm, q.here R rfl⟩
theorem opO_mod : OpR X (binaryOp .Mod) (rOp X.K X.w .mod) := op_mod.weak fun x y H Q h => by
  obtain ⟨ρ, G, dx, dy, d, G', R, hx, hy, e, q⟩ := h
  cases dx <;> cases dy <;> simp [bin] at e
  obtain ⟨hm, rfl, rfl⟩ := e
  cases hx; cases hy
  exact ⟨_, _, rfl, rfl, hm, q.here R rfl⟩
theorem opO_pow : OpR X (binaryOp .Pow) (rOp X.K X.w .pow) := op_pow.weak fun x y H Q h => by
  obtain ⟨ρ, G, dx, dy, d, G', R, hx, hy, e, q⟩ := h
  cases dx <;> cases dy <;> simp [bin] at e
  obtain ⟨hm, rfl, rfl⟩ := e
  cases hx; cases hy
  exact ⟨_, _, rfl, rfl, hm, q.here R rfl⟩
theorem opO_shl : OpR X (binaryOp .LShift) (rOp X.K X.w .shl) := op_shl.weak fun x y H Q h => by
  obtain ⟨ρ, G, dx, dy, d, G', R, hx, hy, e, q⟩ := h
  cases dx <;> cases dy <;> simp [bin] at e
  obtain ⟨hm, rfl, rfl⟩ := e
  cases hx; cases hy
  exact ⟨_, _, rfl, rfl, hm, q.here R rfl⟩
def rCatN (K : PySem.W.Frag) : R2 := fun x y H Q => ∃ a b xs ys, x = .ref a ∧ y = .ref b ∧ SqT K H a xs ∧ SqT K H b ys ∧ xs.length + ys.length ≤ sizeLine ∧
  (xs = [] → Q (.ref b) H) ∧ (xs ≠ [] → ys = [] → Q (.ref a) H) ∧ (xs ≠ [] → ys ≠ [] → ∀ p, H p = none → ∀ o : Obj, o.dict = none → Q (.ref p) (upd H p (.frz o (.tup (xs ++ ys)))))
theorem op_catN : OpR X (binaryOp .Add) (rCatN X.K) := by
  intro pins s σ H x y v u Q I rx ry h
  obtain ⟨a, b, xs, ys, rfl, rfl, ha, hb, hz, q0, q1, q2⟩ := h
  cases rx
  cases ry
  obtain ⟨its, r1, p1, _⟩ := I.tuple ha
  obtain ⟨its2, r2, p2, _⟩ := I.tuple hb
  by_cases hx : xs = []
  · subst hx
    cases r1
    exact cat_tup0 p1 p2 ⟨.ref b, H, I, rfl, q0 rfl⟩
  · refine HT.cat_tup p1 p2 (fun z => hx (r1.nil_iff.mp z)) (fun z => ⟨.ref a, H, I, rfl, q1 hx (r2.nil_iff.mp z)⟩) (fun z => ?_) (by rw [← r1.length, ← r2.length]; exact hz)
    refine ⟨.ref s.heap.objs.size, _, I.laid (t' := s.toks) (o := .frz { cls := .type "tuple", data := .seq (its ++ its2).toArray } (.tup (xs ++ ys))) (fun b ob q => Heap.get?_push_of_some _ q) (Nat.le_refl _) ?_, rfl, q2 hx (fun w => z (r2.nil_iff.mpr w)) _ (I.hok.fresh (Nat.le_refl _)) _ rfl⟩
    exact ⟨Heap.get?_push_size _ rfl, by rw [List.length_append]; exact hz, _, r1.append r2, IsTup.new _ _⟩
theorem opO_add : OpR X (binaryOp .Add) (rOp X.K X.w .add) := by
  intro pins s σ H x y v u Q I rx ry h
  obtain ⟨ρ, G, dx, dy, d, G', R, hx, hy, e, q⟩ := h
  cases dx with
  | int i =>
    cases dy <;> simp [bin] at e
    obtain ⟨rfl, rfl⟩ := e
    cases hx; cases hy
    exact op_add pins s σ H _ _ v u Q I rx ry ⟨_, _, rfl, rfl, q.here R rfl⟩
  | str a =>
    cases dy <;> simp [bin] at e
    obtain ⟨hm, rfl, rfl⟩ := e
    cases hx; cases hy
    exact op_add_str pins s σ H _ _ v u Q I rx ry ⟨_, _, rfl, rfl, by rw [← sizeMax_eq]; exact hm, q.here R rfl⟩
  | tup xs =>
    cases dy <;> simp [bin] at e
    rename_i ys
    obtain ⟨hm, rfl, rfl⟩ := e
    obtain ⟨a, vs, rfl, ha, ra⟩ := hx
    obtain ⟨b, us, rfl, hb, rb⟩ := hy
    have l1 := ra.length
    have l2 := rb.length
    refine op_catN pins s σ H _ _ v u Q I rx ry ⟨a, b, vs, us, rfl, rfl, ha.1, hb.1, by rw [l1, l2, ← sizeMax_eq]; exact hm, fun e1 => ?_, fun e1 e2 => ?_, fun e1 e2 p hp => ?_⟩
    · subst e1
      cases xs with
      | nil => exact q.here R ⟨b, us, rfl, hb, rb⟩
      | cons _ _ => simp at l1
    · subst e2
      cases ys with
      | nil => exact q.here R ⟨a, vs, rfl, ha, by simpa using ra⟩
      | cons _ _ => simp at l2
    · exact q.newT R (ra.append rb) p hp
  | ref a =>
    cases dy <;> simp only [bin] at e <;> try cases e
    rename_i b
    split at e
    · rename_i xs ys e1 e2
      split at e
      · rename_i hm
        cases e
        obtain ⟨vs, h1, r1⟩ := R.lst e1
        obtain ⟨us, h2, r2⟩ := R.lst e2
        cases hx.2; cases hy.2
        exact op_cat pins s σ H _ _ v u Q I rx ry ⟨_, _, vs, us, rfl, rfl, h1, h2, by rw [r1.length, r2.length, ← sizeMax_eq]; exact hm, fun p hp => q.newL R (r1.append r2) p hp⟩
      · cases e
    · cases e
  | _ => cases dy <;> simp [bin] at e

theorem shaped_of {d : D} (h : d.depth ≤ 40) : True := trivial
/-- what == tells -/
theorem eqD_reads {pins : List (Addr × Obj)} {σ : St} {H : Hp} {s : Shared} {ρ : Rho} {G : Hh} (I : Inv X pins σ H s) (R : Rel X.K X.w ρ G H) {dx dy : D} {x y : V} {v u : Value} {b : Bool}
    (hx : RV X.K ρ G.n H dx x) (hy : RV X.K ρ G.n H dy y) (rx : RelV x v) (ry : RelV y u) (e : eqD G dx dy = some b) :
    ∃ da db as bs, Reads s.heap v da as ∧ Reads s.heap u db bs ∧ da.plain = true ∧ db.plain = true ∧ min da.depth db.depth ≤ 41 ∧ PyData.eqv da db = b := by
  have lst : ∀ {a : Nat} {xs : List D} {x : V} {v : Value}, seqOf G (.ref a) = some xs → D.flats xs = true → RV X.K ρ G.n H (.ref a) x → RelV x v → ∃ as, Reads s.heap v (.list (D.toPs xs)) as := by
    intro a xs x v h f hx rx
    obtain ⟨_, rfl⟩ := hx
    cases rx
    obtain ⟨vs, h1, r1⟩ := R.sqL (seqOf_ref h)
    obtain ⟨its, rv, ⟨o, n, ho, hc, _, hd⟩, _⟩ := I.list h1
    obtain ⟨as, hr⟩ := RVs.reads I xs vs its f r1 rv
    exact ⟨_, Reads.list ho hc hd hr⟩
  have pl : ∀ xs : List D, (PyData.list (D.toPs xs)).plain = true := fun xs => by simp only [PyData.plain]; exact D.plain_toPs xs
  have dl : ∀ xs : List D, (PyData.list (D.toPs xs)).depth = D.depths xs + 1 := fun xs => by simp only [PyData.depth, D.depth_toPs]
  have flat2 : ∀ {a b : D}, a.flat = true → b.flat = true → a.depth ≤ 40 → RV X.K ρ G.n H a x → RV X.K ρ G.n H b y → 
      ∃ da db as bs, Reads s.heap v da as ∧ Reads s.heap u db bs ∧ da.plain = true ∧ db.plain = true ∧ min da.depth db.depth ≤ 41 ∧ PyData.eqv da db = a.eqv b := by
    intro a b fa fb dd ha hb
    obtain ⟨as, r1⟩ := RV.reads I a x v fa ha rx
    obtain ⟨bs, r2⟩ := RV.reads I b y u fb hb ry
    refine ⟨_, _, as, bs, r1, r2, D.plain_toP _, D.plain_toP _, ?_, D.eqv_toP a b fa fb⟩
    rw [D.depth_toP]; omega
  by_cases h1 : ∃ a, dx = .ref a
  · obtain ⟨a, rfl⟩ := h1
    by_cases h2 : ∃ c, dy = .ref c
    · obtain ⟨c, rfl⟩ := h2
      simp only [eqD] at e
      split at e
      · rename_i xs ys e1 e2
        split at e
        · rename_i hh
          simp only [Bool.and_eq_true, decide_eq_true_eq] at hh
          cases e
          obtain ⟨as, r1⟩ := lst e1 hh.1.1.1 hx rx
          obtain ⟨bs, r2⟩ := lst e2 hh.1.1.2 hy ry
          refine ⟨_, _, as, bs, r1, r2, pl xs, pl ys, by rw [dl, dl]; omega, ?_⟩
          simp only [PyData.eqv]
          exact D.eqvs_toP xs ys hh.1.1.1 hh.1.1.2
        · cases e
      · cases e
    · have e' : (match seqOf G (.ref a) with | some xs => if D.flats xs && dy.flat && decide (D.depths xs ≤ 40) && decide (dy.depth ≤ 40) then some false else none | none => none) = some b := by
        cases dy <;> first | exact absurd ⟨_, rfl⟩ h2 | exact e
      split at e'
      · rename_i xs e1
        split at e'
        · rename_i hh
          simp only [Bool.and_eq_true, decide_eq_true_eq] at hh
          cases e'
          obtain ⟨as, r1⟩ := lst e1 hh.1.1.1 hx rx
          obtain ⟨bs, r2⟩ := RV.reads I dy y u hh.1.1.2 hy ry
          refine ⟨_, _, as, bs, r1, r2, pl xs, D.plain_toP _, by rw [dl, D.depth_toP]; omega, ?_⟩
          cases dy <;> first | rfl | (simp [D.toP, PyData.eqv]; done) | exact absurd ⟨_, rfl⟩ h2 | skip
        · cases e'
      · cases e'
  · by_cases h2 : ∃ c, dy = .ref c
    · obtain ⟨c, rfl⟩ := h2
      have e' : (match seqOf G (.ref c) with | some xs => if D.flats xs && dx.flat && decide (D.depths xs ≤ 40) && decide (dx.depth ≤ 40) then some false else none | none => none) = some b := by
        cases dx <;> first | exact absurd ⟨_, rfl⟩ h1 | exact e
      split at e'
      · rename_i xs e1
        split at e'
        · rename_i hh
          simp only [Bool.and_eq_true, decide_eq_true_eq] at hh
          cases e'
          obtain ⟨as, r1⟩ := RV.reads I dx x v hh.1.1.2 hx rx
          obtain ⟨bs, r2⟩ := lst e1 hh.1.1.1 hy ry
          refine ⟨_, _, as, bs, r1, r2, D.plain_toP _, pl xs, by rw [dl, D.depth_toP]; omega, ?_⟩
          cases dx <;> first | rfl | (simp [D.toP, PyData.eqv]; done) | exact absurd ⟨_, rfl⟩ h1 | skip
        · cases e'
      · cases e'
    · have e' : (if dx.flat && dy.flat && decide (dx.depth ≤ 40) && decide (dy.depth ≤ 40) then some (dx.eqv dy) else none) = some b := by
        cases dx <;> cases dy <;> first | exact absurd ⟨_, rfl⟩ h1 | exact absurd ⟨_, rfl⟩ h2 | exact e
      split at e'
      · rename_i hh
        simp only [Bool.and_eq_true, decide_eq_true_eq] at hh
        cases e'
        exact flat2 hh.1.1.1 hh.1.1.2 hh.1.2 hx hy
      · cases e'
theorem opO_eq (hu : X.A.units + 64 < cLine) : OpR X (compareOp .Eq) (rOp X.K X.w .eq) := by
  intro pins s σ H x y v u Q I rx ry h
  obtain ⟨ρ, G, dx, dy, d, G', R, hx, hy, e, q⟩ := h
  simp only [bin] at e
  split at e
  · rename_i b eb
    cases e
    obtain ⟨da, db, as, bs, r1, r2, p1, p2, hd, rfl⟩ := eqD_reads I R hx hy rx ry eb
    exact SeqAt.eq_plain r1 r2 p1 p2 (by omega) ⟨.bl _, H, I, rfl, q.here R rfl⟩
  · cases e
theorem opO_ne (hu : X.A.units + 64 < cLine) : OpR X (compareOp .NotEq) (rOp X.K X.w .ne) := by
  intro pins s σ H x y v u Q I rx ry h
  obtain ⟨ρ, G, dx, dy, d, G', R, hx, hy, e, q⟩ := h
  simp only [bin] at e
  split at e
  · rename_i b eb
    cases e
    obtain ⟨da, db, as, bs, r1, r2, p1, p2, hd, rfl⟩ := eqD_reads I R hx hy rx ry eb
    exact SeqAt.ne_plain r1 r2 p1 p2 (by omega) ⟨.bl _, H, I, rfl, q.here R rfl⟩
  · cases e
theorem opO_le : OpR X (compareOp .LtE) (rOp X.K X.w .le) := op_le.weak fun x y H Q h => by
  obtain ⟨ρ, G, dx, dy, d, G', R, hx, hy, e, q⟩ := h
  cases dx <;> cases dy <;> simp [bin] at e
  obtain ⟨rfl, rfl⟩ := e
  cases hx; cases hy
  exact ⟨_, _, rfl, rfl, q.here R rfl⟩
theorem opO_ge : OpR X (compareOp .GtE) (rOp X.K X.w .ge) := op_ge.weak fun x y H Q h => by
  obtain ⟨ρ, G, dx, dy, d, G', R, hx, hy, e, q⟩ := h
  cases dx <;> cases dy <;> simp [bin] at e
  obtain ⟨rfl, rfl⟩ := e
  cases hx; cases hy
  exact ⟨_, _, rfl, rfl, q.here R rfl⟩
end
end Ev

/-! EvL: the order of data. -/
namespace Ev
theorem D.eqv_comm {a b : D} (ha : a.flat = true) (hb : b.flat = true) : a.eqv b = b.eqv a := by
  cases h : b.eqv a with
  | true => exact D.eqv_symm hb ha h
  | false =>
    cases h' : a.eqv b with
    | false => rfl
    | true => rw [D.eqv_symm ha hb h'] at h; cases h
open PySem PySem.Spec
open PyProof.Rows hiding St
open L2
open Sem (wp)
open PySem.SeqAt
open PySem.AutoSeq1 (wpAny_loadPart')
open PySem.MeetsSeq PySem.MeetsSeq2 PySem.MeetsSeq3

/-! ### Lt of data -/
/-- the walk over the pairs -/
def LtLoop (xs ys : List D) : Prop :=
  ∀ (A : Around) (s : Shared) (vs ws : List Value) (as bs : List Addr) (r : Bool), D.flats xs = true → D.flats ys = true → ReadsAll s.heap vs (D.toPs xs) as → ReadsAll s.heap ws (D.toPs ys) bs → D.lts xs ys = some r → A.units + D.depths xs < cLine →
    ∀ (prog : Program) (w : World) (E : Value → Shared → Prop) (m n : Nat) (Q : Option Fin × Unit → Shared → Prop), m + ws.length = n + vs.length → (∀ o : Option Fin, (o = some (.done (.ret (.bool r))) ∨ (o = none ∧ r = decide (m < n))) → Q (o, ()) s) →
    wpAny (model prog w) A (forIn (vs.zip ws) ((none, ()) : Option Fin × Unit) fun x __s =>
            match x with
            | (x, y) => do
              let __do_lift ← eqBool x y
              if (!__do_lift) = true then
                  match CmpOp.Lt with
                  | CmpOp.Eq => do
                    let __do_lift ← ret (Value.bool false)
                    pure (ForInStep.done (some __do_lift, ()))
                  | CmpOp.NotEq => do
                    let __do_lift ← ret (Value.bool true)
                    pure (ForInStep.done (some __do_lift, ()))
                  | x_1 => do
                    rule "tuple.compare.by-the-first-pair-that-differs"
                    let __do_lift ← richCompare CmpOp.Lt x y
                    let __do_lift ← ret __do_lift
                    pure (ForInStep.done (some __do_lift, ()))
                else pure (ForInStep.yield (none, ()))) Q E s
theorem tuple_lt_data (xs ys : List D) (l b : Addr) (items items2 : Array Value) (n n2 : Nat) (dd dd2 : Option Addr) (sl sl2 : Array (Option Value)) (r : Bool) (loop : LtLoop xs ys) (fx : D.flats xs = true) (fy : D.flats ys = true) (h : D.lts xs ys = some r) :
    Meets (Builtin.«tuple.__lt__» ⟨[.ref l, .ref b], []⟩)
      (fun A R s => s.heap.get? l = some { cls := .type "tuple", dict := dd, data := .seq items n, slots := sl } ∧ s.heap.get? b = some { cls := .type "tuple", dict := dd2, data := .seq items2 n2, slots := sl2 } ∧
        (∃ as, ReadsAll s.heap items.toList (D.toPs xs) as) ∧ (∃ as, ReadsAll s.heap items2.toList (D.toPs ys) as) ∧ A.units + 1 + D.depths xs < cLine ∧ R (.ok (.ret (.bool r))) s) :=
  .of_wp fun prog w A R s hh => by
    obtain ⟨hp, g, d, tk, os⟩ := s; obtain ⟨hl, hb, ⟨as1, h1⟩, ⟨as2, h2⟩, hu, hR⟩ := hh
    have f2 := AutoSeq1.sub_tuple_tuple
    wp_walk using wpAny_loadPart' hl, wpAny_loadPart' hb
    refine loop A.in1 ⟨hp, g, d, tk, os⟩ items.toList items2.toList _ _ r fx fy h1 h2 h (show A.units + 1 + D.depths xs < cLine from hu) prog w _ items.size items2.size _ (by simp [Nat.add_comm]) fun o ho => ?_
    rcases ho with rfl | ⟨rfl, e⟩
    · exact wpAny_pure ⟨_, rfl, hR⟩
    · rw [e] at hR
      exact wpAny_pure ⟨_, rfl, hR⟩

mutual
theorem rcLt_data : ∀ (d e : D) (A : Around) (s : Shared) (u v : Value) (as bs : List Addr) (b : Bool), d.flat = true → e.flat = true → Reads s.heap u d.toP as → Reads s.heap v e.toP bs → d.lt e = some b → A.units + d.depth < cLine →
    ∀ (prog : Program) (w : World) (E : Value → Shared → Prop) (Q : Value → Shared → Prop), Q (.bool b) s → wpAny (model prog w) A (richCompare .Lt u v) Q E s
  | .int i, e, A, s, u, v, as, bs, b, _, fe, r1, r2, h, hu, prog, w, E, Q, q => by
    cases e <;> simp [D.lt] at h
    subst h
    cases r1; cases r2
    exact (PyProof.Rows.lt_int q : wpAny (model prog w) A (compareOp .Lt _ _) Q E s)
  | .str i, e, A, s, u, v, as, bs, b, _, fe, r1, r2, h, hu, prog, w, E, Q, q => by
    cases e <;> simp only [D.lt] at h <;> try cases h
    cases r1; cases r2
    exact (PySem.P.lt_str q : wpAny (model prog w) A (compareOp .Lt _ _) Q E s)
  | .tup xs, e, A, s, u, v, as, bs, b, fd, fe, r1, r2, h, hu, prog, w, E, Q, q => by
    cases e <;> simp only [D.lt] at h <;> try cases h
    rename_i ys
    cases r1 with
    | @tuple a1 o1 items1 n1 _ as1 ho1 hc1 hd1 hi1 =>
    cases r2 with
    | @tuple a2 o2 items2 n2 _ as2 ho2 hc2 hd2 hi2 =>
    obtain ⟨cls1, dd1, data1, sl1⟩ := o1
    obtain ⟨cls2, dd2, data2, sl2⟩ := o2
    simp only at hc1 hd1 hc2 hd2
    subst hc1 hd1 hc2 hd2
    have hu' : A.units + 1 + D.depths xs < cLine := by simp only [D.depth] at hu; omega
    refine richCompare_meets_room (op := .Lt) ⟨_, ho1, rfl⟩ ⟨_, ho2, rfl⟩ PySem.F.slot_tuple_lt PySem.F.entry_tuple_lt (PySem.F.args_tuple_lt_2 _ _)
      (tuple_lt_data xs ys a1 a2 items1 items2 n1 n2 dd1 dd2 sl1 sl2 b (lt_loop xs ys) (by simpa [D.flat] using fd) (by simpa [D.flat] using fe) h)
      ⟨ho1, ho2, ⟨_, hi1⟩, ⟨_, hi2⟩, hu', show Value.bool b ≠ Value.notImplemented ∧ Q (.bool b) s from ⟨(fun x => nomatch x), q⟩⟩ (by omega)
  | .und, _, _, _, _, _, _, _, _, f, _, _, _, _, _, _, _, _, _, _ => by simp [D.flat] at f
  | .ref _, _, _, _, _, _, _, _, _, f, _, _, _, _, _, _, _, _, _, _ => by simp [D.flat] at f
  | .non, e, _, _, _, _, _, _, _, _, _, _, _, h, _, _, _, _, _, _ => by cases e <;> simp [D.lt] at h
  | .bl _, e, _, _, _, _, _, _, _, _, _, _, _, h, _, _, _, _, _, _ => by cases e <;> simp [D.lt] at h
termination_by structural d => d
theorem lt_loop : ∀ (xs ys : List D), LtLoop xs ys
  | [], ys, A, s, vs, ws, as, bs, r, _, _, h1, h2, h, _, prog, w, E, m, n, Q, hmn, q => by
    cases h1
    rw [List.zip_nil_left]
    refine wpAny_pure (q none (.inr ⟨rfl, ?_⟩))
    have e := SeqAt.ReadsAll.length _ _ _ h2
    rw [D.toPs_eq, List.length_map] at e
    simp only [List.length_nil] at hmn
    cases ys with
    | nil =>
      simp only [D.lts] at h; cases h
      simp only [List.length_nil] at e
      exact (decide_eq_false (by omega)).symm
    | cons y ys =>
      simp only [D.lts] at h; cases h
      simp only [List.length_cons] at e
      exact (decide_eq_true (by omega)).symm
  | x :: xs, [], A, s, vs, ws, as, bs, r, _, _, h1, h2, h, _, prog, w, E, m, n, Q, hmn, q => by
    cases h2
    rw [List.zip_nil_right]
    refine wpAny_pure (q none (.inr ⟨rfl, ?_⟩))
    have e := SeqAt.ReadsAll.length _ _ _ h1
    rw [D.toPs_eq, List.length_map] at e
    simp only [List.length_nil] at hmn
    simp only [D.lts] at h; cases h
    simp only [List.length_cons] at e
    exact (decide_eq_false (by omega)).symm
  | x :: xs, y :: ys, A, s, vs, ws, as, bs, r, fx, fy, h1, h2, h, hu, prog, w, E, m, n, Q, hmn, q => by
    simp only [D.flats, Bool.and_eq_true] at fx fy
    simp only [D.depths] at hu
    cases h1 with
    | @cons v vs' _ _ as1 as2 r1 r2 =>
    cases h2 with
    | @cons u us' _ _ bs1 bs2 q1 q2 =>
    rw [List.zip_cons_cons, List.forIn_cons]
    refine wpAny_bind (wpAny_bind (SeqAt.eqAt_plain _ _ A s v u _ _ r1 q1 (D.plain_toP x) (D.plain_toP y) (by rw [D.depth_toP, D.depth_toP]; omega) prog w _ _ ?_))
    rw [D.eqv_toP x y fx.1 fy.1]
    simp only [D.lts] at h
    cases he : x.eqv y with
    | true =>
      rw [he, if_pos rfl] at h
      simp only [Bool.not_true, Bool.false_eq_true, if_false]
      exact wpAny_pure (lt_loop xs ys A s vs' us' _ _ r fx.2 fy.2 r2 q2 h (by omega) prog w E m n Q (by simp only [List.length_cons] at hmn; omega) q)
    | false =>
      rw [he, if_neg Bool.false_ne_true] at h
      simp only [Bool.not_false, if_true]
      refine wpAny_bind (wpAny_rule (wpAny_bind (rcLt_data x y A s v u _ _ r fx.1 fy.1 r1 q1 h (by omega) prog w _ _ ?_)))
      first | exact wpAny_bind (wpAny_pure (wpAny_pure (wpAny_pure (q _ (.inl rfl))))) | exact wpAny_bind (wpAny_pure (wpAny_pure (q _ (.inl rfl)))) | trace_state
termination_by structural xs => xs
end

/-! ### Gt of data -/
/-- the walk over the pairs -/
def GtLoop (xs ys : List D) : Prop :=
  ∀ (A : Around) (s : Shared) (vs ws : List Value) (as bs : List Addr) (r : Bool), D.flats xs = true → D.flats ys = true → ReadsAll s.heap vs (D.toPs xs) as → ReadsAll s.heap ws (D.toPs ys) bs → D.lts ys xs = some r → A.units + D.depths xs < cLine →
    ∀ (prog : Program) (w : World) (E : Value → Shared → Prop) (m n : Nat) (Q : Option Fin × Unit → Shared → Prop), m + ws.length = n + vs.length → (∀ o : Option Fin, (o = some (.done (.ret (.bool r))) ∨ (o = none ∧ r = decide (n < m))) → Q (o, ()) s) →
    wpAny (model prog w) A (forIn (vs.zip ws) ((none, ()) : Option Fin × Unit) fun x __s =>
            match x with
            | (x, y) => do
              let __do_lift ← eqBool x y
              if (!__do_lift) = true then
                  match CmpOp.Gt with
                  | CmpOp.Eq => do
                    let __do_lift ← ret (Value.bool false)
                    pure (ForInStep.done (some __do_lift, ()))
                  | CmpOp.NotEq => do
                    let __do_lift ← ret (Value.bool true)
                    pure (ForInStep.done (some __do_lift, ()))
                  | x_1 => do
                    rule "tuple.compare.by-the-first-pair-that-differs"
                    let __do_lift ← richCompare CmpOp.Gt x y
                    let __do_lift ← ret __do_lift
                    pure (ForInStep.done (some __do_lift, ()))
                else pure (ForInStep.yield (none, ()))) Q E s
theorem tuple_gt_data (xs ys : List D) (l b : Addr) (items items2 : Array Value) (n n2 : Nat) (dd dd2 : Option Addr) (sl sl2 : Array (Option Value)) (r : Bool) (loop : GtLoop xs ys) (fx : D.flats xs = true) (fy : D.flats ys = true) (h : D.lts ys xs = some r) :
    Meets (Builtin.«tuple.__gt__» ⟨[.ref l, .ref b], []⟩)
      (fun A R s => s.heap.get? l = some { cls := .type "tuple", dict := dd, data := .seq items n, slots := sl } ∧ s.heap.get? b = some { cls := .type "tuple", dict := dd2, data := .seq items2 n2, slots := sl2 } ∧
        (∃ as, ReadsAll s.heap items.toList (D.toPs xs) as) ∧ (∃ as, ReadsAll s.heap items2.toList (D.toPs ys) as) ∧ A.units + 1 + D.depths xs < cLine ∧ R (.ok (.ret (.bool r))) s) :=
  .of_wp fun prog w A R s hh => by
    obtain ⟨hp, g, d, tk, os⟩ := s; obtain ⟨hl, hb, ⟨as1, h1⟩, ⟨as2, h2⟩, hu, hR⟩ := hh
    have f2 := AutoSeq1.sub_tuple_tuple
    wp_walk using wpAny_loadPart' hl, wpAny_loadPart' hb
    refine loop A.in1 ⟨hp, g, d, tk, os⟩ items.toList items2.toList _ _ r fx fy h1 h2 h (show A.units + 1 + D.depths xs < cLine from hu) prog w _ items.size items2.size _ (by simp [Nat.add_comm]) fun o ho => ?_
    rcases ho with rfl | ⟨rfl, e⟩
    · exact wpAny_pure ⟨_, rfl, hR⟩
    · rw [e] at hR
      exact wpAny_pure ⟨_, rfl, hR⟩

mutual
theorem rcGt_data : ∀ (d e : D) (A : Around) (s : Shared) (u v : Value) (as bs : List Addr) (b : Bool), d.flat = true → e.flat = true → Reads s.heap u d.toP as → Reads s.heap v e.toP bs → e.lt d = some b → A.units + d.depth < cLine →
    ∀ (prog : Program) (w : World) (E : Value → Shared → Prop) (Q : Value → Shared → Prop), Q (.bool b) s → wpAny (model prog w) A (richCompare .Gt u v) Q E s
  | .int i, e, A, s, u, v, as, bs, b, _, fe, r1, r2, h, hu, prog, w, E, Q, q => by
    cases e <;> simp [D.lt] at h
    subst h
    cases r1; cases r2
    exact (PyProof.Rows.gt_int q : wpAny (model prog w) A (compareOp .Gt _ _) Q E s)
  | .str i, e, A, s, u, v, as, bs, b, _, fe, r1, r2, h, hu, prog, w, E, Q, q => by
    cases e <;> simp only [D.lt] at h <;> try cases h
    cases r1; cases r2
    exact (PySem.P.gt_str q : wpAny (model prog w) A (compareOp .Gt _ _) Q E s)
  | .tup xs, e, A, s, u, v, as, bs, b, fd, fe, r1, r2, h, hu, prog, w, E, Q, q => by
    cases e <;> simp only [D.lt] at h <;> try cases h
    rename_i ys
    cases r1 with
    | @tuple a1 o1 items1 n1 _ as1 ho1 hc1 hd1 hi1 =>
    cases r2 with
    | @tuple a2 o2 items2 n2 _ as2 ho2 hc2 hd2 hi2 =>
    obtain ⟨cls1, dd1, data1, sl1⟩ := o1
    obtain ⟨cls2, dd2, data2, sl2⟩ := o2
    simp only at hc1 hd1 hc2 hd2
    subst hc1 hd1 hc2 hd2
    have hu' : A.units + 1 + D.depths xs < cLine := by simp only [D.depth] at hu; omega
    refine richCompare_meets_room (op := .Gt) ⟨_, ho1, rfl⟩ ⟨_, ho2, rfl⟩ PySem.F.slot_tuple_gt PySem.F.entry_tuple_gt (PySem.F.args_tuple_gt_2 _ _)
      (tuple_gt_data xs ys a1 a2 items1 items2 n1 n2 dd1 dd2 sl1 sl2 b (gt_loop xs ys) (by simpa [D.flat] using fd) (by simpa [D.flat] using fe) h)
      ⟨ho1, ho2, ⟨_, hi1⟩, ⟨_, hi2⟩, hu', show Value.bool b ≠ Value.notImplemented ∧ Q (.bool b) s from ⟨(fun x => nomatch x), q⟩⟩ (by omega)
  | .und, _, _, _, _, _, _, _, _, f, _, _, _, _, _, _, _, _, _, _ => by simp [D.flat] at f
  | .ref _, _, _, _, _, _, _, _, _, f, _, _, _, _, _, _, _, _, _, _ => by simp [D.flat] at f
  | .non, e, _, _, _, _, _, _, _, _, _, _, _, h, _, _, _, _, _, _ => by cases e <;> simp [D.lt] at h
  | .bl _, e, _, _, _, _, _, _, _, _, _, _, _, h, _, _, _, _, _, _ => by cases e <;> simp [D.lt] at h
termination_by structural d => d
theorem gt_loop : ∀ (xs ys : List D), GtLoop xs ys
  | [], ys, A, s, vs, ws, as, bs, r, _, _, h1, h2, h, _, prog, w, E, m, n, Q, hmn, q => by
    cases h1
    rw [List.zip_nil_left]
    refine wpAny_pure (q none (.inr ⟨rfl, ?_⟩))
    have e := SeqAt.ReadsAll.length _ _ _ h2
    rw [D.toPs_eq, List.length_map] at e
    simp only [List.length_nil] at hmn
    have hr : D.lts ys [] = some r → r = false := fun h => by cases ys <;> simp [D.lts] at h <;> exact h
    rw [hr h]
    exact (decide_eq_false (by omega)).symm
  | x :: xs, [], A, s, vs, ws, as, bs, r, _, _, h1, h2, h, _, prog, w, E, m, n, Q, hmn, q => by
    cases h2
    rw [List.zip_nil_right]
    refine wpAny_pure (q none (.inr ⟨rfl, ?_⟩))
    have e := SeqAt.ReadsAll.length _ _ _ h1
    rw [D.toPs_eq, List.length_map] at e
    simp only [List.length_nil] at hmn
    simp only [D.lts] at h; cases h
    simp only [List.length_cons] at e
    exact (decide_eq_true (by omega)).symm
  | x :: xs, y :: ys, A, s, vs, ws, as, bs, r, fx, fy, h1, h2, h, hu, prog, w, E, m, n, Q, hmn, q => by
    simp only [D.flats, Bool.and_eq_true] at fx fy
    simp only [D.depths] at hu
    cases h1 with
    | @cons v vs' _ _ as1 as2 r1 r2 =>
    cases h2 with
    | @cons u us' _ _ bs1 bs2 q1 q2 =>
    rw [List.zip_cons_cons, List.forIn_cons]
    refine wpAny_bind (wpAny_bind (SeqAt.eqAt_plain _ _ A s v u _ _ r1 q1 (D.plain_toP x) (D.plain_toP y) (by rw [D.depth_toP, D.depth_toP]; omega) prog w _ _ ?_))
    rw [D.eqv_toP x y fx.1 fy.1]
    simp only [D.lts] at h
    rw [D.eqv_comm fy.1 fx.1] at h
    cases he : x.eqv y with
    | true =>
      rw [he, if_pos rfl] at h
      simp only [Bool.not_true, Bool.false_eq_true, if_false]
      exact wpAny_pure (gt_loop xs ys A s vs' us' _ _ r fx.2 fy.2 r2 q2 h (by omega) prog w E m n Q (by simp only [List.length_cons] at hmn; omega) q)
    | false =>
      rw [he, if_neg Bool.false_ne_true] at h
      simp only [Bool.not_false, if_true]
      refine wpAny_bind (wpAny_rule (wpAny_bind (rcGt_data x y A s v u _ _ r fx.1 fy.1 r1 q1 h (by omega) prog w _ _ ?_)))
      first | exact wpAny_bind (wpAny_pure (wpAny_pure (wpAny_pure (q _ (.inl rfl))))) | exact wpAny_bind (wpAny_pure (wpAny_pure (q _ (.inl rfl)))) | trace_state
termination_by structural xs => xs
end
end Ev

/-! EvM: order, in, places. -/
namespace Ev
open PySem PySem.Spec
open PyProof.Rows hiding St
open L2
open Sem (wp)
section
variable {X : Cx}
theorem ltD_lt {x y : D} {b : Bool} (h : ltD x y = some b) : x.flat = true ∧ y.flat = true ∧ x.depth ≤ 40 ∧ y.depth ≤ 40 ∧ x.lt y = some b := by
  have gen : (if x.flat && y.flat && decide (x.depth ≤ 40) && decide (y.depth ≤ 40) then x.lt y else none) = some b → x.flat = true ∧ y.flat = true ∧ x.depth ≤ 40 ∧ y.depth ≤ 40 ∧ x.lt y = some b := by
    intro h
    split at h
    · rename_i hh
      simp only [Bool.and_eq_true, decide_eq_true_eq] at hh
      exact ⟨hh.1.1.1, hh.1.1.2, hh.1.2, hh.2, h⟩
    · cases h
  cases x <;> cases y <;> first | exact gen h | exact ⟨rfl, rfl, Nat.zero_le _, Nat.zero_le _, h⟩
theorem opO_lt (hu : X.A.units + 64 < cLine) : OpR X (compareOp .Lt) (rOp X.K X.w .lt) := by
  intro pins s σ H x y v u Q I rx ry h
  obtain ⟨ρ, G, dx, dy, d, G', R, hx, hy, e, q⟩ := h
  simp only [bin] at e
  split at e
  · rename_i b eb
    cases e
    obtain ⟨f1, f2, d1, d2, el⟩ := ltD_lt eb
    obtain ⟨as, r1⟩ := RV.reads I dx x v f1 hx rx
    obtain ⟨bs, r2⟩ := RV.reads I dy y u f2 hy ry
    exact (rcLt_data dx dy X.A s v u as bs b f1 f2 r1 r2 el (by omega) X.prog X.w X.xe (EP X pins σ Q) ⟨.bl b, H, I, rfl, q.here R rfl⟩ : wpAny (model X.prog X.w) X.A (compareOp .Lt v u) _ _ _)
  · cases e
theorem opO_gt (hu : X.A.units + 64 < cLine) : OpR X (compareOp .Gt) (rOp X.K X.w .gt) := by
  intro pins s σ H x y v u Q I rx ry h
  obtain ⟨ρ, G, dx, dy, d, G', R, hx, hy, e, q⟩ := h
  simp only [bin] at e
  split at e
  · rename_i b eb
    cases e
    obtain ⟨f1, f2, d1, d2, el⟩ := ltD_lt eb
    obtain ⟨as, r1⟩ := RV.reads I dx x v f2 hx rx
    obtain ⟨bs, r2⟩ := RV.reads I dy y u f1 hy ry
    exact (rcGt_data dx dy X.A s v u as bs b f2 f1 r1 r2 el (by omega) X.prog X.w X.xe (EP X pins σ Q) ⟨.bl b, H, I, rfl, q.here R rfl⟩ : wpAny (model X.prog X.w) X.A (compareOp .Gt v u) _ _ _)
  · cases e

/-! ### in -/
theorem memD_any (x : D) (fx : x.flat = true) : ∀ (xs : List D), D.flats xs = true → (D.toPs xs).any (fun y => PyData.eqv y x.toP) = memD x xs
  | [], _ => rfl
  | y :: ys, f => by
    simp only [D.flats, Bool.and_eq_true] at f
    simp only [D.toPs, List.any_cons, memD, D.eqv_toP y x f.1 fx, memD_any x fx ys f.2]
theorem inSeq (hu : X.A.units + 64 < cLine) {pins : List (Addr × Obj)} {σ : St} {H : Hp} {s : Shared} {ρ : Rho} {G : Hh} (I : Inv X pins σ H s) (R : Rel X.K X.w ρ G H) {dx dy : D} {xs : List D} {x y : V} {v u : Value} {neg : Bool} {Q : VK}
    (hs : dy = .tup xs ∨ ∃ a, dy = .ref a ∧ G.get a = some (.lst xs))
    (hx : RV X.K ρ G.n H dx x) (hy : RV X.K ρ G.n H dy y) (rx : RelV x v) (ry : RelV y u) (f1 : dx.flat = true) (f2 : D.flats xs = true) (d1 : dx.depth ≤ 40) (d2 : D.depths xs ≤ 40)
    (q : Q (.bl (if neg then !(memD dx xs) else memD dx xs)) H) : wpAny (model X.prog X.w) X.A (compareOp (if neg then .NotIn else .In) v u) (EP X pins σ Q) X.xe s := by
  obtain ⟨as, r1⟩ := RV.reads I dx x v f1 hx rx
  have hm := memD_any dx f1 xs f2
  have hp := D.plain_toPs xs
  have hd : X.A.units + 1 + min (PyData.depthAll (D.toPs xs)) dx.toP.depth < cLine := by rw [D.depth_toPs, D.depth_toP]; omega
  rcases hs with rfl | ⟨a, rfl, ha⟩
  · obtain ⟨bs, r2⟩ := RV.reads I (.tup xs) y u (by simpa [D.flat] using f2) hy ry
    have r2' : Reads s.heap u (.tuple (D.toPs xs)) bs := by simpa [D.toP] using r2
    cases neg with
    | true => exact SeqAt.notIn_tuple_data r2' r1 hp (D.plain_toP _) hd (by rw [hm]; exact ⟨.bl _, H, I, rfl, q⟩)
    | false => exact SeqAt.in_tuple_data r2' r1 hp (D.plain_toP _) hd (by rw [hm]; exact ⟨.bl _, H, I, rfl, q⟩)
  · obtain ⟨_, rfl⟩ := hy
    cases ry
    obtain ⟨vs, h1, rr⟩ := R.sqL (.inl ha)
    obtain ⟨its, rv, ⟨o, n, ho, hc, _, hdd⟩, _⟩ := I.list h1
    obtain ⟨bs, hr⟩ := RVs.reads I xs vs its f2 rr rv
    have r2' : Reads s.heap (.ref (ρ a)) (.list (D.toPs xs)) _ := Reads.list ho hc hdd hr
    cases neg with
    | true => exact SeqAt.notIn_list_data r2' r1 hp (D.plain_toP _) hd (by rw [hm]; exact ⟨.bl _, H, I, rfl, q⟩)
    | false => exact SeqAt.in_list_data r2' r1 hp (D.plain_toP _) hd (by rw [hm]; exact ⟨.bl _, H, I, rfl, q⟩)
theorem opO_in (hu : X.A.units + 64 < cLine) : OpR X (compareOp .In) (rOp X.K X.w .isin) := by
  intro pins s σ H x y v u Q I rx ry h
  obtain ⟨ρ, G, dx, dy, d, G', R, hx, hy, e, q⟩ := h
  cases dy with
  | tup xs =>
    simp [bin] at e
    obtain ⟨hh, rfl, rfl⟩ := e
    exact inSeq (neg := false) hu I R (.inl rfl) hx hy rx ry hh.1.1.1 hh.1.1.2 hh.1.2 hh.2 (q.here R rfl)
  | ref a =>
    simp only [bin] at e
    split at e
    · rename_i kvs ea
      simp at e
      obtain ⟨hk, rfl, rfl⟩ := e
      obtain ⟨ep, es, h1, r1, dk, sat⟩ := R.dct ea
      obtain ⟨_, rfl⟩ := hy
      cases ry
      exact in_dictD I (by omega) h1 r1 dk hk hx rx (q.here R rfl)
    · rename_i xs ea
      simp at e
      obtain ⟨hh, rfl, rfl⟩ := e
      exact inSeq (neg := false) hu I R (.inr ⟨a, rfl, ea⟩) hx hy rx ry hh.1.1.1 hh.1.1.2 hh.1.2 hh.2 (q.here R rfl)
    · cases e
  | _ => simp [bin] at e
theorem opO_notin (hu : X.A.units + 64 < cLine) : OpR X (compareOp .NotIn) (rOp X.K X.w .notin) := by
  intro pins s σ H x y v u Q I rx ry h
  obtain ⟨ρ, G, dx, dy, d, G', R, hx, hy, e, q⟩ := h
  cases dy with
  | tup xs =>
    simp [bin] at e
    obtain ⟨hh, rfl, rfl⟩ := e
    exact inSeq (neg := true) hu I R (.inl rfl) hx hy rx ry hh.1.1.1 hh.1.1.2 hh.1.2 hh.2 (q.here R rfl)
  | ref a =>
    simp only [bin] at e
    split at e
    · rename_i kvs ea
      simp at e
      obtain ⟨hk, rfl, rfl⟩ := e
      obtain ⟨ep, es, h1, r1, dk, sat⟩ := R.dct ea
      obtain ⟨_, rfl⟩ := hy
      cases ry
      exact notIn_dictD I (by omega) h1 r1 dk hk hx rx (q.here R rfl)
    · rename_i xs ea
      simp at e
      obtain ⟨hh, rfl, rfl⟩ := e
      exact inSeq (neg := true) hu I R (.inr ⟨a, rfl, ea⟩) hx hy rx ry hh.1.1.1 hh.1.1.2 hh.1.2 hh.2 (q.here R rfl)
    · cases e
  | _ => simp [bin] at e

/-! ### places -/
theorem ixN_eq (n : Nat) (i : Int) : L2.ixN n i = Ev.ixN n i := by
  unfold L2.ixN Ev.ixN
  by_cases h : 0 ≤ i
  · rw [if_pos h, if_pos h]
  · rw [if_neg h, if_neg h]
    by_cases h2 : -(n : Int) ≤ i
    · rw [if_pos h2, if_pos (by omega)]
    · rw [if_neg h2, if_neg (by omega)]
theorem itemG_ok {xs : List D} {i : Int} {G G' : Hh} {d : D} (h : itemG xs i G = .ok d G') : G' = G ∧ ∃ k, Ev.ixN xs.length i = some k ∧ xs[k]? = some d := by
  unfold itemG at h
  split at h
  · rename_i k e
    split at h
    · rename_i v e2
      cases h
      exact ⟨rfl, k, e, e2⟩
    · cases h
  · cases h
theorem RVs.atI {K : PySem.W.Frag} {ρ : Rho} {n : Nat} {H : Hp} {xs : List D} {vs : List V} (r : RVs K ρ n H xs vs) {i : Int} {k : Nat} {d : D} (h : Ev.ixN xs.length i = some k) (e : xs[k]? = some d) : ∃ v, L2.atI vs i = some v ∧ RV K ρ n H d v := by
  obtain ⟨v, h1, h2⟩ := r.get e
  refine ⟨v, ?_, h2⟩
  unfold L2.atI
  rw [ixN_eq, r.length, h]
  exact h1
theorem IxR.weak {r r' : R2} (h : IxR X r) (hw : ∀ x y H Q, r' x y H Q → r x y H Q) : IxR X r' := fun value slice pins s σ H x y v u Q I rx ry q hs => h value slice pins s σ H x y v u Q I rx ry (hw _ _ _ _ q) hs
/-- d[k] -/
def rIxDict (K : PySem.W.Frag) (w : World) : R2 := fun x y H Q => ∃ (ρ : Rho) (n : Nat) (a : Addr) (ep : Nat) (es : List (Int × V × V)) (kvs : List (D × D)) (k v : D), x = .ref a ∧ H a = some (.ext (dictP a ep es)) ∧ RK K w ρ n H kvs es ∧ distinctK kvs ∧ keyOk k = true ∧ RV K ρ n H k y ∧ look k kvs = some v ∧
  ∀ vv, RV K ρ n H v vv → Q vv H
theorem ix_dictD (hu : X.A.units + 64 < cLine) : IxR X (rIxDict X.K X.w) := by
  intro value slice pins s σ H x y v u Q I rx ry h hs
  obtain ⟨ρ, n, a, ep, es, kvs, k, d, rfl, h1, r1, dk, hk, hy, hl, q⟩ := h
  cases rx
  exact tail_any (typeIs_dict I h1) PySem.slot_dict_getitem.lookup (getItem_dictD I (by omega) h1 r1 dk hk hy ry hl q) hs
theorem opO_idx (hu : X.A.units + 64 < cLine) : IxR X (rOp X.K X.w .idx) := by
  refine IxR.weak (ix_list.or (ix_tup.or (ix_dictD hu))) fun x y H Q h => ?_
  obtain ⟨ρ, G, dx, dy, d, G', R, hx, hy, e, q⟩ := h
  cases dx with
  | tup xs =>
    cases dy <;> simp only [bin] at e <;> try cases e
    obtain ⟨rfl, k, e1, e2⟩ := itemG_ok e
    obtain ⟨a, vs, rfl, ha, r⟩ := hx
    cases hy
    obtain ⟨v, h1, h2⟩ := r.atI e1 e2
    exact .inr (.inl ⟨a, vs, _, v, rfl, rfl, ha.1, h1, q.here R h2⟩)
  | ref a =>
    obtain ⟨_, rfl⟩ := hx
    simp only [bin] at e
    split at e
    · rename_i kvs ea
      split at e
      · rename_i hk
        split at e
        · rename_i v el
          cases e
          obtain ⟨ep, es, h1, r1, dk, sat⟩ := R.dct ea
          exact .inr (.inr ⟨ρ, G.n, _, ep, es, kvs, dy, _, rfl, h1, r1, dk, hk, hy, el, fun vv rv => q.here R rv⟩)
        · cases e
      · cases e
    · rename_i xs ea
      cases dy <;> simp only at e <;> try cases e
      obtain ⟨rfl, k, e1, e2⟩ := itemG_ok e
      cases hy
      obtain ⟨vs, hs, r⟩ := R.sqL (.inl ea)
      obtain ⟨v, h1, h2⟩ := r.atI e1 e2
      exact .inl ⟨_, vs, _, v, rfl, rfl, hs, h1, q.here R h2⟩
    · rename_i xs ea
      cases dy <;> simp only at e <;> try cases e
      obtain ⟨rfl, k, e1, e2⟩ := itemG_ok e
      cases hy
      obtain ⟨vs, hs, r⟩ := R.sqL (.inr ea)
      obtain ⟨v, h1, h2⟩ := r.atI e1 e2
      exact .inl ⟨_, vs, _, v, rfl, rfl, hs, h1, q.here R h2⟩
    · cases e
  | _ => simp [bin] at e

/-! ### stores -/
def rSet (K : PySem.W.Frag) (w : World) : TSet := fun o i v H Q => ∃ ρ G dO di dv d G', Rel K w ρ G H ∧ RV K ρ G.n H dO o ∧ RV K ρ G.n H di i ∧ RV K ρ G.n H dv v ∧ setIx dO di dv G = .ok d G' ∧ After K w ρ G H G' fun _ H' => Q H'
theorem RK.put {K : PySem.W.Frag} {w : World} {ρ : Rho} {n : Nat} {H : Hp} {kvs : List (D × D)} {es es' : List (Int × V × V)} {k v : D} {kv vv : V} (r : RK K w ρ n H kvs es) (dk : distinctK kvs) (fk : keyOk k = true)
    (rk : RV K ρ n H k kv) (rv : RV K ρ n H v vv) {c : Prop}
    (h : (look k kvs = none ∧ es' = es ++ [(hashD w k, kv, vv)]) ∨ ∃ (j : Nat) (k' u : D) (e : Int × V × V), kvs[j]? = some (k', u) ∧ k'.eqv k = true ∧ es[j]? = some e ∧ es' = es.set j (e.1, e.2.1, vv) ∧ c) : RK K w ρ n H (Ev.put k v kvs) es' := by
  unfold keyOk at fk
  rw [Bool.and_eq_true, decide_eq_true_eq] at fk
  rcases h with ⟨h1, rfl⟩ | ⟨j, k', u, e, h1, h2, h3, rfl, _⟩
  · rw [put_new h1]
    exact paired_append r (.cons ⟨fk.1, fk.2, rfl, rk, rv⟩ .nil)
  · have fk' : k'.flat = true := r.flat _ (List.mem_of_getElem? h1)
    rw [put_at (fun i a hi ha => ?_) h1 h2]
    · obtain ⟨e', e1, e2⟩ := paired_get r h1
      rw [h3] at e1; cases e1
      exact paired_set (x := (k', v)) (y := (e.1, e.2.1, vv)) ⟨e2.1, e2.2.1, e2.2.2.1, e2.2.2.2.1, rv⟩ j r
    · cases q : a.eqv k with
      | false => rfl
      | true =>
        have fa : a.flat = true := by
          rw [List.getElem?_map] at ha
          cases z : kvs[i]? with
          | none => rw [z] at ha; cases ha
          | some p => rw [z] at ha; cases ha; exact r.flat _ (List.mem_of_getElem? z)
        have := apart_of r.flat dk i j a k' ha (by rw [List.getElem?_map, h1]; rfl) (D.eqv_trans fa fk.1 fk' q (D.eqv_symm fk' fk.1 h2))
        omega
theorem DWr.put {K : PySem.W.Frag} {w : World} {ρ : Rho} {G : Hh} {H : Hp} {n n' : Nat} {a : Nat} {kvs : List (D × D)} {k v : D} {ep ep' : Nat} {es es' : List (Int × V × V)} {kv vv : V} {hh : Int} (ea : G.get a = some (.dct kvs)) (h1 : H (ρ a) = some (.ext (dictP (ρ a) ep es))) (sat : ∃ h, dictP (ρ a) ep es h)
    (r' : RK K w ρ n' H (Ev.put k v kvs) es') (r : RK K w ρ n H kvs es) {c : Prop}
    (he : (c ∧ es' = es ++ [(hh, kv, vv)]) ∨ ∃ (j : Nat) (k' u : D) (e : Int × V × V), kvs[j]? = some (k', u) ∧ k'.eqv k = true ∧ es[j]? = some e ∧ es' = es.set j (e.1, e.2.1, vv) ∧ ep' = ep) : DWr ρ G H a (.ext (dictP (ρ a) ep' es')) (.dct (Ev.put k v kvs)) := by
  intro kvs0 e0
  rw [ea] at e0; cases e0
  have l1 : (Ev.put k v kvs).length = es'.length := r'.length
  have l2 : kvs.length = es.length := r.length
  refine ⟨_, rfl, ?_, fun hl ep0 es0 h0 => ?_⟩
  · rcases he with ⟨_, rfl⟩ | ⟨j, k', u, e, _, _, _, rfl, _⟩
    · rw [l1, l2]; simp
    · rw [l1, l2]; simp
  · rw [h1] at h0
    obtain ⟨q1, q2⟩ := dictP_same (HO.ext.inj (Option.some.inj h0)) sat
    subst q1
    rcases he with ⟨_, rfl⟩ | ⟨j, k', u, e, _, _, ej, rfl, rfl⟩
    · rw [l1, l2] at hl; simp at hl
    · refine ⟨_, rfl, ?_⟩
      rw [q2]
      apply List.ext_getElem?
      intro i
      rw [List.getElem?_map, List.getElem?_map, List.getElem?_set]
      by_cases hji : j = i
      · subst hji
        rw [if_pos rfl, if_pos (List.getElem?_eq_some_iff.mp ej).1, ej]
        rfl
      · rw [if_neg hji]
theorem setO (hu : X.A.units + 64 < cLine) : PSet X (rSet X.K X.w) := by
  intro pins s σ H o i v ov iv u Q I ro ri rv h
  obtain ⟨ρ, G, dO, di, dv, d, G', R, ho, hi, hv, e, q⟩ := h
  cases dO with
  | ref a =>
    obtain ⟨_, rfl⟩ := ho
    simp only [setIx] at e
    split at e
    · rename_i xs ea
      cases di <;> simp only at e <;> try cases e
      split at e
      · rename_i j ej
        cases e
        cases hi
        obtain ⟨vs, h1, r1⟩ := R.lst ea
        have m : mutAt G a := ⟨_, ea, rfl⟩
        refine set_list pins s σ H _ _ v ov iv u Q I ro ri rv ⟨_, vs, _, j, rfl, rfl, h1, by rw [ixN_eq, r1.length]; exact ej, ?_⟩
        have st := R.stepWr (o := HO.lst (vs.set j v)) (u := .lst (xs.set j dv)) m rfl (.lst ea)
        exact q ρ _ st (R.wr m rfl (.lst ea) ⟨_, upd_same, RVs.step R st _ _ (RVs.set hv j r1)⟩)
      · cases e
    · rename_i kvs ea
      split at e
      · rename_i hh
        simp only [Bool.and_eq_true, decide_eq_true_eq] at hh
        cases e
        obtain ⟨ep, es, h1, r1, dk, sat⟩ := R.dct ea
        cases ro
        have m : mutAt G a := ⟨_, ea, rfl⟩
        refine setItem_dictD I (by omega) h1 r1 dk hh.1 hi ri rv hh.2 fun ep' es' h' hp' he => ?_
        have dw : DWr ρ G H a (HO.ext (dictP (ρ a) ep' es')) (.dct (Ev.put di dv kvs)) := DWr.put (kv := i) (vv := v) ea h1 sat (r1.put dk hh.1 hi hv he) r1 he
        have st := R.stepWr (o := HO.ext (dictP (ρ a) ep' es')) (u := .dct (Ev.put di dv kvs)) m rfl dw
        refine q ρ _ st (R.wr m rfl dw ⟨ep', es', upd_same, RK.step (G' := G.set a (.dct (Ev.put di dv kvs))) R st (r1.put dk hh.1 hi hv he), distinct_put ?_ r1.flat dk, h', hp'⟩)
        have := hh.1
        unfold keyOk at this
        rw [Bool.and_eq_true] at this
        exact this.1
      · cases e
    · cases e
  | _ => simp [setIx] at e
end
end Ev

/-! EvB: built-in functions and methods. -/
namespace Ev
open PySem PySem.Spec
open PyProof.Rows hiding St
open L2
open Sem (wp)

def rBf (K : PySem.W.Frag) (w : World) (f : Bf) : List V → Hp → VK → Prop := fun xs H Q => ∃ ρ G ds d G', Rel K w ρ G H ∧ RVs K ρ G.n H ds xs ∧ bfn f ds G = .ok d G' ∧ AfterV K w ρ G H d G' Q
/-- a method: the receiver ahead -/
def rMt (K : PySem.W.Frag) (w : World) (f : Bf) : V → List V → Hp → VK → Prop := fun x xs H Q => rBf K w f (x :: xs) H Q
section
variable {X : Cx}
theorem CallR.weak {f : Value} {r r' : List V → Hp → VK → Prop} (h : CallR X f r) (hw : ∀ xs H Q, r' xs H Q → r xs H Q) : CallR X f r' :=
  fun pins s σ H xs us Q I rx q => h pins s σ H xs us Q I rx (hw _ _ _ q)
theorem MtR.weak {id : String} {r r' : V → List V → Hp → VK → Prop} (h : MtR X id r) (hw : ∀ x xs H Q, r' x xs H Q → r x xs H Q) : MtR X id r' :=
  fun pins s σ H x xs v us Q I rx rxs q => h pins s σ H x xs v us Q I rx rxs (hw _ _ _ _ q)
/-- len of a dict of data -/
theorem dict_len_raw {prog : Program} {w : World} (d : Addr) (n : Nat) (hd : (d == sysModules) = false) :
    MeetsIn prog w (Builtin.«dict.__len__» ⟨[.ref d], []⟩) (fun _ R s => (∃ o ep ds, s.heap.get? d = some o ∧ o.data = .dict ds ep ∧ ds.size = n) ∧ R (.ok (.ret (.int n s.toks))) { s with toks := s.toks + 1 }) :=
  .of_wp fun A R s ⟨⟨o, ep, ds, ho, hdat, hn⟩, h⟩ => by
    show wpAny _ _ (dictSize d >>= _) _ _ s
    unfold dictSize
    refine wpAny_bind (wpAny_bind (wpAny_dictEntries ho hdat (wpAny_pure ?_)))
    show wpAny _ _ (Builtin.Dict.pendingCount d >>= _) _ _ s
    refine wpAny_bind (wpAny_pendingCount_other hd ?_)
    refine wpAny_ret_mkInt ?_
    rw [Nat.add_zero, hn]; exact h
theorem len_dictD {pins : List (Addr × Obj)} {σ : St} {H : Hp} {s : Shared} (I : Inv X pins σ H s) {a : Addr} {ep : Nat} {es : List (Int × V × V)} {kvs : List (D × D)} {ρ : Rho} {n : Nat} {Q : VK} (h : H a = some (.ext (dictP a ep es))) (r : RK X.K X.w ρ n H kvs es) (q : Q (.int kvs.length) H) :
    wpAny (model X.prog X.w) X.A (call (.builtin "len") [.ref a]) (EP X pins σ Q) X.xe s := by
  obtain ⟨z1, hd, o, ds, ho, hx, hdt, hp, hka⟩ := dict_obj I h r
  have e1 : kvs.length = ds.length := by rw [← hka.length, List.length_map]
  have e2 : es.length = ds.length := Paired.length hp
  have hfit : (kvs.length : Int) < 2 ^ 63 := by
    have := sizeLine_eq
    omega
  have hT : s.TypeIs (.ref a) "dict" := ⟨o, ho, hx.1⟩
  refine Calls.call_function_entry kind_len plain_len entry_len (args_len1 _) ?_
  unfold Builtin.«len»
  refine wpAny_bind (m := oneArg "len" _) (wpAny_pure ?_)
  refine wpAny_bind (m := callSpecial? (.ref a) (Str.ofString "__len__")) (wpAny_callSpecial?_slot (name := Str.ofString "__len__") hT PySem.F.slot_dict_len
    (call_meetsIn PySem.F.slot_dict_len hT PySem.F.entry_dict_len (PySem.F.args_dict_len_1 _) (dict_len_raw a kvs.length hd) ⟨⟨o, ep, ds.toArray, ho, hdt, by simp [e1]⟩, ?_⟩))
  show wpAny _ _ _ _ _ { s with toks := s.toks + 1 }
  refine wpAny_bind (wpAny_holding (wpAny_pure ?_))
  refine wpAny_bind (wpAny_letGo ?_)
  show wpAny _ _ (if ((kvs.length : Nat) : Int) < 0 then _ else _) _ _ _
  rw [if_neg (by omega)]
  show wpAny _ _ (if ((kvs.length : Nat) : Int) ≥ 2 ^ 63 then _ else _) _ _ _
  rw [if_neg (by omega)]
  exact wpAny_bind (wpAny_mkInt (wpAny_pure ⟨_, rfl, ⟨.int kvs.length, H, Inv.tk I _, ⟨_, rfl⟩, q⟩⟩))
theorem bf_len : CallR X (.builtin "len") (rBf X.K X.w .len) := by
  intro pins s σ H xs us Q I r h
  obtain ⟨ρ, G, ds, d, G', R, hx, e, q⟩ := h
  match ds with
  | [] => simp [bfn] at e
  | _ :: _ :: _ => simp [bfn] at e
  | [x] =>
    obtain ⟨v, r', rfl, hv, rfl⟩ := hx
    simp only [bfn] at e
    split at e
    · rename_i n en
      cases e
      cases x with
      | tup xs =>
        obtain ⟨a, vs, rfl, ha, rr⟩ := hv
        simp only [lenD] at en; cases en
        exact call_len_seq pins s σ H _ us Q I r ⟨a, vs, rfl, .inr ha.1, by rw [rr.length]; exact q.here R rfl⟩
      | str z =>
        cases hv
        simp only [lenD] at en
        split at en
        · rename_i hz
          cases en
          exact call_len_str pins s σ H _ us Q I r ⟨z, rfl, by rw [← sizeMax_eq]; exact hz, q.here R rfl⟩
        · cases en
      | ref a =>
        obtain ⟨_, rfl⟩ := hv
        simp only [lenD] at en
        split at en
        · rename_i xs ea
          cases en
          obtain ⟨vs, h1, rr⟩ := R.sqL (.inl ea)
          exact call_len_seq pins s σ H _ us Q I r ⟨_, vs, rfl, .inl h1, by rw [rr.length]; exact q.here R rfl⟩
        · rename_i xs ea
          cases en
          obtain ⟨vs, h1, rr⟩ := R.sqL (.inr ea)
          exact call_len_seq pins s σ H _ us Q I r ⟨_, vs, rfl, .inl h1, by rw [rr.length]; exact q.here R rfl⟩
        · rename_i kvs ea
          cases en
          obtain ⟨ep, es, h1, r1, dk⟩ := R.dct ea
          obtain ⟨u, rfl, ru⟩ := vals1 r
          cases ru
          exact len_dictD I h1 r1 (q.here R rfl)
        · cases en
      | _ => simp [lenD] at en
    · cases e
theorem bf_int : CallR X (.type "int") (rBf X.K X.w .int) := CallR.weak call_int1 fun xs H Q h => by
  obtain ⟨ρ, G, ds, d, G', R, hx, e, q⟩ := h
  match ds with
  | [] => simp [bfn] at e
  | _ :: _ :: _ => simp [bfn] at e
  | [x] =>
    obtain ⟨v, r', rfl, hv, rfl⟩ := hx
    cases x <;> simp [bfn] at e
    · obtain ⟨rfl, rfl⟩ := e
      cases hv
      exact .inr ⟨_, rfl, q.here R rfl⟩
    · obtain ⟨rfl, rfl⟩ := e
      cases hv
      exact .inl ⟨_, rfl, q.here R rfl⟩
theorem bf_min2 (hc : X.calm = true) : CallR X (.builtin "min") (rBf X.K X.w .min2) := CallR.weak (call_min2 hc) fun xs H Q h => by
  obtain ⟨ρ, G, ds, d, G', R, hx, e, q⟩ := h
  match ds with
  | [] => simp [bfn] at e
  | [_] => simp [bfn] at e
  | _ :: _ :: _ :: _ => simp [bfn] at e
  | [x, y] =>
    obtain ⟨v, r', rfl, hv, u, r2, rfl, hu, rfl⟩ := hx
    cases x <;> cases y <;> simp [bfn] at e
    obtain ⟨rfl, rfl⟩ := e
    cases hv; cases hu
    exact ⟨_, _, rfl, q.here R rfl⟩
theorem bf_max2 (hc : X.calm = true) : CallR X (.builtin "max") (rBf X.K X.w .max2) := CallR.weak (call_max2 hc) fun xs H Q h => by
  obtain ⟨ρ, G, ds, d, G', R, hx, e, q⟩ := h
  match ds with
  | [] => simp [bfn] at e
  | [_] => simp [bfn] at e
  | _ :: _ :: _ :: _ => simp [bfn] at e
  | [x, y] =>
    obtain ⟨v, r', rfl, hv, u, r2, rfl, hu, rfl⟩ := hx
    cases x <;> cases y <;> simp [bfn] at e
    obtain ⟨rfl, rfl⟩ := e
    cases hv; cases hu
    exact ⟨_, _, rfl, q.here R rfl⟩
theorem intsD_map : ∀ {xs : List D} {ns : List Int}, intsD xs = some ns → xs = ns.map D.int
  | [], ns, h => by simp [intsD] at h; subst h; rfl
  | .int i :: r, ns, h => by
    simp only [intsD] at h
    cases e : intsD r with
    | none => rw [e] at h; cases h
    | some ms => rw [e] at h; cases h; rw [intsD_map e]; rfl
  | .und :: _, _, h => by simp [intsD] at h
  | .non :: _, _, h => by simp [intsD] at h
  | .bl _ :: _, _, h => by simp [intsD] at h
  | .str _ :: _, _, h => by simp [intsD] at h
  | .tup _ :: _, _, h => by simp [intsD] at h
  | .ref _ :: _, _, h => by simp [intsD] at h
theorem RVs.ints {K : PySem.W.Frag} {ρ : Rho} {n : Nat} {H : Hp} : ∀ {ns : List Int} {vs : List V}, RVs K ρ n H (ns.map D.int) vs → vs = ns.map V.int
  | [], _, h => h
  | m :: ns, vs, h => by
    obtain ⟨v, r, e, h1, h2⟩ := h
    subst e
    cases h1
    rw [RVs.ints h2]; rfl
theorem minI_le : ∀ (xs : List Int) (m : Int), minI m xs ≤ m ∧ (minI m xs = m ∨ minI m xs ∈ xs) ∧ ∀ y ∈ xs, minI m xs ≤ y
  | [], m => ⟨Int.le_refl _, .inl rfl, fun y hy => by cases hy⟩
  | x :: xs, m => by
    have h := minI_le xs (if x < m then x else m)
    have e : minI m (x :: xs) = minI (if x < m then x else m) xs := rfl
    rw [e]
    by_cases hx : x < m
    · rw [if_pos hx] at h ⊢
      refine ⟨by omega, .inr ?_, fun y hy => ?_⟩
      · rcases h.2.1 with q | q
        · rw [q]; exact List.mem_cons_self
        · exact List.mem_cons_of_mem _ q
      · rcases List.mem_cons.mp hy with rfl | hy
        · exact h.1
        · exact h.2.2 y hy
    · rw [if_neg hx] at h ⊢
      refine ⟨h.1, ?_, fun y hy => ?_⟩
      · rcases h.2.1 with q | q
        · exact .inl q
        · exact .inr (List.mem_cons_of_mem _ q)
      · rcases List.mem_cons.mp hy with rfl | hy
        · omega
        · exact h.2.2 y hy
theorem bf_minL (hc : X.calm = true) : CallR X (.builtin "min") (rBf X.K X.w .minL) := CallR.weak (cr_min hc) fun xs H Q h => by
  obtain ⟨ρ, G, ds, d, G', R, hx, e, q⟩ := h
  match ds with
  | [] => simp [bfn] at e
  | _ :: _ :: _ => simp [bfn] at e
  | [x] =>
    obtain ⟨v, r', rfl, hv, rfl⟩ := hx
    cases x <;> simp only [bfn] at e <;> try cases e
    rename_i a
    split at e
    · rename_i xs ex
      split at e
      · rename_i m r em
        cases e
        · obtain ⟨_, rfl⟩ := hv
          obtain ⟨vs, h1, rr⟩ := R.sqL (seqOf_ref ex)
          rw [intsD_map em] at rr
          refine ⟨_, m :: r, rfl, by rw [RVs.ints rr] at h1; exact h1, Nat.succ_pos _, fun z hz hle => ?_⟩
          have h := minI_le r m
          have e1 : z = minI m r := by
            have a1 : minI m r ∈ m :: r := by
              rcases h.2.1 with q | q
              · rw [q]; exact List.mem_cons_self
              · exact List.mem_cons_of_mem _ q
            have a2 := hle _ a1
            rcases List.mem_cons.mp hz with rfl | hz
            · have := h.1; omega
            · have := h.2.2 z hz; omega
          subst e1
          exact q.here R rfl
      · cases e
    · cases e
theorem call_tuple_ofN : CallR X (.type "tuple") (fun xs H Q => ∃ p ys, xs = [.ref p] ∧ ((SqL X.K H p ys ∧ ∀ l, H l = none → ∀ o : Obj, o.dict = none → Q (.ref l) (upd H l (.frz o (.tup ys)))) ∨ (SqT X.K H p ys ∧ Q (.ref p) H))) := by
  intro pins s σ H xs us Q I r h
  obtain ⟨p, ys, rfl, h⟩ := h
  obtain ⟨u, rfl, rx⟩ := vals1 r
  cases rx
  rcases h with ⟨hq, q⟩ | ⟨hq, q⟩
  · obtain ⟨its, r', pl, hz⟩ := I.list hq
    have hlen := r'.length
    refine call_tuple_list pl.isList (fun h' kp => ?_) (by simp only [List.size_toArray] <;> omega)
    have I1 : Inv X pins σ H { s with heap := h' } := I.kept (t' := s.toks) kp
    have I2 : Inv X pins σ (upd H h'.objs.size (.frz { cls := .type "tuple", data := .seq its.toArray } (.tup ys))) { s with heap := h'.push { cls := .type "tuple", data := .seq its.toArray } } :=
      I1.laid (t' := s.toks) (fun b o e => Heap.get?_push_of_some _ e) (Nat.le_refl _) ⟨Heap.get?_push_size _ rfl, hz, its, r', IsTup.new _ _⟩
    exact ⟨.ref h'.objs.size, _, I2, rfl, q _ (I1.hok.fresh (Nat.le_refl _)) _ rfl⟩
  · obtain ⟨its, r', pl, hz⟩ := I.tuple hq
    exact call_tuple_same pl ⟨.ref p, H, I, rfl, q⟩
theorem bf_tuple : CallR X (.type "tuple") (rBf X.K X.w .tuple) := CallR.weak call_tuple_ofN fun xs H Q h => by
  obtain ⟨ρ, G, ds, d, G', R, hx, e, q⟩ := h
  match ds with
  | [] => simp [bfn] at e
  | _ :: _ :: _ => simp [bfn] at e
  | [x] =>
    obtain ⟨v, r', rfl, hv, rfl⟩ := hx
    simp only [bfn] at e
    split at e
    · rename_i xs ex
      cases e
      cases x with
      | ref a =>
        obtain ⟨_, rfl⟩ := hv
        obtain ⟨vs, h1, rr⟩ := R.sqL (seqOf_ref ex)
        exact ⟨_, vs, rfl, .inl ⟨h1, fun p hp => q.newT R rr p hp⟩⟩
      | tup ys =>
        simp only [seqOf] at ex; cases ex
        obtain ⟨a, vs, rfl, ha, rr⟩ := hv
        exact ⟨a, vs, rfl, .inr ⟨ha.1, q.here R ⟨a, vs, rfl, ha, rr⟩⟩⟩
      | _ => simp [seqOf] at ex
    · cases e
theorem bf_list : CallR X (.type "list") (rBf X.K X.w .list) := CallR.weak call_list_of fun xs H Q h => by
  obtain ⟨ρ, G, ds, d, G', R, hx, e, q⟩ := h
  match ds with
  | [] => simp [bfn] at e
  | _ :: _ :: _ => simp [bfn] at e
  | [x] =>
    obtain ⟨v, r', rfl, hv, rfl⟩ := hx
    simp only [bfn] at e
    split at e
    · rename_i xs ex
      cases e
      cases x with
      | ref a =>
        obtain ⟨_, rfl⟩ := hv
        obtain ⟨vs, h1, rr⟩ := R.sqL (seqOf_ref ex)
        exact ⟨_, vs, rfl, .inl h1, fun p hp => q.newL R rr p hp⟩
      | tup ys =>
        simp only [seqOf] at ex; cases ex
        obtain ⟨a, vs, rfl, ha, rr⟩ := hv
        exact ⟨a, vs, rfl, .inr ha.1, fun p hp => q.newL R rr p hp⟩
      | _ => simp [seqOf] at ex
    · cases e

/-! ### methods of lists -/
/-- a list is written -/
theorem AfterV.wrL {K : PySem.W.Frag} {w : World} {ρ : Rho} {G : Hh} {H : Hp} {Q : VK} {a : Nat} {xs ys : List D} {us : List V} {d : D} {v : V} (q : AfterV K w ρ G H d (G.set a (.lst ys)) Q) (R : Rel K w ρ G H) (h : G.get a = some (.lst xs))
    (r : RVs K ρ G.n H ys us) (rv : RV K ρ G.n H d v) : Q v (upd H (ρ a) (.lst us)) := by
  have m : mutAt G a := ⟨_, h, rfl⟩
  have st := R.stepWr (o := HO.lst us) (u := .lst ys) m rfl (.lst h)
  exact q ρ v _ st (R.wr m rfl (.lst h) ⟨_, upd_same, RVs.step R st _ _ r⟩) (RV.step (G' := G.set a (.lst ys)) R st _ _ rv)
theorem mt_appendD : MtR X "list.append" (rMt X.K X.w .append) := MtR.weak mt_append fun x xs H Q h => by
  obtain ⟨ρ, G, ds, d, G', R, hx, e, q⟩ := h
  match ds with
  | [] => simp [bfn] at e
  | [_] => simp [bfn] at e
  | _ :: _ :: _ :: _ => simp [bfn] at e
  | [x, y] =>
    obtain ⟨v, r', er, hv, u, r2, rfl, hu, rfl⟩ := hx
    cases er
    cases x <;> simp only [bfn] at e <;> try cases e
    rename_i a
    obtain ⟨_, rfl⟩ := hv
    split at e
    · rename_i zs ea
      simp at e
      obtain ⟨hz, rfl, rfl⟩ := e
      obtain ⟨vs, h1, rr⟩ := R.lst ea
      exact ⟨_, vs, u, rfl, rfl, h1, by rw [rr.length, ← sizeMax_eq]; exact hz, q.wrL R ea (rr.append (RVs.one hu)) rfl⟩
    · cases e
theorem mt_extendD : MtR X "list.extend" (rMt X.K X.w .extend) := MtR.weak mt_extend fun x xs H Q h => by
  obtain ⟨ρ, G, ds, d, G', R, hx, e, q⟩ := h
  match ds with
  | [] => simp [bfn] at e
  | [_] => simp [bfn] at e
  | _ :: _ :: _ :: _ => simp [bfn] at e
  | [x, y] =>
    obtain ⟨v, r', er, hv, u, r2, rfl, hu, rfl⟩ := hx
    cases er
    cases x <;> simp only [bfn] at e <;> try cases e
    cases y <;> simp only [bfn] at e <;> try cases e
    rename_i a b
    obtain ⟨_, rfl⟩ := hv
    obtain ⟨_, rfl⟩ := hu
    split at e
    · rename_i zs ys ea eb
      simp at e
      obtain ⟨hz, rfl, rfl⟩ := e
      obtain ⟨vs, h1, rr⟩ := R.lst ea
      obtain ⟨us, h2, rr2⟩ := R.lst eb
      exact ⟨_, _, vs, us, rfl, rfl, h1, h2, by rw [rr.length, rr2.length, ← sizeMax_eq]; exact hz, q.wrL R ea (rr.append rr2) rfl⟩
    · cases e
theorem mt_popD : MtR X "list.pop" (rMt X.K X.w .pop) := MtR.weak mt_pop fun x xs H Q h => by
  obtain ⟨ρ, G, ds, d, G', R, hx, e, q⟩ := h
  match ds with
  | [] => simp [bfn] at e
  | _ :: _ :: _ => simp [bfn] at e
  | [x] =>
    obtain ⟨v, r', er, hv, rfl⟩ := hx
    cases er
    cases x <;> simp only [bfn] at e <;> try cases e
    rename_i a
    obtain ⟨_, rfl⟩ := hv
    split at e
    · rename_i zs ea
      split at e
      · rename_i y ey
        cases e
        obtain ⟨vs, h1, rr⟩ := R.lst ea
        obtain ⟨u, h2, ru⟩ := rr.get ey
        exact ⟨_, vs, u, rfl, rfl, h1, by rw [rr.length]; exact h2, q.wrL R ea rr.dropLast ru⟩
      · cases e
    · cases e
theorem findD_at (x : D) : ∀ (xs : List D) (k j : Nat), findD x xs k = some j → ∃ i z, j = k + i ∧ xs[i]? = some z ∧ z.eqv x = true ∧ ∀ (m : Nat) (z' : D), m < i → xs[m]? = some z' → z'.eqv x = false
  | [], k, j, h => by simp [findD] at h
  | y :: ys, k, j, h => by
    unfold findD at h
    by_cases e : y.eqv x = true
    · rw [if_pos e] at h; cases h
      exact ⟨0, y, rfl, rfl, e, fun m _ hm => absurd hm (Nat.not_lt_zero _)⟩
    · rw [if_neg e] at h
      obtain ⟨i, z, h1, h2, h3, h4⟩ := findD_at x ys (k + 1) j h
      refine ⟨i + 1, z, by omega, by simpa using h2, h3, fun m z' hm hz => ?_⟩
      cases m with
      | zero => simp at hz; subst hz; simpa using e
      | succ m => exact h4 m z' (by omega) (by simpa using hz)
theorem mt_indexDD (hu : X.A.units + 66 < cLine) : MtR X "list.index" (rMt X.K X.w .index) := by
  intro pins s σ H x xs v us Q I rx rxs h
  obtain ⟨ρ, G, ds, d, G', R, hx, e, q⟩ := h
  match ds with
  | [] => simp [bfn] at e
  | [_] => simp [bfn] at e
  | _ :: _ :: _ :: _ => simp [bfn] at e
  | [x, y] =>
    obtain ⟨v, r', er, hv, u, r2, rfl, hu', rfl⟩ := hx
    cases er
    cases x <;> simp only [bfn] at e <;> try cases e
    rename_i a
    obtain ⟨_, rfl⟩ := hv
    split at e
    · rename_i zs ea
      split at e
      · rename_i hh
        simp only [Bool.and_eq_true, decide_eq_true_eq] at hh
        split at e
        · rename_i k ek
          cases e
          cases rx
          cases rxs with
          | cons ry rt =>
            rename_i uy ut
            cases rt
            obtain ⟨bs, r1⟩ := RV.reads I y u uy hh.1.1.1 hu' ry
            obtain ⟨i, z, rfl, hzi, hz, hno⟩ := findD_at y zs 0 k ek
            have hxs : PyData.plainAll (D.toPs zs) = true := D.plain_toPs zs
            have hroom : X.A.units + 1 + min (PyData.depthAll (D.toPs zs)) y.toP.depth < cLine := by rw [D.depth_toPs, D.depth_toP]; omega
            obtain ⟨vs, h1, rr⟩ := R.sqL (.inl ea)
            obtain ⟨its, rv, ⟨⟨cls, dd, data, sls⟩, n, ho, hc, hdn, hdt⟩, hlen⟩ := I.list h1
            simp only at hc hdt
            subst hc hdt
            obtain ⟨as, h4⟩ := RVs.reads I zs vs its hh.1.1.2 rr rv
            have hn : its.length = zs.length := by rw [← rv.length, rr.length]
            have hmap : its.map (SeqAt.readOf s.heap) = D.toPs zs := SeqAt.readsAll_map_plain _ its as hxs h4
            have hsl := sizeLine_eq
            have hid : i < zs.length := (List.getElem?_eq_some_iff.mp hzi).1
            have hjl : i < its.length := by omega
            have hj : i < its.toArray.size := by simpa using hjl
            have hvl := rv.length
            have fz : ∀ (m : Nat) (z' : D), zs[m]? = some z' → z'.flat = true := by
              have gen : ∀ (l : List D), D.flats l = true → ∀ (m : Nat) (z' : D), l[m]? = some z' → z'.flat = true := by
                intro l
                induction l with
                | nil => intro _ m z' e; simp at e
                | cons a t ih =>
                  intro f m z' e
                  simp only [D.flats, Bool.and_eq_true] at f
                  cases m with
                  | zero => simp at e; subst e; exact f.1
                  | succ m => exact ih f.2 m z' (by simpa using e)
              exact gen zs hh.1.1.2
            have at_ : ∀ (m : Nat) (hm : m < its.toArray.size) (z' : D), zs[m]? = some z' → SeqAt.readOf s.heap its.toArray[m] = z'.toP := by
              intro m hm z' hz'
              have hml : m < its.length := by simpa using hm
              have e2 : (D.toPs zs)[m]? = some z'.toP := by rw [D.toPs_eq, List.getElem?_map, hz']; rfl
              rw [← hmap, List.getElem?_map, List.getElem?_eq_getElem hml] at e2
              have e1 : SeqAt.readOf s.heap its[m] = z'.toP := Option.some.inj (show some (SeqAt.readOf s.heap its[m]) = some z'.toP from e2)
              simpa using e1
            refine call_meets PySem.F.slot_list_index ⟨_, ho, rfl⟩ PySem.F.entry_list_index (PySem.F.args_list_index_2 _ _)
              (SeqAt.list_indexAt _ its.toArray n dd sls uy (fun u => PyData.eqv (SeqAt.readOf s.heap u) y.toP) i hj (by omega) ?_ ?_) ⟨ho, SeqAt.items_plain (vs := its.toArray) (show ReadsAll s.heap its.toArray.toList (D.toPs zs) as from h4) r1 hxs (D.plain_toP _) hroom, ?_⟩
            · show PyData.eqv (SeqAt.readOf s.heap its.toArray[i]) y.toP = true
              rw [at_ i hj z hzi, D.eqv_toP _ _ (fz i z hzi) hh.1.1.1]
              exact hz
            · intro m hm hmj
              have hmd : m < zs.length := by omega
              have hz' : zs[m]? = some zs[m] := List.getElem?_eq_getElem hmd
              show PyData.eqv (SeqAt.readOf s.heap its.toArray[m]) y.toP = false
              rw [at_ m hm _ hz', D.eqv_toP _ _ (fz m _ hz') hh.1.1.1]
              exact hno m _ hmj hz'
            · exact ⟨.int i, H, Inv.tk I _, ⟨_, rfl⟩, by rw [Nat.zero_add] at q; exact q.here R rfl⟩
        · cases e
      · cases e
    · cases e

/-! ### isinstance -/
/-- the kind that isinstance asks, and its rule -/
def isaT : Bf → Option String
  | .isInt => some "int" | .isBool => some "bool" | .isStr => some "str" | .isTup => some "tuple" | .isLst => some "list" | .isDct => some "dict"
  | _ => none
theorem kit_dict {pins : List (Addr × Obj)} {σ : St} {H : Hp} {s : Shared} (I : Inv X pins σ H s) {a : Addr} {ep : Nat} {es : List (Int × V × V)} (h : H a = some (.ext (dictP a ep es))) : ∃ P : Heap → Prop, PySem.W.KitX X.K (.ref a) (.type "dict") P ∧ P s.heap := by
  obtain ⟨⟨_, _, o, _, ho, hx, _⟩, _⟩ := I.hok a _ h
  exact ⟨_, PySem.W.kitx_dict, ⟨o, ho, hx.1⟩⟩
def tyS : Nat → String
  | 0 => "NoneType" | 1 => "bool" | 2 => "int" | 3 => "str" | 4 => "tuple" | 5 => "list" | _ => "dict"
/-- what the kind of a value is -/
theorem kit_data {pins : List (Addr × Obj)} {σ : St} {H : Hp} {s : Shared} {ρ : Rho} {G : Hh} (I : Inv X pins σ H s) (R : Rel X.K X.w ρ G H) (d : D) (x : V) (u : Value) (t : Nat) (hx : RV X.K ρ G.n H d x) (rx : RelV x u) (hk : kindN G d = some t) :
    t ≤ 6 ∧ ∃ P : Heap → Prop, PySem.W.KitX X.K u (.type (tyS t)) P ∧ P s.heap ∧ u ≠ .builtin "__main__.__loader__#opaque" := by
  cases d with
  | und => cases hk
  | non => cases hk; cases hx; cases rx; exact ⟨by omega, _, PySem.W.kitx_none, trivial, fun z => nomatch z⟩
  | bl b => cases hk; cases hx; cases rx; exact ⟨by omega, _, PySem.W.kitx_bool, trivial, fun z => nomatch z⟩
  | int b => cases hk; cases hx; obtain ⟨t, rfl⟩ := rx; exact ⟨by omega, _, PySem.W.kitx_int, trivial, fun z => nomatch z⟩
  | str b => cases hk; cases hx; obtain ⟨t, rfl⟩ := rx; exact ⟨by omega, _, PySem.W.kitx_str, trivial, fun z => nomatch z⟩
  | tup xs =>
    cases hk
    obtain ⟨a, vs, rfl, ha, _⟩ := hx
    cases rx
    obtain ⟨its, _, ⟨o, ho, hc, _⟩, _⟩ := I.tuple ha.1
    exact ⟨by omega, _, PySem.W.kitx_tuple, ⟨o, ho, hc⟩, fun z => nomatch z⟩
  | ref a =>
    obtain ⟨_, rfl⟩ := hx
    cases rx
    simp only [kindN] at hk
    have seq : ∀ {xs : List D}, G.get a = some (.lst xs) ∨ G.get a = some (.frz xs) → ∃ P : Heap → Prop, PySem.W.KitX X.K (.ref (ρ a)) (.type "list") P ∧ P s.heap ∧ Value.ref (ρ a) ≠ .builtin "__main__.__loader__#opaque" := by
      intro xs h
      obtain ⟨vs, h1, _⟩ := R.sqL h
      obtain ⟨its, _, ⟨o, _, ho, hc, _⟩, _⟩ := I.list h1
      exact ⟨_, PySem.W.kitx_list, ⟨o, ho, hc⟩, fun z => nomatch z⟩
    split at hk
    · rename_i xs ea; cases hk; exact ⟨by omega, seq (.inl ea)⟩
    · rename_i xs ea; cases hk; exact ⟨by omega, seq (.inr ea)⟩
    · rename_i kvs ea
      cases hk
      obtain ⟨ep, es, h1, _⟩ := R.dct ea
      obtain ⟨P, k1, k2⟩ := kit_dict I h1
      exact ⟨by omega, P, k1, k2, fun z => nomatch z⟩
    · cases hk
def rIsa (K : PySem.W.Frag) (w : World) (f : Bf) (T : String) : List V → Hp → VK → Prop := fun xs H Q => ∃ x, xs = [x, .ty T] ∧ rBf K w f [x] H Q
theorem isaN_ok {f : Nat → Bool} {ds : List D} {G G' : Hh} {d : D} (h : isaN f ds G = .ok d G') : ∃ y t, ds = [y] ∧ kindN G y = some t ∧ d = .bl (f t) ∧ G' = G := by
  unfold isaN at h
  split at h
  · rename_i y
    split at h
    · rename_i t et
      cases h
      exact ⟨y, t, rfl, et, rfl, rfl⟩
    · cases h
  · cases h
theorem bf_isa {f : Bf} {T : String} (hT : isaT f = some T) : CallR X (.builtin "isinstance") (rIsa X.K X.w f T) := by
  intro pins s σ H xs us Q I r h
  obtain ⟨x, rfl, ρ, G, ds, d, G', R, hx, e, q⟩ := h
  obtain ⟨u1, u2, rfl, r1, r2⟩ := vals2 r
  cases r2
  have main : ∀ (g : Nat → Bool), bfn f ds G = isaN g ds G → (∀ t, t ≤ 6 → L2.kitB (tyS t) T = some (g t)) → wpAny (model X.prog X.w) X.A (call (.builtin "isinstance") [u1, .type T]) (EP X pins σ Q) X.xe s := by
    intro g eg hg
    rw [eg] at e
    obtain ⟨y, t, rfl, ht, rfl, rfl⟩ := isaN_ok e
    obtain ⟨v, r', ee, hv, rfl⟩ := hx
    cases ee
    obtain ⟨h6, P, k1, k2, k3⟩ := kit_data I R y _ u1 t hv r1 ht
    exact PySem.W.kia_one k1 I.kIn k2 (kit_ty (hg t h6)) k3 fun tk => ⟨.bl (g t), H, Inv.tk I tk, rfl, q.here R rfl⟩
  cases f <;> simp only [isaT] at hT <;> try cases hT
  all_goals
    refine main _ rfl fun t ht => ?_
    have : t = 0 ∨ t = 1 ∨ t = 2 ∨ t = 3 ∨ t = 4 ∨ t = 5 ∨ t = 6 := by omega
    rcases this with rfl | rfl | rfl | rfl | rfl | rfl | rfl <;> decide +kernel
end
end Ev

/-! EvP: the evaluator's expressions are the machine's. -/
namespace Ev
open PySem PySem.Spec
open PyProof.Rows hiding St
open L2
open Sem (wp)

theorem M.bind_ok {α β : Type} {m : M α} {f : α → M β} {G G' : Hh} {y : β} : M.bind m f G = .ok y G' ↔ ∃ x G1, m G = .ok x G1 ∧ f x G1 = .ok y G' := by
  unfold M.bind
  cases m G with
  | ok x G1 => exact ⟨fun h => ⟨x, G1, rfl, h⟩, fun ⟨x', G2, e, h⟩ => by cases e; exact h⟩
  | ex c as G1 => exact ⟨fun h => (by cases h), fun ⟨_, _, e, _⟩ => (by cases e)⟩
  | bad => exact ⟨fun h => (by cases h), fun ⟨_, _, e, _⟩ => (by cases e)⟩
theorem M.pure_ok {α : Type} {x y : α} {G G' : Hh} : M.pure x G = .ok y G' ↔ x = y ∧ G = G' := by
  unfold M.pure; simp
theorem M.bad_ok {α : Type} {y : α} {G G' : Hh} : (M.bad : M α) G = .ok y G' ↔ False := by
  unfold M.bad; simp
theorem unTup_ok {d : D} {xs : List D} {G G' : Hh} : unTup d G = .ok xs G' ↔ d = .tup xs ∧ G = G' := by
  cases d <;> simp [unTup, M.pure_ok, M.bad_ok]
theorem truthM_ok {d : D} {b : Bool} {G G' : Hh} : truthM d G = .ok b G' ↔ truth G d = some b ∧ G = G' := by
  unfold truthM
  cases truth G d <;> simp
theorem rd_ok {α : Type} {f : Hh → Option α} {x : α} {G G' : Hh} : rd f G = .ok x G' ↔ f G = some x ∧ G = G' := by
  unfold rd
  cases f G <;> simp
theorem alloc_ok {o : O} {d : D} {G G' : Hh} : alloc o G = .ok d G' ↔ d = .ref G.n ∧ G' = G.new o := by
  unfold alloc
  simp [eq_comm]

def tE (K : PySem.W.Frag) (w : World) (C : Cl) (ie : E) : TE := fun σ H Q => ∃ ρ σd G d G', Rel K w ρ G H ∧ RS K ρ G.n H σd σ ∧ evE C ie σd G = .ok d G' ∧ AfterV K w ρ G H d G' Q
def tT (K : PySem.W.Frag) (w : World) (C : Cl) (ie : E) : TT := fun σ H Q => ∃ ρ σd G d G' b, Rel K w ρ G H ∧ RS K ρ G.n H σd σ ∧ evE C ie σd G = .ok d G' ∧ truth G' d = some b ∧ After K w ρ G H G' fun _ H' => Q b H'
def tA (K : PySem.W.Frag) (w : World) (C : Cl) (ie : E) : TA := fun σ H Q => ∃ ρ σd G ds G', Rel K w ρ G H ∧ RS K ρ G.n H σd σ ∧ evE C ie σd G = .ok (.tup ds) G' ∧ ∀ ρ' vs H', Stp ρ G H ρ' G' H' → Rel K w ρ' G' H' → RVs K ρ' G'.n H' ds vs → Q vs H'
section
variable {K : PySem.W.Frag} {w : World} {C : Cl} {ρ : Rho} {G : Hh} {H : Hp}
/-- one after another -/
theorem AfterV.from {ρ' : Rho} {G' : Hh} {H' : Hp} {d : D} {G'' : Hh} {Q : VK} (s : Stp ρ G H ρ' G' H') (q : AfterV K w ρ G H d G'' Q) : AfterV K w ρ' G' H' d G'' Q := fun ρ2 v H2 s2 R2 r2 => q ρ2 v H2 (s.trans s2) R2 r2
theorem After.from {ρ' : Rho} {G' : Hh} {H' : Hp} {G'' : Hh} {Q : Rho → Hp → Prop} (s : Stp ρ G H ρ' G' H') (q : After K w ρ G H G'' Q) : After K w ρ' G' H' G'' Q := fun ρ2 H2 s2 R2 => q ρ2 H2 (s.trans s2) R2
theorem truth_V {d : D} {x : V} {b : Bool} (R : Rel K w ρ G H) (r : RV K ρ G.n H d x) (h : truth G d = some b) : TruV K x H b := by
  cases d with
  | und => exact r.elim
  | non => cases r; simp only [truth] at h; cases h; rfl
  | bl c => cases r; simp only [truth] at h; cases h; rfl
  | int i => cases r; simp only [truth] at h; cases h; rfl
  | str z =>
    cases r
    simp only [truth] at h
    split at h
    · rename_i hz
      cases h
      refine ⟨by rw [← sizeMax_eq]; exact hz, ?_⟩
      generalize z.length = m
      cases m with
      | zero => rfl
      | succ k =>
        have h1 : ((k + 1 : Nat) != 0) = true := by simp
        have h2 : (((k + 1 : Nat) : Int) != 0) = true := by
          rw [bne_iff_ne]
          omega
        rw [h1, h2]
    · cases h
  | tup xs =>
    obtain ⟨a, vs, rfl, ha, rr⟩ := r
    simp only [truth] at h; cases h
    refine .inr (.inl ⟨vs, ha.1, ?_⟩)
    have := rr.length
    cases xs <;> cases vs <;> simp_all
  | ref a =>
    obtain ⟨_, rfl⟩ := r
    have seq : ∀ {xs : List D}, G.get a = some (.lst xs) ∨ G.get a = some (.frz xs) → b = !xs.isEmpty → TruV K (.ref (ρ a)) H b := by
      intro xs hg hb
      obtain ⟨vs, h1, rr⟩ := R.sqL hg
      refine .inl ⟨vs, h1, ?_⟩
      have := rr.length
      cases xs <;> cases vs <;> simp_all
    simp only [truth] at h
    split at h
    · rename_i xs e; cases h; exact seq (.inl e) rfl
    · rename_i xs e; cases h; exact seq (.inr e) rfl
    · cases h
end
theorem PE.weak {X : Cx} {e : Expr} {t t' : TE} (h : PE X e t) (hw : ∀ σ H Q, t' σ H Q → t σ H Q) : PE X e t' := ⟨fun pins s σ H Q I q => h.run pins s σ H Q I (hw σ H Q q)⟩
theorem PT.weak {X : Cx} {e : Expr} {t t' : TT} (h : PT X e t) (hw : ∀ σ H Q, t' σ H Q → t σ H Q) : PT X e t' := ⟨fun pins s σ H Q I q => h.run pins s σ H Q I (hw σ H Q q)⟩
theorem PA.weak {X : Cx} {e : List Expr} {t t' : TA} (h : PA X e t) (hw : ∀ σ H Q, t' σ H Q → t σ H Q) : PA X e t' := ⟨fun pos pins s σ H Q I q => h.run pos pins s σ H Q I (hw σ H Q q)⟩
theorem PS.weak {X : Cx} {e : Stmt} {t t' : TS} (h : PS X e t) (hw : ∀ D σ H, t' D σ H → t D σ H) : PS X e t' := ⟨fun pins s σ H D I q => h.run pins s σ H D I (hw D σ H q)⟩
theorem PSs.weak {X : Cx} {e : List Stmt} {t t' : TS} (h : PSs X e t) (hw : ∀ D σ H, t' D σ H → t D σ H) : PSs X e t' := ⟨fun pins s σ H D I q => h.run pins s σ H D I (hw D σ H q)⟩
theorem PI.weak {X : Cx} {tg e : Expr} {t t' : TI} (h : PI X tg e t) (hw : ∀ σ H Q, t' σ H Q → t σ H Q) : PI X tg e t' := ⟨fun pins s σ H Q I q => h.run pins s σ H Q I (hw σ H Q q)⟩

/-- what a def promises, at level n -/
def spEv (K : PySem.W.Frag) (w : World) (P : List Fn) (n i : Nat) : Sp := fun vs H Q _ => ∃ ρ G ds d G', Rel K w ρ G H ∧ RVs K ρ G.n H ds vs ∧ callN P n i ds G = .ok d G' ∧ AfterV K w ρ G H d G' Q
def builtinsUsed : List Str := ["all", "any", "len", "int", "min", "max", "sorted", "tuple", "list", "isinstance", "bool", "str", "dict", "range", "enumerate"]
/-- a good context -/
structure Gd (fs : List (Str × Nat)) (P : List Fn) (N : List Str) (sc : Scope) (n : Nat) (X : Cx) : Prop where
  sc : X.env.scope = sc
  N : X.N = N
  nd : X.N.Nodup
  calm : X.calm = true
  xe : X.xe = fun _ _ => False
  room : Room n X.A
  fn : ∀ g i, fs.lookup g = some i → ∃ f fd ps, X.mg g = some (.ref f) ∧ PySem.W.keepIn X.K (.ref f) = true ∧ Binds X.K fd ps [] ∧ FnOk X.prog X.w X.K X.mg X.base CX0 n f fd ps (spEv X.K X.w P n i)
  blt : ∀ g, g ∈ builtinsUsed → X.mg g = none

section
variable {fs : List (Str × Nat)} {P : List Fn} {N : List Str} {sc : Scope} {n : Nat} {X : Cx}
theorem Gd.kindOf (g : Gd fs P N sc n X) (x : Str) : X.env.kindOf x = sc.names.lookup x := by
  show X.env.scope.names.lookup x = _
  rw [g.sc]
theorem Gd.gl (g : Gd fs P N sc n X) {x : Str} (h : isGl sc x = true) : Gl X x := by
  show X.env.kindOf x = _
  rw [g.kindOf]
  exact of_decide_eq_true h
theorem Gd.u64 (g : Gd fs P N sc n X) : X.A.units + 64 < cLine := g.room.units
theorem Gd.u66 (g : Gd fs P N sc n X) : X.A.units + 66 < cLine := by have := g.room.un; omega
theorem idxS_at {x : Str} : ∀ {l : List Str} {k i : Nat}, idxS x l k = some i → ∃ j, i = k + j ∧ l[j]? = some x
  | [], _, _, h => by cases h
  | y :: ys, k, i, h => by
    unfold idxS at h
    by_cases e : y = x
    · rw [if_pos e] at h; cases h
      exact ⟨0, rfl, by rw [e]; rfl⟩
    · rw [if_neg e] at h
      obtain ⟨j, h1, h2⟩ := idxS_at h
      exact ⟨j + 1, by omega, by simpa using h2⟩
theorem Gd.var (g : Gd fs P N sc n X) {x : Str} {i : Nat} (h : varOf N sc x = some i) : X.N[i]? = some x ∧ Vis X.env.scope x ∧ (x == ("__debug__" : Str)) = false ∧ (x == ("__classdict__" : Str)) = false := by
  unfold varOf at h
  split at h
  · cases h
  · rename_i hn
    rw [not_or] at hn
    have e1 : (x == ("__debug__" : Str)) = false := by simpa using hn.1
    have e2 : (x == ("__classdict__" : Str)) = false := by simpa using hn.2
    rw [g.N, g.sc]
    split at h
    · rename_i hk
      obtain ⟨j, h1, h2⟩ := idxS_at h
      exact ⟨by rw [h1, Nat.zero_add]; exact h2, .inl hk, e1, e2⟩
    · rename_i hk
      obtain ⟨j, h1, h2⟩ := idxS_at h
      exact ⟨by rw [h1, Nat.zero_add]; exact h2, .inr (.inl hk), e1, e2⟩
    · rename_i hk
      obtain ⟨j, h1, h2⟩ := idxS_at h
      exact ⟨by rw [h1, Nat.zero_add]; exact h2, .inr (.inr hk), e1, e2⟩
    · cases h

abbrev CLn (P : List Fn) (n : Nat) : Cl := ⟨callN P n⟩

/-! ### values by truth -/
theorem pt_of {e : Expr} {ie : E} {C : Cl} (h : PE X e (tE X.K X.w C ie)) (he : ∀ whole, isTrue e X.env whole = (do let v ← whole; standAt e.pos; holding [v] (truthy v))) : PT X e (tT X.K X.w C ie) :=
  PT.weak (pt_truth h he) fun σ H Q ⟨ρ, σd, G, d, G', b, R, S, e, t, q⟩ => ⟨ρ, σd, G, d, G', R, S, e, fun ρ' v H' s' R' r' => ⟨b, truth_V R' r' t, q ρ' H' s' R'⟩⟩

/-! ### the cases of expressions -/
theorem e_con {d : D} {C : Cl} {v : V} {e : Expr} (h : PE X e (tC v)) (hd : ∀ K ρ n H, RV K ρ n H d v) : PE X e (tE X.K X.w C (.con d)) := PE.weak h fun σ H Q ⟨ρ, σd, G, d', G', R, S, e, q⟩ => by
  simp only [evE, M.pure_ok] at e
  obtain ⟨rfl, rfl⟩ := e
  exact q.here R (hd _ _ _ _)
theorem e_var (g : Gd fs P N sc n X) {x : Str} {i : Nat} {pos : Pos} {C : Cl} (h : varOf N sc x = some i) : PE X (.Name x pos) (tE X.K X.w C (.var i)) := by
  obtain ⟨h1, h2, h3, h4⟩ := g.var h
  refine PE.weak (pe_var (i := i) h1 h2 h3 h4) fun σ H Q ⟨ρ, σd, G, d', G', R, S, e, q⟩ => ?_
  simp only [evE] at e
  split at e
  · cases e
  · rename_i d hd hn
    cases e
    obtain ⟨v, e1, r⟩ := S.2 i d' hn (fun z => by subst z; exact hd rfl)
    exact ⟨v, e1, q.here R r⟩
  · cases e
theorem e_bin {op : Operator} {o : Op} {a b : Expr} {ia ib : E} {pos : Pos} {C : Cl} (ho : OpR X (binaryOp op) (rOp X.K X.w o)) (ha : PE X a (tE X.K X.w C ia)) (hb : PE X b (tE X.K X.w C ib)) : PE X (.BinOp a op b pos) (tE X.K X.w C (.bin o ia ib)) :=
  PE.weak (pe_op ho ha hb) fun σ H Q ⟨ρ, σd, G, d', G', R, S, e, q⟩ => by
    simp only [evE, M.bind_ok] at e
    obtain ⟨x, G1, e1, y, G2, e2, e3⟩ := e
    exact ⟨ρ, σd, G, x, G1, R, S, e1, fun ρ1 v1 H1 s1 R1 r1 => ⟨ρ1, σd, G1, y, G2, R1, RS.step R s1 S, e2, fun ρ2 v2 H2 s2 R2 r2 =>
      ⟨ρ2, G2, x, y, d', G', R2, RV.step R1 s2 _ _ r1, r2, e3, q.from (s1.trans s2)⟩⟩⟩
theorem e_cmp {op : CmpOp} {o : Op} {a b : Expr} {ia ib : E} {pos : Pos} {C : Cl} (ho : OpR X (compareOp op) (rOp X.K X.w o)) (hm : behindInMarks op b = false) (ha : PE X a (tE X.K X.w C ia)) (hb : PE X b (tE X.K X.w C ib)) : PE X (.Compare a [op] [b] pos) (tE X.K X.w C (.bin o ia ib)) :=
  PE.weak (pe_cmpR ho ha hb hm) fun σ H Q ⟨ρ, σd, G, d', G', R, S, e, q⟩ => by
    simp only [evE, M.bind_ok] at e
    obtain ⟨x, G1, e1, y, G2, e2, e3⟩ := e
    exact ⟨ρ, σd, G, x, G1, R, S, e1, fun ρ1 v1 H1 s1 R1 r1 => ⟨ρ1, σd, G1, y, G2, R1, RS.step R s1 S, e2, fun ρ2 v2 H2 s2 R2 r2 =>
      ⟨ρ2, G2, x, y, d', G', R2, RV.step R1 s2 _ _ r1, r2, e3, q.from (s1.trans s2)⟩⟩⟩
theorem bin_bool {o : Op} (ho : o = .eq ∨ o = .ne ∨ o = .lt ∨ o = .le ∨ o = .gt ∨ o = .ge ∨ o = .isin ∨ o = .notin) {x y d : D} {G G' : Hh} (h : bin o x y G = .ok d G') : ∃ b, d = .bl b := by
  rcases ho with rfl | rfl | rfl | rfl | rfl | rfl | rfl | rfl <;> simp only [bin] at h
  · split at h <;> cases h <;> exact ⟨_, rfl⟩
  · split at h <;> cases h <;> exact ⟨_, rfl⟩
  · split at h <;> cases h <;> exact ⟨_, rfl⟩
  · split at h <;> cases h <;> exact ⟨_, rfl⟩
  · split at h <;> cases h <;> exact ⟨_, rfl⟩
  · split at h <;> cases h <;> exact ⟨_, rfl⟩
  · split at h
    · split at h
      · simp at h; exact ⟨_, h.2.1.symm⟩
      · simp at h; exact ⟨_, h.2.1.symm⟩
      · cases h
    · simp at h; exact ⟨_, h.2.1.symm⟩
    · cases h
  · split at h
    · split at h
      · simp at h; exact ⟨_, h.2.1.symm⟩
      · simp at h; exact ⟨_, h.2.1.symm⟩
      · cases h
    · simp at h; exact ⟨_, h.2.1.symm⟩
    · cases h
theorem t_cmp {op : CmpOp} {o : Op} {a b : Expr} {ia ib : E} {pos : Pos} {C : Cl} (hb2 : o = .eq ∨ o = .ne ∨ o = .lt ∨ o = .le ∨ o = .gt ∨ o = .ge ∨ o = .isin ∨ o = .notin) (ho : OpR X (compareOp op) (rOp X.K X.w o)) (hm : behindInMarks op b = false) (ha : PE X a (tE X.K X.w C ia)) (hb : PE X b (tE X.K X.w C ib)) : PT X (.Compare a [op] [b] pos) (tT X.K X.w C (.bin o ia ib)) :=
  PT.weak (pt_cmpR ho ha hb hm) fun σ H Q ⟨ρ, σd, G, d', G', b, R, S, e, ht, q⟩ => by
    simp only [evE, M.bind_ok] at e
    obtain ⟨x, G1, e1, y, G2, e2, e3⟩ := e
    obtain ⟨c, rfl⟩ := bin_bool hb2 e3
    simp only [truth] at ht
    cases ht
    exact ⟨ρ, σd, G, x, G1, R, S, e1, fun ρ1 v1 H1 s1 R1 r1 => ⟨ρ1, σd, G1, y, G2, R1, RS.step R s1 S, e2, fun ρ2 v2 H2 s2 R2 r2 =>
      ⟨ρ2, G2, x, y, _, G', R2, RV.step R1 s2 _ _ r1, r2, e3, fun ρ3 v3 H3 s3 R3 r3 => ⟨b, r3, q ρ3 H3 ((s1.trans s2).trans s3) R3⟩⟩⟩⟩
end
end Ev

/-! EvP2: further cases of expressions. -/
namespace Ev
open PySem PySem.Spec
open PyProof.Rows hiding St
open L2
open Sem (wp)
section
variable {fs : List (Str × Nat)} {P : List Fn} {N : List Str} {sc : Scope} {n : Nat} {X : Cx} {C : Cl}

/-! ### is -/
theorem is_bool_gen {x : V} {v : Value} {b : Bool} {M : Model} {A : Around} {E : Value → Shared → Prop} {s : Shared} {Q : Value → Shared → Prop} (r : RelV x v) (h : Q (.bool (decide (x = .bl b))) s) : wpAny M A (compareOp .Is v (.bool b)) Q E s := by
  cases x with
  | non => cases r; exact wpAny_pure h
  | bl c =>
    cases r
    have e : (Value.bool c == Value.bool b) = decide (V.bl c = .bl b) := by cases c <;> cases b <;> rfl
    exact wpAny_pure (show Q (.bool (Value.bool c == Value.bool b)) s by rw [e]; exact h)
  | int i => obtain ⟨t, rfl⟩ := r; exact wpAny_pure h
  | str i => obtain ⟨t, rfl⟩ := r; exact wpAny_pure h
  | byt i => obtain ⟨t, rfl⟩ := r; exact wpAny_pure h
  | flt i => obtain ⟨t, rfl⟩ := r; exact wpAny_pure h
  | ref i => cases r; exact wpAny_pure h
  | ty i => cases r; exact wpAny_pure h
theorem isnot_bool_gen {x : V} {v : Value} {b : Bool} {M : Model} {A : Around} {E : Value → Shared → Prop} {s : Shared} {Q : Value → Shared → Prop} (r : RelV x v) (h : Q (.bool (!decide (x = .bl b))) s) : wpAny M A (compareOp .IsNot v (.bool b)) Q E s := by
  cases x with
  | non => cases r; exact wpAny_pure h
  | bl c =>
    cases r
    have e : (Value.bool c == Value.bool b) = decide (V.bl c = .bl b) := by cases c <;> cases b <;> rfl
    exact wpAny_pure (show Q (.bool (!(Value.bool c == Value.bool b))) s by rw [e]; exact h)
  | int i => obtain ⟨t, rfl⟩ := r; exact wpAny_pure h
  | str i => obtain ⟨t, rfl⟩ := r; exact wpAny_pure h
  | byt i => obtain ⟨t, rfl⟩ := r; exact wpAny_pure h
  | flt i => obtain ⟨t, rfl⟩ := r; exact wpAny_pure h
  | ref i => cases r; exact wpAny_pure h
  | ty i => cases r; exact wpAny_pure h
def kV' : Option Bool → V
  | none => .non
  | some b => .bl b
def rIsK (neg : Bool) (k : Option Bool) : R2 := fun x y H Q => y = kV' k ∧ Q (.bl (xor neg (decide (x = kV' k)))) H
theorem op_isK (neg : Bool) (k : Option Bool) : OpR X (compareOp (if neg then .IsNot else .Is)) (rIsK neg k) := by
  intro pins s σ H x y v u Q I rx ry h
  obtain ⟨rfl, q⟩ := h
  cases k with
  | none =>
    cases ry
    cases neg with
    | true => exact isnot_none_gen ⟨.bl _, H, I, by rw [rx.none_iff]; rfl, by rw [Bool.true_xor] at q; exact q⟩
    | false => exact is_none_gen ⟨.bl _, H, I, by rw [rx.none_iff]; rfl, by rw [Bool.false_xor] at q; exact q⟩
  | some b =>
    cases ry
    cases neg with
    | true => exact isnot_bool_gen rx ⟨.bl _, H, I, rfl, by rw [Bool.true_xor] at q; exact q⟩
    | false => exact is_bool_gen rx ⟨.bl _, H, I, rfl, by rw [Bool.false_xor] at q; exact q⟩
theorem isKD_ok {neg : Bool} {k : Option Bool} {d d' : D} {G G' : Hh} (h : isKD neg k d G = .ok d' G') : G' = G ∧ ∀ (K : PySem.W.Frag) (ρ : Rho) (n : Nat) (H : Hp) (x : V), RV K ρ n H d x → d' = .bl (xor neg (decide (x = kV' k))) := by
  cases d <;> simp only [isKD, M.pure_ok, M.bad_ok] at h
  · obtain ⟨rfl, rfl⟩ := h
    refine ⟨rfl, fun K ρ n H x r => ?_⟩
    cases r
    cases k <;> simp [kV']
  · obtain ⟨rfl, rfl⟩ := h
    refine ⟨rfl, fun K ρ n H x r => ?_⟩
    cases r
    cases k <;> simp [kV', eq_comm]
  · obtain ⟨rfl, rfl⟩ := h
    refine ⟨rfl, fun K ρ n H x r => ?_⟩
    cases r
    cases k <;> simp [kV']
  · obtain ⟨rfl, rfl⟩ := h
    refine ⟨rfl, fun K ρ n H x r => ?_⟩
    cases r
    cases k <;> simp [kV']
  · obtain ⟨rfl, rfl⟩ := h
    refine ⟨rfl, fun K ρ n H x r => ?_⟩
    obtain ⟨a, vs, rfl, _⟩ := r
    cases k <;> simp [kV']
  · obtain ⟨rfl, rfl⟩ := h
    refine ⟨rfl, fun K ρ n H x r => ?_⟩
    obtain ⟨_, rfl⟩ := r
    cases k <;> simp [kV']
theorem kOf_pe {b : Expr} {k : Option Bool} (h : kOf b = some k) : PE X b (tC (kV' k)) := by
  unfold kOf at h
  split at h
  · cases h; exact pe_non
  · cases h; exact pe_bl
  · cases h
theorem kOf_beh {b : Expr} {k : Option Bool} (h : kOf b = some k) (op : CmpOp) : behindInMarks op b = false := by
  unfold kOf at h
  split at h
  · rfl
  · rfl
  · cases h
theorem e_isK {neg : Bool} {k : Option Bool} {a b : Expr} {ia : E} {pos : Pos} (hk : kOf b = some k) (ha : PE X a (tE X.K X.w C ia)) : PE X (.Compare a [if neg then .IsNot else .Is] [b] pos) (tE X.K X.w C (.isK neg k ia)) :=
  PE.weak (pe_cmpR (op_isK neg k) ha (kOf_pe hk) (kOf_beh hk _)) fun σ H Q ⟨ρ, σd, G, d', G', R, S, e, q⟩ => by
    simp only [evE, M.bind_ok] at e
    obtain ⟨x, G1, e1, e2⟩ := e
    obtain ⟨rfl, hx⟩ := isKD_ok e2
    refine ⟨ρ, σd, G, x, G', R, S, e1, fun ρ1 v1 H1 s1 R1 r1 => ⟨rfl, ?_⟩⟩
    have e3 := hx _ _ _ _ _ r1
    subst e3
    exact q ρ1 _ H1 s1 R1 rfl
theorem t_isK {neg : Bool} {k : Option Bool} {a b : Expr} {ia : E} {pos : Pos} (hk : kOf b = some k) (ha : PE X a (tE X.K X.w C ia)) : PT X (.Compare a [if neg then .IsNot else .Is] [b] pos) (tT X.K X.w C (.isK neg k ia)) :=
  PT.weak (pt_cmpR (op_isK neg k) ha (kOf_pe hk) (kOf_beh hk _)) fun σ H Q ⟨ρ, σd, G, d', G', b, R, S, e, ht, q⟩ => by
    simp only [evE, M.bind_ok] at e
    obtain ⟨x, G1, e1, e2⟩ := e
    obtain ⟨rfl, hx⟩ := isKD_ok e2
    refine ⟨ρ, σd, G, x, G', R, S, e1, fun ρ1 v1 H1 s1 R1 r1 => ⟨rfl, ?_⟩⟩
    have e3 := hx _ _ _ _ _ r1
    subst e3
    simp only [truth] at ht
    cases ht
    exact ⟨_, rfl, q ρ1 H1 s1 R1⟩

/-! ### -x, not x, and, or, x if c else y -/
theorem e_neg {a : Expr} {ia : E} {pos : Pos} (ha : PE X a (tE X.K X.w C ia)) : PE X (.UnaryOp .USub a pos) (tE X.K X.w C (.neg ia)) :=
  PE.weak (pe_un un_neg ha) fun σ H Q ⟨ρ, σd, G, d', G', R, S, e, q⟩ => by
    simp only [evE, M.bind_ok] at e
    obtain ⟨x, G1, e1, e2⟩ := e
    refine ⟨ρ, σd, G, x, G1, R, S, e1, fun ρ1 v1 H1 s1 R1 r1 => ?_⟩
    cases x <;> simp only [M.pure_ok, M.bad_ok] at e2
    obtain ⟨rfl, rfl⟩ := e2
    cases r1
    exact ⟨_, rfl, q ρ1 _ H1 s1 R1 rfl⟩
theorem e_not {a : Expr} {ia : E} {pos : Pos} (ha : PE X a (tE X.K X.w C ia)) : PE X (.UnaryOp .Not a pos) (tE X.K X.w C (.not ia)) :=
  PE.weak (pe_notT ha) fun σ H Q ⟨ρ, σd, G, d', G', R, S, e, q⟩ => by
    simp only [evE, M.bind_ok, truthM_ok, M.pure_ok] at e
    obtain ⟨x, G1, e1, b, G2, ⟨ht, rfl⟩, rfl, rfl⟩ := e
    exact ⟨ρ, σd, G, x, G1, R, S, e1, fun ρ1 v1 H1 s1 R1 r1 => ⟨b, truth_V R1 r1 ht, q ρ1 _ H1 s1 R1 rfl⟩⟩
theorem t_not {a : Expr} {ia : E} {pos : Pos} (ha : PT X a (tT X.K X.w C ia)) : PT X (.UnaryOp .Not a pos) (tT X.K X.w C (.not ia)) :=
  PT.weak (pt_not ha) fun σ H Q ⟨ρ, σd, G, d', G', b, R, S, e, ht, q⟩ => by
    simp only [evE, M.bind_ok, truthM_ok, M.pure_ok] at e
    obtain ⟨x, G1, e1, c, G2, ⟨hc, rfl⟩, rfl, rfl⟩ := e
    simp only [truth] at ht
    cases ht
    exact ⟨ρ, σd, G, x, G1, c, R, S, e1, hc, fun ρ1 H1 s1 R1 => q ρ1 H1 s1 R1⟩
theorem e_and {a b : Expr} {rest : List Expr} {ia ib : E} {pos : Pos} (ha : PE X a (tE X.K X.w C ia)) (hb : PE X (.BoolOp .And (b :: rest) pos) (tE X.K X.w C ib)) : PE X (.BoolOp .And (a :: b :: rest) pos) (tE X.K X.w C (.and ia ib)) :=
  PE.weak (pe_andT ha hb) fun σ H Q ⟨ρ, σd, G, d', G', R, S, e, q⟩ => by
    simp only [evE, M.bind_ok, truthM_ok] at e
    obtain ⟨x, G1, e1, c, G2, ⟨hc, rfl⟩, e2⟩ := e
    refine ⟨ρ, σd, G, x, G1, R, S, e1, fun ρ1 v1 H1 s1 R1 r1 => ⟨c, truth_V R1 r1 hc, ?_⟩⟩
    cases c with
    | true => exact ⟨ρ1, σd, G1, d', G', R1, RS.step R s1 S, e2, q.from s1⟩
    | false =>
      simp only [Bool.false_eq_true, if_false, M.pure_ok] at e2
      obtain ⟨rfl, rfl⟩ := e2
      exact q ρ1 _ H1 s1 R1 r1
theorem e_or {a b : Expr} {rest : List Expr} {ia ib : E} {pos : Pos} (ha : PE X a (tE X.K X.w C ia)) (hb : PE X (.BoolOp .Or (b :: rest) pos) (tE X.K X.w C ib)) : PE X (.BoolOp .Or (a :: b :: rest) pos) (tE X.K X.w C (.or ia ib)) :=
  PE.weak (pe_orT ha hb) fun σ H Q ⟨ρ, σd, G, d', G', R, S, e, q⟩ => by
    simp only [evE, M.bind_ok, truthM_ok] at e
    obtain ⟨x, G1, e1, c, G2, ⟨hc, rfl⟩, e2⟩ := e
    refine ⟨ρ, σd, G, x, G1, R, S, e1, fun ρ1 v1 H1 s1 R1 r1 => ⟨c, truth_V R1 r1 hc, ?_⟩⟩
    cases c with
    | false => exact ⟨ρ1, σd, G1, d', G', R1, RS.step R s1 S, e2, q.from s1⟩
    | true =>
      simp only [if_true, M.pure_ok] at e2
      obtain ⟨rfl, rfl⟩ := e2
      exact q ρ1 _ H1 s1 R1 r1
theorem w_and {a b : Expr} {rest : List Expr} {ia ib : E} {pos : Pos} (ha : PT X a (tT X.K X.w C ia)) (hb : PW X (.BoolOp .And (b :: rest) pos) (tT X.K X.w C ib)) : PW X (.BoolOp .And (a :: b :: rest) pos) (tT X.K X.w C (.and ia ib)) :=
  ⟨fun wh pins s σ H Q I h => (pw_and ha hb).run wh pins s σ H Q I (by
    obtain ⟨ρ, σd, G, d', G', b, R, S, e, ht, q⟩ := h
    simp only [evE, M.bind_ok, truthM_ok] at e
    obtain ⟨x, G1, e1, c, G2, ⟨hc, rfl⟩, e2⟩ := e
    refine ⟨ρ, σd, G, x, G1, c, R, S, e1, hc, fun ρ1 H1 s1 R1 => ?_⟩
    cases c with
    | true => exact ⟨ρ1, σd, G1, d', G', b, R1, RS.step R s1 S, e2, ht, q.from s1⟩
    | false =>
      simp only [Bool.false_eq_true, if_false, M.pure_ok] at e2
      obtain ⟨rfl, rfl⟩ := e2
      rw [hc] at ht; cases ht
      exact q ρ1 H1 s1 R1)⟩
theorem w_or {a b : Expr} {rest : List Expr} {ia ib : E} {pos : Pos} (ha : PT X a (tT X.K X.w C ia)) (hb : PW X (.BoolOp .Or (b :: rest) pos) (tT X.K X.w C ib)) : PW X (.BoolOp .Or (a :: b :: rest) pos) (tT X.K X.w C (.or ia ib)) :=
  ⟨fun wh pins s σ H Q I h => (pw_or ha hb).run wh pins s σ H Q I (by
    obtain ⟨ρ, σd, G, d', G', b, R, S, e, ht, q⟩ := h
    simp only [evE, M.bind_ok, truthM_ok] at e
    obtain ⟨x, G1, e1, c, G2, ⟨hc, rfl⟩, e2⟩ := e
    refine ⟨ρ, σd, G, x, G1, c, R, S, e1, hc, fun ρ1 H1 s1 R1 => ?_⟩
    cases c with
    | false => exact ⟨ρ1, σd, G1, d', G', b, R1, RS.step R s1 S, e2, ht, q.from s1⟩
    | true =>
      simp only [if_true, M.pure_ok] at e2
      obtain ⟨rfl, rfl⟩ := e2
      rw [hc] at ht; cases ht
      exact q ρ1 H1 s1 R1)⟩
theorem pt_ifExp {c a b : Expr} {pos : Pos} {tc ta tb : TT} (hc : PT X c tc) (ha : PT X a ta) (hb : PT X b tb) : PT X (.IfExp c a b pos) (fun σ H Q => tc σ H fun k H1 => if k = true then ta σ H1 Q else tb σ H1 Q) := by
  refine ⟨fun pins s σ H Q I h => ?_⟩
  show wpAny _ _ (do if ← isTrue c X.env (eval c X.env) then isTrue a X.env (eval a X.env) else isTrue b X.env (eval b X.env)) _ _ s
  refine wpAny_bind (thn (hc.run pins s σ H _ I h) fun k s1 ⟨H1, I1, q1⟩ => ?_)
  cases k with
  | true => exact ha.run pins s1 σ H1 Q I1 q1
  | false => exact hb.run pins s1 σ H1 Q I1 q1
theorem e_ite {c a b : Expr} {ic ia ib : E} {pos : Pos} (hc : PT X c (tT X.K X.w C ic)) (ha : PE X a (tE X.K X.w C ia)) (hb : PE X b (tE X.K X.w C ib)) : PE X (.IfExp c a b pos) (tE X.K X.w C (.ite ic ia ib)) :=
  PE.weak (pe_ifExp hc ha hb) fun σ H Q ⟨ρ, σd, G, d', G', R, S, e, q⟩ => by
    simp only [evE, M.bind_ok, truthM_ok] at e
    obtain ⟨x, G1, e1, t, G2, ⟨ht, rfl⟩, e2⟩ := e
    refine ⟨ρ, σd, G, x, G1, t, R, S, e1, ht, fun ρ1 H1 s1 R1 => ?_⟩
    cases t with
    | true => exact ⟨ρ1, σd, G1, d', G', R1, RS.step R s1 S, e2, q.from s1⟩
    | false => exact ⟨ρ1, σd, G1, d', G', R1, RS.step R s1 S, e2, q.from s1⟩
theorem t_ite {c a b : Expr} {ic ia ib : E} {pos : Pos} (hc : PT X c (tT X.K X.w C ic)) (ha : PT X a (tT X.K X.w C ia)) (hb : PT X b (tT X.K X.w C ib)) : PT X (.IfExp c a b pos) (tT X.K X.w C (.ite ic ia ib)) :=
  PT.weak (pt_ifExp hc ha hb) fun σ H Q ⟨ρ, σd, G, d', G', b, R, S, e, htt, q⟩ => by
    simp only [evE, M.bind_ok, truthM_ok] at e
    obtain ⟨x, G1, e1, t, G2, ⟨ht, rfl⟩, e2⟩ := e
    refine ⟨ρ, σd, G, x, G1, t, R, S, e1, ht, fun ρ1 H1 s1 R1 => ?_⟩
    cases t with
    | true => exact ⟨ρ1, σd, G1, d', G', b, R1, RS.step R s1 S, e2, htt, q.from s1⟩
    | false => exact ⟨ρ1, σd, G1, d', G', b, R1, RS.step R s1 S, e2, htt, q.from s1⟩

/-! ### chains -/
theorem chain_ok {ia ib ic : E} {o o' : Op} {σd : List D} {G G' : Hh} {d : D} (h : evE C (.chain o o' ia ib ic) σd G = .ok d G') : ∃ x G1 y G2 b G3, evE C ia σd G = .ok x G1 ∧ evE C ib σd G1 = .ok y G2 ∧ bin o x y G2 = .ok (.bl b) G3 ∧
    ((b = true ∧ ∃ u G4, evE C ic σd G3 = .ok u G4 ∧ bin o' y u G4 = .ok d G') ∨ (b = false ∧ d = .bl false ∧ G' = G3)) := by
  simp only [evE, M.bind_ok] at h
  obtain ⟨x, G1, e1, y, G2, e2, z, G3, e3, e4⟩ := h
  split at e4
  · simp only [M.bind_ok] at e4
    exact ⟨x, G1, y, G2, true, G3, e1, e2, e3, .inl ⟨rfl, e4⟩⟩
  · simp only [M.pure_ok] at e4
    exact ⟨x, G1, y, G2, false, G3, e1, e2, e3, .inr ⟨rfl, e4.1.symm, e4.2.symm⟩⟩
  · simp only [M.bad_ok] at e4
theorem e_chain {op op' : CmpOp} {o o' : Op} {a b c : Expr} {ia ib ic : E} {pos : Pos} (ho : OpR X (compareOp op) (rOp X.K X.w o)) (ho' : OpR X (compareOp op') (rOp X.K X.w o')) (hm : lastMarks [op, op'] [b, c] = false)
    (ha : PE X a (tE X.K X.w C ia)) (hb : PE X b (tE X.K X.w C ib)) (hc : PE X c (tE X.K X.w C ic)) : PE X (.Compare a [op, op'] [b, c] pos) (tE X.K X.w C (.chain o o' ia ib ic)) :=
  PE.weak (pe_chain ho ho' ha hb hc hm) fun σ H Q ⟨ρ, σd, G, d', G', R, S, e, q⟩ => by
    obtain ⟨x, G1, y, G2, k, G3, e1, e2, e3, e4⟩ := chain_ok e
    refine ⟨ρ, σd, G, x, G1, R, S, e1, fun ρ1 v1 H1 s1 R1 r1 => ⟨ρ1, σd, G1, y, G2, R1, RS.step R s1 S, e2, fun ρ2 v2 H2 s2 R2 r2 => ⟨ρ2, G2, x, y, _, G3, R2, RV.step R1 s2 _ _ r1, r2, e3, fun ρ3 v3 H3 s3 R3 r3 => ⟨k, r3, ?_⟩⟩⟩⟩
    have s13 := (s1.trans s2).trans s3
    rcases e4 with ⟨rfl, u, G4, e5, e6⟩ | ⟨rfl, rfl, rfl⟩
    · exact ⟨ρ3, σd, G3, u, G4, R3, RS.step R s13 S, e5, fun ρ4 v4 H4 s4 R4 r4 => ⟨ρ4, G4, y, u, d', G', R4, RV.step R3 s4 _ _ (RV.step R2 s3 _ _ r2), r4, e6, q.from (s13.trans s4)⟩⟩
    · exact q ρ3 _ H3 s13 R3 rfl
theorem t_chain {op op' : CmpOp} {o o' : Op} {a b c : Expr} {ia ib ic : E} {pos : Pos} (hb2 : o' = .eq ∨ o' = .ne ∨ o' = .lt ∨ o' = .le ∨ o' = .gt ∨ o' = .ge ∨ o' = .isin ∨ o' = .notin) (ho : OpR X (compareOp op) (rOp X.K X.w o)) (ho' : OpR X (compareOp op') (rOp X.K X.w o')) (hm : lastMarks [op, op'] [b, c] = false)
    (ha : PE X a (tE X.K X.w C ia)) (hb : PE X b (tE X.K X.w C ib)) (hc : PE X c (tE X.K X.w C ic)) : PT X (.Compare a [op, op'] [b, c] pos) (tT X.K X.w C (.chain o o' ia ib ic)) :=
  PT.weak (pt_chain ho ho' ha hb hc hm) fun σ H Q ⟨ρ, σd, G, d', G', b, R, S, e, ht, q⟩ => by
    obtain ⟨x, G1, y, G2, k, G3, e1, e2, e3, e4⟩ := chain_ok e
    refine ⟨ρ, σd, G, x, G1, R, S, e1, fun ρ1 v1 H1 s1 R1 r1 => ⟨ρ1, σd, G1, y, G2, R1, RS.step R s1 S, e2, fun ρ2 v2 H2 s2 R2 r2 => ⟨ρ2, G2, x, y, _, G3, R2, RV.step R1 s2 _ _ r1, r2, e3, fun ρ3 v3 H3 s3 R3 r3 => ⟨k, r3, ?_⟩⟩⟩⟩
    have s13 := (s1.trans s2).trans s3
    rcases e4 with ⟨rfl, u, G4, e5, e6⟩ | ⟨rfl, rfl, rfl⟩
    · obtain ⟨z, rfl⟩ := bin_bool hb2 e6
      simp only [truth] at ht; cases ht
      exact ⟨ρ3, σd, G3, u, G4, R3, RS.step R s13 S, e5, fun ρ4 v4 H4 s4 R4 r4 => ⟨ρ4, G4, y, u, _, G', R4, RV.step R3 s4 _ _ (RV.step R2 s3 _ _ r2), r4, e6, fun ρ5 v5 H5 s5 R5 r5 => ⟨b, r5, q ρ5 H5 ((s13.trans s4).trans s5) R5⟩⟩⟩
    · simp only [truth] at ht; cases ht
      exact ⟨false, rfl, q ρ3 H3 s13 R3⟩

/-! ### arguments, displays -/
theorem a_nil : PA X [] (tA X.K X.w C .nil) := PA.weak pa_nil fun σ H Q ⟨ρ, σd, G, ds, G', R, S, e, q⟩ => by
  simp only [evE, M.pure_ok] at e
  obtain ⟨e1, rfl⟩ := e
  cases e1
  exact q ρ [] H (Stp.refl _ _ _) R rfl
theorem a_cons {a : Expr} {es : List Expr} {ia ir : E} (ha : PE X a (tE X.K X.w C ia)) (hr : PA X es (tA X.K X.w C ir)) (hs : starEach (a :: es) X.env = (false, eval a X.env) :: starEach es X.env) : PA X (a :: es) (tA X.K X.w C (.cons ia ir)) :=
  PA.weak (pa_cons ha hr hs) fun σ H Q ⟨ρ, σd, G, ds, G', R, S, e, q⟩ => by
    simp only [evE, M.bind_ok, unTup_ok, M.pure_ok] at e
    obtain ⟨x, G1, e1, y, G2, e2, xs, G3, ⟨rfl, rfl⟩, e3, rfl⟩ := e
    cases e3
    exact ⟨ρ, σd, G, x, G1, R, S, e1, fun ρ1 v1 H1 s1 R1 r1 => ⟨ρ1, σd, G1, xs, G2, R1, RS.step R s1 S, e2, fun ρ2 vs H2 s2 R2 r2 =>
      q ρ2 (v1 :: vs) H2 (s1.trans s2) R2 ⟨v1, vs, rfl, RV.step R1 s2 _ _ r1, r2⟩⟩⟩
def tTupN (t : TA) : TE := fun σ H Q => t σ H fun xs H1 => xs.length ≤ sizeLine ∧ ∀ p, H1 p = none → ∀ o : Obj, o.dict = none → Q (.ref p) (upd H1 p (.frz o (.tup xs)))
theorem pe_tupN {es : List Expr} {t : TA} {pos : Pos} {x1} (h : PA X es t) : PE X (.Tuple es x1 pos) (tTupN t) := by
  refine ⟨fun pins s σ H Q I hq => ?_⟩
  refine wpAny_Tuple_spliced (thn (h.run pos pins s σ H _ I hq) fun us s1 ⟨xs, H1, I1, r, z, q⟩ => ⟨by rw [← r.length]; exact z, ?_⟩)
  have hf : H1 s1.heap.objs.size = none := I1.hok.fresh (Nat.le_refl _)
  refine ⟨.ref s1.heap.objs.size, upd H1 s1.heap.objs.size (.frz { cls := .type "tuple", data := .seq us.toArray } (.tup xs)), I1.laid (t' := s1.toks) (fun b u e => Heap.get?_push_of_some _ e) (Nat.le_refl _) ?_, rfl, q _ hf _ rfl⟩
  exact ⟨Heap.get?_push_size _ rfl, z, us, r, ⟨_, Heap.get?_push_size _ rfl, rfl, _, rfl⟩⟩
theorem e_tup {es : List Expr} {x1 : Nat} {ia : E} {pos : Pos} (h : PA X es (tA X.K X.w C ia)) : PE X (.Tuple es x1 pos) (tE X.K X.w C (.tup ia)) :=
  PE.weak (pe_tupN h) fun σ H Q ⟨ρ, σd, G, d', G', R, S, e, q⟩ => by
    simp only [evE, M.bind_ok, unTup_ok] at e
    obtain ⟨y, G1, e1, xs, G2, ⟨rfl, rfl⟩, e2⟩ := e
    split at e2
    · rename_i hz
      simp only [M.pure_ok] at e2
      obtain ⟨rfl, rfl⟩ := e2
      refine ⟨ρ, σd, G, xs, G1, R, S, e1, fun ρ1 vs H1 s1 R1 r1 => ⟨by rw [r1.length, ← sizeMax_eq]; exact hz, fun p hp => (q.from s1).newT R1 r1 p hp⟩⟩
    · simp only [M.bad_ok] at e2
theorem e_lst {es : List Expr} {ia : E} {pos : Pos} (h : PA X es (tA X.K X.w C ia)) : PE X (.List es pos) (tE X.K X.w C (.lst ia)) :=
  PE.weak (pe_lst h) fun σ H Q ⟨ρ, σd, G, d', G', R, S, e, q⟩ => by
    simp only [evE, M.bind_ok, unTup_ok] at e
    obtain ⟨y, G1, e1, xs, G2, ⟨rfl, rfl⟩, e2⟩ := e
    split at e2
    · rename_i hz
      simp only [alloc_ok] at e2
      obtain ⟨rfl, rfl⟩ := e2
      refine ⟨ρ, σd, G, xs, G1, R, S, e1, fun ρ1 vs H1 s1 R1 r1 => ⟨by rw [r1.length, ← sizeMax_eq]; exact hz, fun p hp => (q.from s1).newL R1 r1 p hp⟩⟩
    · simp only [M.bad_ok] at e2

/-! ### calls -/
theorem e_call (g : Gd fs P N sc n X) {f : Str} {i : Nat} {a : Expr} {es : List Expr} {ia : E} {p pos : Pos} (hg : isGl sc f = true) (hf : fs.lookup f = some i) (ha : PA X (a :: es) (tA X.K X.w (CLn P n) ia)) (hd : (f == ("__debug__" : Str)) = false)
    (hs : starEach (a :: es) X.env = (false, eval a X.env) :: starEach es X.env) (hpl : (backTo pos (starEach es X.env)).any (·.1) = false) : PE X (.Call (.Name f p) (a :: es) [] pos) (tE X.K X.w (CLn P n) (.call i ia)) := by
  obtain ⟨fa, fd, ps, h1, h2, h3, h4⟩ := g.fn f i hf
  refine PE.weak (pe_call h4 g.room (g.gl hg) h1 h2 h3 (dvs := []) .nil (pass0 (X := X)) ha hd hs hpl) fun σ H Q ⟨ρ, σd, G, d', G', R, S, e, q⟩ => ?_
  simp only [evE, M.bind_ok, unTup_ok] at e
  obtain ⟨y, G1, e1, xs, G2, ⟨rfl, rfl⟩, e2⟩ := e
  exact ⟨ρ, σd, G, xs, G1, R, S, e1, fun ρ1 vs H1 s1 R1 r1 => ⟨ρ1, G1, xs, d', G', R1, by rw [List.append_nil]; exact r1, e2, q.from s1⟩⟩
theorem e_call0 (g : Gd fs P N sc n X) {f : Str} {i : Nat} {p pos : Pos} (hg : isGl sc f = true) (hf : fs.lookup f = some i) (hd : (f == ("__debug__" : Str)) = false) : PE X (.Call (.Name f p) [] [] pos) (tE X.K X.w (CLn P n) (.call i .nil)) := by
  obtain ⟨fa, fd, ps, h1, h2, h3, h4⟩ := g.fn f i hf
  refine PE.weak (pe_call0 h4 g.room (g.gl hg) h1 h2 h3 (dvs := []) .nil (pass0 (X := X)) hd) fun σ H Q ⟨ρ, σd, G, d', G', R, S, e, q⟩ => ?_
  simp only [evE, M.bind_ok, unTup_ok, M.pure_ok] at e
  obtain ⟨y, G1, ⟨rfl, rfl⟩, xs, G2, ⟨e1, rfl⟩, e2⟩ := e
  cases e1
  exact ⟨ρ, G, [], d', G', R, rfl, e2, q⟩
theorem e_bfn (g : Gd fs P N sc n X) {f : Str} {b : Bf} {a : Expr} {es : List Expr} {ia : E} {p pos : Pos} (hg : isGl sc f = true) (hb : f ∈ builtinsUsed) (ha : PA X (a :: es) (tA X.K X.w C ia)) (hn : f ≠ "__name__") (hd : (f == ("__debug__" : Str)) = false)
    (hs : starEach (a :: es) X.env = (false, eval a X.env) :: starEach es X.env) (hpl : (backTo pos (starEach es X.env)).any (·.1) = false)
    (hr : (∃ id, bootBuiltins f = some (.builtin id) ∧ CallR X (.builtin id) (rBf X.K X.w b)) ∨ (∃ T, bootBuiltins f = some (.type T) ∧ CallR X (.type T) (rBf X.K X.w b))) : PE X (.Call (.Name f p) (a :: es) [] pos) (tE X.K X.w C (.bfn b ia)) := by
  have main : ∀ σ H Q, tE X.K X.w C (.bfn b ia) σ H Q → tCB (rBf X.K X.w b) (tA X.K X.w C ia) σ H Q := fun σ H Q ⟨ρ, σd, G, d', G', R, S, e, q⟩ => by
    simp only [evE, M.bind_ok, unTup_ok] at e
    obtain ⟨y, G1, e1, xs, G2, ⟨rfl, rfl⟩, e2⟩ := e
    exact ⟨ρ, σd, G, xs, G1, R, S, e1, fun ρ1 vs H1 s1 R1 r1 => ⟨ρ1, G1, xs, d', G', R1, r1, e2, q.from s1⟩⟩
  rcases hr with ⟨id, h1, h2⟩ | ⟨T, h1, h2⟩
  · exact PE.weak (pe_callB h2 (g.gl hg) (g.blt f hb) h1 ha hn hd hs hpl) main
  · exact PE.weak (pe_callTy h2 (g.gl hg) (g.blt f hb) h1 ha hn hd hs hpl) main
end
end Ev

/-! EvP3: subscripts, slices, methods, isinstance, {}, the module's plain names. -/
namespace Ev
open PySem PySem.Spec
open PyProof.Rows hiding St
open L2
open Sem (wp)
section
variable {fs : List (Str × Nat)} {P : List Fn} {N : List Str} {sc : Scope} {n : Nat} {X : Cx} {C : Cl}

/-! ### side facts of the text's forms -/
theorem starEach_cons {e : Expr} (h : isStar e = false) (es : List Expr) (env : Env) : starEach (e :: es) env = (false, eval e env) :: starEach es env := by
  cases e <;> first | rfl | (simp [isStar] at h)
theorem starEach_none : ∀ {es : List Expr} (env : Env), (∀ e ∈ es, isStar e = false) → ∀ x ∈ starEach es env, x.1 = false
  | [], _, _, x, hx => by simp [starEach] at hx
  | e :: es, env, h, x, hx => by
    rw [starEach_cons (h e List.mem_cons_self)] at hx
    rcases List.mem_cons.mp hx with z | hx
    · rw [z]
    · exact starEach_none env (fun e he => h e (List.mem_cons_of_mem _ he)) x hx
theorem starEach_length : ∀ {es : List Expr} (env : Env), (∀ e ∈ es, isStar e = false) → (starEach es env).length = es.length
  | [], _, _ => rfl
  | e :: es, env, h => by
    rw [starEach_cons (h e List.mem_cons_self), List.length_cons, List.length_cons, starEach_length env fun e he => h e (List.mem_cons_of_mem _ he)]
theorem backTo_any {es : List Expr} {env : Env} {pos : Pos} (h : ∀ e ∈ es, isStar e = false) : (backTo pos (starEach es env)).any (·.1) = false := by
  unfold backTo
  rw [List.any_eq_false]
  intro x hx
  obtain ⟨y, hy, rfl⟩ := List.mem_map.mp hx
  have := starEach_none env h y hy
  simp [this]
theorem backTo_all {es : List Expr} {env : Env} {pos : Pos} (h : ∀ e ∈ es, isStar e = false) : (backTo pos (starEach es env)).all (fun x => !x.1) = true := by
  unfold backTo
  rw [List.all_eq_true]
  intro x hx
  obtain ⟨y, hy, rfl⟩ := List.mem_map.mp hx
  have := starEach_none env h y hy
  simp [this]
theorem assignEach_cons {e : Expr} (h : isStar e = false) (es : List Expr) (env : Env) : assignEach (e :: es) env = (false, assign e env) :: assignEach es env := by
  cases e <;> first | rfl | (simp [isStar] at h)
theorem attrBase {o : Expr} {m : Str} {env : Env} (h : isCall0 o = false) : attributeBase o m env (eval o env) = eval o env := by
  unfold attributeBase
  cases o <;> try rfl
  rename_i f as ks pos
  cases f <;> try rfl
  cases as <;> try rfl
  cases ks <;> try rfl
  simp [isCall0] at h
theorem behind_set {op : CmpOp} {e : Expr} (h : isSetE e = false) : behindInMarks op e = false := by
  cases e <;> first | rfl | (simp [isSetE] at h)
theorem folded_set {e : Expr} {env : Env} (h : isSetE e = false) (x : Value) : foldedSetIterable e env x = pure x := by
  unfold foldedSetIterable
  cases e <;> first | rfl | (simp [isSetE] at h)
theorem plainIx {e : Expr} (h : isSl e = false) : PlainIx e := by
  intro o i
  cases e <;> first | rfl | (simp [isSl] at h)
theorem swaps_false {e : Expr} {t : Option Expr} {l : Nat} {env : Env} (h : isComp e = false) : swapsWith e t l env = pure false := by
  unfold swapsWith
  cases e <;> first | rfl | (simp [isComp] at h)

/-! ### what is not told; the module's plain names -/
theorem e_bad {e : Expr} : PE X e (tE X.K X.w C .bad) := ⟨fun pins s σ H Q I ⟨ρ, σd, G, d', G', R, S, e, q⟩ => by cases e⟩
theorem t_bad {e : Expr} : PT X e (tT X.K X.w C .bad) := ⟨fun pins s σ H Q I ⟨ρ, σd, G, d', G', b, R, S, e, q⟩ => by cases e⟩
theorem e_glob {d : D} {v : V} {u : Value} {x : Str} {pos : Pos} (hg : Gl X x) (hm : X.mg x = some u) (r : RelV v u) (hd : (x == ("__debug__" : Str)) = false) (hv : ∀ K ρ n H, K = X.K → RV K ρ n H d v) : PE X (.Name x pos) (tE X.K X.w C (.con d)) :=
  PE.weak (pe_glob hg hm r hd) fun σ H Q ⟨ρ, σd, G, d', G', R, S, e, q⟩ => by
    simp only [evE, M.pure_ok] at e
    obtain ⟨rfl, rfl⟩ := e
    exact q.here R (hv _ _ _ _ rfl)

/-! ### {} -/
theorem dictP_nil {h : Heap} (hb : sysModules < h.objs.size) : dictP h.objs.size 0 [] (h.push { cls := .type "dict", data := .dict #[] }) :=
  ⟨Nat.zero_le _, beq_eq_false_iff_ne.mpr (Ne.symm (Nat.ne_of_lt hb)), _, [], Heap.get?_push_size _ rfl, ⟨rfl, rfl, rfl⟩, rfl, .nil⟩
theorem dictP_move {a : Addr} {ep : Nat} {es : List (Int × V × V)} {h1 h2 : Heap} (p : dictP a ep es h1) (q : ∀ o, h1.get? a = some o → h2.get? a = some o) : dictP a ep es h2 := by
  obtain ⟨p1, p2, o, ds, e, p3⟩ := p
  exact ⟨p1, p2, o, ds, q o e, p3⟩
theorem extDict {PP : Program} {w : World} {H : Hp} {a : Addr} {ep : Nat} {es : List (Int × V × V)} {h : Heap} (p : dictP a ep es h) : ObjOk PP w H h a (.ext (dictP a ep es)) :=
  ⟨p, let ⟨_, _, o, _, e, _⟩ := p; ⟨o, e⟩, fun _ _ p q => dictP_move p q⟩
theorem AfterV.newD {K : PySem.W.Frag} {w : World} {ρ : Rho} {G : Hh} {H : Hp} {Q : VK} {kvs : List (D × D)} {ep : Nat} {es : List (Int × V × V)} (dk : distinctK kvs) (p : Addr) (sat : ∃ h, dictP p ep es h) (q : AfterV K w ρ G H (.ref G.n) (G.new (.dct kvs)) Q) (R : Rel K w ρ G H) (r : RK K w ρ G.n H kvs es) (hp : H p = none) : Q (.ref p) (upd H p (.ext (dictP p ep es))) := by
  have st := R.stepNew (o := HO.ext (dictP p ep es)) (u := .dct kvs) hp
  refine q (ρ.put G.n p) (.ref p) _ st (R.alloc hp rfl ⟨ep, es, ?_, RK.step R st r, dk, by rw [Rho.put_self]; exact sat⟩) ⟨Nat.lt_succ_self _, by rw [Rho.put_self]⟩
  rw [Rho.put_self, upd_same]
theorem e_dnew {pos : Pos} : PE X (.Dict [] [] pos) (tE X.K X.w C .dnew) := ⟨fun pins s σ H Q I ⟨ρ, σd, G, d', G', R, S, e, q⟩ => by
  simp only [evE, alloc_ok] at e
  obtain ⟨rfl, rfl⟩ := e
  have hf := I.hok.fresh (Nat.le_refl s.heap.objs.size)
  refine wpAny_Dict_empty ⟨.ref s.heap.objs.size, _, I.laid (a := s.heap.objs.size) (o := .ext (dictP s.heap.objs.size 0 [])) (t' := s.toks) (fun _ _ q => Heap.get?_push_of_some _ q) (Nat.le_refl _) (extDict (dictP_nil I.big)), rfl, ?_⟩
  exact AfterV.newD (kvs := []) (ep := 0) (es := []) trivial _ ⟨_, dictP_nil I.big⟩ q R .nil hf⟩

/-! ### a[i], a[lo:hi] -/
theorem e_idx {a b : Expr} {ia ib : E} {pos : Pos} (g : Gd fs P N sc n X) (ha : PE X a (tE X.K X.w C ia)) (hb : PE X b (tE X.K X.w C ib)) (hs : isSl b = false) : PE X (.Subscript a b pos) (tE X.K X.w C (.bin .idx ia ib)) :=
  PE.weak (pe_ix (opO_idx g.u64) ha hb (plainIx hs)) fun σ H Q ⟨ρ, σd, G, d', G', R, S, e, q⟩ => by
    simp only [evE, M.bind_ok] at e
    obtain ⟨x, G1, e1, y, G2, e2, e3⟩ := e
    exact ⟨ρ, σd, G, x, G1, R, S, e1, fun ρ1 v1 H1 s1 R1 r1 => ⟨ρ1, σd, G1, y, G2, R1, RS.step R s1 S, e2, fun ρ2 v2 H2 s2 R2 r2 =>
      ⟨ρ2, G2, x, y, d', G', R2, RV.step R1 s2 _ _ r1, r2, e3, q.from (s1.trans s2)⟩⟩⟩
/-- a part of a slice -/
def tO (K : PySem.W.Frag) (w : World) (C : Cl) (h : Bool) (ie : E) : TO := fun σ H Q => ∃ ρ σd G d o G', Rel K w ρ G H ∧ RS K ρ G.n H σd σ ∧ evE C ie σd G = .ok d G' ∧ (∃ i, d = .int i ∧ o = if h then some i else none) ∧ After K w ρ G H G' fun _ H' => Q o H'
theorem optI_ok {h : Bool} {d : D} {o : Option Int} {G G' : Hh} : optI h d G = .ok o G' ↔ (∃ i, d = .int i ∧ o = if h then some i else none) ∧ G = G' := by
  cases d <;> cases h <;> simp [optI, M.pure_ok, M.bad_ok, eq_comm]
theorem PO.weak {e : Option Expr} {t t' : TO} (h : PO X e t) (hw : ∀ σ H Q, t' σ H Q → t σ H Q) : PO X e t' := ⟨fun pins s σ H Q I q => h.run pins s σ H Q I (hw σ H Q q)⟩
theorem po_noneE : PO X none (tO X.K X.w C false (.con (.int 0))) := PO.weak po_none fun σ H Q ⟨ρ, σd, G, d, o, G', R, S, e, ⟨i, _, ho⟩, q⟩ => by
  simp only [evE, M.pure_ok] at e
  obtain ⟨_, rfl⟩ := e
  simp only [Bool.false_eq_true, if_false] at ho
  subst ho
  exact q ρ H (Stp.refl _ _ _) R
theorem po_someE {a : Expr} {ia : E} (ha : PE X a (tE X.K X.w C ia)) : PO X (some a) (tO X.K X.w C true ia) := PO.weak (po_some ha) fun σ H Q ⟨ρ, σd, G, d, o, G', R, S, e, ⟨i, hd, ho⟩, q⟩ => by
  subst hd
  simp only [if_true] at ho
  subst ho
  exact ⟨ρ, σd, G, _, G', R, S, e, fun ρ' v H' s' R' r' => by cases r'; exact ⟨i, rfl, q ρ' H' s' R'⟩⟩
theorem sIx_cut (xs : List D) (lo hi : Option Int) : cutL xs lo hi = (xs.drop (HT.sIx xs.length 0 lo)).take (HT.sIx xs.length xs.length hi - HT.sIx xs.length 0 lo) := by
  unfold cutL HT.sIx
  cases lo <;> cases hi <;> rfl
theorem RVs.cut {K : PySem.W.Frag} {ρ : Rho} {m : Nat} {H : Hp} {xs : List D} {vs : List V} (r : RVs K ρ m H xs vs) (lo hi : Option Int) : RVs K ρ m H (cutL xs lo hi) (cutV vs lo hi) := by
  rw [sIx_cut]
  unfold cutV
  rw [r.length]
  exact (r.drop _).take _
def rSlN (K : PySem.W.Frag) : V → Option Int → Option Int → Hp → VK → Prop := fun x lo hi H Q => ∃ a xs, x = .ref a ∧ SqT K H a xs ∧
  (HT.sIx xs.length 0 lo = 0 ∧ HT.sIx xs.length xs.length hi = xs.length → Q (.ref a) H) ∧ (¬ (HT.sIx xs.length 0 lo = 0 ∧ HT.sIx xs.length xs.length hi = xs.length) → ∀ p, H p = none → ∀ o : Obj, o.dict = none → Q (.ref p) (upd H p (.frz o (.tup (cutV xs lo hi)))))
theorem sl_tupN : SlR X (rSlN X.K) := by
  intro pins s σ H x v vl vu lo hi sl Q I rx hs pl pu h
  obtain ⟨a, xs, rfl, hx, q1, q2⟩ := h
  by_cases hw : HT.sIx xs.length 0 lo = 0 ∧ HT.sIx xs.length xs.length hi = xs.length
  · exact sl_tupA pins s σ H _ v vl vu lo hi sl Q I rx hs pl pu ⟨a, xs, rfl, hx, q1, fun h => absurd hw h⟩
  · cases rx
    obtain ⟨its, r, ht, hz⟩ := I.tuple hx
    have hlen : its.toArray.size = xs.length := by rw [List.size_toArray]; exact r.length.symm
    refine ⟨"tuple", _, PyProof.Rows.slot_tuple_getitem.lookup, ht.typeIs, ?_⟩
    refine HT.getItem_tuple_cut ht hs pl pu (by rw [hlen]; exact hw) ?_ (by rw [hlen]; exact hz)
    rw [hlen]
    refine ⟨.ref s.heap.objs.size, _, I.laid (t' := s.toks) (o := .frz { cls := .type "tuple", data := .seq ((its.drop (HT.sIx xs.length 0 lo)).take (HT.sIx xs.length xs.length hi - HT.sIx xs.length 0 lo)).toArray } (.tup (cutV xs lo hi))) (fun b ob q => Heap.get?_push_of_some _ q) (Nat.le_refl _) ?_, rfl, q2 hw _ (I.hok.fresh (Nat.le_refl _)) _ rfl⟩
    exact ⟨Heap.get?_push_size _ rfl, Nat.le_trans (cutV_length xs lo hi) hz, _, (r.drop (HT.sIx xs.length 0 lo)).take (HT.sIx xs.length xs.length hi - HT.sIx xs.length 0 lo), IsTup.new _ _⟩
def rSlE (K : PySem.W.Frag) (w : World) : V → Option Int → Option Int → Hp → VK → Prop := fun x lo hi H Q => ∃ ρ G dx d G', Rel K w ρ G H ∧ RV K ρ G.n H dx x ∧ sliceD dx lo hi G = .ok d G' ∧ AfterV K w ρ G H d G' Q
theorem sl_E : SlR X (rSlE X.K X.w) := by
  intro pins s σ H x v vl vu lo hi sl Q I rx hs pl pu h
  refine SlR.or sl_list sl_tupN pins s σ H x v vl vu lo hi sl Q I rx hs pl pu ?_
  obtain ⟨ρ, G, dx, d, G', R, hx, e, q⟩ := h
  cases dx <;> simp only [sliceD] at e <;> try cases e
  · rename_i xs
    obtain ⟨a, vs, rfl, ha, rr⟩ := hx
    refine .inr ⟨a, vs, rfl, ha.1, fun hw => ?_, fun _ p hp => q.newT R (rr.cut lo hi) p hp⟩
    refine q.here R ⟨a, vs, rfl, ha, ?_⟩
    have : cutL xs lo hi = xs := by
      rw [sIx_cut, ← rr.length, hw.1, hw.2]
      simp [rr.length]
    rw [this]
    exact rr
  · rename_i a
    obtain ⟨_, rfl⟩ := hx
    split at e
    · rename_i xs ea
      cases e
      obtain ⟨vs, h1, rr⟩ := R.sqL (.inl ea)
      exact .inl ⟨_, vs, rfl, h1, fun p hp => q.newL R (rr.cut lo hi) p hp⟩
    · cases e
theorem e_slice {a : Expr} {lo hi : Option Expr} {ia il ih : E} {pos p2 : Pos} (ha : PE X a (tE X.K X.w C ia)) (hl : PO X lo (tO X.K X.w C lo.isSome il)) (hh : PO X hi (tO X.K X.w C hi.isSome ih)) : PE X (.Subscript a (.Slice lo hi none p2) pos) (tE X.K X.w C (.slice ia lo.isSome il hi.isSome ih)) :=
  PE.weak (pe_slice sl_E ha hl hh) fun σ H Q ⟨ρ, σd, G, d', G', R, S, e, q⟩ => by
    simp only [evE, M.bind_ok, optI_ok] at e
    obtain ⟨x, G1, e1, l, G2, e2, lo', G2', ⟨hl1, rfl⟩, u, G3, e3, hi', G3', ⟨hh1, rfl⟩, e4⟩ := e
    exact ⟨ρ, σd, G, x, G1, R, S, e1, fun ρ1 v1 H1 s1 R1 r1 => ⟨ρ1, σd, G1, l, lo', G2, R1, RS.step R s1 S, e2, hl1, fun ρ2 H2 s2 R2 =>
      ⟨ρ2, σd, G2, u, hi', G3, R2, RS.step R1 s2 (RS.step R s1 S), e3, hh1, fun ρ3 H3 s3 R3 =>
        ⟨ρ3, G3, x, d', G', R3, RV.step R2 s3 _ _ (RV.step R1 s2 _ _ r1), e4, q.from ((s1.trans s2).trans s3)⟩⟩⟩⟩

/-! ### methods -/
/-- the value is of that type, by what stands -/
def tyX (X : Cx) (T : String) (x : V) (H : Hp) : Prop := ∀ (pins : List (Addr × Obj)) (σ : St) (s : Shared) (v : Value), L2.Inv X pins σ H s → RelV x v → s.TypeIs v T ∧ ∀ a, v = .ref a → ∃ ob, s.heap.get? a = some ob ∧ ob.dict = none
def tMX0 (X : Cx) (T : String) (r : V → List V → Hp → VK → Prop) (to : TE) : TE := fun σ H Q => to σ H fun x H1 => tyX X T x H1 ∧ r x [] H1 Q
def tMX (X : Cx) (T : String) (r : V → List V → Hp → VK → Prop) (to : TE) (t : TA) : TE := fun σ H Q => to σ H fun x H1 => tyX X T x H1 ∧ t σ H1 fun xs H2 => r x xs H2 Q
section
variable {o e : Expr} {es : List Expr} {to : TE} {t : TA} {name : Str} {apos cpos : Pos} {T id : String} {r : V → List V → Hp → VK → Prop}
theorem pe_mx0 (pa : PlainAttrs T) (slot : Slot T name id) (hty : typeOf (.builtin id) = pure (.type "method_descriptor")) (hm : MtR X id r) (ho : PE X o to)
    (hbase : attributeBase o name X.env (eval o X.env) = eval o X.env) (hline : (apos.endLine == cpos.line) = true) : PE X (.Call (.Attribute o name apos) [] [] cpos) (tMX0 X T r to) := by
  refine ⟨fun pins s σ H Q I h => ?_⟩
  refine wpAny_Call_method0_late hbase hline (thn (ho.run pins s σ H _ I h) fun v s1 ⟨x, H1, I1, r1, ty, q1⟩ => ?_)
  obtain ⟨h1, h2⟩ := ty pins σ s1 v I1 r1
  exact ⟨T, id, pa, slot, hty, h1, h2, Calls.callWith_builtin rfl (PySem.evalArgs_none (hm pins s1 σ H1 x [] v [] Q I1 r1 .nil q1))⟩
theorem pe_mx (pa : PlainAttrs T) (slot : Slot T name id) (hty : typeOf (.builtin id) = pure (.type "method_descriptor")) (hm : MtR X id r) (ho : PE X o to) (ha : PA X (e :: es) t)
    (hbase : attributeBase o name X.env (eval o X.env) = eval o X.env)
    (hfew : ((backTo cpos (starEach (e :: es) X.env)).all (fun x => !x.1) && (backToKw cpos (keywordEach [] X.env)).all (fun x => x.1.isSome)
      && decide ((e :: es).length + ([] : List Keyword).length + (if ([] : List Keyword).isEmpty then 0 else 1) < 30)) = true)
    (hline : (apos.endLine == cpos.line) = true) (hs : starEach (e :: es) X.env = (false, eval e X.env) :: starEach es X.env) (hplain : (backTo cpos (starEach es X.env)).any (·.1) = false) :
    PE X (.Call (.Attribute o name apos) (e :: es) [] cpos) (tMX X T r to t) := by
  refine ⟨fun pins s σ H Q I h => ?_⟩
  refine wpAny_Call_method_late hbase hfew hline rfl (thn (ho.run pins s σ H _ I h) fun v s1 ⟨x, H1, I1, r1, ty, q1⟩ => ?_)
  obtain ⟨h1, h2⟩ := ty pins σ s1 v I1 r1
  refine ⟨T, id, pa, slot, hty, h1, h2, ?_⟩
  have hA := ha.run cpos pins s1 σ H1 _ I1 q1
  rw [hs] at hA ⊢
  refine Calls.callWith_builtin (by show (false || (backTo cpos (starEach es X.env)).any (·.1)) = false; rw [hplain] <;> rfl) (Calls.evalArgs_plain ?_)
  exact thn hA fun us s2 ⟨vs, H2, I2, r2, q2⟩ => hm pins s2 σ H2 x vs v us Q I2 r1 r2 q2
end
def mtT (f : Bf) : String := if mtKind f = 6 then "dict" else "list"
theorem tyX_of {f : Bf} {d : D} {ρ : Rho} {G : Hh} {H : Hp} {x : V} (R : Rel X.K X.w ρ G H) (r : RV X.K ρ G.n H d x) (h : mtK f d G = some ()) : tyX X (mtT f) x H := by
  unfold mtK at h
  split at h
  · rename_i hk
    intro pins σ s v I rv
    have two : mtKind f = 5 ∨ mtKind f = 6 := by cases f <;> simp [mtKind]
    have isref : ∃ a, d = .ref a := by
      cases d with
      | ref a => exact ⟨a, rfl⟩
      | _ => rcases two with z | z <;> rw [z] at hk <;> simp [kindN] at hk
    obtain ⟨a, rfl⟩ := isref
    obtain ⟨_, rfl⟩ := r
    cases rv
    simp only [kindN] at hk
    have seq : mtKind f = 5 → ∀ {xs : List D}, G.get a = some (.lst xs) ∨ G.get a = some (.frz xs) → s.TypeIs (.ref (ρ a)) (mtT f) ∧ ∀ b, Value.ref (ρ a) = .ref b → ∃ ob, s.heap.get? b = some ob ∧ ob.dict = none := by
      intro h5 xs h
      obtain ⟨vs, h1, _⟩ := R.sqL h
      have : mtT f = "list" := by unfold mtT; rw [h5]; rfl
      rw [this]
      exact tyV_is I (v := .ref (ρ a)) (x := .ref (ρ a)) rfl (.inl ⟨rfl, vs, h1⟩)
    split at hk
    · rename_i xs ea; exact seq (by simpa using hk.symm) (.inl ea)
    · rename_i xs ea; exact seq (by simpa using hk.symm) (.inr ea)
    · rename_i kvs ea
      have h6 : mtKind f = 6 := by simpa using hk.symm
      obtain ⟨ep, es, h1, rk, _⟩ := R.dct ea
      obtain ⟨_, _, o, _, ho, hx, _⟩ := dict_obj I h1 rk
      have : mtT f = "dict" := by unfold mtT; rw [h6]; rfl
      rw [this]
      exact ⟨⟨o, ho, hx.1⟩, fun b e => by cases e; exact ⟨o, ho, hx.2.1⟩⟩
    · cases hk
  · cases h
theorem e_meth0 {f : Bf} {o : Expr} {io : E} {m : Str} {id : String} {apos cpos : Pos} (pa : PlainAttrs (mtT f)) (slot : Slot (mtT f) m id) (hty : typeOf (.builtin id) = pure (.type "method_descriptor")) (hm : MtR X id (rMt X.K X.w f)) (ho : PE X o (tE X.K X.w C io))
    (hb : isCall0 o = false) (hl : apos.endLine = cpos.line) : PE X (.Call (.Attribute o m apos) [] [] cpos) (tE X.K X.w C (.meth f io .nil)) :=
  PE.weak (pe_mx0 pa slot hty hm ho (attrBase hb) (by rw [hl]; exact beq_self_eq_true _)) fun σ H Q ⟨ρ, σd, G, d', G', R, S, e, q⟩ => by
    simp only [evE, M.bind_ok, rd_ok, unTup_ok, M.pure_ok] at e
    obtain ⟨x, G1, e1, _, G2, ⟨ek, rfl⟩, y, G3, ⟨ey, rfl⟩, xs, G4, ⟨exs, rfl⟩, e2⟩ := e
    subst ey
    cases exs
    exact ⟨ρ, σd, G, x, G1, R, S, e1, fun ρ1 v1 H1 s1 R1 r1 => ⟨tyX_of R1 r1 ek, ρ1, G1, [x], d', G', R1, ⟨v1, [], rfl, r1, rfl⟩, e2, q.from s1⟩⟩
theorem e_meth {f : Bf} {o a : Expr} {es : List Expr} {io ia : E} {m : Str} {id : String} {apos cpos : Pos} (pa : PlainAttrs (mtT f)) (slot : Slot (mtT f) m id) (hty : typeOf (.builtin id) = pure (.type "method_descriptor")) (hm : MtR X id (rMt X.K X.w f)) (ho : PE X o (tE X.K X.w C io))
    (ha : PA X (a :: es) (tA X.K X.w C ia)) (hst : ∀ e ∈ a :: es, isStar e = false) (hlen : (a :: es).length < 20)
    (hb : isCall0 o = false) (hl : apos.endLine = cpos.line) : PE X (.Call (.Attribute o m apos) (a :: es) [] cpos) (tE X.K X.w C (.meth f io ia)) :=
  PE.weak (pe_mx pa slot hty hm ho ha (attrBase hb) (by
      rw [backTo_all hst, Bool.true_and]
      have : decide ((a :: es).length + ([] : List Keyword).length + (if ([] : List Keyword).isEmpty then 0 else 1) < 30) = true := decide_eq_true (by show (a :: es).length + 0 + 0 < 30; omega)
      rw [this]; rfl) (by rw [hl]; exact beq_self_eq_true _) (starEach_cons (hst a List.mem_cons_self) es _) (backTo_any fun e he => hst e (List.mem_cons_of_mem _ he))) fun σ H Q ⟨ρ, σd, G, d', G', R, S, e, q⟩ => by
    simp only [evE, M.bind_ok, rd_ok, unTup_ok] at e
    obtain ⟨x, G1, e1, _, G2, ⟨ek, rfl⟩, y, G3, e3, xs, G4, ⟨rfl, rfl⟩, e2⟩ := e
    exact ⟨ρ, σd, G, x, G1, R, S, e1, fun ρ1 v1 H1 s1 R1 r1 => ⟨tyX_of R1 r1 ek, ρ1, σd, G1, xs, G3, R1, RS.step R s1 S, e3, fun ρ2 vs H2 s2 R2 r2 =>
      ⟨ρ2, G3, x :: xs, d', G', R2, ⟨v1, vs, rfl, RV.step R1 s2 _ _ r1, r2⟩, e2, q.from (s1.trans s2)⟩⟩⟩

/-! ### isinstance(a, T) -/
theorem e_isa (g : Gd fs P N sc n X) {f : Bf} {T : String} {a : Expr} {t : Str} {ia : E} {p p1 pos : Pos} (hT : isaT f = some T) (hg : isGl sc ("isinstance" : Str) = true) (ha : PE X a (tE X.K X.w C ia)) (hs : isStar a = false)
    (ht : PE X (.Name t p1) (tC (.ty T))) : PE X (.Call (.Name "isinstance" p) [a, .Name t p1] [] pos) (tE X.K X.w C (.bfn f (.cons ia .nil))) :=
  PE.weak (pe_callB (bf_isa hT) (g.gl hg) (g.blt "isinstance" (by decide)) (by rfl) (pa_cons ha (pa_cons ht pa_nil) (starEach_cons hs _ _)) (by decide) (by decide) (starEach_cons hs _ _) (by rfl)) fun σ H Q ⟨ρ, σd, G, d', G', R, S, e, q⟩ => by
    simp only [evE, M.bind_ok, unTup_ok, M.pure_ok] at e
    obtain ⟨y, G1, ⟨x, G0, e0, z, Gz, ⟨rfl, rfl⟩, xs0, G5, ⟨ex, rfl⟩, e4, rfl⟩, xs, G2, ⟨e5, rfl⟩, e2⟩ := e
    cases ex
    subst e4
    cases e5
    exact ⟨ρ, σd, G, x, G0, R, S, e0, fun ρ1 v1 H1 s1 R1 r1 => ⟨v1, rfl, ρ1, G0, [x], d', G', R1, ⟨v1, [], rfl, r1, rfl⟩, e2, q.from s1⟩⟩
end
end Ev

/-! EvT: targets of assignments. -/
namespace Ev
open PySem PySem.Spec
open PyProof.Rows hiding St
open L2
open Sem (wp)
/-- what may be stored -/
def Sto (N : List Str) (so : Scope) (X : Cx) : Prop := ∀ x i, stoOf N so x = some i → X.N[i]? = some x ∧ Loc X.env.scope x ∧ (X.fn x = true ∨ X.env.scope.names.lookup x = some .local)
/-- the slots outside l are the same -/
def Only (l : List Nat) (σ σ' : St) : Prop := σ'.length = σ.length ∧ ∀ i, i ∉ l → σ'[i]? = σ[i]?
theorem Only.refl (l : List Nat) (σ : St) : Only l σ σ := ⟨rfl, fun _ _ => rfl⟩
theorem Only.trans {l l' : List Nat} {σ σ1 σ2 : St} (a : Only l σ σ1) (b : Only l' σ1 σ2) : Only (l ++ l') σ σ2 :=
  ⟨b.1.trans a.1, fun i h => by rw [List.mem_append, not_or] at h; exact (b.2 i h.2).trans (a.2 i h.1)⟩
theorem Only.mono {l l' : List Nat} {σ σ' : St} (a : Only l σ σ') (h : ∀ i ∈ l, i ∈ l') : Only l' σ σ' := ⟨a.1, fun i hi => a.2 i fun z => hi (h i z)⟩
def tG (K : PySem.W.Frag) (w : World) (t : T) : TG := fun v σ H Q => ∃ ρ σd G d σd', Rel K w ρ G H ∧ RS K ρ G.n H σd σ ∧ RV K ρ G.n H d v ∧ asgT t d σd = some σd' ∧ ∀ σ', RS K ρ G.n H σd' σ' → Only t.slots σ σ' → Q σ' H
def tGs (K : PySem.W.Frag) (w : World) (t : T) : TGs := fun vs σ H Q => ∃ ρ σd G ds σd', Rel K w ρ G H ∧ RS K ρ G.n H σd σ ∧ RVs K ρ G.n H ds vs ∧ asgT t (.tup ds) σd = some σd' ∧ ∀ σ', RS K ρ G.n H σd' σ' → Only t.slots σ σ' → Q σ' H
theorem RS.set {K : PySem.W.Frag} {ρ : Rho} {m : Nat} {H : Hp} {σd : List D} {σ : St} {d : D} {v : V} (S : RS K ρ m H σd σ) (i : Nat) (r : RV K ρ m H d v) : RS K ρ m H (σd.set i d) (σ.set i (some v)) := by
  refine ⟨by rw [List.length_set, List.length_set]; exact S.1, fun j e hj hn => ?_⟩
  rw [List.getElem?_set] at hj ⊢
  by_cases hij : i = j
  · subst hij
    rw [if_pos rfl] at hj ⊢
    split at hj
    · rename_i hl
      cases hj
      rw [if_pos (by rw [S.1]; exact hl)]
      exact ⟨v, rfl, r⟩
    · cases hj
  · rw [if_neg hij] at hj ⊢
    exact S.2 j e hj hn
theorem Only.set (σ : St) (i : Nat) (v : Option V) : Only [i] σ (σ.set i v) :=
  ⟨List.length_set .., fun j h => List.getElem?_set_ne (fun z => h (by rw [z]; exact List.mem_cons_self))⟩
theorem PG.weak {X : Cx} {e : Expr} {t t' : TG} (h : PG X e t) (hw : ∀ v σ H Q, t' v σ H Q → t v σ H Q) : PG X e t' := ⟨fun pins s σ H v u Q I r q => h.run pins s σ H v u Q I r (hw v σ H Q q)⟩
theorem PGs.weak {X : Cx} {e : List Expr} {t t' : TGs} (h : PGs X e t) (hw : ∀ v σ H Q, t' v σ H Q → t v σ H Q) : PGs X e t' := ⟨fun pins s σ H v u Q I r q => h.run pins s σ H v u Q I r (hw v σ H Q q)⟩
def T.len : T → Nat
  | .cons _ r => r.len + 1
  | _ => 0
theorem asgT_len : ∀ {t : T} {ds : List D} {σ σ' : List D}, (t = .nil ∨ ∃ a r, t = .cons a r) → asgT t (.tup ds) σ = some σ' → True := fun _ _ => trivial
section
variable {fs : List (Str × Nat)} {P : List Fn} {N : List Str} {sc so : Scope} {n : Nat} {X : Cx}
theorem assignEach_none : ∀ {es : List Expr} (env : Env), (∀ e ∈ es, isStar e = false) → (∀ x ∈ assignEach es env, x.1 = false) ∧ (assignEach es env).length = es.length
  | [], _, _ => ⟨fun x hx => by simp [assignEach] at hx, rfl⟩
  | e :: es, env, h => by
    obtain ⟨h1, h2⟩ := assignEach_none env fun e he => h e (List.mem_cons_of_mem _ he)
    rw [assignEach_cons (h e List.mem_cons_self)]
    refine ⟨fun x hx => ?_, by rw [List.length_cons, List.length_cons, h2]⟩
    rcases List.mem_cons.mp hx with z | hx
    · rw [z]
    · exact h1 x hx
mutual
theorem g_of (hc : X.calm = true) (hN : X.N.Nodup) (S : Sto N so X) (Tb : Tab) (hT : Tb.N = N) : ∀ (f : Nat) (e : Expr) (t : T), cT Tb so f e = some t → PG X e (tG X.K X.w t)
  | 0, _, _, h => by simp [cT] at h
  | f + 1, e, t, h => by
    cases e with
    | Name x pos =>
      simp only [cT, Option.map_eq_some_iff] at h
      obtain ⟨i, hi, rfl⟩ := h
      rw [hT] at hi
      obtain ⟨h1, h2, h3⟩ := S x i hi
      refine PG.weak (pg_name hN h1 h2 h3) fun v σ H Q ⟨ρ, σd, G, d, σd', R, Sg, r, e, q⟩ => ?_
      simp only [asgT] at e
      split at e
      · cases e
        exact q _ (Sg.set i r) (Only.set σ i _)
      · cases e
    | Tuple es k pos =>
      simp only [cT, Option.bind_eq_bind, Option.bind_eq_some_iff] at h
      obtain ⟨t', ht, e0⟩ := h
      cases e0
      obtain ⟨g, st, hl⟩ := gs_of hc hN S Tb hT f es t' ht
      obtain ⟨a1, a2⟩ := assignEach_none (es := es) X.env st
      refine PG.weak (pg_tup (n := es.length) hc g a2 (by rw [List.findIdx?_eq_none_iff]; exact fun x hx => a1 x hx)) fun v σ H Q ⟨ρ, σd, G, d, σd', R, Sg, r, e, q⟩ => ?_
      cases d with
      | tup xs =>
        simp only [asgT] at e
        obtain ⟨a, vs, rfl, ha, rr⟩ := r
        exact ⟨a, vs, rfl, ha.1, by rw [rr.length]; exact hl _ _ _ e, ρ, σd, G, xs, σd', R, Sg, rr, e, q⟩
      | _ => simp [asgT] at e
    | _ => simp [cT] at h
theorem gs_of (hc : X.calm = true) (hN : X.N.Nodup) (S : Sto N so X) (Tb : Tab) (hT : Tb.N = N) : ∀ (f : Nat) (es : List Expr) (t : T), cTs Tb so f es = some t → PGs X es (tGs X.K X.w t) ∧ (∀ e ∈ es, isStar e = false) ∧ ∀ ds σ σ', asgT t (.tup ds) σ = some σ' → ds.length = es.length
  | 0, _, _, h => by simp [cTs] at h
  | f + 1, [], t, h => by
    simp only [cTs] at h; cases h
    refine ⟨PGs.weak pgs_nil fun vs σ H Q ⟨ρ, σd, G, ds, σd', R, Sg, r, e, q⟩ => ?_, fun e he => by simp at he, fun ds σ σ' e => ?_⟩
    · cases ds with
      | nil =>
        simp only [asgT] at e; cases e
        exact ⟨r, q σ Sg (Only.refl _ _)⟩
      | cons a b => simp [asgT] at e
    · cases ds with
      | nil => rfl
      | cons a b => simp [asgT] at e
  | f + 1, e0 :: es, t, h => by
    simp only [cTs] at h
    split at h
    · cases h
    · rename_i hst
      simp only [Option.bind_eq_bind, Option.bind_eq_some_iff] at h
      obtain ⟨t1, h1, t2, h2, e1⟩ := h
      cases e1
      have g1 := g_of hc hN S Tb hT f e0 t1 h1
      obtain ⟨g2, st, hl⟩ := gs_of hc hN S Tb hT f es t2 h2
      have hs : isStar e0 = false := by simpa using hst
      refine ⟨PGs.weak (pgs_cons g1 g2 (by rw [assignEach_cons hs]; rfl)) fun vs σ H Q ⟨ρ, σd, G, ds, σd', R, Sg, r, e, q⟩ => ?_, fun e he => ?_, fun ds σ σ' e => ?_⟩
      · cases ds with
        | nil => simp [asgT] at e
        | cons d ds =>
          simp only [asgT] at e
          obtain ⟨v, vs', rfl, r1, r2⟩ := r
          split at e
          · rename_i σ1 e1
            exact ⟨v, vs', rfl, ρ, σd, G, d, σ1, R, Sg, r1, e1, fun σ' S' o' => ⟨ρ, σ1, G, ds, σd', R, S', r2, e, fun σ2 S2 o2 => q σ2 S2 (o'.trans o2)⟩⟩
          · cases e
      · rcases List.mem_cons.mp he with z | he
        · rw [z]; exact hs
        · exact st e he
      · cases ds with
        | nil => simp [asgT] at e
        | cons d ds =>
          simp only [asgT] at e
          split at e
          · rw [List.length_cons, List.length_cons, hl _ _ _ e]
          · cases e
end
end
end Ev

/-! EvI: what is walked. -/
namespace Ev
open PySem PySem.Spec
open PyProof.Rows hiding St
open L2
open Sem (wp)

/-! ### a dict of data, by its keys -/
/-- the dict at d, of these keys -/
def Itq (d : Addr) (ep : Nat) (ks : List V) : It :=
  ⟨fun i H => (∃ es, H d = some (.ext (dictP d ep es)) ∧ es.map (·.2.1) = ks) ∧ i < ks.length, fun i H x H' => H' = H ∧ ks[i]? = some x, fun i H => (∃ es, H d = some (.ext (dictP d ep es)) ∧ es.map (·.2.1) = ks) ∧ ks.length ≤ i⟩
section
variable {X : Cx} {pins : List (Addr × Obj)} {σ : St} {H : Hp} {s : Shared}
theorem raw_of (I : L2.Inv X pins σ H s) {d : Addr} {ep : Nat} {es : List (Int × V × V)} (h : H d = some (.ext (dictP d ep es))) : ∃ ds : List DictEntry, s.heap.DictRaw d ds.toArray ep ∧ ds.length = es.length ∧ (d == sysModules) = false ∧
    ∀ (i : Nat) (k : V), (es.map (·.2.1))[i]? = some k → ∃ en, ds[i]? = some en ∧ RelV k en.key := by
  obtain ⟨⟨_, h2, o, ds, h3, h4, h5, h6⟩, _⟩ := I.hok d _ h
  refine ⟨ds, ⟨o, h3, h4, h5⟩, h6.length.symm, h2, fun i k hk => ?_⟩
  rw [List.getElem?_map] at hk
  cases q : es[i]? with
  | none => rw [q] at hk; cases hk
  | some e =>
    rw [q] at hk; cases hk
    obtain ⟨en, h7, _, h8, _⟩ := paired_get h6 q
    exact ⟨en, h7, h8⟩
end
theorem turn_dictQ {P : Program} {w : World} {K : PySem.W.Frag} {tg : Expr} (d it : Addr) (ep : Nat) (ks : List V) : Turn P w K tg (Itq d ep ks) [it] it (fun i h => h.IsKeyIter it d i ks.length ep) where
  mem := by simp
  obj := fun i h st b hb => by
    have e : b = it := by simpa using hb
    subst e
    obtain ⟨o, e, c, dd⟩ := st
    exact ⟨o, e, fun v z => by rw [dd] at z; cases z⟩
  keep := fun i h h' st k => let ⟨o, e, r⟩ := st; ⟨o, k it (by simp) o e, r⟩
  item := by
    intro X hP hw hK hc i pins s σ H E I hf st hg
    subst hP hw hK
    obtain ⟨⟨es, hd, hks⟩, hlt⟩ := hg
    obtain ⟨ds, raw, hl, _, get⟩ := raw_of I hd
    obtain ⟨f0, f1, f2, f3, f4, f5⟩ := hf it (by simp)
    obtain ⟨k, hk⟩ : ∃ k, ks[i]? = some k := ⟨ks[i], by simp [hlt]⟩
    obtain ⟨en, hen, rk⟩ := get i k (by rw [hks]; exact hk)
    have hsz : ds.toArray.size = ks.length := by rw [← hks, List.length_map, ← hl, List.size_toArray]
    obtain ⟨od, hod, hx, hdd⟩ := raw
    refine next_key_item st hod hdd hsz (en := en) (by simpa using hen) fun h' hit' sb => ?_
    have I1 : L2.Inv X pins σ H { s with heap := h' } := I.turned (t' := s.toks) (fun b o hb e => (sb.2 b hb).trans e) f0 f1 f3 f4 f5
    obtain ⟨o, e, c, dd⟩ := id hit'
    exact ⟨en.key, rfl, go_of (s := { s with heap := h' }) e c dd (by decide) ⟨k, H, I1, rk, ⟨rfl, hk⟩, hit', fun b hb => (hf b hb).1⟩⟩
  done := by
    intro X hP hw hK hc i pins s σ H E I hf st hg
    subst hP hw hK
    obtain ⟨⟨es, hd, hks⟩, hlt⟩ := hg
    obtain ⟨ds, raw, hl, _, get⟩ := raw_of I hd
    obtain ⟨f0, f1, f2, f3, f4, f5⟩ := hf it (by simp)
    have hsz : ds.toArray.size = ks.length := by rw [← hks, List.length_map, ← hl, List.size_toArray]
    obtain ⟨od, hod, hx, hdd⟩ := raw
    exact next_key_end (I.ok.hd hc) st hod hdd hsz hlt fun h' eb => ⟨rfl, I.turned (t' := s.toks) (fun b o hb e => eb b o hb e) f0 f1 f3 f4 f5⟩
  self := fun A i s Q E st h => wpAny_pyIter_keyiter st h


/-! ### enumerate(tuple) -/
def Itv (K : PySem.W.Frag) (a : Addr) : It :=
  ⟨fun i H => ∃ (xs : List V) (x : V), SqT K H a xs ∧ xs[i]? = some x, fun i H v H' => ∃ T x o, v = .ref T ∧ H T = none ∧ o.dict = none ∧ H' = upd H T (.frz o (.tup [.int (i : Nat), x])) ∧ ∀ xs, SqT K H a xs → xs[i]? = some x, fun i H => ∃ xs : List V, SqT K H a xs ∧ xs.length = i⟩
theorem turn_enumT {P : Program} {w : World} {K : PySem.W.Frag} {elts : List Expr} {kk : Nat} {tpos : Pos} (a e it : Addr) :
    Turn P w K (.Tuple elts kk tpos) (Itv K a) [e, it] e (fun i h => (∃ old, IsEnum h e it ((i : Nat) : Int) old) ∧ h.IsTupleIter it a i ∧ e ≠ it ∧ e ≠ a ∧ a ≠ it) where
  mem := by simp
  obj := fun i h st b hb => by
    obtain ⟨⟨old, he⟩, ⟨o, ho, hc, hd⟩, _⟩ := st
    have e' : b = e ∨ b = it := by simpa using hb
    rcases e' with z | z
    · rw [z]; exact ⟨_, he, fun v q => nomatch q⟩
    · rw [z]; exact ⟨o, ho, fun v q => by rw [hd] at q; cases q⟩
  keep := fun i h h' st k => let ⟨⟨old, he⟩, hi, hne⟩ := st; ⟨⟨old, k e (by simp) _ he⟩, hi.at fun o q => k it (by simp) o q, hne⟩
  item := by
    intro X hP hw hK hc i pins s σ H E I hf st hg
    subst hP hw hK
    obtain ⟨⟨old, he⟩, hit, hne, hea, hai⟩ := st
    obtain ⟨xs, x, hq, hx⟩ := hg
    obtain ⟨its, rv, p, hz⟩ := I.tuple hq
    obtain ⟨u, hu, ru⟩ := rv.get hx
    have hel : e < s.heap.objs.size := Heap.lt_size he
    have hil : it < s.heap.objs.size := by obtain ⟨_, q, _⟩ := hit; exact Heap.lt_size q
    have pt : s.heap.IsTuple a its.toArray := p
    refine wpAny_pyNext_enum_itemD (Draws.tuple (prog := X.prog) (w := X.w) (A := X.A.in1) (show X.A.in1.handled = none from I.ok.hd hc) it a hai its.toArray) he ⟨hit, pt⟩ (by simpa using (List.getElem?_eq_some_iff.mp hu).1) hne (by simp [hne, hea]) fun y h' tk hy ho hit' hT hsz hk => ?_
    have hyu : y = u := by
      have : its.toArray[i]? = some y := hy
      rw [List.getElem?_toArray, hu] at this
      exact (Option.some.inj this).symm
    subst hyu
    refine ⟨_, rfl, wpAny_letOwnedTupleGo_enum (s := { s with heap := h', toks := tk + 1 }) ho fun h'' he' sb => ?_⟩
    have hT2 : h''.get? s.heap.objs.size = some { cls := .type "tuple", data := .seq #[.int i tk, y] } := (sb.2 _ (Nat.ne_of_gt hel)).trans hT
    have new : ObjOk X.prog X.w (upd H s.heap.objs.size (.frz { cls := .type "tuple", data := .seq #[.int i tk, y] } (.tup [.int (i : Nat), x]))) h'' s.heap.objs.size (.frz { cls := .type "tuple", data := .seq #[.int i tk, y] } (.tup [.int (i : Nat), x])) :=
      ⟨hT2, by show 2 ≤ sizeLine; decide, [.int i tk, y], .cons ⟨_, rfl⟩ (.cons ru .nil), ⟨_, hT2, rfl, _, rfl⟩⟩
    have I1 : L2.Inv X pins σ (upd H s.heap.objs.size (.frz { cls := .type "tuple", data := .seq #[.int i tk, y] } (.tup [.int (i : Nat), x]))) { s with heap := h'', toks := tk + 1 } :=
      I.turnedNew (ch := [e, it]) (fun b ob hb q => (sb.2 b (fun z => hb (by simp [z]))).trans (hk b ob (fun z => hb (by simp [z])) (fun z => hb (by simp [z])) q)) hf (Nat.le_refl _) new
    refine ⟨.ref s.heap.objs.size, _, I1, rfl, ⟨_, x, _, rfl, I.hok.fresh (Nat.le_refl _), rfl, rfl, fun ys hy => by rw [I.tuple_inj hy hq]; exact hx⟩, ⟨⟨y, ?_⟩, hit'.1.at fun o q => (sb.2 it (Ne.symm hne)).trans q, hne, hea, hai⟩, fun b hb => ?_⟩
    · have e1 : ((i + 1 : Nat) : Int) = (i : Int) + 1 := by omega
      rw [e1]; exact he'
    · have hb' : b < s.heap.objs.size := by
        have e' : b = e ∨ b = it := by simpa using hb
        rcases e' with z | z
        · rw [z]; exact hel
        · rw [z]; exact hil
      rw [upd_ne (Nat.ne_of_lt hb')]
      exact (hf b hb).1
  done := by
    intro X hP hw hK hc i pins s σ H E I hf st hg
    subst hP hw hK
    obtain ⟨⟨old, he⟩, hit, hne, hea, hai⟩ := st
    obtain ⟨xs, hq, hx⟩ := hg
    obtain ⟨its, rv, p, hz⟩ := I.tuple hq
    obtain ⟨f0, f1, f2, f3, f4, f5⟩ := hf it (by simp)
    have hl := rv.length
    have pt : s.heap.IsTuple a its.toArray := p
    have hi : its.toArray.size = i := by rw [List.size_toArray, ← hl]; exact hx
    rw [← hi] at hit
    exact wpAny_pyNext_enum_endD (Draws.tuple (prog := X.prog) (w := X.w) (A := X.A.in1) (show X.A.in1.handled = none from I.ok.hd hc) it a hai its.toArray) he ⟨hit, pt⟩ fun h' eb => ⟨rfl, I.turned (t' := s.toks) (fun b o hb q => eb b o hb q) f0 f1 f3 f4 f5⟩
  self := fun A i s Q E st h => let ⟨⟨_, he⟩, _⟩ := st; wpAny_pyIter_enum he h

def Itel (K : PySem.W.Frag) (a : Addr) : It :=
  ⟨fun i H => ∃ (xs : List V) (x : V), SqL K H a xs ∧ xs[i]? = some x, fun i H v H' => ∃ T x o, v = .ref T ∧ H T = none ∧ o.dict = none ∧ H' = upd H T (.frz o (.tup [.int (i : Nat), x])) ∧ ∀ xs, SqL K H a xs → xs[i]? = some x, fun i H => ∃ xs : List V, SqL K H a xs ∧ xs.length = i⟩
theorem turn_enumL {P : Program} {w : World} {K : PySem.W.Frag} {elts : List Expr} {kk : Nat} {tpos : Pos} (a e it : Addr) :
    Turn P w K (.Tuple elts kk tpos) (Itel K a) [e, it] e (fun i h => (∃ old, IsEnum h e it ((i : Nat) : Int) old) ∧ h.IsListIter it a i ∧ e ≠ it ∧ e ≠ a ∧ a ≠ it) where
  mem := by simp
  obj := fun i h st b hb => by
    obtain ⟨⟨old, he⟩, ⟨o, ho, hc, hd⟩, _⟩ := st
    have e' : b = e ∨ b = it := by simpa using hb
    rcases e' with z | z
    · rw [z]; exact ⟨_, he, fun v q => nomatch q⟩
    · rw [z]; exact ⟨o, ho, fun v q => by rw [hd] at q; cases q⟩
  keep := fun i h h' st k => let ⟨⟨old, he⟩, hi, hne⟩ := st; ⟨⟨old, k e (by simp) _ he⟩, hi.at fun o q => k it (by simp) o q, hne⟩
  item := by
    intro X hP hw hK hc i pins s σ H E I hf st hg
    subst hP hw hK
    obtain ⟨⟨old, he⟩, hit, hne, hea, hai⟩ := st
    obtain ⟨xs, x, hq, hx⟩ := hg
    obtain ⟨its, rv, p, hz⟩ := I.list hq
    obtain ⟨u, hu, ru⟩ := rv.get hx
    have hel : e < s.heap.objs.size := Heap.lt_size he
    have hil : it < s.heap.objs.size := by obtain ⟨_, q, _⟩ := hit; exact Heap.lt_size q
    have pt : s.heap.IsList a its.toArray := p.isList
    refine wpAny_pyNext_enum_itemD (Draws.list (prog := X.prog) (w := X.w) (A := X.A.in1) (show X.A.in1.handled = none from I.ok.hd hc) it a hai its.toArray) he ⟨hit, pt⟩ (by simpa using (List.getElem?_eq_some_iff.mp hu).1) hne (by simp [hne, hea]) fun y h' tk hy ho hit' hT hsz hk => ?_
    have hyu : y = u := by
      have : its.toArray[i]? = some y := hy
      rw [List.getElem?_toArray, hu] at this
      exact (Option.some.inj this).symm
    subst hyu
    refine ⟨_, rfl, wpAny_letOwnedTupleGo_enum (s := { s with heap := h', toks := tk + 1 }) ho fun h'' he' sb => ?_⟩
    have hT2 : h''.get? s.heap.objs.size = some { cls := .type "tuple", data := .seq #[.int i tk, y] } := (sb.2 _ (Nat.ne_of_gt hel)).trans hT
    have new : ObjOk X.prog X.w (upd H s.heap.objs.size (.frz { cls := .type "tuple", data := .seq #[.int i tk, y] } (.tup [.int (i : Nat), x]))) h'' s.heap.objs.size (.frz { cls := .type "tuple", data := .seq #[.int i tk, y] } (.tup [.int (i : Nat), x])) :=
      ⟨hT2, by show 2 ≤ sizeLine; decide, [.int i tk, y], .cons ⟨_, rfl⟩ (.cons ru .nil), ⟨_, hT2, rfl, _, rfl⟩⟩
    have I1 : L2.Inv X pins σ (upd H s.heap.objs.size (.frz { cls := .type "tuple", data := .seq #[.int i tk, y] } (.tup [.int (i : Nat), x]))) { s with heap := h'', toks := tk + 1 } :=
      I.turnedNew (ch := [e, it]) (fun b ob hb q => (sb.2 b (fun z => hb (by simp [z]))).trans (hk b ob (fun z => hb (by simp [z])) (fun z => hb (by simp [z])) q)) hf (Nat.le_refl _) new
    refine ⟨.ref s.heap.objs.size, _, I1, rfl, ⟨_, x, _, rfl, I.hok.fresh (Nat.le_refl _), rfl, rfl, fun ys hy => by rw [I.list_inj hy hq]; exact hx⟩, ⟨⟨y, ?_⟩, hit'.1.at fun o q => (sb.2 it (Ne.symm hne)).trans q, hne, hea, hai⟩, fun b hb => ?_⟩
    · have e1 : ((i + 1 : Nat) : Int) = (i : Int) + 1 := by omega
      rw [e1]; exact he'
    · have hb' : b < s.heap.objs.size := by
        have e' : b = e ∨ b = it := by simpa using hb
        rcases e' with z | z
        · rw [z]; exact hel
        · rw [z]; exact hil
      rw [upd_ne (Nat.ne_of_lt hb')]
      exact (hf b hb).1
  done := by
    intro X hP hw hK hc i pins s σ H E I hf st hg
    subst hP hw hK
    obtain ⟨⟨old, he⟩, hit, hne, hea, hai⟩ := st
    obtain ⟨xs, hq, hx⟩ := hg
    obtain ⟨its, rv, p, hz⟩ := I.list hq
    obtain ⟨f0, f1, f2, f3, f4, f5⟩ := hf it (by simp)
    have hl := rv.length
    have pt : s.heap.IsList a its.toArray := p.isList
    have hi : its.toArray.size = i := by rw [List.size_toArray, ← hl]; exact hx
    rw [← hi] at hit
    exact wpAny_pyNext_enum_endD (Draws.list (prog := X.prog) (w := X.w) (A := X.A.in1) (show X.A.in1.handled = none from I.ok.hd hc) it a hai its.toArray) he ⟨hit, pt⟩ fun h' eb => ⟨rfl, I.turned (t' := s.toks) (fun b o hb q => eb b o hb q) f0 f1 f3 f4 f5⟩
  self := fun A i s Q E st h => let ⟨⟨_, he⟩, _⟩ := st; wpAny_pyIter_enum he h

/-- what a walk wants of what comes behind: tuples stand, the dicts stay -/
structure StpW (K : PySem.W.Frag) (ρ : Rho) (G : Hh) (H : Hp) (ρ' : Rho) (G' : Hh) (H' : Hp) : Prop where
  le : G.n ≤ G'.n
  same : ∀ i, i < G.n → ρ' i = ρ i
  tup : ∀ a vs, SqN K H a vs → SqN K H' a vs
  dk : ∀ i kvs, G.get i = some (.dct kvs) → ∃ kvs', G'.get i = some (.dct kvs') ∧ DStay ρ H ρ' H' i kvs kvs'
theorem Stp.w {K : PySem.W.Frag} {w : World} {ρ ρ' : Rho} {G G' : Hh} {H H' : Hp} (R : Rel K w ρ G H) (s : Stp ρ G H ρ' G' H') : StpW K ρ G H ρ' G' H' := ⟨s.le, s.same, fun _ _ h => s.rdN R h, s.dk⟩
theorem StpW.trans {K : PySem.W.Frag} {ρ ρ' ρ'' : Rho} {G G' G'' : Hh} {H H' H'' : Hp} (a : StpW K ρ G H ρ' G' H') (b : StpW K ρ' G' H' ρ'' G'' H'') : StpW K ρ G H ρ'' G'' H'' where
  le := Nat.le_trans a.le b.le
  same := fun i h => (b.same i (Nat.lt_of_lt_of_le h a.le)).trans (a.same i h)
  tup := fun x vs h => b.tup x vs (a.tup x vs h)
  dk := fun i kvs e => by
    obtain ⟨k1, e1, l1, q1⟩ := a.dk i kvs e
    obtain ⟨k2, e2, l2, q2⟩ := b.dk i k1 e1
    refine ⟨k2, e2, Nat.le_trans l1 l2, fun l ep es h => ?_⟩
    obtain ⟨es1, h1, m1⟩ := q1 (by omega) ep es h
    obtain ⟨es2, h2, m2⟩ := q2 (by omega) ep es1 h1
    exact ⟨es2, h2, m2.trans m1⟩
section
variable {K : PySem.W.Frag} {ρ ρ' : Rho} {G G' : Hh} {H H' : Hp}
mutual
theorem RV.stepW (s : StpW K ρ G H ρ' G' H') : ∀ (d : D) (v : V), RV K ρ G.n H d v → RV K ρ' G'.n H' d v
  | .und, _, h => h
  | .non, _, h => h
  | .bl _, _, h => h
  | .int _, _, h => h
  | .str _, _, h => h
  | .ref a, v, h => by
    obtain ⟨h1, h2⟩ := h
    exact ⟨Nat.lt_of_lt_of_le h1 s.le, by rw [s.same a h1]; exact h2⟩
  | .tup xs, v, h => by
    obtain ⟨a, vs, e, q, r⟩ := h
    exact ⟨a, vs, e, s.tup a vs q, RVs.stepW s xs vs r⟩
theorem RVs.stepW (s : StpW K ρ G H ρ' G' H') : ∀ (ds : List D) (vs : List V), RVs K ρ G.n H ds vs → RVs K ρ' G'.n H' ds vs
  | [], _, h => h
  | d :: ds, vs, h => by
    obtain ⟨v, r, e, h1, h2⟩ := h
    exact ⟨v, r, e, RV.stepW s d v h1, RVs.stepW s ds r h2⟩
end
end
/-! ### what a walk's source tells is what the machine's iterator tells -/
def SrcJ (K : PySem.W.Frag) (w : World) (ρ1 : Rho) (G1 : Hh) (H1 : Hp) (s : Src) (J : It) : Prop := ∀ (ρ : Rho) (G : Hh) (H : Hp) (i : Nat), StpW K ρ1 G1 H1 ρ G H → Rel K w ρ G H →
  (i = s.n → s.at i G = some none → J.stop i H) ∧ ∀ x, s.at i G = some (some x) → J.go i H ∧ ∀ v H', J.yld i H v H' → Stp ρ G H ρ G H' ∧ Rel K w ρ G H' ∧ RV K ρ G.n H' x v
def tI (K : PySem.W.Frag) (w : World) (C : Cl) (k : Ik) (ie : E) : TI := fun σ H R => ∃ ρ σd G x s G1, Rel K w ρ G H ∧ RS K ρ G.n H σd σ ∧ evE C ie σd G = .ok x G1 ∧ srcOf k x G1 = some s ∧ ∀ ρ1 H1 J, Stp ρ G H ρ1 G1 H1 → Rel K w ρ1 G1 H1 → SrcJ K w ρ1 G1 H1 s J → R J H1
section
variable {K : PySem.W.Frag} {w : World} {ρ1 : Rho} {G1 : Hh} {H1 : Hp}
theorem src_items {xs : List D} {vs : List V} {a : Addr} (R1 : Rel K w ρ1 G1 H1) (ha : SqN K H1 a vs) (r : RVs K ρ1 G1.n H1 xs vs) : SrcJ K w ρ1 G1 H1 (.items xs) (Itt K a) := by
  intro ρ G H i st R
  have ha' := (st.tup _ _ ha).1
  have r' := RVs.stepW st _ _ r
  refine ⟨fun hi e => ⟨vs, ha', ?_⟩, fun x e => ?_⟩
  · simp only [Src.n] at hi; rw [hi, r.length]; exact Nat.le_refl _
  · simp only [Src.at, Option.some.injEq] at e
    obtain ⟨v, h1, h2⟩ := r'.get e
    refine ⟨⟨vs, v, ha', h1⟩, fun u H' ⟨hH, hy⟩ => ?_⟩
    subst hH
    have := hy vs ha'
    rw [h1] at this; cases this
    exact ⟨Stp.refl _ _ _, R, h2⟩
theorem src_live {a n : Nat} : SrcJ K w ρ1 G1 H1 (.live a n) (Itl K (ρ1 a)) ∨ n = n + 1 ∨ ¬ a < G1.n := by
  by_cases hlt : a < G1.n
  · refine .inl ?_
    intro ρ G H i st R
    have seq : ∀ {xs : List D}, G.get a = some (.lst xs) ∨ G.get a = some (.frz xs) → (xs[i]? = none → (Itl K (ρ1 a)).stop i H) ∧ ∀ x, xs[i]? = some x → (Itl K (ρ1 a)).go i H ∧ ∀ v H', (Itl K (ρ1 a)).yld i H v H' → Stp ρ G H ρ G H' ∧ Rel K w ρ G H' ∧ RV K ρ G.n H' x v := by
      intro xs h
      obtain ⟨vs, h1, r⟩ := R.sqL h
      rw [st.same a hlt] at h1
      refine ⟨fun e => ⟨vs, h1, by rw [r.length]; exact List.getElem?_eq_none_iff.mp e⟩, fun x e => ?_⟩
      obtain ⟨v, h2, h3⟩ := r.get e
      refine ⟨⟨vs, v, h1, h2⟩, fun u H' ⟨hH, hy⟩ => ?_⟩
      subst hH
      have := hy vs h1
      rw [h2] at this; cases this
      exact ⟨Stp.refl _ _ _, R, h3⟩
    refine ⟨fun hi e => ?_, fun x e => ?_⟩
    · simp only [Src.at] at e
      split at e
      · rename_i xs ea
        split at e
        · exact (seq (.inl ea)).1 (Option.some.inj e)
        · cases e
      · rename_i xs ea
        split at e
        · exact (seq (.inr ea)).1 (Option.some.inj e)
        · cases e
      · cases e
    · simp only [Src.at] at e
      split at e
      · rename_i xs ea
        split at e
        · exact (seq (.inl ea)).2 x (Option.some.inj e)
        · cases e
      · rename_i xs ea
        split at e
        · exact (seq (.inr ea)).2 x (Option.some.inj e)
        · cases e
      · cases e
  · exact .inr (.inr hlt)
theorem src_pairs {ρ : Rho} {G : Hh} {H H' : Hp} {i : Nat} {x : D} {v u : V} {T : Addr} {o : Obj} (R : Rel K w ρ G H) (hT : H T = none) (ho : o.dict = none) (hH : H' = upd H T (.frz o (.tup [.int (i : Nat), v]))) (r : RV K ρ G.n H x v) (hu : u = .ref T) : Stp ρ G H ρ G H' ∧ Rel K w ρ G H' ∧ RV K ρ G.n H' (.tup [.int i, x]) u := by
  subst hH hu
  obtain ⟨R', st⟩ := R.laid (o := HO.frz o (.tup [.int (i : Nat), v])) hT fun z => z
  exact ⟨st, R', T, [.int (i : Nat), v], rfl, SqN.new ho, .int i, [v], rfl, rfl, v, [], rfl, RV.step R st _ _ r, rfl⟩
theorem src_enumL {a n : Nat} (hlt : a < G1.n) : SrcJ K w ρ1 G1 H1 (.enumL a n) (Itel K (ρ1 a)) := by
  intro ρ G H i st R
  refine ⟨fun hi e => ?_, fun x e => ?_⟩
  · simp only [Src.at] at e
    split at e
    · rename_i xs ea
      split at e
      · rename_i hlen
        obtain ⟨vs, h1, r⟩ := R.sqL (.inl ea)
        rw [st.same a hlt] at h1
        refine ⟨vs, h1, ?_⟩
        rw [r.length, hlen]
        simp only [Src.n] at hi
        exact hi.symm
      · cases e
    · cases e
  · simp only [Src.at] at e
    split at e
    · rename_i xs ea
      split at e
      · obtain ⟨vs, h1, r⟩ := R.sqL (.inl ea)
        rw [st.same a hlt] at h1
        have := Option.some.inj e
        rw [Option.map_eq_some_iff] at this
        obtain ⟨y, hy, rfl⟩ := this
        obtain ⟨v, h2, h3⟩ := r.get hy
        refine ⟨⟨vs, v, h1, h2⟩, fun u H' ⟨T, z, o, hu, hT, ho, hH, hz⟩ => ?_⟩
        have := hz vs h1
        rw [h2] at this; cases this
        exact src_pairs R hT ho hH h3 hu
      · cases e
    · cases e
theorem src_enumT {xs : List D} {vs : List V} {a : Addr} (R1 : Rel K w ρ1 G1 H1) (ha : SqN K H1 a vs) (r : RVs K ρ1 G1.n H1 xs vs) : SrcJ K w ρ1 G1 H1 (.enumT xs) (Itv K a) := by
  intro ρ G H i st R
  have ha' := (st.tup _ _ ha).1
  have r' := RVs.stepW st _ _ r
  refine ⟨fun hi e => ⟨vs, ha', ?_⟩, fun x e => ?_⟩
  · simp only [Src.n] at hi; rw [hi, r.length]
  · simp only [Src.at, Option.some.injEq, Option.map_eq_some_iff] at e
    obtain ⟨y, hy, rfl⟩ := e
    obtain ⟨v, h1, h2⟩ := r'.get hy
    refine ⟨⟨vs, v, ha', h1⟩, fun u H' ⟨T, z, o, hu, hT, ho, hH, hz⟩ => ?_⟩
    have := hz vs ha'
    rw [h1] at this; cases this
    exact src_pairs R hT ho hH h2 hu
theorem src_rng {lo : Int} {n : Nat} : SrcJ K w ρ1 G1 H1 (.rng lo 1 n) (Itr lo n) := by
  intro ρ G H i st R
  refine ⟨fun hi e => ?_, fun x e => ?_⟩
  · simp only [Src.n] at hi; rw [hi]; exact Nat.le_refl n
  · simp only [Src.at] at e
    split at e
    · rename_i hl
      cases e
      refine ⟨hl, fun u H' ⟨hH, hy⟩ => ?_⟩
      subst hH
      exact ⟨Stp.refl _ _ _, R, by rw [hy]; show V.int _ = V.int _; rw [Int.mul_one]⟩
    · cases e
theorem src_rngC {lo c : Int} {n : Nat} : SrcJ K w ρ1 G1 H1 (.rng lo c n) (Itc lo c n) := by
  intro ρ G H i st R
  refine ⟨fun hi e => ?_, fun x e => ?_⟩
  · simp only [Src.n] at hi; rw [hi]; exact Nat.le_refl n
  · simp only [Src.at] at e
    split at e
    · rename_i hl
      cases e
      refine ⟨hl, fun u H' ⟨hH, hy⟩ => ?_⟩
      subst hH
      exact ⟨Stp.refl _ _ _, R, hy⟩
    · cases e
theorem RK.keys {ρ : Rho} {n : Nat} {H : Hp} : ∀ {kvs : List (D × D)} {es : List (Int × V × V)}, RK K w ρ n H kvs es → RVs K ρ n H (kvs.map (·.1)) (es.map (·.2.1))
  | _, _, .nil => rfl
  | _, _, .cons r t => ⟨_, _, rfl, r.2.2.2.1, RK.keys t⟩
theorem src_dict {a : Nat} {kvs : List (D × D)} {ep : Nat} {es : List (Int × V × V)} (R1 : Rel K w ρ1 G1 H1) (hg : G1.get a = some (.dct kvs)) (h1 : H1 (ρ1 a) = some (.ext (dictP (ρ1 a) ep es))) (r : RK K w ρ1 G1.n H1 kvs es) : SrcJ K w ρ1 G1 H1 (.dict a kvs) (Itq (ρ1 a) ep (es.map (·.2.1))) := by
  intro ρ G H i st R
  have now : ∀ {k2 : List (D × D)}, G.get a = some (.dct k2) → k2.length = kvs.length → ∃ es', H (ρ1 a) = some (.ext (dictP (ρ1 a) ep es')) ∧ es'.map (·.2.1) = es.map (·.2.1) := by
    intro k2 e hl
    obtain ⟨k3, e3, _, q⟩ := st.dk a kvs hg
    rw [e] at e3; cases e3
    have := q hl ep es h1
    rw [st.same a (Hh.get_lt hg)] at this
    exact this
  have keys := RVs.stepW st _ _ (RK.keys r)
  refine ⟨fun hi e => ?_, fun x e => ?_⟩
  · simp only [Src.at] at e
    split at e
    · rename_i k2 ea
      split at e
      · rename_i hl
        refine ⟨now ea hl, ?_⟩
        simp only [Src.n] at hi
        have := keys.length
        rw [this, hi, List.length_map]
        exact Nat.le_refl _
      · cases e
    · cases e
  · simp only [Src.at] at e
    split at e
    · rename_i k2 ea
      split at e
      · rename_i hl
        have e' : (kvs.map (·.1))[i]? = some x := by rw [List.getElem?_map]; exact Option.some.inj e
        obtain ⟨v, h2, h3⟩ := keys.get e'
        refine ⟨⟨now ea hl, (List.getElem?_eq_some_iff.mp h2).1⟩, fun u H' ⟨hH, hy⟩ => ?_⟩
        subst hH
        rw [h2] at hy; cases hy
        exact ⟨Stp.refl _ _ _, R, h3⟩
      · cases e
    · cases e
end

/-! ### the rules -/
section
variable {fs : List (Str × Nat)} {P : List Fn} {N : List Str} {sc : Scope} {n : Nat} {X : Cx} {C : Cl} {tg : Expr}
theorem i_seq {e : Expr} {ie : E} (he : PE X e (tE X.K X.w C ie)) : PI X tg e (tI X.K X.w C .seq ie) := by
  refine ⟨fun pins s σ H R I ⟨ρ, σd, G, x, sr, G1, R0, S, e1, es, q⟩ => ?_⟩
  refine thn (he.run pins s σ H (fun v H1 => ∃ ρ1, Stp ρ G H ρ1 G1 H1 ∧ Rel X.K X.w ρ1 G1 H1 ∧ RV X.K ρ1 G1.n H1 x v) I ⟨ρ, σd, G, x, G1, R0, S, e1, fun ρ' v H' s' R' r' => ⟨ρ', s', R', r'⟩⟩) fun u s1 ⟨v, H1, I1, r1, ρ1, s0, R1, rx⟩ => ?_
  have qq := fun J h => q ρ1 H1 J s0 R1 h
  cases x with
  | tup xs =>
    simp only [srcOf] at es; cases es
    obtain ⟨a, vs, rfl, ha, rr⟩ := rx
    cases r1
    obtain ⟨its, rv, p, hz⟩ := I1.tuple ha.1
    refine wpAny_pyIter_tuple (show s1.heap.IsTuple a its.toArray from p) ?_
    exact pi_one (tk := s1.toks) I1 _ (turn_tuple a _) ⟨_, Heap.get?_push_size _ rfl, rfl, rfl⟩ (qq _ (src_items R1 ha rr))
  | ref a =>
    obtain ⟨hlt, rfl⟩ := rx
    cases r1
    simp only [srcOf] at es
    have seq : ∀ {xs : List D}, G1.get a = some (.lst xs) ∨ G1.get a = some (.frz xs) → sr = .live a xs.length → wpAny (model X.prog X.w) X.A (pyIter (.ref (ρ1 a))) (PIE X pins σ tg R) X.xe s1 := by
      intro xs h e
      subst e
      obtain ⟨vs, h1, r⟩ := R1.sqL h
      obtain ⟨its, rv, p, hz⟩ := I1.list h1
      refine wpAny_pyIter_list p.isList ?_
      refine pi_one (tk := s1.toks) I1 _ (turn_list (ρ1 a) _) ⟨_, Heap.get?_push_size _ rfl, rfl, rfl⟩ (qq _ ?_)
      rcases src_live (K := X.K) (w := X.w) (ρ1 := ρ1) (G1 := G1) (H1 := H1) (a := a) (n := xs.length) with z | z | z
      · exact z
      · omega
      · exact absurd hlt z
    split at es
    · rename_i xs ea; cases es; exact seq (.inl ea) rfl
    · rename_i xs ea; cases es; exact seq (.inr ea) rfl
    · rename_i kvs ea
      cases es
      obtain ⟨ep, es, h1, rk, dk, sat⟩ := R1.dct ea
      obtain ⟨ds, raw, hl, hs, get⟩ := raw_of I1 h1
      refine wpAny_pyIter_dict_raw hs raw (pi_one (tk := s1.toks) I1 _ (turn_dictQ (ρ1 a) _ ep (es.map (·.2.1))) ⟨_, Heap.get?_push_size _ rfl, rfl, ?_⟩ (qq _ (src_dict R1 ea h1 rk)))
      rw [List.size_toArray, hl, List.length_map]
      rfl
    · cases es
  | _ => simp [srcOf] at es
theorem smallI_ok {i : Int} (h : smallI i = true) : -(2 ^ 62) ≤ i ∧ i < 2 ^ 62 := by
  unfold smallI at h
  simpa using h
theorem PI.none_ok {e : Expr} {t : TI} (h : ∀ σ H R, t σ H R → False) : PI X tg e t := ⟨fun pins s σ H R I q => (h σ H R q).elim⟩
theorem i_rng (g : Gd fs P N sc n X) {as : List Expr} {ia : E} {p pos : Pos} (hg : isGl sc ("range" : Str) = true) (ha : PA X as (tA X.K X.w C ia)) (hs : ∀ e ∈ as, isStar e = false) (hl : ∀ σ G d G', evE C ia σ G = .ok d G' → ∃ ds, d = .tup ds ∧ ds.length = as.length) : PI X tg (.Call (.Name "range" p) as [] pos) (tI X.K X.w C .range ia) := by
  have hm := g.blt "range" (by decide)
  match as, ha, hs, hl with
  | [], _, _, hl =>
    refine PI.none_ok fun σ H R ⟨ρ, σd, G, x, sr, G1, R0, S, e1, es, q⟩ => ?_
    obtain ⟨ds, rfl, hd⟩ := hl _ _ _ _ e1
    match ds, hd with
    | [], _ => simp [srcOf] at es
  | [a], ha, hs, hl =>
    refine PI.weak (pi_range1 (g.gl hg) hm ha (starEach_cons (hs a (by simp)) _ _)) fun σ H R ⟨ρ, σd, G, x, sr, G1, R0, S, e1, es, q⟩ => ?_
    obtain ⟨ds, rfl, hd⟩ := hl _ _ _ _ e1
    match ds, hd with
    | [d], _ =>
      cases d <;> simp only [srcOf] at es <;> try cases es
      rename_i j _
      split at es
      · rename_i hj
        cases es
        refine ⟨ρ, σd, G, [.int j], G1, R0, S, e1, fun ρ1 vs H1 s1 R1 r1 => ?_⟩
        obtain ⟨v, r, rfl, rv, rfl⟩ := r1
        cases rv
        exact ⟨j, rfl, (smallI_ok hj).1, (smallI_ok hj).2, q ρ1 H1 _ s1 R1 src_rng⟩
      · cases es
  | [a, b], ha, hs, hl =>
    refine PI.weak (pi_range2 (g.gl hg) hm ha (by rw [starEach_cons (hs a (by simp)), starEach_cons (hs b (by simp))]; rfl) (starEach_cons (hs b (by simp)) _ _)) fun σ H R ⟨ρ, σd, G, x, sr, G1, R0, S, e1, es, q⟩ => ?_
    obtain ⟨ds, rfl, hd⟩ := hl _ _ _ _ e1
    match ds, hd with
    | [d, d'], _ =>
      cases d <;> cases d' <;> simp only [srcOf] at es <;> try cases es
      rename_i i j _
      split at es
      · rename_i hj
        rw [Bool.and_eq_true] at hj
        cases es
        refine ⟨ρ, σd, G, [.int i, .int j], G1, R0, S, e1, fun ρ1 vs H1 s1 R1 r1 => ?_⟩
        obtain ⟨v, r, rfl, rv, v', r', rfl, rv', rfl⟩ := r1
        cases rv; cases rv'
        exact ⟨i, j, rfl, ⟨(smallI_ok hj.1).1, (smallI_ok hj.1).2, (smallI_ok hj.2).1, (smallI_ok hj.2).2⟩, q ρ1 H1 _ s1 R1 src_rng⟩
      · cases es
  | [a, b, c], ha, hs, hl =>
    refine PI.weak (pi_range3 (g.gl hg) hm ha (starEach_cons (hs a (by simp)) _ _) (backTo_any fun e he => hs e (List.mem_cons_of_mem _ he))) fun σ H R ⟨ρ, σd, G, x, sr, G1, R0, S, e1, es, q⟩ => ?_
    obtain ⟨ds, rfl, hd⟩ := hl _ _ _ _ e1
    match ds, hd with
    | [d, d', d''], _ =>
      cases d <;> cases d' <;> cases d'' <;> simp only [srcOf] at es <;> try cases es
      rename_i i j c _
      split at es
      · rename_i hj
        rw [Bool.and_eq_true, Bool.and_eq_true, decide_eq_true_eq] at hj
        obtain ⟨⟨h1, h2⟩, rfl⟩ := hj
        cases es
        refine ⟨ρ, σd, G, [.int i, .int j, .int (-1)], G1, R0, S, e1, fun ρ1 vs H1 s1 R1 r1 => ?_⟩
        obtain ⟨v, r, rfl, rv, v', r', rfl, rv', v'', r'', rfl, rv'', rfl⟩ := r1
        cases rv; cases rv'; cases rv''
        exact ⟨i, j, -1, _, rfl, RgC.neg (smallI_ok h1).1 (smallI_ok h1).2 (smallI_ok h2).1 (smallI_ok h2).2, q ρ1 H1 _ s1 R1 src_rngC⟩
      · cases es
  | _ :: _ :: _ :: _ :: _, _, _, hl =>
    refine PI.none_ok fun σ H R ⟨ρ, σd, G, x, sr, G1, R0, S, e1, es, q⟩ => ?_
    obtain ⟨ds, rfl, hd⟩ := hl _ _ _ _ e1
    match ds, hd with
    | _ :: _ :: _ :: _ :: _, _ => simp [srcOf] at es
end
end Ev

/-! EvJ: enumerate. -/
namespace Ev
open PySem PySem.Spec
open PyProof.Rows hiding St
open L2
open Sem (wp)
set_option maxHeartbeats 1000000 in
theorem meets_enumerate_newT (l : Addr) (items : Array Value) (n : Nat) (dct : Option Addr) (sl : Array (Option Value)) :
    Meets (Builtin.«enumerate.__new__» ⟨[.type "enumerate", .ref l], []⟩) (fun _ R s => s.heap.get? l = some { cls := .type "tuple", dict := dct, data := .seq items n, slots := sl } ∧
      R (.ok (.ret (.ref (s.heap.push { cls := .type "tuple_iterator", data := .fields #[.ref l, .int 0 0] }).objs.size)))
        { s with heap := (s.heap.push { cls := .type "tuple_iterator", data := .fields #[.ref l, .int 0 0] }).push { cls := .type "enumerate", data := .fields #[.none, .bool false, .ref s.heap.objs.size, rawInt 0, .none, .none] } }) :=
  .of_wp fun prog w A R s h => by
    obtain ⟨hp, g, d, tk, os⟩ := s
    obtain ⟨hl, h⟩ := h
    have hL : hp.IsTuple l items := ⟨_, hl, rfl, n, rfl⟩
    have hsub := sub_enumerate
    wp_walk using wpAny_loadPart' hl, wpAny_pyIter_tuple hL
    refine wpAny_stack_any fun st => wpAny_pure ?_
    split
    · rename_i c _ _ _ _ _
      cases (c == Value.type "enumerate")
      · wp_walk using wpAny_loadPart' hl, wpAny_pyIter_tuple hL
        exact ⟨_, rfl, h⟩
      · wp_walk using wpAny_loadPart' hl, wpAny_pyIter_tuple hL
        exact ⟨_, rfl, h⟩
    · wp_walk using wpAny_loadPart' hl, wpAny_pyIter_tuple hL
      exact ⟨_, rfl, h⟩
section
variable {prog : Program} {w : World} {A : Around} {E : Value → Shared → Prop} {s : Shared}
theorem call_enumerate_tuple {l : Addr} {items : Array Value} {Q : Value → Shared → Prop} (hL : s.heap.IsTuple l items)
    (h : ∀ h', IsEnum h' (s.heap.objs.size + 1) s.heap.objs.size 0 .none → h'.IsTupleIter s.heap.objs.size l 0 → h'.objs.size = s.heap.objs.size + 2 →
      (∀ b o, s.heap.get? b = some o → h'.get? b = some o) → Q (.ref (s.heap.objs.size + 1)) { s with heap := h' }) :
    wpAny (model prog w) A (call (.type "enumerate") [.ref l]) Q E s := by
  obtain ⟨⟨c, dct, dt, sl⟩, hl, hc, n, hd⟩ := hL
  replace hc : c = .type "tuple" := hc
  replace hd : dt = .seq items n := hd
  subst hc hd
  refine callType_new F.called_enumerate (by decide) (F.typeCall_enumerate_1 _) (F.newCall_enumerate_1 _) (fun obj => F.args_object_init_2 obj _) F.entry_enumerate_new
    (meets_enumerate_newT l items n dct sl) ⟨hl, ?_⟩
  have hz : (s.heap.push { cls := .type "tuple_iterator", data := .fields #[.ref l, .int 0 0] }).objs.size = s.heap.objs.size + 1 := Heap.size_push ..
  show _ ∧ _
  rw [hz]
  have he : IsEnum ((s.heap.push { cls := .type "tuple_iterator", data := .fields #[.ref l, .int 0 0] }).push
      { cls := .type "enumerate", data := .fields #[.none, .bool false, .ref s.heap.objs.size, rawInt 0, .none, .none] }) (s.heap.objs.size + 1) s.heap.objs.size 0 .none := by
    have := Heap.get?_push_size (s.heap.push { cls := .type "tuple_iterator", data := .fields #[.ref l, .int 0 0] })
      (o := { cls := .type "enumerate", data := .fields #[.none, .bool false, .ref s.heap.objs.size, rawInt 0, .none, .none] }) rfl
    rw [hz] at this; exact this
  refine ⟨⟨_, he, rfl⟩, h _ he ⟨_, Heap.get?_push_of_some _ (Heap.get?_push_size _ rfl), rfl, rfl⟩ (by rw [Heap.size_push, hz]) fun b o x => Heap.get?_push_of_some _ (Heap.get?_push_of_some _ x)⟩
end
section
variable {fs : List (Str × Nat)} {P : List Fn} {N : List Str} {sc : Scope} {n : Nat} {X : Cx} {C : Cl}
theorem i_enm (g : Gd fs P N sc n X) {as : List Expr} {ia : E} {p pos tpos : Pos} {elts : List Expr} {kk : Nat} (hg : isGl sc ("enumerate" : Str) = true) (ha : PA X as (tA X.K X.w C ia)) (hs : ∀ e ∈ as, isStar e = false) (hl : ∀ σ G d G', evE C ia σ G = .ok d G' → ∃ ds, d = .tup ds ∧ ds.length = as.length) :
    PI X (.Tuple elts kk tpos) (.Call (.Name "enumerate" p) as [] pos) (tI X.K X.w C .enum ia) := by
  have hm := g.blt "enumerate" (by decide)
  match as, ha, hs, hl with
  | [e], ha, hs, hl =>
    refine ⟨fun pins s σ H R I ⟨ρ, σd, G, x, sr, G1, R0, S, e1, es, q⟩ => ?_⟩
    obtain ⟨ds, rfl, hd⟩ := hl _ _ _ _ e1
    match ds, hd with
    | [d], _ =>
      refine Call_ (ld_blt I (g.gl hg) hm boot_enumerate (PyProof.Rows.callWith_type1 (thn (ha.run pos pins s σ H (fun vs H1 => ∃ ρ1, Stp ρ G H ρ1 G1 H1 ∧ Rel X.K X.w ρ1 G1 H1 ∧ RVs X.K ρ1 G1.n H1 [d] vs) I ⟨ρ, σd, G, [d], G1, R0, S, e1, fun ρ1 vs H1 s1 R1 r1 => ⟨ρ1, s1, R1, r1⟩⟩) fun us s1 ⟨vs, H1, I1, r1, q1⟩ => ?_) (starEach_cons (hs e (by simp)) _ _) rfl))
      obtain ⟨ρ1, s0, R1, v, r0, rfl, rx, rfl⟩ := q1
      have qq := fun J h => q ρ1 H1 J s0 R1 h
      cases r1 with
      | cons r rr =>
        cases rr
        have fp : ∀ h' : Heap, h'.objs.size = s1.heap.objs.size + 2 → ∀ b ∈ [s1.heap.objs.size + 1, s1.heap.objs.size], FpOk X pins H1 b := fun h' hsz b hb => by
          have e' : b = s1.heap.objs.size + 1 ∨ b = s1.heap.objs.size := by simpa using hb
          have hle : s1.heap.objs.size ≤ b := by
            rcases e' with z | z
            · rw [z]; exact Nat.le_add_right _ _
            · rw [z]; exact Nat.le_refl _
          exact I1.fpOk hle (I1.hok.fresh hle)
        cases d with
        | tup xs =>
          simp only [srcOf] at es; cases es
          obtain ⟨a, ws, rfl, hta, rr⟩ := rx
          cases r
          obtain ⟨its, rv, p', hz⟩ := I1.tuple hta.1
          have hlt : a < s1.heap.objs.size := by obtain ⟨o, ho, _⟩ := p'; exact Heap.lt_size ho
          refine call_enumerate_tuple (show s1.heap.IsTuple a its.toArray from p') fun h' he hit hsz hk => wpAny_pyIter_enum he ?_
          have I2 : L2.Inv X pins σ H1 { s1 with heap := h' } := I1.kept (t' := s1.toks) hk
          exact ⟨s1.heap.objs.size + 1, [s1.heap.objs.size + 1, s1.heap.objs.size], _, _, H1, rfl, I2, turn_enumT a (s1.heap.objs.size + 1) s1.heap.objs.size, ⟨⟨.none, he⟩, hit, Nat.succ_ne_self _, Ne.symm (Nat.ne_of_lt (Nat.lt_succ_of_lt hlt)), Nat.ne_of_lt hlt⟩, fp h' hsz, qq _ (src_enumT R1 hta rr)⟩
        | ref a =>
          obtain ⟨hlt, rfl⟩ := rx
          cases r
          simp only [srcOf] at es
          split at es
          · rename_i xs ea
            cases es
            obtain ⟨vs, h1, rr⟩ := R1.sqL (.inl ea)
            obtain ⟨its, rv, p', hz⟩ := I1.list h1
            have halt : ρ1 a < s1.heap.objs.size := by obtain ⟨o, ho, _⟩ := p'.isList; exact Heap.lt_size ho
            refine call_enumerate_list p'.isList fun h' he hit hsz hk => wpAny_pyIter_enum he ?_
            have I2 : L2.Inv X pins σ H1 { s1 with heap := h' } := I1.kept (t' := s1.toks) hk
            exact ⟨s1.heap.objs.size + 1, [s1.heap.objs.size + 1, s1.heap.objs.size], _, _, H1, rfl, I2, turn_enumL (ρ1 a) (s1.heap.objs.size + 1) s1.heap.objs.size, ⟨⟨.none, he⟩, hit, Nat.succ_ne_self _, Ne.symm (Nat.ne_of_lt (Nat.lt_succ_of_lt halt)), Nat.ne_of_lt halt⟩, fp h' hsz, qq _ (src_enumL hlt)⟩
          · cases es
        | _ => simp [srcOf] at es
  | [], _, _, hl =>
    refine PI.none_ok fun σ H R ⟨ρ, σd, G, x, sr, G1, R0, S, e1, es, q⟩ => ?_
    obtain ⟨ds, rfl, hd⟩ := hl _ _ _ _ e1
    match ds, hd with
    | [], _ => simp [srcOf] at es
  | _ :: _ :: _, _, _, hl =>
    refine PI.none_ok fun σ H R ⟨ρ, σd, G, x, sr, G1, R0, S, e1, es, q⟩ => ?_
    obtain ⟨ds, rfl, hd⟩ := hl _ _ _ _ e1
    match ds, hd with
    | _ :: _ :: _, _ => simp [srcOf] at es
end
end Ev

/-! EvQ: comprehensions. -/
namespace Ev
open PySem PySem.Spec
open PyProof.Rows hiding St
open L2
open Sem (wp)
section
variable {K : PySem.W.Frag} {w : World} {ρ ρ' ρ1 : Rho} {G G' G1 : Hh} {H H' H1 : Hp}
mutual
theorem RV.chg (h1 : ∀ a vs, SqN K H a vs → SqN K H' a vs) {n : Nat} : ∀ (d : D) (v : V), RV K ρ n H d v → RV K ρ n H' d v
  | .und, _, h => h
  | .non, _, h => h
  | .bl _, _, h => h
  | .int _, _, h => h
  | .str _, _, h => h
  | .ref a, v, h => h
  | .tup xs, v, h => by
    obtain ⟨a, vs, e, q, r⟩ := h
    exact ⟨a, vs, e, h1 a vs q, RVs.chg h1 xs vs r⟩
theorem RVs.chg (h1 : ∀ a vs, SqN K H a vs → SqN K H' a vs) {n : Nat} : ∀ (ds : List D) (vs : List V), RVs K ρ n H ds vs → RVs K ρ n H' ds vs
  | [], _, h => h
  | d :: ds, vs, h => by
    obtain ⟨v, r, e, a, b⟩ := h
    exact ⟨v, r, e, RV.chg h1 d v a, RVs.chg h1 ds r b⟩
end
theorem RK.chg (h1 : ∀ a vs, SqN K H a vs → SqN K H' a vs) {n : Nat} {kvs : List (D × D)} {es : List (Int × V × V)} (h : RK K w ρ n H kvs es) : RK K w ρ n H' kvs es :=
  Paired.mapP h fun p e q => ⟨q.1, q.2.1, q.2.2.1, RV.chg h1 _ _ q.2.2.2.1, RV.chg h1 _ _ q.2.2.2.2⟩
theorem Rel.chg (R : Rel K w ρ G H) (h1 : ∀ a vs, SqN K H a vs → SqN K H' a vs) (h2 : ∀ i, mutAt G i → H' (ρ i) = H (ρ i)) (h3 : ∀ b o x, H b = some (.frz o x) → H' b = some (.frz o x)) : Rel K w ρ G H' := by
  refine ⟨fun i u e => ?_, R.inj⟩
  have q := R.ob i u e
  cases u with
  | lst xs =>
    obtain ⟨vs, h, r⟩ := q
    exact ⟨vs, by rw [h2 i ⟨_, e, rfl⟩]; exact h, RVs.chg h1 _ _ r⟩
  | frz xs =>
    obtain ⟨vs, h, r⟩ := q
    refine ⟨vs, ?_, RVs.chg h1 _ _ r⟩
    rcases h with ⟨z, h⟩ | h
    · exact .inl ⟨z, h3 _ _ _ h⟩
    · exact .inr h
  | dct kvs =>
    obtain ⟨ep, es, h, r, dk⟩ := q
    exact ⟨ep, es, by rw [h2 i ⟨_, e, rfl⟩]; exact h, RK.chg h1 r, dk⟩
  | ins c fs => exact q
/-- what is written at D, which was none or a list, leaves the tuples -/
theorem sqT_side {L : Addr} {o : HO} (hD : H L = none ∨ ∃ vs, H L = some (.lst vs)) (a : Addr) (vs : List V) (h : SqN K H a vs) : SqN K (upd H L o) a vs := by
  have ne : ∀ {x : HO}, H a = some x → (∀ vs, x ≠ .lst vs) → a ≠ L := fun e hx z => by
    subst z
    rcases hD with q | ⟨vs, q⟩
    · rw [q] at e; cases e
    · rw [q] at e; cases e; exact hx _ rfl
  refine ⟨?_, ?_⟩
  · rcases h.1 with (h | ⟨x, h⟩) | h
    · exact .inl (.inl (by rw [upd_ne (ne h fun _ z => by cases z)]; exact h))
    · exact .inl (.inr ⟨x, by rw [upd_ne (ne h fun _ z => by cases z)]; exact h⟩)
    · exact .inr h
  · rcases h.2 with ⟨x, h, hd⟩ | h
    · exact .inl ⟨x, by rw [upd_ne (ne h fun _ z => by cases z)]; exact h, hd⟩
    · exact .inr h
theorem frz_side {L : Addr} {o : HO} (hD : H L = none ∨ ∃ vs, H L = some (.lst vs)) (b : Addr) (x : Obj) (y : HO) (h : H b = some (.frz x y)) : upd H L o b = some (.frz x y) := by
  have : b ≠ L := fun z => by
    subst z
    rcases hD with q | ⟨vs, q⟩ <;> (rw [q] at h; cases h)
  rw [upd_ne this]; exact h
theorem Rel.side (R : Rel K w ρ G H) {L : Addr} {o : HO} (hD : H L = none ∨ ∃ vs, H L = some (.lst vs)) (out : ∀ i, mutAt G i → ρ i ≠ L) : Rel K w ρ G (upd H L o) :=
  R.chg (sqT_side hD) (fun i m => upd_ne (out i m)) (frz_side hD)
theorem Stp.side (s : Stp ρ1 G1 H1 ρ G H) {L : Addr} {o : HO} (hD : H1 L = none) (out : ∀ i, mutAt G i → ρ i ≠ L) : Stp ρ1 G1 H1 ρ G (upd H L o) where
  le := s.le
  same := s.same
  keep := fun b x e n => by
    rw [upd_ne (ne_of_none e hD)]; exact s.keep b x e n
  mutk := s.mutk
  new := s.new
  dom := fun b h => by
    by_cases hb : b = L
    · subst hb; exact hD
    · rw [upd_ne hb] at h; exact s.dom b h
  dk := fun i kvs e => by
    obtain ⟨k', e', l, q⟩ := s.dk i kvs e
    refine ⟨k', e', l, fun hl ep es h => ?_⟩
    obtain ⟨es', h', m⟩ := q hl ep es h
    exact ⟨es', by rw [upd_ne (out i ⟨_, e', rfl⟩)]; exact h', m⟩
theorem Stp.out (s : Stp ρ G H ρ' G' H') {L : Addr} {o : HO} (hD : H L = some o) (out : ∀ i, mutAt G i → ρ i ≠ L) : H' L = some o ∧ ∀ i, mutAt G' i → ρ' i ≠ L :=
  ⟨s.keep L o hD out, fun i m z => by
    by_cases hi : i < G.n
    · rw [s.same i hi] at z; exact out i (s.mutk i hi m) z
    · have := s.new i (by omega) m
      rw [z, hD] at this; cases this⟩
mutual
theorem RV.put {L : Addr} {n : Nat} : ∀ (d : D) (v : V), RV K ρ n H d v → RV K (ρ.put n L) (n + 1) H d v
  | .und, _, h => h
  | .non, _, h => h
  | .bl _, _, h => h
  | .int _, _, h => h
  | .str _, _, h => h
  | .ref a, v, h => by
    obtain ⟨h1, h2⟩ := h
    exact ⟨Nat.lt_succ_of_lt h1, by rw [Rho.put_ne (Nat.ne_of_lt h1)]; exact h2⟩
  | .tup xs, v, h => by
    obtain ⟨a, vs, e, q, r⟩ := h
    exact ⟨a, vs, e, q, RVs.put xs vs r⟩
theorem RVs.put {L : Addr} {n : Nat} : ∀ (ds : List D) (vs : List V), RVs K ρ n H ds vs → RVs K (ρ.put n L) (n + 1) H ds vs
  | [], _, h => h
  | d :: ds, vs, h => by
    obtain ⟨v, r, e, a, b⟩ := h
    exact ⟨v, r, e, RV.put d v a, RVs.put ds r b⟩
end
/-- the state of a comprehension: the list at D has acc -/
structure CS (K : PySem.W.Frag) (w : World) (ρ1 : Rho) (G1 : Hh) (H1 : Hp) (L : Addr) (ρ : Rho) (G : Hh) (H : Hp) (acc : List D) : Prop where
  no : H1 L = none
  st : Stp ρ1 G1 H1 ρ G H
  rel : Rel K w ρ G H
  out : ∀ i, mutAt G i → ρ i ≠ L
  at' : ∃ vs, H L = some (.lst vs) ∧ RVs K ρ G.n H acc vs
theorem CS.init {L : Addr} (R : Rel K w ρ1 G1 H1) (hD : H1 L = none) : CS K w ρ1 G1 H1 L ρ1 G1 (upd H1 L (.lst [])) [] := by
  have out : ∀ i, mutAt G1 i → ρ1 i ≠ L := fun i m z => by
    obtain ⟨o, e, _⟩ := R.isMut m
    rw [z, hD] at e; cases e
  exact ⟨hD, (Stp.refl ρ1 G1 H1).side hD out, R.side (.inl hD) out, out, [], upd_same, rfl⟩
theorem CS.step {L : Addr} {acc : List D} (c : CS K w ρ1 G1 H1 L ρ G H acc) (s : Stp ρ G H ρ' G' H') (R : Rel K w ρ' G' H') : CS K w ρ1 G1 H1 L ρ' G' H' acc := by
  obtain ⟨vs, h, r⟩ := c.at'
  obtain ⟨h', out⟩ := s.out h c.out
  exact ⟨c.no, c.st.trans s, R, out, vs, h', RVs.step c.rel s _ _ r⟩
theorem CS.push {L : Addr} {acc : List D} {y : D} {v : V} {vs : List V} (c : CS K w ρ1 G1 H1 L ρ G H acc) (h : H L = some (.lst vs)) (r : RV K ρ G.n H y v) : CS K w ρ1 G1 H1 L ρ G (upd H L (.lst (vs ++ [v]))) (acc ++ [y]) := by
  obtain ⟨vs', h', rr⟩ := c.at'
  rw [h] at h'; cases h'
  exact ⟨c.no, c.st.side c.no c.out, c.rel.side (.inr ⟨vs, h⟩) c.out, c.out, _, upd_same, (RVs.chg (sqT_side (.inr ⟨vs, h⟩)) _ _ rr).append (RVs.one (RV.chg (sqT_side (.inr ⟨vs, h⟩)) _ _ r))⟩
theorem CS.fin {L : Addr} {acc : List D} (c : CS K w ρ1 G1 H1 L ρ G H acc) : Stp ρ1 G1 H1 (ρ.put G.n L) (G.new (.lst acc)) H ∧ Rel K w (ρ.put G.n L) (G.new (.lst acc)) H ∧ RV K (ρ.put G.n L) (G.new (.lst acc)).n H (.ref G.n) (.ref L) := by
  obtain ⟨vs, h, r⟩ := c.at'
  have st : Stp ρ1 G1 H1 (ρ.put G.n L) (G.new (.lst acc)) H := by
    refine ⟨Nat.le_trans c.st.le (Nat.le_succ _), fun i hi => by rw [Rho.put_ne (by have := c.st.le; omega)]; exact c.st.same i hi, c.st.keep, fun i hi m => c.st.mutk i hi ?_, fun i hi m => ?_, c.st.dom, fun i kvs e => ?_⟩
    · obtain ⟨o, e, im⟩ := m
      rw [Hh.get_new_lt _ (by have := c.st.le; omega)] at e
      exact ⟨o, e, im⟩
    · by_cases hn : i = G.n
      · subst hn; rw [Rho.put_self]; exact c.no
      · rw [Rho.put_ne hn]
        have hl : i < G.n + 1 := m.lt
        obtain ⟨o, e, im⟩ := m
        rw [Hh.get_new_lt _ (by omega)] at e
        exact c.st.new i hi ⟨o, e, im⟩
    · obtain ⟨k', e', l, q⟩ := c.st.dk i kvs e
      have hi := Hh.get_lt e'
      exact ⟨k', by rw [Hh.get_new_lt _ hi]; exact e', l, fun hl ep es h => by
        obtain ⟨es', h', m⟩ := q hl ep es h
        exact ⟨es', by rw [Rho.put_ne (by omega)]; exact h', m⟩⟩
  refine ⟨st, ⟨fun i u e => ?_, fun i j mi mj e => ?_⟩, Nat.lt_succ_self _, by rw [Rho.put_self]⟩
  · rcases Hh.get_new e with ⟨hi, e⟩ | ⟨rfl, rfl⟩
    · have q := c.rel.ob i u e
      have hne : (ρ.put G.n L) i = ρ i := Rho.put_ne (by omega)
      cases u with
      | lst xs => obtain ⟨vs, h, r⟩ := q; exact ⟨vs, by rw [hne]; exact h, RVs.put _ _ r⟩
      | frz xs => obtain ⟨vs, h, r⟩ := q; exact ⟨vs, by rw [hne]; exact h, RVs.put _ _ r⟩
      | dct kvs => obtain ⟨ep, es, h, r, dk, sat⟩ := q; exact ⟨ep, es, by rw [hne]; exact h, Paired.mapP r fun p e q => ⟨q.1, q.2.1, q.2.2.1, RV.put _ _ q.2.2.2.1, RV.put _ _ q.2.2.2.2⟩, dk, by rw [hne]; exact sat⟩
      | ins c fs => exact q
    · exact ⟨vs, by rw [Rho.put_self]; exact h, RVs.put _ _ r⟩
  · have hi : i < G.n + 1 := mi.lt
    have hj : j < G.n + 1 := mj.lt
    have old : ∀ i, i < G.n → mutAt (G.new (.lst acc)) i → mutAt G i := fun i h m => by
      obtain ⟨v, e, im⟩ := m
      rw [Hh.get_new_lt _ h] at e
      exact ⟨v, e, im⟩
    by_cases hin : i = G.n
    · by_cases hjn : j = G.n
      · omega
      · subst hin
        rw [Rho.put_self, Rho.put_ne hjn] at e
        exact absurd e.symm (c.out j (old j (by omega) mj))
    · by_cases hjn : j = G.n
      · subst hjn
        rw [Rho.put_self, Rho.put_ne hin] at e
        exact absurd e (c.out i (old i (by omega) mi))
      · rw [Rho.put_ne hin, Rho.put_ne hjn] at e
        exact c.rel.inj i j (old i (by omega) mi) (old j (by omega) mj) e
end
end Ev

/-! EvQ2: list comprehensions. -/
namespace Ev
open PySem PySem.Spec
open PyProof.Rows hiding St
open L2
open Sem (wp)
theorem pushM_ok {acc acc' : List D} {y : D} {G G' : Hh} : pushM acc y G = .ok acc' G' ↔ acc.length < sizeMax ∧ acc ++ [y] = acc' ∧ G = G' := by
  unfold pushM
  split
  · simp [M.pure_ok, *]
  · simp [M.bad_ok, *]
/-! ### slots forgotten -/
theorem wipeD_length (σ : List D) : ∀ vs, (wipeD σ vs).length = σ.length
  | [] => rfl
  | v :: vs => by unfold wipeD; rw [List.length_set, wipeD_length σ vs]
theorem wipe_get (σ : St) : ∀ (vs : List Nat) (i : Nat), (wipe σ vs)[i]? = if i ∈ vs then (if i < σ.length then some none else none) else σ[i]?
  | [], i => by rw [if_neg (by simp)]; rfl
  | v :: vs, i => by
    unfold wipe
    rw [List.getElem?_set, wipe_length]
    by_cases h : v = i
    · subst h
      rw [if_pos rfl, if_pos List.mem_cons_self]
    · rw [if_neg h, wipe_get σ vs i]
      have : (i ∈ v :: vs) ↔ i ∈ vs := by
        rw [List.mem_cons]
        exact ⟨fun z => z.resolve_left fun q => h q.symm, .inr⟩
      simp only [this]
theorem wipe_only {σ σ' : St} {l vs : List Nat} (o : Only l (wipe σ vs) σ') (h : ∀ i ∈ l, i ∈ vs) : wipe σ' vs = wipe σ vs := by
  have hl : σ'.length = σ.length := by rw [o.1, wipe_length]
  apply List.ext_getElem?
  intro i
  rw [wipe_get, wipe_get, hl]
  by_cases hi : i ∈ vs
  · rw [if_pos hi, if_pos hi]
  · rw [if_neg hi, if_neg hi, o.2 i fun z => hi (h i z), wipe_get, if_neg hi]
theorem RS.wipe {K : PySem.W.Frag} {ρ : Rho} {m : Nat} {H : Hp} {σd : List D} {σ : St} (S : RS K ρ m H σd σ) : ∀ vs, RS K ρ m H (wipeD σd vs) (wipe σ vs)
  | [] => S
  | v :: vs => by
    have ih := RS.wipe S vs
    unfold wipeD L2.wipe
    refine ⟨by rw [List.length_set, List.length_set]; exact ih.1, fun i d hd hn => ?_⟩
    rw [List.getElem?_set] at hd ⊢
    by_cases h : v = i
    · subst h
      rw [if_pos rfl] at hd
      split at hd
      · cases hd; exact absurd rfl hn
      · cases hd
    · rw [if_neg h] at hd ⊢
      exact ih.2 i d hd hn
/-! ### tests of a comprehension -/
def tIfs (K : PySem.W.Frag) (w : World) (C : Cl) (hc : Bool) (c : E) : TT := fun σ H Q => ∃ ρ σd G G' b, Rel K w ρ G H ∧ RS K ρ G.n H σd σ ∧ (if hc then M.bind (evE C c σd) truthM else M.pure true) G = .ok b G' ∧ After K w ρ G H G' fun _ H' => Q b H'
theorem PTs.weak {X : Cx} {e : List Expr} {t t' : TT} (h : PTs X e t) (hw : ∀ σ H Q, t' σ H Q → t σ H Q) : PTs X e t' := ⟨fun pins s σ H Q I q => h.run pins s σ H Q I (hw σ H Q q)⟩
section
variable {X : Cx} {C : Cl}
theorem ifs_nil {c : E} : PTs X [] (tIfs X.K X.w C false c) := PTs.weak pts_nil fun σ H Q ⟨ρ, σd, G, G', b, R, S, e, q⟩ => by
  simp only [Bool.false_eq_true, if_false, M.pure_ok] at e
  obtain ⟨rfl, rfl⟩ := e
  exact q ρ H (Stp.refl _ _ _) R
theorem ifs_one {e : Expr} {c : E} (h : PT X e (tT X.K X.w C c)) : PTs X [e] (tIfs X.K X.w C true c) := PTs.weak (pts_one h) fun σ H Q ⟨ρ, σd, G, G', b, R, S, e, q⟩ => by
  simp only [if_true, M.bind_ok, truthM_ok] at e
  obtain ⟨d, G1, e1, ht, rfl⟩ := e
  exact ⟨ρ, σd, G, d, G1, b, R, S, e1, ht, q⟩

theorem q_comp {elt tg it : Expr} {ifs : List Expr} {so : Scope} {own : List (Str × Nat)} {pos : Pos} {k : Ik} {ie c e : E} {t : T} {hc : Bool} (hcalm : X.calm = true) (hN : X.N.Nodup) (hi : PI X tg it (tI X.K X.w C k ie)) (ok : BlkOk X.N X.env.scope so own)
    (hg : ∀ (s : Shared) (H : Hp) (B : Addr) (cl : List (Str × Addr)) (fp : List Addr), PG (X.blk s H so (compEnvC so cl B X.env) fp) tg (tG X.K X.w t)) (ht : ∀ (s : Shared) (H : Hp) (B : Addr) (cl : List (Str × Addr)) (fp : List Addr), PTs (X.blk s H so (compEnvC so cl B X.env) fp) ifs (tIfs X.K X.w C hc c))
    (he : ∀ (s : Shared) (H : Hp) (B : Addr) (cl : List (Str × Addr)) (fp : List Addr), PE (X.blk s H so (compEnvC so cl B X.env) fp) elt (tE X.K X.w C e)) (hs : ∀ x, foldedSetIterable it X.env x = pure x) (hw : ∀ i ∈ t.slots, i ∈ own.map (·.2)) :
    (∀ {σ : St} {H : Hp} {Q : VK}, tE X.K X.w C (.comp (own.map (·.2)) k ie t hc c e) σ H Q → tLc (tI X.K X.w C k ie) (tG X.K X.w t) (tIfs X.K X.w C hc c) (tE X.K X.w C e) (own.map (·.2)) σ H Q) := by
  intro σ H Q ⟨ρ, σd, G, d, G', R, S, ee, q⟩
  simp only [evE, M.bind_ok, rd_ok, alloc_ok] at ee
  obtain ⟨x, G1, e1, sr, _, ⟨es, rfl⟩, ys, G2, e2, rfl, rfl⟩ := ee
  refine ⟨ρ, σd, G, x, sr, G1, R, S, e1, es, fun ρ1 H1 J s1 R1 sj L hL => ?_⟩
  generalize hF : (fun (σ' : List D) (acc : List D) => M.bind (if hc then M.bind (evE C c σ') truthM else M.pure true) fun b => if b then M.bind (evE C e σ') fun y => pushM acc y else M.pure acc) = F at e2
  refine ⟨fun i m H2 => ∃ ρ2 G2' acc, CS X.K X.w ρ1 G1 H1 L ρ2 G2' H2 acc ∧ i + m = sr.n ∧ compN sr t (wipeD σd (own.map (·.2))) F m i acc G2' = .ok ys G2, ⟨sr.n, ρ1, G1, [], CS.init R1 hL, by omega, e2⟩, ?_⟩
  rintro i m H2 ⟨ρ2, G2', acc, cs, him, ec⟩
  have SW : RS X.K ρ2 G2'.n H2 (wipeD σd (own.map (·.2))) (wipe σ (own.map (·.2))) := by
    have a := RS.step R1 cs.st ((RS.step R s1 S).wipe (own.map (·.2)))
    exact a
  obtain ⟨j1, j2⟩ := sj ρ2 G2' H2 i (cs.st.w R1) cs.rel
  cases m with
  | zero =>
    simp only [compN] at ec
    split at ec
    · rename_i ha
      cases ec
      obtain ⟨f1, f2, f3⟩ := cs.fin
      exact .inl ⟨j1 (by omega) ha, q _ _ _ (s1.trans f1) f2 f3⟩
    · cases ec
  | succ m =>
    simp only [compN] at ec
    split at ec
    · rename_i y ha
      obtain ⟨g1, g2⟩ := j2 y ha
      split at ec
      · rename_i σn hσ
        refine .inr ⟨g1, fun H' => ∃ ρ3 G3 acc', CS X.K X.w ρ1 G1 H1 L ρ3 G3 H' acc' ∧ compN sr t (wipeD σd (own.map (·.2))) F m (i + 1) acc' G3 = .ok ys G2, fun H' ⟨ρ3, G3, acc', c3, e3⟩ => ⟨m, Nat.lt_succ_self m, ρ3, G3, acc', c3, by omega, e3⟩, fun v H' hy => ?_⟩
        obtain ⟨st, R3, rv⟩ := g2 v H' hy
        have c3 := cs.step st R3
        refine ⟨ρ2, _, G2', y, σn, R3, RS.step cs.rel st SW, rv, hσ, fun σ' S' o' => ⟨wipe_only o' hw, ?_⟩⟩
        cases hf : F σn acc G2' with
        | bad => rw [hf] at ec; cases ec
        | ex a b c => rw [hf] at ec; cases ec
        | ok acc2 G4 =>
          rw [hf] at ec
          rw [← hF] at hf
          simp only [M.bind_ok] at hf
          obtain ⟨b, G5, hb, hf⟩ := hf
          refine ⟨ρ2, σn, G2', G5, b, R3, S', hb, fun ρ4 H4 s4 R4 => ?_⟩
          cases b with
          | false =>
            simp only [Bool.false_eq_true, if_false, M.pure_ok] at hf ⊢
            obtain ⟨rfl, rfl⟩ := hf
            exact ⟨ρ4, G5, acc, c3.step s4 R4, ec⟩
          | true =>
            simp only [if_true, M.bind_ok, pushM_ok] at hf ⊢
            obtain ⟨z, G6, ez, hlen, rfl, rfl⟩ := hf
            refine ⟨ρ4, σn, G5, z, G6, R4, RS.step R3 s4 S', ez, fun ρ5 u H5 s5 R5 r5 => ?_⟩
            have c5 := (c3.step s4 R4).step s5 R5
            obtain ⟨vs, h5, r6⟩ := c5.at'
            exact ⟨vs, h5, by rw [r6.length, ← sizeMax_eq]; exact hlen, ρ5, G6, acc ++ [z], c5.push h5 r5, ec⟩
      · cases ec
    · cases ec
theorem q_comp2 {own : List (Str × Nat)} {k k1 : Ik} {ie ie1 c c1 e : E} {t t1 : T} {hc hc1 : Bool} (hw : ∀ i ∈ t.slots, i ∈ own.map (·.2)) :
    (∀ {σ : St} {H : Hp} {Q : VK}, tE X.K X.w C (.comp2 (own.map (·.2)) t1.slots k ie t hc c k1 ie1 t1 hc1 c1 e) σ H Q →
      tLc2 (tI X.K X.w C k ie) (tG X.K X.w t) (tIfs X.K X.w C hc c) (tI X.K X.w C k1 ie1) (tG X.K X.w t1) (tIfs X.K X.w C hc1 c1) (tE X.K X.w C e) (own.map (·.2)) t1.slots σ H Q) := by
  intro σ H Q ⟨ρ, σd, G, d, G', R, S, ee, q⟩
  simp only [evE, M.bind_ok, rd_ok, alloc_ok] at ee
  obtain ⟨x, G1, e1, sr, _, ⟨es, rfl⟩, ys, G2, e2, rfl, rfl⟩ := ee
  refine ⟨ρ, σd, G, x, sr, G1, R, S, e1, es, fun ρ1 H1 J s1 R1 sj L hL => ?_⟩
  generalize hF1 : (fun (σ2 : List D) (acc : List D) => M.bind (if hc1 then M.bind (evE C c1 σ2) truthM else M.pure true) fun b1 => if b1 then M.bind (evE C e σ2) fun y => pushM acc y else M.pure acc) = F1 at e2
  generalize hF : (fun (σ' : List D) (acc : List D) => M.bind (if hc then M.bind (evE C c σ') truthM else M.pure true) fun b => if b then M.bind (evE C ie1 σ') fun x1 => M.bind (rd (srcOf k1 x1)) fun s1 => compN s1 t1 (wipeD σ' t1.slots) F1 s1.n 0 acc else M.pure acc) = F at e2
  refine ⟨fun i m H2 => ∃ ρ2 G2' acc, CS X.K X.w ρ1 G1 H1 L ρ2 G2' H2 acc ∧ i + m = sr.n ∧ compN sr t (wipeD σd (own.map (·.2))) F m i acc G2' = .ok ys G2, ⟨sr.n, ρ1, G1, [], CS.init R1 hL, by omega, e2⟩, ?_⟩
  rintro i m H2 ⟨ρ2, G2', acc, cs, him, ec⟩
  have SW : RS X.K ρ2 G2'.n H2 (wipeD σd (own.map (·.2))) (wipe σ (own.map (·.2))) := by
    have a := RS.step R1 cs.st ((RS.step R s1 S).wipe (own.map (·.2)))
    exact a
  obtain ⟨j1, j2⟩ := sj ρ2 G2' H2 i (cs.st.w R1) cs.rel
  cases m with
  | zero =>
    simp only [compN] at ec
    split at ec
    · rename_i ha
      cases ec
      obtain ⟨f1, f2, f3⟩ := cs.fin
      exact .inl ⟨j1 (by omega) ha, q _ _ _ (s1.trans f1) f2 f3⟩
    · cases ec
  | succ m =>
    simp only [compN] at ec
    split at ec
    · rename_i y ha
      obtain ⟨g1, g2⟩ := j2 y ha
      split at ec
      · rename_i σn hσ
        refine .inr ⟨g1, fun H' => ∃ ρ3 G3 acc', CS X.K X.w ρ1 G1 H1 L ρ3 G3 H' acc' ∧ compN sr t (wipeD σd (own.map (·.2))) F m (i + 1) acc' G3 = .ok ys G2, fun H' ⟨ρ3, G3, acc', c3, e3⟩ => ⟨m, Nat.lt_succ_self m, ρ3, G3, acc', c3, by omega, e3⟩, fun v H' hy => ?_⟩
        obtain ⟨st, R3, rv⟩ := g2 v H' hy
        have c3 := cs.step st R3
        refine ⟨ρ2, _, G2', y, σn, R3, RS.step cs.rel st SW, rv, hσ, fun σ' S' o' => ⟨wipe_only o' hw, ?_⟩⟩
        cases hf : F σn acc G2' with
        | bad => rw [hf] at ec; cases ec
        | ex a b c => rw [hf] at ec; cases ec
        | ok acc2 G4 =>
          rw [hf] at ec
          rw [← hF] at hf
          simp only [M.bind_ok] at hf
          obtain ⟨b, G5, hb, hf⟩ := hf
          refine ⟨ρ2, σn, G2', G5, b, R3, S', hb, fun ρ4 H4 s4 R4 => ?_⟩
          cases b with
          | false =>
            simp only [Bool.false_eq_true, if_false, M.pure_ok] at hf ⊢
            obtain ⟨rfl, rfl⟩ := hf
            exact ⟨ρ4, G5, acc, c3.step s4 R4, ec⟩
          | true =>
            simp only [if_true, M.bind_ok, rd_ok] at hf ⊢
            obtain ⟨x1, G6, ex1, sr1, _, ⟨es1, rfl⟩, hf⟩ := hf
            refine ⟨ρ4, σn, G5, x1, sr1, G6, R4, RS.step R3 s4 S', ex1, es1, fun ρ5 H5 J1 s5 R5 sj1 => ?_⟩
            have c5 := (c3.step s4 R4).step s5 R5
            have S5 := RS.step R4 s5 (RS.step R3 s4 S')
            refine ⟨fun j k H6 => ∃ ρ6 G6' acc6, StpW X.K ρ5 G6 H5 ρ6 G6' H6 ∧ CS X.K X.w ρ1 G1 H1 L ρ6 G6' H6 acc6 ∧ RS X.K ρ6 G6'.n H6 σn σ' ∧ j + k = sr1.n ∧ compN sr1 t1 (wipeD σn t1.slots) F1 k j acc6 G6' = .ok acc2 G4, ⟨sr1.n, ρ5, G6, acc, (Stp.refl ρ5 G6 H5).w R5, c5, S5, by omega, hf⟩, ?_⟩
            rintro j k H6 ⟨ρ6, G6', acc6, w6, c6, S6, hjk, ek⟩
            obtain ⟨i1, i2⟩ := sj1 ρ6 G6' H6 j w6 c6.rel
            cases k with
            | zero =>
              simp only [compN] at ek
              split at ek
              · rename_i ha1
                cases ek
                exact .inl ⟨i1 (by omega) ha1, ρ6, _, acc2, c6, ec⟩
              · cases ek
            | succ k =>
              simp only [compN] at ek
              split at ek
              · rename_i y1 ha1
                obtain ⟨g3, g4⟩ := i2 y1 ha1
                split at ek
                · rename_i σn1 hσ1
                  refine .inr ⟨g3, fun H' => ∃ ρ7 G7 acc7, StpW X.K ρ5 G6 H5 ρ7 G7 H' ∧ CS X.K X.w ρ1 G1 H1 L ρ7 G7 H' acc7 ∧ RS X.K ρ7 G7.n H' σn σ' ∧ compN sr1 t1 (wipeD σn t1.slots) F1 k (j + 1) acc7 G7 = .ok acc2 G4, fun H' ⟨ρ7, G7, acc7, w7, c7, S7, e7⟩ => ⟨k, Nat.lt_succ_self k, ρ7, G7, acc7, w7, c7, S7, by omega, e7⟩, fun v1 H' hy1 => ?_⟩
                  obtain ⟨st1, R7, rv1⟩ := g4 v1 H' hy1
                  have c7 := c6.step st1 R7
                  have S7 := RS.step c6.rel st1 S6
                  refine ⟨ρ6, _, G6', y1, σn1, R7, S7.wipe _, rv1, hσ1, fun σ7 S8 o7 => ⟨wipe_only o7 fun i hi => hi, ?_⟩⟩
                  cases hf7 : F1 σn1 acc6 G6' with
                  | bad => rw [hf7] at ek; cases ek
                  | ex a b c => rw [hf7] at ek; cases ek
                  | ok acc8 G8 =>
                    rw [hf7] at ek
                    rw [← hF1] at hf7
                    simp only [M.bind_ok] at hf7
                    obtain ⟨b1, G9, hb1, hf7⟩ := hf7
                    refine ⟨ρ6, σn1, G6', G9, b1, R7, S8, hb1, fun ρ8 H8 s8 R8 => ?_⟩
                    have w8 : StpW X.K ρ5 G6 H5 ρ8 G9 H8 := (w6.trans (st1.w c6.rel)).trans (s8.w R7)
                    cases b1 with
                    | false =>
                      simp only [Bool.false_eq_true, if_false, M.pure_ok] at hf7 ⊢
                      obtain ⟨rfl, rfl⟩ := hf7
                      exact ⟨ρ8, G9, acc6, w8, c7.step s8 R8, RS.step R7 s8 S7, ek⟩
                    | true =>
                      simp only [if_true, M.bind_ok, pushM_ok] at hf7 ⊢
                      obtain ⟨z, G10, ez, hlen, rfl, rfl⟩ := hf7
                      refine ⟨ρ8, σn1, G9, z, G10, R8, RS.step R7 s8 S8, ez, fun ρ9 u H9 s9 R9 r9 => ?_⟩
                      have c9 := (c7.step s8 R8).step s9 R9
                      have S9 := RS.step R8 s9 (RS.step R7 s8 S7)
                      obtain ⟨vs, h9, r10⟩ := c9.at'
                      have up := fun a vs' => sqT_side (K := X.K) (H := H9) (o := .lst (vs ++ [u])) (.inr ⟨vs, h9⟩) a vs'
                      refine ⟨vs, h9, by rw [r10.length, ← sizeMax_eq]; exact hlen, ρ9, G10, acc6 ++ [z], (w8.trans (s9.w R8)).trans ⟨Nat.le_refl _, fun _ _ => rfl, up, fun i kvs e => ⟨kvs, e, Nat.le_refl _, fun _ ep es h => ⟨es, by rw [upd_ne (c9.out i ⟨_, e, rfl⟩)]; exact h, rfl⟩⟩⟩, c9.push h9 r9, ⟨S9.1, fun i d hd hn => ?_⟩, ek⟩
                      obtain ⟨v, hv, rr⟩ := S9.2 i d hd hn
                      exact ⟨v, hv, RV.chg up _ _ rr⟩
                · cases ek
              · cases ek
      · cases ec
    · cases ec
end
end Ev

/-! EvS: statements. -/
namespace Ev
open PySem PySem.Spec
open PyProof.Rows hiding St
open L2
open Sem (wp)
/-- what is wanted behind a statement -/
def PostS (K : PySem.W.Frag) (w : World) (ρ : Rho) (G : Hh) (H : Hp) (fl : Fl) (σd' : List D) (G' : Hh) (D : Ends) : Prop := ∀ ρ' H', Stp ρ G H ρ' G' H' → Rel K w ρ' G' H' →
  match fl with
  | .nx => ∀ σ', RS K ρ' G'.n H' σd' σ' → D.nx σ' H'
  | .bk => ∀ σ', RS K ρ' G'.n H' σd' σ' → D.bk σ' H'
  | .ct => ∀ σ', RS K ρ' G'.n H' σd' σ' → D.ct σ' H'
  | .rt d => ∀ v, RV K ρ' G'.n H' d v → D.rt v H'
def tS (K : PySem.W.Frag) (w : World) (C : Cl) (s : S) : TS := fun D σ H => ∃ ρ σd G fl σd' G', Rel K w ρ G H ∧ RS K ρ G.n H σd σ ∧ evS C s σd G = .ok (fl, σd') G' ∧ PostS K w ρ G H fl σd' G' D
section
variable {K : PySem.W.Frag} {w : World} {ρ ρ' : Rho} {G G' G'' : Hh} {H H' : Hp} {fl : Fl} {σd' : List D} {D : Ends}
theorem PostS.from (q : PostS K w ρ G H fl σd' G'' D) (s : Stp ρ G H ρ' G' H') : PostS K w ρ' G' H' fl σd' G'' D := fun ρ2 H2 s2 R2 => q ρ2 H2 (s.trans s2) R2
theorem PostS.nx (q : PostS K w ρ G H .nx σd' G' D) (s : Stp ρ G H ρ' G' H') (R : Rel K w ρ' G' H') {σ' : St} (S : RS K ρ' G'.n H' σd' σ') : D.nx σ' H' := q ρ' H' s R σ' S
end
section
variable {X : Cx} {C : Cl}
theorem s_bad {st : Stmt} : PS X st (tS X.K X.w C .bad) := ⟨fun pins s σ H D I ⟨ρ, σd, G, fl, σd', G', R, S, e, q⟩ => by cases e⟩
theorem ss_bad {st : List Stmt} : PSs X st (tS X.K X.w C .bad) := ⟨fun pins s σ H D I ⟨ρ, σd, G, fl, σd', G', R, S, e, q⟩ => by cases e⟩
theorem ss_nil : PSs X [] (tS X.K X.w C .skip) := PSs.weak pss_nil fun D σ H ⟨ρ, σd, G, fl, σd', G', R, S, e, q⟩ => by
  simp only [evS, M.pure_ok, Prod.mk.injEq] at e
  obtain ⟨⟨rfl, rfl⟩, rfl⟩ := e
  exact q.nx (Stp.refl _ _ _) R S
theorem s_pass {pos : Pos} : PS X (.Pass pos) (tS X.K X.w C .skip) := PS.weak ps_pass fun D σ H ⟨ρ, σd, G, fl, σd', G', R, S, e, q⟩ => by
  simp only [evS, M.pure_ok, Prod.mk.injEq] at e
  obtain ⟨⟨rfl, rfl⟩, rfl⟩ := e
  exact q.nx (Stp.refl _ _ _) R S
theorem s_brk {pos : Pos} : PS X (.Break pos) (tS X.K X.w C .brk) := PS.weak ps_break fun D σ H ⟨ρ, σd, G, fl, σd', G', R, S, e, q⟩ => by
  simp only [evS, M.pure_ok, Prod.mk.injEq] at e
  obtain ⟨⟨rfl, rfl⟩, rfl⟩ := e
  exact q ρ H (Stp.refl _ _ _) R σ S
theorem s_cnt {pos : Pos} : PS X (.Continue pos) (tS X.K X.w C .cnt) := PS.weak ps_continue fun D σ H ⟨ρ, σd, G, fl, σd', G', R, S, e, q⟩ => by
  simp only [evS, M.pure_ok, Prod.mk.injEq] at e
  obtain ⟨⟨rfl, rfl⟩, rfl⟩ := e
  exact q ρ H (Stp.refl _ _ _) R σ S
theorem ss_cons {st : Stmt} {rest : List Stmt} {a b : S} (h1 : PS X st (tS X.K X.w C a)) (h2 : PSs X rest (tS X.K X.w C b)) : PSs X (st :: rest) (tS X.K X.w C (.seq a b)) :=
  PSs.weak (pss_cons h1 h2) fun D σ H ⟨ρ, σd, G, fl, σd', G', R, S, e, q⟩ => by
    simp only [evS, M.bind_ok] at e
    obtain ⟨⟨f1, σ1⟩, G1, e1, e2⟩ := e
    cases f1 with
    | nx =>
      exact ⟨ρ, σd, G, .nx, σ1, G1, R, S, e1, fun ρ1 H1 s1 R1 σ' S' => ⟨ρ1, σ1, G1, fl, σd', G', R1, S', e2, q.from s1⟩⟩
    | bk =>
      simp only [M.pure_ok, Prod.mk.injEq] at e2
      obtain ⟨⟨rfl, rfl⟩, rfl⟩ := e2
      exact ⟨ρ, σd, G, .bk, σ1, G1, R, S, e1, fun ρ1 H1 s1 R1 => q ρ1 H1 s1 R1⟩
    | ct =>
      simp only [M.pure_ok, Prod.mk.injEq] at e2
      obtain ⟨⟨rfl, rfl⟩, rfl⟩ := e2
      exact ⟨ρ, σd, G, .ct, σ1, G1, R, S, e1, fun ρ1 H1 s1 R1 => q ρ1 H1 s1 R1⟩
    | rt d =>
      simp only [M.pure_ok, Prod.mk.injEq] at e2
      obtain ⟨⟨rfl, rfl⟩, rfl⟩ := e2
      exact ⟨ρ, σd, G, .rt d, σ1, G1, R, S, e1, fun ρ1 H1 s1 R1 => q ρ1 H1 s1 R1⟩
theorem ss_one {st : Stmt} {a : S} (h1 : PS X st (tS X.K X.w C a)) : PSs X [st] (tS X.K X.w C a) := pss_one h1
theorem s_expr {e : Expr} {ie : E} {pos : Pos} (he : PE X e (tE X.K X.w C ie)) (hs : isComp e = false) : PS X (.Expr e pos) (tS X.K X.w C (.expr ie)) :=
  PS.weak (ps_expr he (swaps_false hs)) fun D σ H ⟨ρ, σd, G, fl, σd', G', R, S, e, q⟩ => by
    simp only [evS, M.bind_ok, M.pure_ok, Prod.mk.injEq] at e
    obtain ⟨x, G1, e1, ⟨rfl, rfl⟩, rfl⟩ := e
    exact ⟨ρ, σd, G, x, G1, R, S, e1, fun ρ1 v H1 s1 R1 r1 => q.nx s1 R1 (RS.step R s1 S)⟩
theorem s_ret {e : Expr} {ie : E} {pos : Pos} (he : PE X e (tE X.K X.w C ie)) : PS X (.Return (some e) pos) (tS X.K X.w C (.ret ie)) :=
  PS.weak (ps_ret he) fun D σ H ⟨ρ, σd, G, fl, σd', G', R, S, e, q⟩ => by
    simp only [evS, M.bind_ok, M.pure_ok, Prod.mk.injEq] at e
    obtain ⟨x, G1, e1, ⟨rfl, rfl⟩, rfl⟩ := e
    exact ⟨ρ, σd, G, x, G1, R, S, e1, fun ρ1 v H1 s1 R1 r1 => q ρ1 H1 s1 R1 v r1⟩
theorem s_retN {pos : Pos} : PS X (.Return none pos) (tS X.K X.w C (.ret (.con .non))) :=
  PS.weak ps_retN fun D σ H ⟨ρ, σd, G, fl, σd', G', R, S, e, q⟩ => by
    simp only [evS, evE, M.bind_ok, M.pure_ok, Prod.mk.injEq] at e
    obtain ⟨x, G1, ⟨rfl, rfl⟩, ⟨rfl, rfl⟩, rfl⟩ := e
    exact q ρ H (Stp.refl _ _ _) R .non rfl
theorem s_ite {c : Expr} {a b : List Stmt} {ic : E} {ia ib : S} {pos : Pos} (hc : PT X c (tT X.K X.w C ic)) (ha : PSs X a (tS X.K X.w C ia)) (hb : PSs X b (tS X.K X.w C ib)) : PS X (.If c a b pos) (tS X.K X.w C (.ite ic ia ib)) :=
  PS.weak (ps_if hc ha hb) fun D σ H ⟨ρ, σd, G, fl, σd', G', R, S, e, q⟩ => by
    simp only [evS, M.bind_ok, truthM_ok] at e
    obtain ⟨x, G1, e1, t, G2, ⟨ht, rfl⟩, e2⟩ := e
    refine ⟨ρ, σd, G, x, G1, t, R, S, e1, ht, fun ρ1 H1 s1 R1 => ?_⟩
    cases t with
    | true => exact ⟨ρ1, σd, G1, fl, σd', G', R1, RS.step R s1 S, e2, q.from s1⟩
    | false => exact ⟨ρ1, σd, G1, fl, σd', G', R1, RS.step R s1 S, e2, q.from s1⟩
theorem ofOpt_ok {α : Type} {o : Option α} {x : α} {G G' : Hh} : ofOpt o G = .ok x G' ↔ o = some x ∧ G = G' := by
  cases o <;> simp [ofOpt, M.pure_ok, M.bad_ok]
/-- what an assignment does, behind its value -/
theorem asg_read {D : Ends} {σ : St} {H : Hp} {ie : E} {t : T} {te : TE} (hw : ∀ σ H Q, tE X.K X.w C ie σ H Q → te σ H Q) (h : tS X.K X.w C (.asg t ie) D σ H) : tAsg te (tG X.K X.w t) D σ H := by
  obtain ⟨ρ, σd, G, fl, σd', G', R, S, e, q⟩ := h
  simp only [evS, M.bind_ok, M.pure_ok, ofOpt_ok, Prod.mk.injEq] at e
  obtain ⟨x, G1, e1, σ1, G2, ⟨e2, rfl⟩, ⟨rfl, rfl⟩, rfl⟩ := e
  exact hw _ _ _ ⟨ρ, σd, G, x, G1, R, S, e1, fun ρ1 v H1 s1 R1 r1 => ⟨ρ1, σd, G1, x, σ1, R1, RS.step R s1 S, r1, e2, fun σ' S' _ => q.nx s1 R1 S'⟩⟩
theorem swapsSole_false {tg e : Expr} {l : Nat} {env : Env} (h : isComp e = false) : swapsWithSole [tg] e l env = pure false := swaps_false h
def notTup : Expr → Bool
  | .Tuple .. => false
  | _ => true
theorem swapped_none {tg e : Expr} {env : Env} (h : notTup e = true ∨ (∃ x p, tg = .Name x p)) : swappedStores [tg] e env = pure none := by
  rcases h with h | ⟨x, p, rfl⟩
  · unfold swappedStores
    cases e <;> first | (exfalso; simp [notTup] at h; done) | (cases tg <;> rfl)
  · unfold swappedStores
    cases e <;> rfl
theorem s_asg {tg e : Expr} {ie : E} {t : T} {pos : Pos} (he : PE X e (tE X.K X.w C ie)) (hg : PG X tg (tG X.K X.w t)) (hs : swapsWithSole [tg] e pos.line X.env = pure false) (hw : swappedStores [tg] e X.env = pure none) (hst : isStar tg = false) :
    PS X (.Assign [tg] e pos) (tS X.K X.w C (.asg t ie)) :=
  PS.weak (ps_asg he hg hs hw (by rw [assignEach_cons hst]; rfl)) fun D σ H h => asg_read (fun _ _ _ q => q) h
theorem s_par {i j : Nat} {x y : Str} {a b : Expr} {ia : E} {px py pt pt2 pos : Pos} {kt k2 : Nat} (hc : X.calm = true) (hN : X.N.Nodup) (hi : X.N[i]? = some x) (hj : X.N[j]? = some y) (hij : i ≠ j)
    (hx : X.env.scope.names.lookup x = some .local) (hy : X.env.scope.names.lookup y = some .local) (ha : PA X [a, b] (tA X.K X.w C ia))
    (hw : swappedStores [.Tuple [.Name x px, .Name y py] kt pt] (.Tuple [a, b] k2 pt2) X.env = pure (some [x, y])) :
    PS X (.Assign [.Tuple [.Name x px, .Name y py] kt pt] (.Tuple [a, b] k2 pt2) pos) (tS X.K X.w C (.par i j ia)) :=
  PS.weak (ps_par hc hN hi hj hij hx hy ha hw) fun D σ H ⟨ρ, σd, G, fl, σd', G', R, S, e, q⟩ => by
    simp only [evS, M.bind_ok, unTup_ok] at e
    obtain ⟨z, G1, e1, xs, G2, ⟨rfl, rfl⟩, e2⟩ := e
    match xs, e2 with
    | [], e2 => simp [M.bad_ok] at e2
    | [_], e2 => simp [M.bad_ok] at e2
    | _ :: _ :: _ :: _, e2 => simp [M.bad_ok] at e2
    | [u, v], e2 =>
      simp only at e2
      split at e2
      · simp only [M.pure_ok, Prod.mk.injEq] at e2
        obtain ⟨⟨rfl, rfl⟩, rfl⟩ := e2
        refine ⟨ρ, σd, G, [u, v], G1, R, S, e1, fun ρ1 vs H1 s1 R1 r1 => ?_⟩
        obtain ⟨v1, r, rfl, rv1, v2, r', rfl, rv2, rfl⟩ := r1
        exact ⟨v1, v2, rfl, q.nx s1 R1 (((RS.step R s1 S).set i rv1).set j rv2)⟩
      · simp [M.bad_ok] at e2
theorem s_setix (hu : X.A.units + 64 < cLine) {o i e : Expr} {io ii ie : E} {p pos : Pos} (ho : PE X o (tE X.K X.w C io)) (hi : PE X i (tE X.K X.w C ii)) (he : PE X e (tE X.K X.w C ie)) (hs : isComp e = false) (hsl : isSl i = false) : PS X (.Assign [.Subscript o i p] e pos) (tS X.K X.w C (.setix io ii ie)) :=
  PS.weak (ps_asg he (pg_sub ho hi (setO hu) (by intro v; cases i <;> first | rfl | (exfalso; simp [isSl] at hsl; done))) (swapsSole_false hs) (by unfold swappedStores; cases e <;> rfl)) fun D σ H ⟨ρ, σd, G, fl, σd', G', R, S, e, q⟩ => by
    simp only [evS, M.bind_ok, M.pure_ok, Prod.mk.injEq] at e
    obtain ⟨v, G1, e1, x, G2, e2, k, G3, e3, d, G4, e4, ⟨rfl, rfl⟩, rfl⟩ := e
    exact ⟨ρ, σd, G, v, G1, R, S, e1, fun ρ1 vv H1 s1 R1 r1 => ⟨ρ1, σd, G1, x, G2, R1, RS.step R s1 S, e2, fun ρ2 vo H2 s2 R2 r2 => ⟨ρ2, σd, G2, k, G3, R2, RS.step R1 s2 (RS.step R s1 S), e3, fun ρ3 vi H3 s3 R3 r3 =>
      ⟨ρ3, G3, x, k, v, d, G4, R3, RV.step R2 s3 _ _ r2, r3, RV.step R2 s3 _ _ (RV.step R1 s2 _ _ r1), e4, fun ρ4 H4 s4 R4 => q.nx (((s1.trans s2).trans s3).trans s4) R4 (RS.step R (((s1.trans s2).trans s3).trans s4) S)⟩⟩⟩⟩
theorem s_for {tg it : Expr} {body : List Stmt} {k : Ik} {ie : E} {t : T} {ib : S} {pos : Pos} (hp : PassesOwn (model X.prog X.w) X.A X.env X.xe) (hc : X.calm = true) (hi : PI X tg it (tI X.K X.w C k ie)) (hg : PG X tg (tG X.K X.w t)) (hb : PSs X body (tS X.K X.w C ib))
    (hs : isSetE it = false) : PS X (.For tg it body [] pos) (tS X.K X.w C (.for k ie t ib)) :=
  PS.weak (ps_for hp hc hi hg hb (folded_set hs)) fun D σ H ⟨ρ, σd, G, fl, σd', G', R, S, e, q⟩ => by
    simp only [evS, M.bind_ok, rd_ok] at e
    obtain ⟨x, G1, e1, sr, _, ⟨es, rfl⟩, e2⟩ := e
    refine ⟨ρ, σd, G, x, sr, G1, R, S, e1, es, fun ρ1 H1 J s1 R1 sj => ?_⟩
    refine ⟨fun i m σ2 H2 => ∃ ρ2 σd2 G2, Stp ρ1 G1 H1 ρ2 G2 H2 ∧ Rel X.K X.w ρ2 G2 H2 ∧ RS X.K ρ2 G2.n H2 σd2 σ2 ∧ i + m = sr.n ∧ forN sr t (fun σ' => evS C ib σ') m i σd2 G2 = .ok (fl, σd') G', ⟨sr.n, ρ1, σd, G1, Stp.refl _ _ _, R1, RS.step R s1 S, by omega, e2⟩, ?_⟩
    rintro i m σ2 H2 ⟨ρ2, σd2, G2, s2, R2, S2, him, ec⟩
    obtain ⟨j1, j2⟩ := sj ρ2 G2 H2 i (s2.w R1) R2
    cases m with
    | zero =>
      simp only [forN] at ec
      split at ec
      · rename_i ha
        cases ec
        exact .inl ⟨j1 (by omega) ha, q.nx (s1.trans s2) R2 S2⟩
      · cases ec
    | succ m =>
      simp only [forN] at ec
      split at ec
      · rename_i y ha
        obtain ⟨g1, g2⟩ := j2 y ha
        split at ec
        · rename_i σn hσ
          refine .inr ⟨g1, fun σ' H' => ∃ ρ3 σd3 G3, Stp ρ1 G1 H1 ρ3 G3 H' ∧ Rel X.K X.w ρ3 G3 H' ∧ RS X.K ρ3 G3.n H' σd3 σ' ∧ forN sr t (fun σ' => evS C ib σ') m (i + 1) σd3 G3 = .ok (fl, σd') G', fun σ' H' ⟨ρ3, σd3, G3, s3, R3, S3, e3⟩ => ⟨m, Nat.lt_succ_self m, ρ3, σd3, G3, s3, R3, S3, by omega, e3⟩, fun v H' hy => ?_⟩
          obtain ⟨st, R3, rv⟩ := g2 v H' hy
          refine ⟨ρ2, σd2, G2, y, σn, R3, RS.step R2 st S2, rv, hσ, fun σ' S' _ => ?_⟩
          cases hf : evS C ib σn G2 with
          | bad => rw [hf] at ec; cases ec
          | ex a b c => rw [hf] at ec; cases ec
          | ok r G4 =>
            obtain ⟨fl', σ4⟩ := r
            rw [hf] at ec
            refine ⟨ρ2, σn, G2, fl', σ4, G4, R3, S', hf, fun ρ5 H5 s5 R5 => ?_⟩
            have s25 := (s2.trans st).trans s5
            cases fl' with
            | nx => exact fun σ5 S5 => ⟨ρ5, σ4, G4, s25, R5, S5, ec⟩
            | ct => exact fun σ5 S5 => ⟨ρ5, σ4, G4, s25, R5, S5, ec⟩
            | bk =>
              cases ec
              exact fun σ5 S5 => q.nx (s1.trans s25) R5 S5
            | rt d =>
              cases ec
              exact fun v5 r5 => q ρ5 H5 (s1.trans s25) R5 v5 r5
        · cases ec
      · cases ec
theorem s_while {c : Expr} {body : List Stmt} {ic : E} {ib : S} {pos : Pos} (hp : PassesOwn (model X.prog X.w) X.A X.env X.xe) (hc : PT X c (tT X.K X.w C ic)) (hb : PSs X body (tS X.K X.w C ib)) : PS X (.While c body [] pos) (tS X.K X.w C (.whl ic ib)) :=
  PS.weak (ps_while hp hc hb) fun D σ H ⟨ρ, σd, G, fl, σd', G', R, S, e, q⟩ => by
    simp only [evS] at e
    refine ⟨fun m σ2 H2 => ∃ ρ2 σd2 G2, Stp ρ G H ρ2 G2 H2 ∧ Rel X.K X.w ρ2 G2 H2 ∧ RS X.K ρ2 G2.n H2 σd2 σ2 ∧ whileN (fun σ' => M.bind (evE C ic σ') truthM) (fun σ' => evS C ib σ') m σd2 G2 = .ok (fl, σd') G', ⟨whileFuel, ρ, σd, G, Stp.refl _ _ _, R, S, e⟩, ?_⟩
    rintro m σ2 H2 ⟨ρ2, σd2, G2, s2, R2, S2, ec⟩
    cases m with
    | zero => simp only [whileN, M.bad_ok] at ec
    | succ m =>
      simp only [whileN] at ec
      cases hcc : M.bind (evE C ic σd2) truthM G2 with
      | bad => rw [hcc] at ec; cases ec
      | ex a b c => rw [hcc] at ec; cases ec
      | ok b G3 =>
        rw [hcc] at ec
        simp only [M.bind_ok, truthM_ok] at hcc
        obtain ⟨d, G3', e3, ht, rfl⟩ := hcc
        refine ⟨ρ2, σd2, G2, d, G3', b, R2, S2, e3, ht, fun ρ3 H3 s3 R3 => ?_⟩
        have S3 := RS.step R2 s3 S2
        cases b with
        | false =>
          cases ec
          exact q.nx (s2.trans s3) R3 S3
        | true =>
          simp only [if_true]
          refine ⟨fun σ' H' => ∃ ρ4 σd4 G4, Stp ρ G H ρ4 G4 H' ∧ Rel X.K X.w ρ4 G4 H' ∧ RS X.K ρ4 G4.n H' σd4 σ' ∧ whileN (fun σ' => M.bind (evE C ic σ') truthM) (fun σ' => evS C ib σ') m σd4 G4 = .ok (fl, σd') G', fun σ' H' ⟨ρ4, σd4, G4, s4, R4, S4, e4⟩ => ⟨m, Nat.lt_succ_self m, ρ4, σd4, G4, s4, R4, S4, e4⟩, ?_⟩
          cases hf : evS C ib σd2 G3' with
          | bad => simp only [hf] at ec; cases ec
          | ex a b c => simp only [hf] at ec; cases ec
          | ok r G4 =>
            obtain ⟨fl', σ4⟩ := r
            simp only [hf] at ec
            refine ⟨ρ3, σd2, G3', fl', σ4, G4, R3, S3, hf, fun ρ5 H5 s5 R5 => ?_⟩
            have s25 := (s2.trans s3).trans s5
            cases fl' with
            | nx => exact fun σ5 S5 => ⟨ρ5, σ4, G4, s25, R5, S5, ec⟩
            | ct => exact fun σ5 S5 => ⟨ρ5, σ4, G4, s25, R5, S5, ec⟩
            | bk =>
              cases ec
              exact fun σ5 S5 => q.nx s25 R5 S5
            | rt d =>
              cases ec
              exact fun v5 r5 => q ρ5 H5 s25 R5 v5 r5
end
end Ev

/-! EvB2: further built-ins. -/
namespace Ev
open PySem PySem.Spec
open PyProof.Rows hiding St
open L2
open Sem (wp)
section
variable {X : Cx}
theorem boolsD_map : ∀ {xs : List D} {bs : List Bool}, boolsD xs = some bs → xs = bs.map D.bl
  | [], _, h => by simp [boolsD] at h; subst h; rfl
  | .bl b :: r, bs, h => by
    simp only [boolsD, Option.map_eq_some_iff] at h
    obtain ⟨a, h1, rfl⟩ := h
    rw [boolsD_map h1]; rfl
  | .und :: _, _, h => by simp [boolsD] at h
  | .non :: _, _, h => by simp [boolsD] at h
  | .int _ :: _, _, h => by simp [boolsD] at h
  | .str _ :: _, _, h => by simp [boolsD] at h
  | .tup _ :: _, _, h => by simp [boolsD] at h
  | .ref _ :: _, _, h => by simp [boolsD] at h
theorem RVs.bools {K : PySem.W.Frag} {ρ : Rho} {n : Nat} {H : Hp} : ∀ {bs : List Bool} {vs : List V}, RVs K ρ n H (bs.map D.bl) vs → vs = bs.map V.bl
  | [], _, h => h
  | b :: bs, _, h => by
    obtain ⟨v, r, rfl, h1, h2⟩ := h
    cases h1
    rw [RVs.bools h2]; rfl
theorem bf_all (hc : X.calm = true) : CallR X (.builtin "all") (rBf X.K X.w .all) := CallR.weak (cr_all hc) fun xs H Q h => by
  obtain ⟨ρ, G, ds, d, G', R, hx, e, q⟩ := h
  match ds with
  | [] => simp [bfn] at e
  | _ :: _ :: _ => simp [bfn] at e
  | [x] =>
    obtain ⟨v, r', rfl, hv, rfl⟩ := hx
    cases x <;> simp only [bfn] at e <;> try cases e
    rename_i a
    obtain ⟨_, rfl⟩ := hv
    split at e
    · rename_i ys ea
      split at e
      · rename_i bs eb
        cases e
        obtain ⟨vs, h1, rr⟩ := R.sqL (.inl ea)
        rw [boolsD_map eb] at rr
        rw [rr.bools] at h1
        exact ⟨_, bs, rfl, h1, q.here R rfl⟩
      · cases e
    · cases e
theorem bf_any (hc : X.calm = true) : CallR X (.builtin "any") (rBf X.K X.w .any) := CallR.weak (cr_any hc) fun xs H Q h => by
  obtain ⟨ρ, G, ds, d, G', R, hx, e, q⟩ := h
  match ds with
  | [] => simp [bfn] at e
  | _ :: _ :: _ => simp [bfn] at e
  | [x] =>
    obtain ⟨v, r', rfl, hv, rfl⟩ := hx
    cases x <;> simp only [bfn] at e <;> try cases e
    rename_i a
    obtain ⟨_, rfl⟩ := hv
    split at e
    · rename_i ys ea
      split at e
      · rename_i bs eb
        cases e
        obtain ⟨vs, h1, rr⟩ := R.sqL (.inl ea)
        rw [boolsD_map eb] at rr
        rw [rr.bools] at h1
        exact ⟨_, bs, rfl, h1, q.here R rfl⟩
      · cases e
    · cases e
theorem bf_str : CallR X (.type "str") (rBf X.K X.w .str) := CallR.weak call_str_int fun xs H Q h => by
  obtain ⟨ρ, G, ds, d, G', R, hx, e, q⟩ := h
  match ds with
  | [] => simp [bfn] at e
  | _ :: _ :: _ => simp [bfn] at e
  | [x] =>
    obtain ⟨v, r', rfl, hv, rfl⟩ := hx
    cases x <;> simp only [bfn] at e <;> try cases e
    rename_i i
    cases hv
    split at e
    · rename_i hi
      rw [Bool.and_eq_true, decide_eq_true_eq, decide_eq_true_eq] at hi
      cases e
      refine ⟨i, rfl, ?_, q.here R rfl⟩
      have h1 : i.natAbs < 2 ^ 20 := by omega
      by_cases h0 : i.natAbs = 0
      · rw [h0]; decide
      · have := (Nat.log2_lt h0).mpr h1
        omega
    · cases e
theorem pairsD_map : ∀ {xs : List D} {kvs : List (D × D)}, pairsD xs = some kvs → xs = kvs.map fun p => D.tup [p.1, p.2]
  | [], _, h => by simp [pairsD] at h; subst h; rfl
  | .tup [k, v] :: r, kvs, h => by
    simp only [pairsD, Option.map_eq_some_iff] at h
    obtain ⟨a, h1, rfl⟩ := h
    rw [pairsD_map h1]; rfl
  | .tup [] :: _, _, h => by simp [pairsD] at h
  | .tup [_] :: _, _, h => by simp [pairsD] at h
  | .tup (_ :: _ :: _ :: _) :: _, _, h => by simp [pairsD] at h
  | .und :: _, _, h => by simp [pairsD] at h
  | .non :: _, _, h => by simp [pairsD] at h
  | .int _ :: _, _, h => by simp [pairsD] at h
  | .str _ :: _, _, h => by simp [pairsD] at h
  | .bl _ :: _, _, h => by simp [pairsD] at h
  | .ref _ :: _, _, h => by simp [pairsD] at h
/-- a dict of texts' keys, as the machine's rules tell it -/
def KR (K : PySem.W.Frag) (w : World) (ρ : Rho) (n : Nat) (H : Hp) (p : D × D) (q : Key × Value) (e : Int × V × V) : Prop := ∃ z, p.1 = .str z ∧ q.1 = .inr z ∧ e.1 = hashStr w z ∧ e.2.1 = .str z ∧ RelV e.2.2 q.2 ∧ RV K ρ n H p.2 e.2.2
theorem entries_of {P : Program} {w : World} : ∀ {ds : List DictEntry} {prs : List (Key × Value)} {es : List (Int × V × V)}, Pairs (mixKind P w) ds prs → (∀ e ∈ ds, ∃ k, (mixKind P w).is k e.key = true ∧ e.hash = (mixKind P w).hash k) →
    Paired (fun (e : Int × V × V) (q : Key × Value) => e.1 = keyH w q.1 ∧ e.2.1 = kV q.1 ∧ RelV e.2.2 q.2) es prs → Paired (fun (e : Int × V × V) (d : DictEntry) => d.hash = e.1 ∧ RelV e.2.1 d.key ∧ RelV e.2.2 d.val) es ds
  | _, _, _, .nil, _, h => by cases h; exact .nil
  | _, _, _, .cons (e := d) (kv := kv) h1 h2 t, hk, h => by
    cases h with
    | cons r t' =>
      obtain ⟨r1, r2, r3⟩ := r
      obtain ⟨k, k1, k2⟩ := hk d List.mem_cons_self
      have : k = kv.1 := (mixKind P w).inj _ _ _ k1 h1
      subst this
      refine .cons ⟨by rw [k2, r1]; rfl, by rw [r2]; exact relV_key h1, by rw [h2]; exact r3⟩ (entries_of t (fun e he => hk e (List.mem_cons_of_mem _ he)) t')
theorem dictP_of {P : Program} {w : World} {h : Heap} {d : Addr} {prs : List (Key × Value)} {es : List (Int × V × V)} (x : h.DictOf (mixKind P w) d prs) (r : Paired (fun (e : Int × V × V) (q : Key × Value) => e.1 = keyH w q.1 ∧ e.2.1 = kV q.1 ∧ RelV e.2.2 q.2) es prs)
    (hs : (d == sysModules) = false) (hl : es.length ≤ sizeLine) : ∃ ep, dictP d ep es h := by
  obtain ⟨o, ds, ep, h1, h2, h3, h4, h5, h6⟩ := x
  exact ⟨ep, hl, hs, o, ds.toList, h1, h2, by simpa using h3, entries_of h5 (fun e he => h4 e (by simpa using he)) r⟩
theorem look_str {z : Str} : ∀ {kvs : List (D × D)} {z' : Str} {v : D}, look (.str z) ((.str z', v) :: kvs) = if z' = z then some v else look (.str z) kvs := by
  intro kvs z' v
  rw [look]
  simp only [D.eqv, beq_iff_eq]
theorem merged_new {prs : List (Key × Value)} : ∀ {acc : List (Key × Value)}, ((acc ++ prs).map (·.1)).Nodup → merged acc prs = acc ++ prs := by
  induction prs with
  | nil => intro acc _; simp [merged]
  | cons q r ih =>
    intro acc h
    have e : stored acc q.1 q.2 = acc ++ [q] := by
      unfold stored
      rw [if_neg]
      rw [List.any_eq_true]
      rintro ⟨x, hx, he⟩
      have he : x.1 = q.1 := by simpa using he
      rw [List.map_append, List.nodup_append] at h
      exact h.2.2 x.1 (List.mem_map.mpr ⟨x, hx, rfl⟩) q.1 (by simp) he
    have : merged acc (q :: r) = merged (acc ++ [q]) r := by
      show merged (stored acc q.1 q.2) r = _
      rw [e]
    rw [this, ih (by simpa using h)]
    simp
theorem real_pairs {pins : List (Addr × Obj)} {σ : St} {H : Hp} {s : Shared} {ρ : Rho} {n : Nat} (I : L2.Inv X pins σ H s) : ∀ {kvs : List (D × D)} {vs : List V} {us : List Value}, RVs X.K ρ n H (kvs.map fun p => D.tup [p.1, p.2]) vs → Vals vs us → distB kvs = true →
    ∃ (Tl : List Addr) (ps : List (Value × Value)) (prs : List (Key × Value)) (es : List (Int × V × V)), us = Tl.map Value.ref ∧ ps.length = kvs.length ∧ Tl.length = kvs.length ∧ prs.length = kvs.length ∧
      (∀ (j : Nat) k v, ps[j]? = some (k, v) → ∃ T, Tl[j]? = some T ∧ IsTup s.heap T #[k, v]) ∧ (∀ (j : Nat) k v, ps[j]? = some (k, v) → ∃ q, prs[j]? = some (q, v) ∧ keyIs q k = true) ∧
      Paired (fun (e : Int × V × V) (q : Key × Value) => e.1 = keyH X.w q.1 ∧ e.2.1 = kV q.1 ∧ RelV e.2.2 q.2) es prs ∧ RK X.K X.w ρ n H kvs es ∧ (∀ q ∈ prs.map (·.1), ∃ z, q = .inr z ∧ (look (.str z) kvs).isSome = true) ∧ (prs.map (·.1)).Nodup ∧ distinctK kvs
  | [], vs, us, r, rv, _ => by
    cases r
    cases rv
    exact ⟨[], [], [], [], rfl, rfl, rfl, rfl, fun j k v h => by simp at h, fun j k v h => by simp at h, .nil, .nil, fun q h => by simp at h, List.nodup_nil, trivial⟩
  | (k, v) :: r, vs, us, rr, rv, hd => by
    obtain ⟨x, vs', rfl, hx, hr⟩ := rr
    cases k <;> simp only [distB, Bool.and_eq_true, Bool.false_eq_true] at hd
    rename_i z
    obtain ⟨hn, hd⟩ := hd
    cases rv with
    | cons r1 r2 =>
      obtain ⟨Tl, ps, prs, es, h1, h2, h3, h4, h5, h6, h7, h8, h9, h10, h11⟩ := real_pairs I hr r2 hd
      obtain ⟨a, ws, rfl, ha, hw⟩ := hx
      obtain ⟨v1, w1, rfl, hv1, v2, w2, rfl, hv2, rfl⟩ := hw
      cases hv1
      cases r1
      obtain ⟨its, ri, ht, _⟩ := I.tuple ha.1
      obtain ⟨u1, u2, rfl, ru1, ru2⟩ := vals2 ri
      have hz : look (.str z) r = none := by simpa using hn
      refine ⟨a :: Tl, (u1, u2) :: ps, (.inr z, u2) :: prs, (hashStr X.w z, .str z, v2) :: es, by rw [h1]; rfl, by simp [h2], by simp [h3], by simp [h4], fun j k v h => ?_, fun j k v h => ?_, .cons ⟨rfl, rfl, ru2⟩ h7,
        .cons ⟨rfl, by simp [D.depth], rfl, rfl, hv2⟩ h8, fun q hq => ?_, ?_, ⟨hz, h11⟩⟩
      · cases j with
        | zero => simp at h; obtain ⟨rfl, rfl⟩ := h; exact ⟨a, rfl, ht⟩
        | succ j => exact h5 j k v (by simpa using h)
      · cases j with
        | zero => simp at h; obtain ⟨rfl, rfl⟩ := h; exact ⟨.inr z, rfl, kV_is (P := X.prog) (w := X.w) (k := .inr z) ru1⟩
        | succ j => exact h6 j k v (by simpa using h)
      · rw [List.map_cons] at hq
        rcases List.mem_cons.mp hq with rfl | hq
        · exact ⟨z, rfl, by rw [look_str, if_pos rfl]; rfl⟩
        · obtain ⟨z', e, hs⟩ := h9 q hq
          refine ⟨z', e, ?_⟩
          rw [look_str]
          split
          · rfl
          · exact hs
      · rw [List.map_cons, List.nodup_cons]
        refine ⟨fun hq => ?_, h10⟩
        obtain ⟨z', e, hs⟩ := h9 _ hq
        cases e
        rw [hz] at hs; cases hs
theorem bf_dictP (hc : X.calm = true) : CallR X (.type "dict") (rBf X.K X.w .dictP) := by
  intro pins s σ H xs us Q I rx h
  obtain ⟨ρ, G, ds, d, G', R, hx, e, q⟩ := h
  match ds with
  | [] => simp [bfn] at e
  | _ :: _ :: _ => simp [bfn] at e
  | [x] =>
    obtain ⟨v, r', rfl, hv, rfl⟩ := hx
    simp only [bfn] at e
    split at e
    · rename_i ys ey
      split at e
      · rename_i kvs ek
        split at e
        · rename_i hh
          rw [Bool.and_eq_true, decide_eq_true_eq] at hh
          cases e
          have eys := pairsD_map ek
          subst eys
          obtain ⟨u, rfl, ru⟩ := vals1 rx
          -- what both roads share
          have main : ∀ {T : String} {a : Addr} {its : List Value} {vs : List V}, (∀ (Ts : Nat → Addr) (ps : List (Value × Value)), PairArg X.prog X.w T a (a :: (List.range ps.length).map Ts) [] ps.length (PairRel ps) (fun h => PlainSeq T h a its.toArray ∧ PairItems h its.toArray Ts ps)) →
              PlainSeq T s.heap a its.toArray → Vals vs its → RVs X.K ρ G.n H (kvs.map fun p => D.tup [p.1, p.2]) vs → wpAny (model X.prog X.w) X.A (call (.type "dict") [.ref a]) (EP X pins σ Q) X.xe s := by
            intro T a its vs PA pl rv rr
            obtain ⟨Tl, ps, prs, es, h1, h2, h3, h4, h5, h6, h7, h8, h9, h10, h11⟩ := real_pairs I rr rv hh.1
            have hz : es.length ≤ sizeLine := by rw [h7.length, h4, ← sizeMax_eq]; omega
            refine _root_.PySem.call_dict_pairs (knd := mixKind X.prog X.w) (kvs := prs) (PA (fun j => Tl.getD j 0) ps) (I.ok.hd hc) ⟨pl, ?_, fun j k v hj => ?_⟩ ⟨by rw [h4, h2], fun i key v hi => ?_⟩ (by rw [h2, ← sizeMax_eq]; omega) fun h' tk hd hk => ?_
            · rw [h1]; simp [h2, h3]
            · obtain ⟨T', e1, e2⟩ := h5 j k v hj
              refine ⟨?_, .inl ?_⟩
              · rw [h1, List.getElem?_toArray, List.getElem?_map, e1]
                show some (Value.ref T') = some (Value.ref (Tl.getD j 0))
                rw [List.getD_eq_getElem?_getD, e1]; rfl
              · show PySem.Heap.IsTuple s.heap (Tl.getD j 0) _
                rw [List.getD_eq_getElem?_getD, e1]; exact e2
            · exact h6 i key v hi
            · rw [merged_new (acc := []) (by simpa using h10), List.nil_append] at hd
              have hf := I.hok.fresh (Nat.le_refl s.heap.objs.size)
              have hs : (s.heap.objs.size == sysModules) = false := beq_eq_false_iff_ne.mpr (Ne.symm (Nat.ne_of_lt I.big))
              obtain ⟨ep, hp⟩ := dictP_of hd h7 hs hz
              refine ⟨.ref s.heap.objs.size, _, I.laid (a := s.heap.objs.size) (o := .ext (dictP s.heap.objs.size ep es)) (t' := tk) (fun b o e => hk b o (by simp) e) (Nat.le_refl _) (extDict hp), rfl, ?_⟩
              exact AfterV.newD h11 _ ⟨h', hp⟩ q R h8 hf
          cases x with
          | tup zs =>
            simp only [seqOf] at ey; cases ey
            obtain ⟨a, vs, rfl, ha, rr⟩ := hv
            cases ru
            obtain ⟨its, r1, ht, _⟩ := I.tuple ha.1
            obtain ⟨o, ho, hc', m, hd⟩ := ht
            have hdn : o.dict = none := by
              rcases ha.2 with ⟨o', h', hdn⟩ | ⟨o', h', hdn⟩
              · have := (I.hok a _ h').1
                rw [ho] at this; cases this; exact hdn
              · have := I.kIn a o' h'
                rw [ho] at this; cases this; exact hdn
            exact main (fun Ts ps => PairArg.tuple a its.toArray Ts ps) ⟨o, m, ho, hc', hdn, hd⟩ r1 rr
          | ref b =>
            obtain ⟨_, rfl⟩ := hv
            cases ru
            obtain ⟨vs, h1, rr⟩ := R.sqL (seqOf_ref ey)
            obtain ⟨its, r1, pl, _⟩ := I.list h1
            obtain ⟨o, m, ho, hc', hdn, hd⟩ := pl
            exact main (fun Ts ps => PairArg.list (ρ b) its.toArray Ts ps) ⟨o, m, ho, hc', hdn, hd⟩ r1 rr
          | _ => simp [seqOf] at ey
        · cases e
      · cases e
    · cases e
theorem mt_get2 (hu : X.A.units + 66 < cLine) : MtR X "dict.get" (rMt X.K X.w .get2) := by
  intro pins s σ H x xs v us Q I rx rxs h
  obtain ⟨ρ, G, ds, d, G', R, hx, e, q⟩ := h
  match ds with
  | [] => simp [bfn] at e
  | [_] => simp [bfn] at e
  | [_, _] => simp [bfn] at e
  | _ :: _ :: _ :: _ :: _ => simp [bfn] at e
  | [dx, dk, dd] =>
    obtain ⟨v0, r0, er, hv, v1, r1, rfl, hk, v2, r2, rfl, hd, rfl⟩ := hx
    cases er
    cases dx <;> simp only [bfn] at e <;> try cases e
    rename_i a
    obtain ⟨_, rfl⟩ := hv
    cases rx
    split at e
    · rename_i kvs ea
      split at e
      · rename_i hko
        cases e
        obtain ⟨ep, es, h1, rk, dk, sat⟩ := R.dct ea
        obtain ⟨u1, u2, rfl, ru1, ru2⟩ := vals2 rxs
        have hT := typeIs_dict I h1
        have hsys : (ρ a == sysModules) = false := (dict_obj I h1 rk).2.1
        refine wpAny_call_entry PySem.F.slot_dict_get hT PySem.F.entry_dict_get ?_ (PySem.F.args_dict_get_3 _ _ _)
        show wpAny _ _ (dictGet (ρ a) u1 >>= _) _ _ s
        refine wpAny_bind (dictGet_data I (show X.A.units + 1 + 7 < cLine by omega) h1 rk dk hko hk ru1 (fun hn tk => ?_) (fun w' vv u hl hr hv tk => ?_))
        · show wpAny _ _ (Builtin.Dict.missed (ρ a) u1 >>= _) _ _ _
          refine wpAny_bind (wpAny_missed_other hsys (wpAny_pure ⟨u2, rfl, ?_⟩))
          rw [hn] at q
          exact ⟨v2, H, Inv.tk I tk, ru2, q.here R hd⟩
        · refine wpAny_pure ⟨u, rfl, ?_⟩
          rw [hl] at q
          exact ⟨vv, H, Inv.tk I tk, hv, q.here R hr⟩
      · cases e
    · cases e
theorem mt_updateD (hu : X.A.units + 66 < cLine) : MtR X "dict.update" (rMt X.K X.w .update) := by
  intro pins s σ H x xs v us Q I rx rxs h
  obtain ⟨ρ, G, ds, d, G', R, hx, e, q⟩ := h
  match ds with
  | [] => simp [bfn] at e
  | [_] => simp [bfn] at e
  | _ :: _ :: _ :: _ => simp [bfn] at e
  | [dx, dy] =>
    obtain ⟨v0, r0, er, hv, v1, r1, rfl, hy, rfl⟩ := hx
    cases er
    cases dx <;> simp only [bfn] at e <;> try cases e
    cases dy <;> simp only [bfn] at e <;> try cases e
    rename_i a b
    obtain ⟨_, rfl⟩ := hv
    obtain ⟨_, rfl⟩ := hy
    cases rx
    split at e
    · rename_i kvs ea eb
      cases e
      obtain ⟨ep, es, h1, rk, dk, sat⟩ := R.dct ea
      obtain ⟨ep2, es2, h2, rk2, dk2, sat2⟩ := R.dct eb
      obtain ⟨u1, rfl, ru1⟩ := vals1 rxs
      cases ru1
      have hT := typeIs_dict I h1
      have hT2 := typeIs_dict I h2
      obtain ⟨_, hsys, o2, ds2, ho2, hx2, hd2, hp2, _⟩ := dict_obj I h2 rk2
      cases rk2
      cases hp2
      refine wpAny_call_entry PySem.F.slot_dict_update hT PySem.F.entry_dict_update ?_ (PySem.F.args_dict_update_2 _ _)
      unfold Builtin.«dict.update»
      refine wpAny_bind ?_
      unfold Builtin.Dict.selfAndRest
      refine wpAny_bind (wpAny_notOrdered_dict hT ?_)
      show wpAny _ _ (pure (ρ a, [Value.ref (ρ b)])) _ _ _
      refine wpAny_pure ?_
      show wpAny _ _ (Builtin.Dict.updateFrom "dict.update" (ρ a) (.ref (ρ b)) [] .none) _ _ _
      unfold Builtin.Dict.updateFrom
      refine wpAny_bind (wpAny_typeOf hT2 ?_)
      rw [if_neg (by decide)]
      refine wpAny_bind ?_
      unfold Builtin.Dict.merge
      refine wpAny_bind ?_
      unfold Builtin.Dict.readDirectly
      refine wpAny_bind (wpAny_isInstance hT2 isSubtype_dict_dict ?_)
      simp only [Bool.not_true, Bool.false_eq_true, if_false]
      refine wpAny_bind (wpAny_specialOf hT2 F.slot_dict_iter.lookup (wpAny_pure ?_))
      simp only [beq_self_eq_true, if_true]
      refine wpAny_bind (wpAny_pure ?_)
      have fin : wpAny (model X.prog X.w) X.A.in1 (Builtin.Dict.addKeywords (ρ a) [] >>= fun _ => ret Value.none) (fun fin s' => ∃ v, fin = Fin.done (Flow.ret v) ∧ EP X pins σ Q v s') X.xe s := by
        exact wpAny_bind (wpAny_pure (wpAny_pure ⟨.none, rfl, .non, H, I, rfl, q.here R rfl⟩))
      unfold Builtin.Dict.mergeDict
      by_cases hab : (ρ a == ρ b) = true
      · rw [if_pos hab]
        exact wpAny_bind (wpAny_rule (wpAny_pure fin))
      · rw [if_neg hab]
        unfold Builtin.Dict.showsAll
        rw [if_neg (by rw [hsys]; exact Bool.false_ne_true)]
        refine wpAny_bind (wpAny_pure ?_)
        refine wpAny_bind (wpAny_dictEntries ho2 hd2 ?_)
        rw [if_neg (by simp)]
        refine wpAny_bind (wpAny_dictEpoch ho2 hd2 ?_)
        refine wpAny_bind (wpAny_dictEntries ho2 hd2 ?_)
        exact wpAny_bind (wpAny_of_eq (a := PUnit.unit) (by rw [Std.Legacy.Range.forIn_eq_forIn_range']; simp only [Std.Legacy.Range.size]; rfl) (wpAny_pure fin))
    · cases e

/-! ### sorted, triples -/
theorem tripsD_map : ∀ {xs : List D} {ts : List (Int × Int × Int)}, tripsD xs = some ts → xs = ts.map tripD ∧ ∀ t ∈ ts, (0 ≤ t.1 ∧ t.1 < 64) ∧ (0 ≤ t.2.1 ∧ t.2.1 < 64) ∧ 0 ≤ t.2.2 ∧ t.2.2 < 64
  | [], ts, h => by simp only [tripsD] at h; cases h; exact ⟨rfl, fun t ht => by simp at ht⟩
  | x :: r, ts, h => by
    unfold tripsD at h
    split at h
    · rename_i q; cases q
    · rename_i a b c r' q
      cases q
      split at h
      · rename_i hs
        simp only [small, Bool.and_eq_true, decide_eq_true_eq] at hs
        rw [Option.map_eq_some_iff] at h
        obtain ⟨ts', h1, rfl⟩ := h
        obtain ⟨e, b'⟩ := tripsD_map h1
        refine ⟨by rw [List.map_cons, ← e]; rfl, fun t ht => ?_⟩
        rcases List.mem_cons.mp ht with rfl | ht
        · exact ⟨hs.1.1, hs.1.2, hs.2.1, hs.2.2⟩
        · exact b' t ht
      · cases h
    · cases h
theorem insT_perm (x : Int × Int × Int) : ∀ l, (insT x l).Perm (x :: l)
  | [] => List.Perm.refl _
  | y :: ys => by
    unfold insT
    split
    · exact List.Perm.refl _
    · exact (List.Perm.cons y (insT_perm x ys)).trans (List.Perm.swap x y ys)
theorem sortT_perm : ∀ l, (sortT l).Perm l
  | [] => List.Perm.refl _
  | x :: xs => (insT_perm x _).trans (List.Perm.cons x (sortT_perm xs))
theorem insT_sorted (x : Int × Int × Int) : ∀ {l : List (Int × Int × Int)}, l.Pairwise (fun a b => codeT a ≤ codeT b) → (insT x l).Pairwise (fun a b => codeT a ≤ codeT b)
  | [], _ => List.pairwise_singleton _ _
  | y :: ys, h => by
    have h' := List.pairwise_cons.mp h
    unfold insT
    split
    · rename_i hl
      refine List.pairwise_cons.mpr ⟨fun z hz => ?_, h⟩
      rcases List.mem_cons.mp hz with rfl | hz
      · omega
      · have := h'.1 z hz; omega
    · rename_i hl
      refine List.pairwise_cons.mpr ⟨fun z hz => ?_, insT_sorted x h'.2⟩
      rcases List.mem_cons.mp ((insT_perm x ys).mem_iff.mp hz) with rfl | hz
      · omega
      · exact h'.1 z hz
theorem sortT_sorted : ∀ l, (sortT l).Pairwise (fun a b => codeT a ≤ codeT b)
  | [] => List.Pairwise.nil
  | x :: xs => insT_sorted x (sortT_sorted xs)
theorem codeT_inj {a b : Int × Int × Int} (ha : (0 ≤ a.1 ∧ a.1 < 64) ∧ (0 ≤ a.2.1 ∧ a.2.1 < 64) ∧ 0 ≤ a.2.2 ∧ a.2.2 < 64) (hb : (0 ≤ b.1 ∧ b.1 < 64) ∧ (0 ≤ b.2.1 ∧ b.2.1 < 64) ∧ 0 ≤ b.2.2 ∧ b.2.2 < 64) (h : codeT a = codeT b) : a = b := by
  obtain ⟨a1, a2, a3⟩ := a
  obtain ⟨b1, b2, b3⟩ := b
  simp only [codeT] at h
  simp only at ha hb
  have e1 : a1 = b1 := by omega
  have e2 : a2 = b2 := by omega
  have e3 : a3 = b3 := by omega
  rw [e1, e2, e3]
theorem sorted_unique : ∀ {l m : List (Int × Int × Int)}, l.Perm m → l.Pairwise (fun a b => codeT a ≤ codeT b) → m.Pairwise (fun a b => codeT a ≤ codeT b) → (∀ t ∈ l, (0 ≤ t.1 ∧ t.1 < 64) ∧ (0 ≤ t.2.1 ∧ t.2.1 < 64) ∧ 0 ≤ t.2.2 ∧ t.2.2 < 64) → l = m
  | [], m, p, _, _, _ => (List.nil_perm.mp p).symm
  | x :: l, [], p, _, _, _ => absurd p.length_eq (by simp)
  | x :: l, y :: m, p, hl, hm, hb => by
    have hl' := List.pairwise_cons.mp hl
    have hm' := List.pairwise_cons.mp hm
    have bx := hb x List.mem_cons_self
    have hy : y ∈ x :: l := p.mem_iff.mpr List.mem_cons_self
    have hx : x ∈ y :: m := p.mem_iff.mp List.mem_cons_self
    have e : x = y := by
      refine codeT_inj bx (hb y hy) ?_
      have c1 : codeT x ≤ codeT y := by
        rcases List.mem_cons.mp hy with rfl | hy
        · exact Int.le_refl _
        · exact hl'.1 y hy
      have c2 : codeT y ≤ codeT x := by
        rcases List.mem_cons.mp hx with rfl | hx
        · exact Int.le_refl _
        · exact hm'.1 x hx
      omega
    subst e
    rw [sorted_unique (List.Perm.cons_inv p) hl'.2 hm'.2 fun t ht => hb t (List.mem_cons_of_mem _ ht)]
theorem RVs.perm {K : PySem.W.Frag} {ρ : Rho} {n : Nat} {H : Hp} {vs ys : List V} (p : ys.Perm vs) : ∀ {xs : List D}, RVs K ρ n H xs vs → ∃ zs, zs.Perm xs ∧ RVs K ρ n H zs ys := by
  induction p with
  | nil => exact fun {xs} r => ⟨xs, List.Perm.refl _, r⟩
  | @cons y l1 l2 p ih =>
    intro xs r
    cases xs with
    | nil => exact absurd r (by intro z; cases z)
    | cons x xs =>
      obtain ⟨v, r', e, h1, h2⟩ := r
      cases e
      obtain ⟨zs, q1, q2⟩ := ih h2
      exact ⟨x :: zs, List.Perm.cons x q1, y, _, rfl, h1, q2⟩
  | @swap a b l =>
    intro xs r
    match xs, r with
    | [], r => exact absurd r (by intro z; cases z)
    | [_], r => obtain ⟨v, r', e, h1, h2⟩ := r; cases e; cases h2
    | x :: x' :: xs, r =>
      obtain ⟨v, r', e, h1, v', r'', e', h2, h3⟩ := r
      cases e
      cases e'
      exact ⟨x' :: x :: xs, List.Perm.swap _ _ _, _, _, rfl, h2, _, _, rfl, h1, h3⟩
  | trans p1 p2 ih1 ih2 =>
    intro xs r
    obtain ⟨zs, q1, q2⟩ := ih2 r
    obtain ⟨zs', q3, q4⟩ := ih1 q2
    exact ⟨zs', q3.trans q1, q4⟩
theorem trip_tupI {K : PySem.W.Frag} {ρ : Rho} {n : Nat} {H : Hp} {t : Int × Int × Int} {v : V} (r : RV K ρ n H (tripD t) v) : TupI K H v [t.1, t.2.1, t.2.2] := by
  obtain ⟨a, vs, rfl, hs, v1, r1, rfl, e1, v2, r2, rfl, e2, v3, r3, rfl, e3, rfl⟩ := r
  cases e1; cases e2; cases e3
  exact ⟨a, rfl, hs.1⟩
theorem code_trip (a b c : Int) : TS.code 64 [a, b, c] = codeT (a, b, c) := by
  have e2 : (64 : Int) ^ 2 = 4096 := by decide
  have e1 : (64 : Int) ^ 1 = 64 := by decide
  have e0 : (64 : Int) ^ 0 = 1 := by decide
  show a * 64 ^ 2 + (b * 64 ^ 1 + (c * 64 ^ 0 + 0)) = a * 4096 + b * 64 + c
  rw [e2, e1, e0]
  omega
theorem perm_of_map {α β : Type} {f : α → β} {zs ws : List β} (p : zs.Perm ws) : ∀ {ts : List α}, ws = ts.map f → ∃ us : List α, us.Perm ts ∧ zs = us.map f := by
  induction p with
  | nil => exact fun {ts} h => ⟨ts, List.Perm.refl _, h⟩
  | @cons x l1 l2 p ih =>
    intro ts h
    cases ts with
    | nil => simp at h
    | cons t ts =>
      rw [List.map_cons] at h
      injection h with h1 h2
      obtain ⟨us, q1, q2⟩ := ih h2
      exact ⟨t :: us, List.Perm.cons t q1, by rw [List.map_cons, h1, q2]⟩
  | @swap x y l =>
    intro ts h
    match ts, h with
    | [], h => simp at h
    | [_], h => simp at h
    | a :: b :: ts, h =>
      rw [List.map_cons, List.map_cons] at h
      injection h with h1 h2
      injection h2 with h2 h3
      exact ⟨b :: a :: ts, List.Perm.swap _ _ _, by rw [List.map_cons, List.map_cons, h1, h2, h3]⟩
  | trans p1 p2 ih1 ih2 =>
    intro ts h
    obtain ⟨us, q1, q2⟩ := ih2 h
    obtain ⟨us', q3, q4⟩ := ih1 q2
    exact ⟨us', q3.trans q1, q4⟩
theorem RVs.mem {K : PySem.W.Frag} {ρ : Rho} {n : Nat} {H : Hp} : ∀ {xs : List D} {vs : List V}, RVs K ρ n H xs vs → ∀ x ∈ xs, ∃ v ∈ vs, RV K ρ n H x v
  | [], _, _, x, hx => by simp at hx
  | y :: xs, _, ⟨v, r, e, h1, h2⟩, x, hx => by
    subst e
    rcases List.mem_cons.mp hx with rfl | hx
    · exact ⟨v, List.mem_cons_self, h1⟩
    · obtain ⟨u, q1, q2⟩ := RVs.mem h2 x hx
      exact ⟨u, List.mem_cons_of_mem _ q1, q2⟩
theorem pw_of {K : PySem.W.Frag} {ρ : Rho} {n : Nat} {H : Hp} : ∀ {us : List (Int × Int × Int)} {ys : List V}, RVs K ρ n H (us.map tripD) ys → ys.Pairwise (fun x y => ∀ n m, TupI K H x n → TupI K H y m → TS.code 64 n ≤ TS.code 64 m) → us.Pairwise (fun a b => codeT a ≤ codeT b)
  | [], _, _, _ => List.Pairwise.nil
  | t :: us, _, ⟨v, r, e, h1, h2⟩, pw => by
    subst e
    have pw' := List.pairwise_cons.mp pw
    refine List.pairwise_cons.mpr ⟨fun u hu => ?_, pw_of h2 pw'.2⟩
    obtain ⟨w, q1, q2⟩ := h2.mem (tripD u) (List.mem_map_of_mem hu)
    have := pw'.1 w q1 _ _ (trip_tupI h1) (trip_tupI q2)
    rw [code_trip, code_trip] at this
    exact this
section tupSort
variable {pg : Program} {wo : World} {ar : Around} {er : Value → Shared → Prop} {st : Shared}
/-- the items of a tuple are taken at once -/
theorem col_tup {t : Addr} {us : List Value} {R : List Value → Shared → Prop} (ht : st.heap.IsTuple t us.toArray) (hz : us.length ≤ sizeLine)
    (k : R us { st with heap := (st.heap.push (seqObj "list" #[] 0)).update st.heap.objs.size (Obj.mapSeq (· ++ us.toArray)) }) : wpAny (model pg wo) ar (collect (.ref t)) R er st := by
  obtain ⟨ob, h1, h2, m, h3⟩ := id ht
  unfold collect
  refine wpAny_bind (wpAny_runValue (codeAny_builtin entry_proto_collect' ?_))
  show wpAny _ _ (do again (.builtin "list.__iadd__" ⟨[← newList [], .ref t], []⟩)) _ _ st
  refine wpAny_bind (wpAny_newList (wpAny_pure ⟨Code.quiet_builtin _ (by decide +kernel), codeAny_builtin entry_list_iadd' ?_⟩))
  show wpAny _ _ (Builtin.List.listExtendWith (.ref st.heap.objs.size) (.ref t) (.ref st.heap.objs.size)) _ _ { st with heap := st.heap.push (seqObj "list" #[] 0) }
  unfold Builtin.List.listExtendWith
  have h1' : (st.heap.push (seqObj "list" #[] 0)).get? t = some ob := Heap.get?_push_of_some _ h1
  refine wpAny_bind (wpAny_typeOf (T := "tuple") ⟨ob, h1', h2⟩ ?_)
  have e1 : (Value.type "tuple" == Value.type "list") = false := by rfl
  have e2 : (Value.type "tuple" == Value.type "tuple") = true := by rfl
  rw [if_pos (by rw [e1, e2]; simp)]
  refine wpAny_bind (listItems_at h1' h3 ?_)
  refine wpAny_bind (listItems_at (xs := #[]) (n := 0) (Heap.get?_push_size _ rfl) rfl ?_)
  rw [if_neg (by simp)]
  refine wpAny_bind (listUpdate_at (xs := #[]) (n := 0) (Heap.get?_push_size _ rfl) rfl ?_ (Nat.zero_le _) (by show (#[] ++ us.toArray).size ≤ sizeLine + 1; simp only [Array.size_append, List.size_toArray, List.length_nil]; omega))
  refine wpAny_pure ?_
  show wpAny (model pg wo) ar (do
      let ob ← load st.heap.objs.size
      match ob.data with
      | .seq qs _ => pure qs.toList
      | _ => unsupported "internal:collect") R er { st with heap := (st.heap.push (seqObj "list" #[] 0)).update st.heap.objs.size (Obj.mapSeq (· ++ us.toArray)) }
  refine wpAny_bind (wpAny_load (get?_update_seq (Heap.get?_push_size _ rfl) _) ?_)
  show wpAny _ _ (pure ((#[] : Array Value) ++ us.toArray).toList) R er _
  have e3 : ((#[] : Array Value) ++ us.toArray).toList = us := by simp
  rw [e3]
  exact wpAny_pure k
/-- sorted of a tuple of tuples of ints -/
theorem srt_tup {t : Addr} {us : List Value} {d : Nat} {B : Int} {R : Value → Shared → Prop} (ht : st.heap.IsTuple t us.toArray) (h64 : us.length < 64) (hd : 1 ≤ d) (x : TS.TupsOk st.heap d B us)
    (k : ∀ o : Array Value, o.toList.Perm us → o.toList.Pairwise (fun u v => TS.code B (TS.intsOf st.heap u) ≤ TS.code B (TS.intsOf st.heap v)) → R (.ref (st.heap.objs.size + 1)) { st with heap := sortedAll st.heap us o }) :
    wpAny (model pg wo) ar (call (.builtin "sorted") [.ref t]) R er st := by
  refine Calls.call_function_entry kind_sorted plain_sorted entry_sorted (args_sorted1 _) ?_
  unfold Builtin.«sorted»
  refine wpAny_bind (m := checkCount "sorted" 1 1 _) (wpAny_pure ?_)
  refine wpAny_bind (col_tup ht (by rw [sizeLine_eq]; omega) ?_)
  refine wpAny_bind (wpAny_newList ?_ (by rw [sizeLine_eq]; omega))
  generalize hL : (st.heap.push (seqObj "list" #[] 0)).update st.heap.objs.size (Obj.mapSeq (· ++ us.toArray)) = L
  have z1 : L.objs.size = st.heap.objs.size + 1 := by rw [← hL, Heap.size_update, size_push']
  have z2 : (L.push (seqObj "list" us.toArray 0)).get? (st.heap.objs.size + 1) = some (seqObj "list" us.toArray 0) := by rw [← z1]; exact Heap.get?_push_size _ rfl
  have kp : ∀ b o, st.heap.get? b = some o → o.cls = .type "tuple" → (L.push (seqObj "list" us.toArray 0)).get? b = some o := fun b o q _ => by
    have hb : b < st.heap.objs.size := Heap.lt_size q
    rw [Heap.get?_push_ne _ _ _ (by rw [z1]; exact Nat.ne_of_lt (Nat.lt_succ_of_lt hb)), ← hL, Heap.get?_update_ne _ _ _ _ (Nat.ne_of_lt hb), Heap.get?_push_ne _ _ _ (Nat.ne_of_lt hb)]
    exact q
  show wpAny _ _ _ _ _ { st with heap := L.push (seqObj "list" us.toArray 0) }
  rw [z1]
  refine wpAny_bind (wpAny_holding (wpAny_call_entry slot_list_sort ⟨_, z2, rfl⟩ entry_list_sort (TS.sort_tups z2 h64 hd (x.keeps kp) (fun v => TS.code B (TS.intsOf st.heap v)) (fun v hv ns q => ?_) fun o a1 a2 => ⟨_, rfl, ?_⟩) (args_list_sort _)))
  · obtain ⟨n0, t0, _⟩ := x v hv
    have e : ns = n0 := q.ints.symm.trans (t0.keeps kp).ints
    subst e
    show TS.code B (TS.intsOf st.heap v) = TS.code B ns
    rw [t0.ints]
  · exact wpAny_pure ⟨_, rfl, by
      subst hL
      exact k o a1 a2⟩
end tupSort
def rSortUT (K : PySem.W.Frag) (d : Nat) (B : Int) : List V → Hp → VK → Prop := fun vs H Q => ∃ (a : Addr) (xs : List V), vs = [V.ref a] ∧ SqT K H a xs ∧ xs.length < 64 ∧ (∀ x ∈ xs, ∃ ns, TupI K H x ns ∧ ns.length = d ∧ TS.Bd B ns) ∧
  ∀ (ys : List V) (p : Addr), ys.Perm xs → ys.Pairwise (fun x y => ∀ n m, TupI K H x n → TupI K H y m → TS.code B n ≤ TS.code B m) → H p = none → Q (.ref p) (upd H p (.lst ys))
theorem cr_sortUT {d : Nat} {B : Int} (hd : 1 ≤ d) : CallR X (.builtin "sorted") (rSortUT X.K d B) := by
  intro pins s σ H vs us Q I r h
  obtain ⟨a, xs, rfl, hs, h64, hx, q⟩ := h
  obtain ⟨its, rv, hl, hz⟩ := I.tuple hs
  rw [Vals.ref1 r]
  obtain ⟨e1, e2⟩ := bkV_refs rv fun x m => let ⟨ns, ⟨t, e, _⟩, _⟩ := hx x m; ⟨t, e⟩
  refine srt_tup (d := d) (B := B) (show s.heap.IsTuple a its.toArray from hl) (by rw [← rv.length]; exact h64) hd (fun v hv => ?_) fun o p1 p2 => ?_
  · obtain ⟨t, rfl⟩ := e2 v hv
    obtain ⟨ns, ⟨t', e, ht⟩, hn, hb⟩ := hx (.ref t) (by rw [e1]; exact List.mem_map.mpr ⟨_, hv, rfl⟩)
    cases e
    exact ⟨ns, tupI_raw I ht, hn, hb⟩
  · obtain ⟨ep, he'⟩ := PyProof.Rows.sortedAll_at s.heap its o
    have hp : (o.toList.map bkV).Perm xs := by rw [e1]; exact p1.map bkV
    refine ⟨.ref _, upd H (s.heap.objs.size + 1) (.lst (o.toList.map bkV)), I.laid (t' := s.toks) (fun _ _ => PyProof.Rows.sortedAll_old) (Nat.le_succ _) ⟨by rw [hp.length_eq]; exact hz, o.toList, ep, bkV_vals fun u hu => e2 u (p1.mem_iff.mp hu), he'⟩, rfl, q _ _ hp ?_ (I.hok.fresh (Nat.le_succ _))⟩
    rw [List.pairwise_map]
    refine List.Pairwise.imp (fun {u v} huv n m hn hm => ?_) p2
    obtain ⟨t, et, ht⟩ := hn
    obtain ⟨t', et', ht'⟩ := hm
    rw [bkV_ref et, bkV_ref et'] at huv
    rw [← (tupI_raw I ht).ints, ← (tupI_raw I ht').ints]
    exact huv
theorem CallR.or {f : Value} {r1 r2 : List V → Hp → VK → Prop} (h1 : CallR X f r1) (h2 : CallR X f r2) : CallR X f (fun xs H Q => r1 xs H Q ∨ r2 xs H Q) := fun pins s σ H vs us Q I r h => h.elim (h1 pins s σ H vs us Q I r) (h2 pins s σ H vs us Q I r)
theorem bf_sorted : CallR X (.builtin "sorted") (rBf X.K X.w .sorted) := CallR.weak (CallR.or (cr_sortT (d := 3) (B := 64) (by decide)) (cr_sortUT (d := 3) (B := 64) (by decide))) fun xs H Q h => by
  obtain ⟨ρ, G, ds, d, G', R, r, e, q⟩ := h
  match ds, e with
  | [], e => simp [bfn] at e
  | _ :: _ :: _, e => simp [bfn] at e
  | [x], e =>
    simp only [bfn] at e
    split at e
    · rename_i xs' ex
      split at e
      · rename_i ts ht
        split at e
        · rename_i h64
          cases e
          obtain ⟨v, r', rfl, rx, rfl⟩ := r
          obtain ⟨e1, hb⟩ := tripsD_map ht
          subst e1
          have bd : ∀ {vs : List V}, RVs X.K ρ G.n H (ts.map tripD) vs → vs.length < 64 ∧ ∀ x ∈ vs, ∃ ns, TupI X.K H x ns ∧ ns.length = 3 ∧ TS.Bd 64 ns := fun {vs} rr => by
            have hlen : vs.length = ts.length := by rw [rr.length, List.length_map]
            refine ⟨by rw [hlen]; exact h64, fun x hx => ?_⟩
            obtain ⟨i, hi, e2⟩ := List.getElem_of_mem hx
            have hi' : i < ts.length := by rw [← hlen]; exact hi
            obtain ⟨v2, g1, g2⟩ := rr.get (i := i) (d := tripD ts[i]) (by rw [List.getElem?_map, List.getElem?_eq_getElem hi']; rfl)
            rw [List.getElem?_eq_getElem hi] at g1
            have e3 : x = v2 := e2.symm.trans (Option.some.inj g1)
            subst e3
            obtain ⟨b1, b2, b3⟩ := hb _ (List.getElem_mem hi')
            refine ⟨_, trip_tupI g2, rfl, ?_⟩
            intro z hz
            simp only [List.mem_cons, List.not_mem_nil, or_false] at hz
            rcases hz with rfl | rfl | rfl
            · exact b1
            · exact b2
            · exact b3
          have out : ∀ {vs : List V}, RVs X.K ρ G.n H (ts.map tripD) vs → ∀ (ys : List V) (p : Addr), ys.Perm vs → ys.Pairwise (fun x y => ∀ n m, TupI X.K H x n → TupI X.K H y m → TS.code 64 n ≤ TS.code 64 m) → H p = none → Q (.ref p) (upd H p (.lst ys)) := fun {vs} rr ys p pm pw hp => by
            obtain ⟨zs, z1, z2⟩ := RVs.perm pm rr
            obtain ⟨us, u1, u2⟩ := perm_of_map z1 rfl
            subst u2
            have hu : us = sortT ts := sorted_unique (u1.trans (sortT_perm ts).symm) (pw_of z2 pw) (sortT_sorted ts) fun t ht => hb t (u1.mem_iff.mp ht)
            subst hu
            exact q.newL R z2 p hp
          cases x with
          | ref a =>
            obtain ⟨_, rfl⟩ := rx
            obtain ⟨vs, h1, rr⟩ := R.sqL (seqOf_ref ex)
            exact .inl ⟨ρ a, vs, rfl, h1, (bd rr).1, (bd rr).2, out rr⟩
          | tup ys =>
            simp only [seqOf] at ex; cases ex
            obtain ⟨a, vs, rfl, ha, rr⟩ := rx
            exact .inr ⟨a, vs, rfl, ha.1, (bd rr).1, (bd rr).2, out rr⟩
          | _ => simp [seqOf] at ex
        · cases e
      · cases e
    · cases e
end
end Ev

/-! EvX: what is compiled does what the text does. -/
namespace Ev
open PySem PySem.Spec
open PyProof.Rows hiding St
open L2
open Sem (wp)
/-- the module's plain names and tables -/
structure Cst (T : Tab) (X : Cx) : Prop where
  ks : ∀ x d, T.ks.lookup x = some d → ∃ v u, X.mg x = some u ∧ RelV v u ∧ ∀ ρ m H, RV X.K ρ m H d v
  kd : ∀ g k d, T.kd.lookup (g, k) = some d → ∃ v, (∀ ρ m H, RV X.K ρ m H d v) ∧ ∀ Y : Cx, Y.prog = X.prog → Y.w = X.w → Y.K = X.K → Y.mg = X.mg → Y.base = X.base → Y.calm = true → Y.A = X.A → Gl Y g → ∀ p j p' q, PE Y (.Subscript (.Name g p) (.Constant (.str k) j p') q) (tC v)
structure Gd2 (T : Tab) (P : List Fn) (n : Nat) (sc : Scope) (X : Cx) : Prop where
  gd : Gd T.fs P T.N sc n X
  cst : Cst T X
section
variable {T : Tab} {P : List Fn} {n : Nat} {sc so : Scope} {X : Cx}
theorem Gd2.blk (g : Gd2 T P n sc X) (s : Shared) (H : Hp) (B : Addr) (cl : List (Str × Addr)) (fp : List Addr) : Gd2 T P n (relS so sc) (X.blk s H so (compEnvC so cl B X.env) fp) where
  gd := ⟨by rw [← g.gd.sc]; rfl, g.gd.N, g.gd.nd, g.gd.calm, rfl, g.gd.room, g.gd.fn, g.gd.blt⟩
  cst := ⟨g.cst.ks, g.cst.kd⟩
theorem sto_blk (g : Gd2 T P n sc X) (s : Shared) (H : Hp) (B : Addr) (cl : List (Str × Addr)) (fp : List Addr) : Sto T.N so (X.blk s H so (compEnvC so cl B X.env) fp) := by
  intro x i h
  unfold stoOf at h
  split at h
  · rename_i hk
    obtain ⟨j, h1, h2⟩ := idxS_at h
    have q : (X.blk s H so (compEnvC so cl B X.env) fp).env.scope.names.lookup x = some .local := lookup_relS_keep (by decide) hk
    exact ⟨by rw [h1, Nat.zero_add]; show X.N[j]? = _; rw [g.gd.N]; exact h2, .inl q, .inr q⟩
  · rename_i hk
    obtain ⟨j, h1, h2⟩ := idxS_at h
    have q : (X.blk s H so (compEnvC so cl B X.env) fp).env.scope.names.lookup x = some .cell := lookup_relS_keep (by decide) hk
    exact ⟨by rw [h1, Nat.zero_add]; show X.N[j]? = _; rw [g.gd.N]; exact h2, .inr q, .inl (by show (so.names.lookup x == some .cell) = true; rw [hk]; rfl)⟩
  · cases h
/-- operators -/
theorem opR_bin (g : Gd2 T P n sc X) {o : Operator} {p : Op} (h : opOf o = some p) : OpR X (binaryOp o) (rOp X.K X.w p) := by
  cases o <;> simp only [opOf] at h <;> cases h
  · exact opO_add
  · exact opO_sub
  · exact opO_mul
  · exact opO_mod
  · exact opO_pow
  · exact opO_shl
  · exact opO_fdiv
theorem opR_cmp (g : Gd2 T P n sc X) {o : CmpOp} {p : Op} (h : cmpOf o = some p) : OpR X (compareOp o) (rOp X.K X.w p) := by
  cases o <;> simp only [cmpOf] at h <;> cases h
  · exact opO_eq g.gd.u64
  · exact opO_ne g.gd.u64
  · exact opO_lt g.gd.u64
  · exact opO_le
  · exact opO_gt g.gd.u64
  · exact opO_ge
  · exact opO_in g.gd.u64
  · exact opO_notin g.gd.u64
theorem cmp_bool {o : CmpOp} {p : Op} (h : cmpOf o = some p) : p = .eq ∨ p = .ne ∨ p = .lt ∨ p = .le ∨ p = .gt ∨ p = .ge ∨ p = .isin ∨ p = .notin := by
  cases o <;> simp only [cmpOf] at h <;> cases h <;> simp

theorem lookup_mem {A B : Type} [BEq A] [LawfulBEq A] : ∀ {l : List (A × B)} {x : A} {y : B}, l.lookup x = some y → (x, y) ∈ l
  | (a, b) :: r, x, y, h => by
    rw [List.lookup_cons] at h
    split at h
    · rename_i e
      cases h
      rw [eq_of_beq e]
      exact .head _
    · exact .tail _ (lookup_mem h)
/-- the built-in functions' rules -/
theorem bf_rule (g : Gd2 T P n sc X) {f : Str} {m : Nat} {b : Bf} (h : bfOf f m = some b) : f ∈ builtinsUsed ∧ f ≠ "__name__" ∧ (f == ("__debug__" : Str)) = false ∧
    ((∃ id, bootBuiltins f = some (.builtin id) ∧ CallR X (.builtin id) (rBf X.K X.w b)) ∨ (∃ T, bootBuiltins f = some (.type T) ∧ CallR X (.type T) (rBf X.K X.w b))) := by
  have q := lookup_mem (show bfTab.lookup (f, m) = some b from h)
  unfold bfTab at q
  rcases List.mem_cons.mp q with e | q
  · cases e; exact ⟨by decide, by decide, by decide, .inl ⟨"len", by rfl, bf_len⟩⟩
  rcases List.mem_cons.mp q with e | q
  · cases e; exact ⟨by decide, by decide, by decide, .inr ⟨"int", by rfl, bf_int⟩⟩
  rcases List.mem_cons.mp q with e | q
  · cases e; exact ⟨by decide, by decide, by decide, .inl ⟨"min", by rfl, bf_min2 g.gd.calm⟩⟩
  rcases List.mem_cons.mp q with e | q
  · cases e; exact ⟨by decide, by decide, by decide, .inl ⟨"max", by rfl, bf_max2 g.gd.calm⟩⟩
  rcases List.mem_cons.mp q with e | q
  · cases e; exact ⟨by decide, by decide, by decide, .inl ⟨"min", by rfl, bf_minL g.gd.calm⟩⟩
  rcases List.mem_cons.mp q with e | q
  · cases e; exact ⟨by decide, by decide, by decide, .inr ⟨"tuple", by rfl, bf_tuple⟩⟩
  rcases List.mem_cons.mp q with e | q
  · cases e; exact ⟨by decide, by decide, by decide, .inr ⟨"list", by rfl, bf_list⟩⟩
  rcases List.mem_cons.mp q with e | q
  · cases e; exact ⟨by decide, by decide, by decide, .inr ⟨"dict", by rfl, bf_dictP g.gd.calm⟩⟩
  rcases List.mem_cons.mp q with e | q
  · cases e; exact ⟨by decide, by decide, by decide, .inl ⟨"all", by rfl, bf_all g.gd.calm⟩⟩
  rcases List.mem_cons.mp q with e | q
  · cases e; exact ⟨by decide, by decide, by decide, .inl ⟨"any", by rfl, bf_any g.gd.calm⟩⟩
  rcases List.mem_cons.mp q with e | q
  · cases e; exact ⟨by decide, by decide, by decide, .inr ⟨"str", by rfl, bf_str⟩⟩
  rcases List.mem_cons.mp q with e | q
  · cases e; exact ⟨by decide, by decide, by decide, .inl ⟨"sorted", by rfl, bf_sorted⟩⟩
  cases q
theorem bf_nargs {f : Str} {m : Nat} {b : Bf} (h : bfOf f m = some b) : m ≠ 0 := by
  have q := lookup_mem (show bfTab.lookup (f, m) = some b from h)
  unfold bfTab at q
  rcases List.mem_cons.mp q with e | q
  · cases e; decide
  rcases List.mem_cons.mp q with e | q
  · cases e; decide
  rcases List.mem_cons.mp q with e | q
  · cases e; decide
  rcases List.mem_cons.mp q with e | q
  · cases e; decide
  rcases List.mem_cons.mp q with e | q
  · cases e; decide
  rcases List.mem_cons.mp q with e | q
  · cases e; decide
  rcases List.mem_cons.mp q with e | q
  · cases e; decide
  rcases List.mem_cons.mp q with e | q
  · cases e; decide
  rcases List.mem_cons.mp q with e | q
  · cases e; decide
  rcases List.mem_cons.mp q with e | q
  · cases e; decide
  rcases List.mem_cons.mp q with e | q
  · cases e; decide
  rcases List.mem_cons.mp q with e | q
  · cases e; decide
  cases q
theorem isa_rule (g : Gd2 T P n sc X) {t : Str} {b : Bf} (h : isaOf t = some b) : ∃ ty, isaT b = some ty ∧ t ∈ builtinsUsed ∧ bootBuiltins t = some (.type ty) ∧ t ≠ "__name__" ∧ (t == ("__debug__" : Str)) = false := by
  unfold isaOf at h
  split at h
  · rename_i q; cases h; subst q; exact ⟨"int", by decide, by decide, by rfl, by decide, by decide⟩
  split at h
  · rename_i q; cases h; subst q; exact ⟨"bool", by decide, by decide, by rfl, by decide, by decide⟩
  split at h
  · rename_i q; cases h; subst q; exact ⟨"str", by decide, by decide, by rfl, by decide, by decide⟩
  split at h
  · rename_i q; cases h; subst q; exact ⟨"tuple", by decide, by decide, by rfl, by decide, by decide⟩
  split at h
  · rename_i q; cases h; subst q; exact ⟨"list", by decide, by decide, by rfl, by decide, by decide⟩
  split at h
  · rename_i q; cases h; subst q; exact ⟨"dict", by decide, by decide, by rfl, by decide, by decide⟩
  cases h
/-- the methods' rules -/
theorem mt_rule (g : Gd2 T P n sc X) {m : Str} {k : Nat} {b : Bf} (h : mtOf m k = some b) : k < 20 ∧ ∃ id, PlainAttrs (mtT b) ∧ Slot (mtT b) m id ∧ typeOf (.builtin id) = pure (.type "method_descriptor") ∧ MtR X id (rMt X.K X.w b) := by
  unfold mtOf at h
  split at h
  · rename_i q; cases h; obtain ⟨rfl, rfl⟩ := q; exact ⟨by decide, "list.append", PySem.F.plainAttrs_list, PySem.F.slot_list_append, PySem.F.type_list_append, mt_appendD⟩
  split at h
  · rename_i q; cases h; obtain ⟨rfl, rfl⟩ := q; exact ⟨by decide, "list.extend", PySem.F.plainAttrs_list, PySem.F.slot_list_extend, PySem.F.type_list_extend, mt_extendD⟩
  split at h
  · rename_i q; cases h; obtain ⟨rfl, rfl⟩ := q; exact ⟨by decide, "list.pop", PySem.F.plainAttrs_list, PySem.F.slot_list_pop, PySem.F.type_list_pop, mt_popD⟩
  split at h
  · rename_i q; cases h; obtain ⟨rfl, rfl⟩ := q; exact ⟨by decide, "list.index", PySem.F.plainAttrs_list, PySem.F.slot_list_index, PySem.F.type_list_index, mt_indexDD g.gd.u66⟩
  split at h
  · rename_i q; cases h; obtain ⟨rfl, rfl⟩ := q; exact ⟨by decide, "dict.get", PySem.F.plainAttrs_dict, PySem.F.slot_dict_get, PySem.F.type_dict_get, mt_get2 g.gd.u66⟩
  split at h
  · rename_i q; cases h; obtain ⟨rfl, rfl⟩ := q; exact ⟨by decide, "dict.update", PySem.F.plainAttrs_dict, PySem.F.slot_dict_update, PySem.F.type_dict_update, mt_updateD g.gd.u66⟩
  cases h

/-! ### the induction -/
structure OkE (T : Tab) (P : List Fn) (n : Nat) (f : Nat) : Prop where
  e : ∀ (X : Cx) (sc : Scope), Gd2 T P n sc X → ∀ e ie, cE' T sc f e = some ie → PE X e (tE X.K X.w (CLn P n) ie) ∧ PT X e (tT X.K X.w (CLn P n) ie)
  a : ∀ (X : Cx) (sc : Scope), Gd2 T P n sc X → ∀ es ia, cA T sc f es = some ia → PA X es (tA X.K X.w (CLn P n) ia) ∧ (∀ e ∈ es, isStar e = false) ∧ ∀ C σ G d G', evE C ia σ G = .ok d G' → ∃ ds, d = .tup ds ∧ ds.length = es.length
  b : ∀ (X : Cx) (sc : Scope), Gd2 T P n sc X → ∀ o es ie, cB T sc f o es = some ie → ∀ pos, PE X (.BoolOp o es pos) (tE X.K X.w (CLn P n) ie) ∧ PW X (.BoolOp o es pos) (tT X.K X.w (CLn P n) ie) ∧ es ≠ []
  o : ∀ (X : Cx) (sc : Scope), Gd2 T P n sc X → ∀ o, PO X o (tO X.K X.w (CLn P n) o.isSome (cO T sc f o))
  i : ∀ (X : Cx) (sc : Scope), Gd2 T P n sc X → ∀ es hc c, cIfs T sc f es = some (hc, c) → PTs X es (tIfs X.K X.w (CLn P n) hc c)
  w : ∀ (X : Cx) (sc : Scope), Gd2 T P n sc X → ∀ tg e, PI X tg e (tI X.K X.w (CLn P n) (cI T sc f tg e).1 (cI T sc f tg e).2)
theorem OkE.g {f : Nat} (h : OkE T P n f) (g : Gd2 T P n sc X) (e : Expr) : PE X e (tE X.K X.w (CLn P n) ((cE' T sc f e).getD .bad)) ∧ PT X e (tT X.K X.w (CLn P n) ((cE' T sc f e).getD .bad)) := by
  cases q : cE' T sc f e with
  | none => exact ⟨e_bad, t_bad⟩
  | some ie => exact h.e X sc g e ie q
theorem i_bad {tg e : Expr} {C : Cl} {k : Ik} : PI X tg e (tI X.K X.w C k .bad) := PI.none_ok fun σ H R ⟨ρ, σd, G, x, s, G1, R0, S, e1, q⟩ => by cases e1
end
end Ev

/-! EvY: the induction over expressions. -/
namespace Ev
open PySem PySem.Spec
open PyProof.Rows hiding St
open L2
open Sem (wp)
section
variable {T : Tab} {P : List Fn} {n : Nat} {sc so : Scope} {X : Cx}
theorem beh_last {o o' : CmpOp} {b c : Expr} (h : isSetE c = false) : lastMarks [o, o'] [b, c] = false := by
  unfold lastMarks
  exact behind_set h
theorem within_ok {t : Ev.T} {l : List Nat} (h : t.within l = true) : ∀ i ∈ t.slots, i ∈ l := by
  unfold T.within at h
  rw [List.all_eq_true] at h
  intro i hi
  have := h i hi
  simpa using this
theorem e_conK {d : D} {C : Cl} {v : V} {e : Expr} (h : PE X e (tC v)) (hd : ∀ ρ m H, RV X.K ρ m H d v) : PE X e (tE X.K X.w C (.con d)) := PE.weak h fun σ H Q ⟨ρ, σd, G, d', G', R, S, e, q⟩ => by
  simp only [evE, M.pure_ok] at e
  obtain ⟨rfl, rfl⟩ := e
  exact q.here R (hd _ _ _)
theorem cE'_sub {f : Nat} {a i : Expr} {pos : Pos} {ie : E} (hs : isSl i = false) (h : cE' T sc (f + 1) (.Subscript a i pos) = some ie) :
    (∃ g p k j p' d, a = .Name g p ∧ i = .Constant (.str k) j p' ∧ T.kd.lookup (g, k) = some d ∧ isGl sc g = true ∧ ie = .con d) ∨ (ie = .bin .idx ((cE' T sc f a).getD .bad) ((cE' T sc f i).getD .bad)) ∨ (∃ k j p', i = .Constant (.str k) j p' ∧ ie = .bin .idx ((cE' T sc f a).getD .bad) (.con (.str k))) := by
  rw [cE'.eq_def] at h
  dsimp only at h
  split at h
  all_goals first
    | (rename_i q; cases q; done)
    | (rename_i q _; cases q; done)
    | (rename_i q _ _; cases q; done)
    | skip
  · rename_i g p k j p' q hq
    injection hq with h1 h2 h3
    subst h1 h2
    split at h
    · rename_i d hd
      split at h
      · rename_i hg
        cases h
        exact .inl ⟨g, p, k, j, p', d, rfl, rfl, hd, hg, rfl⟩
      · cases h
    · cases h
      exact .inr (.inr ⟨k, j, p', rfl, rfl⟩)
  · rename_i hq
    injection hq with h1 h2 h3
    subst h2
    simp [isSl] at hs
  · rename_i hq
    injection hq with h1 h2 h3
    subst h1 h2
    rw [if_neg (by rw [hs]; exact Bool.false_ne_true)] at h
    cases h
    exact .inr (.inl rfl)
  · cases h
set_option maxHeartbeats 1000000 in
theorem okE_e {f : Nat} (ih : OkE T P n f) (X : Cx) (sc : Scope) (g : Gd2 T P n sc X) (e : Expr) (ie : E) (h : cE' T sc (f + 1) e = some ie) : PE X e (tE X.K X.w (CLn P n) ie) ∧ PT X e (tT X.K X.w (CLn P n) ie) := by
  have ge := fun e => (ih.g g e).1
  have gt := fun e => (ih.g g e).2
  have both : PE X e (tE X.K X.w (CLn P n) ie) → (∀ whole, isTrue e X.env whole = (do let v ← whole; standAt e.pos; holding [v] (truthy v))) → PE X e (tE X.K X.w (CLn P n) ie) ∧ PT X e (tT X.K X.w (CLn P n) ie) := fun h1 h2 => ⟨h1, pt_of h1 h2⟩
  cases e with
  | Constant c j pos =>
    cases c <;> simp only [cE'] at h <;> cases h
    · exact both (e_con pe_non fun _ _ _ _ => rfl) fun _ => rfl
    · exact both (e_con pe_bl fun _ _ _ _ => rfl) fun _ => rfl
    · exact both (e_con pe_int fun _ _ _ _ => rfl) fun _ => rfl
    · exact both (e_con pe_str fun _ _ _ _ => rfl) fun _ => rfl
  | Name x pos =>
    simp only [cE'] at h
    split at h
    · rename_i i hi
      cases h
      exact both (e_var g.gd hi) fun _ => rfl
    · split at h
      · rename_i hg
        rw [Option.map_eq_some_iff] at h
        obtain ⟨d, hd, rfl⟩ := h
        obtain ⟨v, u, h1, h2, h3⟩ := g.cst.ks x d hd
        exact both (e_glob (g.gd.gl hg.1) h1 h2 (by simpa using hg.2) fun K ρ m H hK => by subst hK; exact h3 ρ m H) fun _ => rfl
      · cases h
  | BinOp a o b pos =>
    simp only [cE', Option.bind_eq_bind, Option.bind_eq_some_iff] at h
    obtain ⟨p, hp, h⟩ := h
    cases h
    exact both (e_bin (opR_bin g hp) (ge a) (ge b)) fun _ => rfl
  | UnaryOp o a pos =>
    cases o <;> simp only [cE'] at h <;> cases h
    · exact ⟨e_not (ge a), t_not (gt a)⟩
    · exact both (e_neg (ge a)) fun _ => rfl
  | BoolOp o es pos =>
    simp only [cE'] at h
    obtain ⟨h1, h2, _⟩ := ih.b X sc g o es ie h pos
    exact ⟨h1, h2.pt⟩
  | IfExp c a b pos =>
    simp only [cE'] at h; cases h
    exact ⟨e_ite (gt c) (ge a) (ge b), t_ite (gt c) (gt a) (gt b)⟩
  | Compare a os bs pos =>
    match os, bs with
    | [], _ => simp [cE'] at h
    | [o], [] => simp [cE'] at h
    | [o], _ :: _ :: _ => simp [cE'] at h
    | _ :: _ :: _ :: _, _ => simp [cE'] at h
    | [o, o'], [] => simp [cE'] at h
    | [o, o'], [_] => simp [cE'] at h
    | [o, o'], _ :: _ :: _ :: _ => simp [cE'] at h
    | [o], [b] =>
      simp only [cE'] at h
      split at h
      · rename_i k hk; cases h
        exact ⟨e_isK (neg := false) hk (ge a), t_isK (neg := false) hk (ge a)⟩
      · rename_i k hk; cases h
        exact ⟨e_isK (neg := true) hk (ge a), t_isK (neg := true) hk (ge a)⟩
      · split at h
        · cases h
        · rename_i hs
          simp only [Option.bind_eq_bind, Option.bind_eq_some_iff] at h
          obtain ⟨p, hp, h⟩ := h
          cases h
          have hs' : isSetE b = false := by simpa using hs
          exact ⟨e_cmp (opR_cmp g hp) (behind_set hs') (ge a) (ge b), t_cmp (cmp_bool hp) (opR_cmp g hp) (behind_set hs') (ge a) (ge b)⟩
    | [o, o'], [b, c] =>
      simp only [cE'] at h
      split at h
      · cases h
      · rename_i hs
        simp only [Option.bind_eq_bind, Option.bind_eq_some_iff] at h
        obtain ⟨p, hp, p', hp', h⟩ := h
        cases h
        have hs' : isSetE c = false := by simpa using hs
        exact ⟨e_chain (opR_cmp g hp) (opR_cmp g hp') (beh_last hs') (ge a) (ge b) (ge c), t_chain (cmp_bool hp') (opR_cmp g hp) (opR_cmp g hp') (beh_last hs') (ge a) (ge b) (ge c)⟩
  | Tuple es k pos =>
    simp only [cE', Option.bind_eq_bind, Option.bind_eq_some_iff] at h
    obtain ⟨ia, ha, h⟩ := h
    cases h
    exact both (e_tup (ih.a X sc g es ia ha).1) fun _ => rfl
  | List es pos =>
    simp only [cE', Option.bind_eq_bind, Option.bind_eq_some_iff] at h
    obtain ⟨ia, ha, h⟩ := h
    cases h
    exact both (e_lst (ih.a X sc g es ia ha).1) fun _ => rfl
  | Dict ks vs pos =>
    match ks, vs with
    | [], [] =>
      simp only [cE'] at h; cases h
      exact both e_dnew fun _ => rfl
    | _ :: _, _ => simp [cE'] at h
    | [], _ :: _ => simp [cE'] at h
  | Call fe as kws pos =>
    match kws with
    | _ :: _ => cases fe <;> simp [cE'] at h
    | [] =>
      cases fe with
      | Name gn p =>
        simp only [cE'] at h
        split at h
        · rename_i hg
          split at h
          · rename_i i hf
            simp only [Option.bind_eq_bind, Option.bind_eq_some_iff] at h
            obtain ⟨ia, ha, h⟩ := h
            cases h
            obtain ⟨h1, h2, _⟩ := ih.a X sc g as ia ha
            cases as with
            | nil =>
              cases f with
              | zero => simp [cA] at ha
              | succ f =>
                simp only [cA] at ha; cases ha
                exact both (e_call0 g.gd hg.1 hf (by simpa using hg.2.1)) fun _ => rfl
            | cons a es =>
              exact both (e_call g.gd hg.1 hf h1 (by simpa using hg.2.1) (starEach_cons (h2 a List.mem_cons_self) es _) (backTo_any fun e he => h2 e (List.mem_cons_of_mem _ he))) fun _ => rfl
          · split at h
            · rename_i hf hi
              split at h
              · rename_i a t p1
                split at h
                · rename_i ht
                  simp only [Option.bind_eq_bind, Option.bind_eq_some_iff] at h
                  obtain ⟨b, hb, h⟩ := h
                  cases h
                  obtain ⟨ty, q1, q2, q3, q4, q5⟩ := isa_rule g hb
                  subst hi
                  exact both (e_isa g.gd q1 hg.1 (ge a) ht.2 (pe_bltn (g.gd.gl ht.1) (g.gd.blt t q2) q3 rfl q4 q5)) fun _ => rfl
                · cases h
              · cases h
            · simp only [Option.bind_eq_bind, Option.bind_eq_some_iff] at h
              obtain ⟨b, hb, ia, ha, h⟩ := h
              cases h
              obtain ⟨h1, h2, _⟩ := ih.a X sc g as ia ha
              obtain ⟨q1, q2, q3, q4⟩ := bf_rule g hb
              cases as with
              | nil => exact absurd rfl (bf_nargs hb)
              | cons a es => exact both (e_bfn g.gd hg.1 q1 h1 q2 q3 (starEach_cons (h2 a List.mem_cons_self) es _) (backTo_any fun e he => h2 e (List.mem_cons_of_mem _ he)) q4) fun _ => rfl
        · cases h
      | Attribute o m apos =>
        simp only [cE'] at h
        split at h
        · rename_i hl
          simp only [Option.bind_eq_bind, Option.bind_eq_some_iff] at h
          obtain ⟨b, hb, ia, ha, h⟩ := h
          cases h
          obtain ⟨h1, h2, _⟩ := ih.a X sc g as ia ha
          obtain ⟨q0, id, q1, q2, q3, q4⟩ := mt_rule g hb
          cases as with
          | nil =>
            cases f with
            | zero => simp [cA] at ha
            | succ f =>
              simp only [cA] at ha; cases ha
              exact both (e_meth0 q1 q2 q3 q4 (ge o) hl.2 hl.1) fun _ => rfl
          | cons a es => exact both (e_meth q1 q2 q3 q4 (ge o) h1 h2 q0 hl.2 hl.1) fun _ => rfl
        · cases h
      | _ => simp [cE'] at h
  | Subscript a i pos =>
    have plain : isSl i = false → some (E.bin .idx ((cE' T sc f a).getD .bad) ((cE' T sc f i).getD .bad)) = some ie → PE X (.Subscript a i pos) (tE X.K X.w (CLn P n) ie) ∧ PT X (.Subscript a i pos) (tT X.K X.w (CLn P n) ie) := fun hs h => by
      cases h
      exact both (e_idx g.gd (ge a) (ge i) hs) fun _ => rfl
    by_cases hsl : isSl i = true
    · cases i with
      | Slice lo hi st p2 =>
        cases st with
        | none =>
          simp only [cE'] at h; cases h
          exact both (e_slice (ge a) (ih.o X sc g lo) (ih.o X sc g hi)) fun _ => rfl
        | some _ => simp [cE', isSl] at h
      | _ => simp [isSl] at hsl
    · have hsl' : isSl i = false := by simpa using hsl
      rcases cE'_sub hsl' h with ⟨gn, p, k, j, p', d, rfl, rfl, hd, hg, rfl⟩ | rfl | ⟨k, j, p', rfl, rfl⟩
      · obtain ⟨v, h1, h2⟩ := g.cst.kd gn k d hd
        exact both (e_conK (h2 X rfl rfl rfl rfl rfl g.gd.calm rfl (g.gd.gl hg) p j p' pos) h1) fun _ => rfl
      · exact both (e_idx g.gd (ge a) (ge i) hsl') fun _ => rfl
      · exact both (e_idx g.gd (ge a) (e_con pe_str fun _ _ _ _ => rfl) hsl') fun _ => rfl
  | ListComp elt gs so pos =>
    have one : ∀ {tg it : Expr} {ifs : List Expr} {ie : E}, cE' T sc (f + 1) (.ListComp elt [⟨tg, it, ifs, 0⟩] so pos) = some ie → PE X (.ListComp elt [⟨tg, it, ifs, 0⟩] so pos) (tE X.K X.w (CLn P n) ie) := by
      intro tg it ifs ie h
      simp only [cE'] at h
      split at h
      · rename_i hb
        simp only [Option.bind_eq_bind, Option.bind_eq_some_iff] at h
        obtain ⟨t, ht, h⟩ := h
        split at h
        · rename_i hw
          simp only [Option.bind_eq_bind, Option.bind_eq_some_iff] at h
          obtain ⟨⟨hc, c⟩, hcc, h⟩ := h
          cases h
          have okb := blkOk_by hb.1
          have okb' : BlkOk X.N X.env.scope so (ownOf T.N so) := by rw [g.gd.N, g.gd.sc]; exact okb
          have hi := ih.w X sc g tg it
          have hg := fun s H B cl fp => g_of (X := X.blk s H so (compEnvC so cl B X.env) fp) g.gd.calm g.gd.nd (sto_blk (so := so) g s H B cl fp) T rfl f tg t ht
          have hif := fun s H B cl fp => ih.i (X.blk s H so (compEnvC so cl B X.env) fp) (relS so sc) (g.blk s H B cl fp) ifs hc c hcc
          have hel := fun s H B cl fp => (ih.g (g.blk (so := so) s H B cl fp) elt).1
          exact PE.weak (pe_lc g.gd.calm g.gd.nd hi okb' hg hif hel (folded_set hb.2)) fun σ H Q q => q_comp g.gd.calm g.gd.nd hi okb' hg hif hel (folded_set hb.2) (within_ok hw) (pos := pos) q
        · cases h
      · cases h
    have two : ∀ {tg it tg1 it1 : Expr} {ifs ifs1 : List Expr} {ie : E}, cE' T sc (f + 1) (.ListComp elt [⟨tg, it, ifs, 0⟩, ⟨tg1, it1, ifs1, 0⟩] so pos) = some ie → PE X (.ListComp elt [⟨tg, it, ifs, 0⟩, ⟨tg1, it1, ifs1, 0⟩] so pos) (tE X.K X.w (CLn P n) ie) := by
      intro tg it tg1 it1 ifs ifs1 ie h
      simp only [cE'] at h
      split at h
      · rename_i hb
        simp only [Option.bind_eq_bind, Option.bind_eq_some_iff] at h
        obtain ⟨t, ht, t1, ht1, h⟩ := h
        split at h
        · rename_i hw
          simp only [Option.bind_eq_bind, Option.bind_eq_some_iff] at h
          obtain ⟨⟨hc, c⟩, hcc, ⟨hc1, c1⟩, hcc1, h⟩ := h
          cases h
          have okb := blkOk_by hb.1
          have okb' : BlkOk X.N X.env.scope so (ownOf T.N so) := by rw [g.gd.N, g.gd.sc]; exact okb
          have hi := ih.w X sc g tg it
          have hg := fun s H B cl fp => g_of (X := X.blk s H so (compEnvC so cl B X.env) fp) g.gd.calm g.gd.nd (sto_blk (so := so) g s H B cl fp) T rfl f tg t ht
          have hg1 := fun s H B cl fp => g_of (X := X.blk s H so (compEnvC so cl B X.env) fp) g.gd.calm g.gd.nd (sto_blk (so := so) g s H B cl fp) T rfl f tg1 t1 ht1
          have hi1 := fun s H B cl fp => ih.w (X.blk s H so (compEnvC so cl B X.env) fp) (relS so sc) (g.blk s H B cl fp) tg1 it1
          have hif := fun s H B cl fp => ih.i (X.blk s H so (compEnvC so cl B X.env) fp) (relS so sc) (g.blk s H B cl fp) ifs hc c hcc
          have hif1 := fun s H B cl fp => ih.i (X.blk s H so (compEnvC so cl B X.env) fp) (relS so sc) (g.blk s H B cl fp) ifs1 hc1 c1 hcc1
          have hel := fun s H B cl fp => (ih.g (g.blk (so := so) s H B cl fp) elt).1
          refine PE.weak (pe_lc2 (vs1 := t1.slots) g.gd.calm g.gd.nd hi okb' (within_ok (t := t1) hw.2) hg hif hi1 hg1 hif1 hel (folded_set hb.2.1) (fun env x => folded_set hb.2.2 x)) fun σ H Q q => q_comp2 (within_ok hw.1) q
        · cases h
      · cases h
    rcases gs with _ | ⟨⟨tg, it, ifs, as⟩, _ | ⟨⟨tg1, it1, ifs1, as1⟩, _ | ⟨g3, gr⟩⟩⟩
    · simp [cE'] at h
    · by_cases h0 : as = 0
      · subst h0; exact both (one h) fun _ => rfl
      · simp [cE', h0] at h
    · by_cases h0 : as = 0
      · by_cases h1 : as1 = 0
        · subst h0 h1; exact both (two h) fun _ => rfl
        · simp [cE', h0, h1] at h
      · simp [cE', h0] at h
    · simp [cE'] at h
  | _ => simp [cE'] at h

end
end Ev

/-! EvY2: the induction, second part. -/
namespace Ev
open PySem PySem.Spec
open PyProof.Rows hiding St
open L2
open Sem (wp)
section
variable {T : Tab} {P : List Fn} {n : Nat} {sc so : Scope} {X : Cx}

theorem ok0 : OkE T P n 0 where
  e := fun X sc g e ie h => by simp [cE'] at h
  a := fun X sc g es ia h => by cases es <;> simp [cA] at h
  b := fun X sc g o es ie h => by cases es <;> simp [cB] at h
  o := fun X sc g o => ⟨fun pins s σ H Q I ⟨ρ, σd, G, d, o', G', R, S, e, q⟩ => by simp only [cO] at e; cases e⟩
  i := fun X sc g es hc c h => by cases es <;> simp [cIfs] at h
  w := fun X sc g tg e => by simp only [cI]; exact i_bad
theorem okS {f : Nat} (ih : OkE T P n f) : OkE T P n (f + 1) where
  e := fun X sc g e ie h => okE_e ih X sc g e ie h
  a := fun X sc g es ia h => by
    cases es with
    | nil =>
      simp only [cA] at h; cases h
      refine ⟨a_nil, fun e he => by simp at he, fun C σ G d G' e => ?_⟩
      simp only [evE, M.pure_ok] at e
      exact ⟨[], e.1.symm, rfl⟩
    | cons e es =>
      simp only [cA] at h
      split at h
      · cases h
      · rename_i hs
        simp only [Option.bind_eq_bind, Option.bind_eq_some_iff] at h
        obtain ⟨ir, hr, h⟩ := h
        cases h
        have hs' : isStar e = false := by simpa using hs
        obtain ⟨h1, h2, h3⟩ := ih.a X sc g es ir hr
        refine ⟨a_cons (ih.g g e).1 h1 (starEach_cons hs' _ _), fun x hx => ?_, fun C σ G d G' e => ?_⟩
        · rcases List.mem_cons.mp hx with z | hx
          · rw [z]; exact hs'
          · exact h2 x hx
        · simp only [evE, M.bind_ok, unTup_ok, M.pure_ok] at e
          obtain ⟨x, G1, e1, y, G2, e2, xs, G3, ⟨rfl, rfl⟩, rfl, rfl⟩ := e
          obtain ⟨ds, q1, q2⟩ := h3 C σ G1 _ _ e2
          cases q1
          exact ⟨x :: xs, rfl, by rw [List.length_cons, List.length_cons, q2]⟩
  b := fun X sc g o es ie h pos => by
    match es with
    | [] => cases o <;> simp [cB] at h
    | [e] =>
      have h' : ie = (cE' T sc f e).getD .bad := by cases o <;> (simp only [cB] at h; cases h; rfl)
      subst h'
      refine ⟨pe_one (ih.g g e).1, ?_, by simp⟩
      cases o
      · exact pw_and1 (ih.g g e).2
      · exact pw_or1 (ih.g g e).2
    | a :: b :: rest =>
      cases o with
      | And =>
        simp only [cB, Option.bind_eq_bind, Option.bind_eq_some_iff] at h
        obtain ⟨ib, hb, h⟩ := h
        cases h
        obtain ⟨h1, h2, _⟩ := ih.b X sc g .And (b :: rest) ib hb pos
        exact ⟨e_and (ih.g g a).1 h1, w_and (ih.g g a).2 h2, by simp⟩
      | Or =>
        simp only [cB, Option.bind_eq_bind, Option.bind_eq_some_iff] at h
        obtain ⟨ib, hb, h⟩ := h
        cases h
        obtain ⟨h1, h2, _⟩ := ih.b X sc g .Or (b :: rest) ib hb pos
        exact ⟨e_or (ih.g g a).1 h1, w_or (ih.g g a).2 h2, by simp⟩
  o := fun X sc g o => by
    cases o with
    | none => simp only [cO, Option.isSome]; exact po_noneE
    | some e => simp only [cO, Option.isSome]; exact po_someE (ih.g g e).1
  i := fun X sc g es hc c h => by
    match es with
    | [] => simp only [cIfs] at h; cases h; exact ifs_nil
    | [e] => simp only [cIfs] at h; cases h; exact ifs_one (ih.g g e).2
    | _ :: _ :: _ => simp [cIfs] at h
  w := fun X sc g tg e => by
    have plain : ∀ e, PI X tg e (tI X.K X.w (CLn P n) .seq ((cE' T sc f e).getD .bad)) := fun e => i_seq (ih.g g e).1
    cases e with
    | Call fe as kws pos =>
      cases kws with
      | cons _ _ => cases fe <;> (simp only [cI]; exact plain _)
      | nil =>
        cases fe with
        | Name gn p =>
          simp only [cI]
          split
          · rename_i hr
            subst hr
            split
            · rename_i hg
              cases q : cA T sc f as with
              | none => exact i_bad
              | some ia =>
                obtain ⟨h1, h2, h3⟩ := ih.a X sc g as ia q
                exact i_rng g.gd hg.1 h1 h2 fun σ G d G' e => h3 _ σ G d G' e
            · exact i_bad
          · split
            · rename_i hr
              subst hr
              split
              · split
                · rename_i hg
                  cases q : cA T sc f as with
                  | none => exact i_bad
                  | some ia =>
                    obtain ⟨h1, h2, h3⟩ := ih.a X sc g as ia q
                    exact i_enm g.gd hg.1 h1 h2 fun σ G d G' e => h3 _ σ G d G' e
                · exact i_bad
              · exact i_bad
            · exact plain _
        | _ => simp only [cI]; exact plain _
    | _ => simp only [cI]; exact plain _
theorem okE (T : Tab) (P : List Fn) (n : Nat) : ∀ f, OkE T P n f
  | 0 => ok0
  | f + 1 => okS (okE T P n f)
end
end Ev

/-! EvW: dict comprehensions with texts as keys, given to a name. -/
namespace Ev
open PySem PySem.Spec
open PyProof.Rows hiding St
open L2
open Sem (wp)
/-- the dict being built, by the machine's telling -/
def KV2 (K : PySem.W.Frag) (ρ : Rho) (n : Nat) (H : Hp) : List (D × D) → List (Key × V) → Prop := Paired fun p q => ∃ z, p.1 = .str z ∧ q.1 = .inr z ∧ RV K ρ n H p.2 q.2
section
variable {K : PySem.W.Frag} {w : World} {ρ ρ' ρ1 : Rho} {G G' G1 : Hh} {H H' H1 : Hp}
theorem KV2.map {ρ' : Rho} {n n' : Nat} {H' : Hp} (h : ∀ d v, RV K ρ n H d v → RV K ρ' n' H' d v) {acc : List (D × D)} {kvs : List (Key × V)} (x : KV2 K ρ n H acc kvs) : KV2 K ρ' n' H' acc kvs :=
  Paired.mapP x fun p q ⟨z, h1, h2, h3⟩ => ⟨z, h1, h2, h _ _ h3⟩
theorem sqT_sideM {L : Addr} {o : HO} (hD : ∀ x, H L = some x → Mut (some x)) (a : Addr) (vs : List V) (h : SqN K H a vs) : SqN K (upd H L o) a vs := by
  have ne : ∀ {x : HO}, H a = some x → ¬ Mut (some x) → a ≠ L := fun e hx z => by
    subst z; exact hx (hD _ e)
  refine ⟨?_, ?_⟩
  · rcases h.1 with (h | ⟨x, h⟩) | h
    · exact .inl (.inl (by rw [upd_ne (ne h fun z => z)]; exact h))
    · exact .inl (.inr ⟨x, by rw [upd_ne (ne h fun z => z)]; exact h⟩)
    · exact .inr h
  · rcases h.2 with ⟨x, h, hd⟩ | h
    · exact .inl ⟨x, by rw [upd_ne (ne h fun z => z)]; exact h, hd⟩
    · exact .inr h
theorem Rel.sideM (R : Rel K w ρ G H) {L : Addr} {o : HO} (hD : ∀ x, H L = some x → Mut (some x)) (out : ∀ i, mutAt G i → ρ i ≠ L) : Rel K w ρ G (upd H L o) :=
  R.chg (sqT_sideM hD) (fun i m => upd_ne (out i m)) fun b x y h => by
    have : b ≠ L := fun z => by subst z; exact hD _ h
    rw [upd_ne this]; exact h
/-- the state of a dict comprehension -/
structure CD (K : PySem.W.Frag) (w : World) (ρ1 : Rho) (G1 : Hh) (H1 : Hp) (L : Addr) (ρ : Rho) (G : Hh) (H : Hp) (acc : List (D × D)) : Prop where
  no : H1 L = none
  st : Stp ρ1 G1 H1 ρ G H
  rel : Rel K w ρ G H
  out : ∀ i, mutAt G i → ρ i ≠ L
  dist : distinctK acc
  at' : ∃ kvs, H L = some (.dK kvs) ∧ KV2 K ρ G.n H acc kvs
theorem CD.init {L : Addr} (R : Rel K w ρ1 G1 H1) (hD : H1 L = none) : CD K w ρ1 G1 H1 L ρ1 G1 (upd H1 L (.dK [])) [] := by
  have out : ∀ i, mutAt G1 i → ρ1 i ≠ L := fun i m z => by
    obtain ⟨o, e, _⟩ := R.isMut m
    rw [z, hD] at e; cases e
  exact ⟨hD, (Stp.refl ρ1 G1 H1).side hD out, R.side (.inl hD) out, out, trivial, [], upd_same, .nil⟩
theorem CD.step {L : Addr} {acc : List (D × D)} (c : CD K w ρ1 G1 H1 L ρ G H acc) (s : Stp ρ G H ρ' G' H') (R : Rel K w ρ' G' H') : CD K w ρ1 G1 H1 L ρ' G' H' acc := by
  obtain ⟨kvs, h, r⟩ := c.at'
  obtain ⟨h', out⟩ := s.out h c.out
  exact ⟨c.no, c.st.trans s, R, out, c.dist, kvs, h', r.map fun d v q => RV.step c.rel s d v q⟩
theorem distinct_snoc {acc : List (D × D)} {u y : D} (fu : u.flat = true) (fa : ∀ p ∈ acc, p.1.flat = true) (h : distinctK acc) (hn : look u acc = none) : distinctK (acc ++ [(u, y)]) := by
  rw [← put_new hn]
  exact distinct_put fu fa h
theorem CD.push {L : Addr} {acc : List (D × D)} {z : Str} {y : D} {v : V} {kvs : List (Key × V)} (c : CD K w ρ1 G1 H1 L ρ G H acc) (h : H L = some (.dK kvs)) (hn : look (.str z) acc = none) (r : RV K ρ G.n H y v) : CD K w ρ1 G1 H1 L ρ G (upd H L (.dK (putK kvs (.inr z) v))) (acc ++ [(.str z, y)]) := by
  obtain ⟨kvs', h', rr⟩ := c.at'
  rw [h] at h'; cases h'
  have hm : ∀ x, H L = some x → Mut (some x) := fun x e => by rw [h] at e; cases e; trivial
  have fa : ∀ p ∈ acc, p.1.flat = true := by
    have : ∀ {acc : List (D × D)} {kvs : List (Key × V)}, KV2 K ρ G.n H acc kvs → ∀ p ∈ acc, p.1.flat = true := by
      intro acc kvs r
      induction r with
      | nil => intro p hp; cases hp
      | cons r1 _ ih =>
        intro p hp
        rcases List.mem_cons.mp hp with e | hp
        · subst e; obtain ⟨z, h1, _⟩ := r1; rw [h1]; rfl
        · exact ih p hp
    exact this rr
  have new : putK kvs (.inr z) v = kvs ++ [(.inr z, v)] := by
    unfold putK
    rw [if_neg]
    rw [List.any_eq_true]
    rintro ⟨x, hx, he⟩
    have he : x.1 = .inr z := by simpa using he
    have : ∀ {acc : List (D × D)} {kvs : List (Key × V)}, KV2 K ρ G.n H acc kvs → look (.str z) acc = none → ∀ x ∈ kvs, x.1 ≠ .inr z := by
      intro acc kvs r
      induction r with
      | nil => intro _ x hx; cases hx
      | @cons a b l1 l2 r1 _ ih =>
        intro hl x hx
        obtain ⟨z', h1, h2, _⟩ := r1
        obtain ⟨a1, a2⟩ := a
        simp only at h1
        subst h1
        rw [look_str] at hl
        split at hl
        · cases hl
        · rename_i hz
          rcases List.mem_cons.mp hx with e | hx
          · subst e; rw [h2]; intro q; exact hz (Sum.inr.inj q)
          · exact ih hl x hx
    exact this rr hn x hx he
  refine ⟨c.no, c.st.side c.no c.out, c.rel.sideM hm c.out, c.out, distinct_snoc rfl fa c.dist hn, _, upd_same, ?_⟩
  rw [new]
  have rr' := rr.map (ρ' := ρ) (n' := G.n) (H' := upd H L (.dK (kvs ++ [(.inr z, v)]))) fun d v q => RV.chg (sqT_sideM hm) d v q
  exact paired_append rr' (.cons ⟨z, rfl, rfl, RV.chg (sqT_sideM hm) _ _ r⟩ .nil)
end

def esOf (w : World) (kvs : List (Key × V)) : List (Int × V × V) := kvs.map fun q => (keyH w q.1, kV q.1, q.2)
theorem esOf_pair {w : World} : ∀ {kvs : List (Key × V)} {vs : List (Key × Value)}, KV kvs vs → Paired (fun (e : Int × V × V) (q : Key × Value) => e.1 = keyH w q.1 ∧ e.2.1 = kV q.1 ∧ RelV e.2.2 q.2) (esOf w kvs) vs
  | _, _, .nil => .nil
  | _, _, .cons r t => .cons ⟨congrArg (keyH w) r.1, congrArg kV r.1, r.2⟩ (esOf_pair t)
theorem esOf_rk {K : PySem.W.Frag} {w : World} {ρ : Rho} {n : Nat} {H : Hp} : ∀ {acc : List (D × D)} {kvs : List (Key × V)}, KV2 K ρ n H acc kvs → RK K w ρ n H acc (esOf w kvs)
  | _, _, .nil => .nil
  | _, _, .cons (a := a) (b := b) r t => by
    obtain ⟨z, h1, h2, h3⟩ := r
    obtain ⟨a1, a2⟩ := a
    obtain ⟨b1, b2⟩ := b
    simp only at h1 h2
    subst h1 h2
    exact .cons ⟨rfl, by simp [D.depth], rfl, rfl, h3⟩ (esOf_rk t)
section
variable {X : Cx}
theorem dkExt {pins : List (Addr × Obj)} {σ : St} {H : Hp} {s : Shared} (I : L2.Inv X pins σ H s) {L : Addr} {kvs : List (Key × V)} (h : H L = some (.dK kvs)) : ∃ ep, dictP L ep (esOf X.w kvs) s.heap ∧ L2.Inv X pins σ (upd H L (.ext (dictP L ep (esOf X.w kvs)))) s := by
  obtain ⟨z, hs, vs, rel, dd⟩ := dk_of I.hok h
  obtain ⟨ep, hp⟩ := dictP_of (es := esOf X.w kvs) dd (esOf_pair rel) hs (by unfold esOf; rw [List.length_map]; exact z)
  refine ⟨ep, hp, ?_⟩
  have mu : Mut (H L) := by rw [h]; trivial
  have k : ∀ b u, b ≠ L → s.heap.get? b = some u → s.heap.get? b = some u := fun b u _ e => e
  have there : ∃ u, s.heap.get? L = some u := let ⟨_, _, o, _, e, _⟩ := hp; ⟨o, e⟩
  exact I.un (t' := s.toks) (Un.write mu (.inl rfl) k there) (I.hok.write mu (.inl rfl) k there (extDict hp))
theorem ps_setDc {i : Nat} {y : Str} {py : Pos} {kx vx tg iter : Expr} {ifs : List Expr} {scope : Scope} {own : List (Str × Nat)} {pos spos : Pos} {wi : TI} {g : TG} {tt : TT} {tk tv : TE} (hc : X.calm = true) (hN : X.N.Nodup) (hy : X.N[i]? = some y) (hyl : X.env.scope.names.lookup y = some .local)
    (hsw : swapsWith (.DictComp kx vx [⟨tg, iter, ifs, 0⟩] scope pos) (some (.Name y py)) spos.line X.env = pure true) (hi : PI X tg iter wi) (ok : BlkOk X.N X.env.scope scope own)
    (hg : ∀ (s : Shared) (H : Hp) (C : Addr) (cl : List (Str × Addr)) (fp : List Addr), PG (X.blk s H scope (compEnvC scope cl C X.env) fp) tg g) (ht : ∀ (s : Shared) (H : Hp) (C : Addr) (cl : List (Str × Addr)) (fp : List Addr), PTs (X.blk s H scope (compEnvC scope cl C X.env) fp) ifs tt)
    (hk : ∀ (s : Shared) (H : Hp) (C : Addr) (cl : List (Str × Addr)) (fp : List Addr), PE (X.blk s H scope (compEnvC scope cl C X.env) fp) kx tk)
    (he : ∀ (s : Shared) (H : Hp) (C : Addr) (cl : List (Str × Addr)) (fp : List Addr), PE (X.blk s H scope (compEnvC scope cl C X.env) fp) vx tv) (hs : ∀ x, foldedSetIterable iter X.env x = pure x) :
    PS X (.Assign [.Name y py] (.DictComp kx vx [⟨tg, iter, ifs, 0⟩] scope pos) spos) (fun D σ H => tDc wi g tt tk tv (own.map (·.2)) σ H fun x H1 => ∃ L kvs, x = .ref L ∧ H1 L = some (.dK kvs) ∧ ∀ ep, (∃ h, dictP L ep (esOf X.w kvs) h) → D.nx (σ.set i (some (.ref L))) (upd H1 L (.ext (dictP L ep (esOf X.w kvs))))) := by
  refine ⟨fun pins s σ H D I h => ?_⟩
  rw [exec_Assign_Name_used _ _ _ _ hsw]
  refine wpAny_bind (wpAny_standAt (wpAny_bind ?_))
  show wpAny _ X.A (do let _ ← comprehension (.DictComp kx vx [⟨tg, iter, ifs, 0⟩] scope pos) scope X.env (firstIterPos [⟨tg, iter, ifs, 0⟩] pos) newDict false (eval iter X.env) (some (assign (.Name y py) X.env))) _ _ s
  refine wpAny_bind (thn (dc_core (Qf := fun _ s' => SP X pins D .next s') hc hN I hi ok hg ht hk he hs h fun L C s' m H' I' q hn f => ?_) fun _ s' hq => wpAny_pure (wpAny_pure hq))
  obtain ⟨L', kvs, e, hL, q⟩ := q
  cases e
  obtain ⟨ep, hp, I''⟩ := dkExt I' hL
  have q := q ep ⟨_, hp⟩
  show wpAny _ _ (assign (.Name y py) X.env (.ref L)) _ _ _
  refine wpAny_assign_Name (store_ok2 (v := V.ref L) I'' hN hy (.inl hyl) rfl (fun s2 I2 ⟨a, sb, ha⟩ => ?_) (.inr hyl))
  obtain ⟨f0, f1, f2, f3, f4, f5⟩ := f
  have haC : C ≠ a := by
    rcases ha with z | z
    · rw [z]; exact f1
    · exact fun e => f4 y a z e.symm
  have f0' : upd H' L (.ext (dictP L ep (esOf X.w kvs))) C = none := by
    rw [upd_ne (fun z => by rw [z, hL] at f0; cases f0)]; exact f0
  refine ⟨m, hn.sameBut sb haC, fun h3 sb3 => ?_⟩
  exact ⟨_, _, I2.turned (t' := s2.toks) (fun b o hb e => (sb3.2 b hb).trans e) f0' f1 f3 f4 f5, q⟩

theorem CD.done {K : PySem.W.Frag} {w : World} {ρ1 ρ : Rho} {G1 G : Hh} {H1 H : Hp} {L : Addr} {acc : List (D × D)} {kvs : List (Key × V)} (c : CD K w ρ1 G1 H1 L ρ G H acc) (h : H L = some (.dK kvs)) {ep : Nat} (sat : ∃ h, dictP L ep (esOf w kvs) h) :
    Stp ρ1 G1 H1 (ρ.put G.n L) (G.new (.dct acc)) (upd H L (.ext (dictP L ep (esOf w kvs)))) ∧ Rel K w (ρ.put G.n L) (G.new (.dct acc)) (upd H L (.ext (dictP L ep (esOf w kvs)))) ∧ RV K (ρ.put G.n L) (G.new (.dct acc)).n (upd H L (.ext (dictP L ep (esOf w kvs)))) (.ref G.n) (.ref L) := by
  obtain ⟨kvs', h', r⟩ := c.at'
  rw [h] at h'; cases h'
  have hm : ∀ x, H L = some x → Mut (some x) := fun x e => by rw [h] at e; cases e; trivial
  -- the same heap, the dict retold
  have R := c.rel.sideM (o := .ext (dictP L ep (esOf w kvs))) hm c.out
  have S := c.st.side (o := .ext (dictP L ep (esOf w kvs))) c.no c.out
  have rk : RK K w ρ G.n (upd H L (.ext (dictP L ep (esOf w kvs)))) acc (esOf w kvs) := RK.chg (sqT_sideM hm) (esOf_rk r)
  generalize hH : upd H L (.ext (dictP L ep (esOf w kvs))) = H' at R S rk
  have hL : H' L = some (.ext (dictP L ep (esOf w kvs))) := by rw [← hH, upd_same]
  have st : Stp ρ1 G1 H1 (ρ.put G.n L) (G.new (.dct acc)) H' := by
    refine ⟨Nat.le_trans S.le (Nat.le_succ _), fun i hi => by rw [Rho.put_ne (by have := S.le; omega)]; exact S.same i hi, S.keep, fun i hi m => S.mutk i hi ?_, fun i hi m => ?_, S.dom, fun i kvs e => ?_⟩
    · obtain ⟨o, e, im⟩ := m
      rw [Hh.get_new_lt _ (by have := S.le; omega)] at e
      exact ⟨o, e, im⟩
    · by_cases hn : i = G.n
      · subst hn; rw [Rho.put_self]; exact c.no
      · rw [Rho.put_ne hn]
        have hl : i < G.n + 1 := m.lt
        obtain ⟨o, e, im⟩ := m
        rw [Hh.get_new_lt _ (by omega)] at e
        exact S.new i hi ⟨o, e, im⟩
    · obtain ⟨k', e', l, q⟩ := S.dk i kvs e
      have hi := Hh.get_lt e'
      exact ⟨k', by rw [Hh.get_new_lt _ hi]; exact e', l, fun hl ep es h => by
        obtain ⟨es', h', m⟩ := q hl ep es h
        exact ⟨es', by rw [Rho.put_ne (by omega)]; exact h', m⟩⟩
  refine ⟨st, ⟨fun i u e => ?_, fun i j mi mj e => ?_⟩, Nat.lt_succ_self _, by rw [Rho.put_self]⟩
  · rcases Hh.get_new e with ⟨hi, e⟩ | ⟨rfl, rfl⟩
    · have q := R.ob i u e
      have hne : (ρ.put G.n L) i = ρ i := Rho.put_ne (by omega)
      cases u with
      | lst xs => obtain ⟨vs, h, r⟩ := q; exact ⟨vs, by rw [hne]; exact h, RVs.put _ _ r⟩
      | frz xs => obtain ⟨vs, h, r⟩ := q; exact ⟨vs, by rw [hne]; exact h, RVs.put _ _ r⟩
      | dct kvs => obtain ⟨ep, es, h, r, dk, sat⟩ := q; exact ⟨ep, es, by rw [hne]; exact h, Paired.mapP r fun p e q => ⟨q.1, q.2.1, q.2.2.1, RV.put _ _ q.2.2.2.1, RV.put _ _ q.2.2.2.2⟩, dk, by rw [hne]; exact sat⟩
      | ins c fs => exact q
    · exact ⟨ep, esOf w kvs, by rw [Rho.put_self]; exact hL, Paired.mapP rk fun p e q => ⟨q.1, q.2.1, q.2.2.1, RV.put _ _ q.2.2.2.1, RV.put _ _ q.2.2.2.2⟩, c.dist, by rw [Rho.put_self]; exact sat⟩
  · have hi : i < G.n + 1 := mi.lt
    have hj : j < G.n + 1 := mj.lt
    have old : ∀ i, i < G.n → mutAt (G.new (.dct acc)) i → mutAt G i := fun i h m => by
      obtain ⟨v, e, im⟩ := m
      rw [Hh.get_new_lt _ h] at e
      exact ⟨v, e, im⟩
    by_cases hin : i = G.n
    · by_cases hjn : j = G.n
      · omega
      · subst hin
        rw [Rho.put_self, Rho.put_ne hjn] at e
        exact absurd e.symm (c.out j (old j (by omega) mj))
    · by_cases hjn : j = G.n
      · subst hjn
        rw [Rho.put_self, Rho.put_ne hin] at e
        exact absurd e (c.out i (old i (by omega) mi))
      · rw [Rho.put_ne hin, Rho.put_ne hjn] at e
        exact R.inj i j (old i (by omega) mi) (old j (by omega) mj) e

theorem q_dcomp {C : Cl} {own : List (Str × Nat)} {k : Ik} {ie c ek ev : E} {t : T} {hc : Bool} (hw : ∀ i ∈ t.slots, i ∈ own.map (·.2)) {D : Ends} {σ : St} {H : Hp} {i : Nat} (h : tS X.K X.w C (.asg (.nm i) (.dcomp (own.map (·.2)) k ie t hc c ek ev)) D σ H) :
    tDc (tI X.K X.w C k ie) (tG X.K X.w t) (tIfs X.K X.w C hc c) (tE X.K X.w C ek) (tE X.K X.w C ev) (own.map (·.2)) σ H fun x H1 => ∃ L kvs, x = .ref L ∧ H1 L = some (.dK kvs) ∧ ∀ ep, (∃ h, dictP L ep (esOf X.w kvs) h) → D.nx (σ.set i (some (.ref L))) (upd H1 L (.ext (dictP L ep (esOf X.w kvs)))) := by
  obtain ⟨ρ, σd, G, fl, σd', G', R, S, ee, q⟩ := h
  simp only [evS, evE, M.bind_ok, rd_ok, alloc_ok, M.pure_ok, ofOpt_ok, Prod.mk.injEq, asgT] at ee
  obtain ⟨d, G3, ⟨x, G1, e1, sr, _, ⟨es, rfl⟩, ys, G2, e2, rfl, rfl⟩, σ1, _, ⟨ea, rfl⟩, ⟨rfl, rfl⟩, rfl⟩ := ee
  split at ea
  · cases ea
    refine ⟨ρ, σd, G, x, sr, G1, R, S, e1, es, fun ρ1 H1 J s1 R1 sj L hL => ?_⟩
    generalize hF : (fun (σ' : List Ev.D) (acc : List (Ev.D × Ev.D)) => M.bind (if hc then M.bind (evE C c σ') truthM else M.pure true) fun b => if b then M.bind (evE C ek σ') fun u => M.bind (evE C ev σ') fun y => if isStrD u && (look u acc).isNone && decide (acc.length < sizeMax) then M.pure (acc ++ [(u, y)]) else M.bad else M.pure acc) = F at e2
    refine ⟨fun i m H2 => ∃ ρ2 G2' acc, CD X.K X.w ρ1 G1 H1 L ρ2 G2' H2 acc ∧ i + m = sr.n ∧ compN sr t (wipeD σd (own.map (·.2))) F m i acc G2' = .ok ys G2, ⟨sr.n, ρ1, G1, [], CD.init R1 hL, by omega, e2⟩, ?_⟩
    rintro j m H2 ⟨ρ2, G2', acc, cs, him, ec⟩
    have SW : RS X.K ρ2 G2'.n H2 (wipeD σd (own.map (·.2))) (wipe σ (own.map (·.2))) := RS.step R1 cs.st ((RS.step R s1 S).wipe (own.map (·.2)))
    obtain ⟨j1, j2⟩ := sj ρ2 G2' H2 j (cs.st.w R1) cs.rel
    cases m with
    | zero =>
      simp only [compN] at ec
      split at ec
      · rename_i ha
        cases ec
        obtain ⟨kvs, hk, _⟩ := cs.at'
        refine .inl ⟨j1 (by omega) ha, L, kvs, rfl, hk, fun ep sat => ?_⟩
        obtain ⟨f1, f2, f3⟩ := cs.done hk sat
        exact q.nx (s1.trans f1) f2 ((RS.step R (s1.trans f1) S).set i f3)
      · cases ec
    | succ m =>
      simp only [compN] at ec
      split at ec
      · rename_i y ha
        obtain ⟨g1, g2⟩ := j2 y ha
        split at ec
        · rename_i σn hσ
          refine .inr ⟨g1, fun H' => ∃ ρ3 G3 acc', CD X.K X.w ρ1 G1 H1 L ρ3 G3 H' acc' ∧ compN sr t (wipeD σd (own.map (·.2))) F m (j + 1) acc' G3 = .ok ys G2, fun H' ⟨ρ3, G3, acc', c3, e3⟩ => ⟨m, Nat.lt_succ_self m, ρ3, G3, acc', c3, by omega, e3⟩, fun v H' hy => ?_⟩
          obtain ⟨st, R3, rv⟩ := g2 v H' hy
          have c3 := cs.step st R3
          refine ⟨ρ2, _, G2', y, σn, R3, RS.step cs.rel st SW, rv, hσ, fun σ' S' o' => ⟨wipe_only o' hw, ?_⟩⟩
          cases hf : F σn acc G2' with
          | bad => rw [hf] at ec; cases ec
          | ex a b c => rw [hf] at ec; cases ec
          | ok acc2 G4 =>
            rw [hf] at ec
            rw [← hF] at hf
            simp only [M.bind_ok] at hf
            obtain ⟨b, G5, hb, hf⟩ := hf
            refine ⟨ρ2, σn, G2', G5, b, R3, S', hb, fun ρ4 H4 s4 R4 => ?_⟩
            cases b with
            | false =>
              simp only [Bool.false_eq_true, if_false, M.pure_ok] at hf ⊢
              obtain ⟨rfl, rfl⟩ := hf
              exact ⟨ρ4, G5, acc, c3.step s4 R4, ec⟩
            | true =>
              simp only [if_true, M.bind_ok] at hf ⊢
              obtain ⟨u, G6, eu, z, G7, ez, hf⟩ := hf
              split at hf
              · rename_i hh
                simp only [Bool.and_eq_true, decide_eq_true_eq] at hh
                simp only [M.pure_ok] at hf
                obtain ⟨rfl, rfl⟩ := hf
                cases u <;> simp only [isStrD, Bool.false_eq_true, false_and] at hh
                rename_i zz
                refine ⟨ρ4, σn, G5, .str zz, G6, R4, RS.step R3 s4 S', eu, fun ρ5 u5 H5 s5 R5 r5 => ?_⟩
                cases r5
                refine ⟨ρ5, σn, G6, z, G7, R5, RS.step R4 s5 (RS.step R3 s4 S'), ez, fun ρ6 v6 H6 s6 R6 r6 => ?_⟩
                have c6 := ((c3.step s4 R4).step s5 R5).step s6 R6
                obtain ⟨kvs, hk, rr⟩ := c6.at'
                have hn : look (.str zz) acc = none := by simpa using hh.1.2
                exact ⟨kvs, .inr zz, rfl, hk, by rw [← Paired.length rr, ← sizeMax_eq]; exact hh.2, ρ6, G7, acc ++ [(.str zz, z)], c6.push hk hn r6, ec⟩
              · simp only [M.bad_ok] at hf
        · cases ec
      · cases ec
  · cases ea
end
end Ev

/-! EvZ: the induction over statements. -/
namespace Ev
open PySem PySem.Spec
open PyProof.Rows hiding St
open L2
open Sem (wp)
section
variable {T : Tab} {P : List Fn} {n : Nat} {sc so : Scope} {X : Cx}
/-- a def's own block -/
structure Gd3 (T : Tab) (P : List Fn) (n : Nat) (sc : Scope) (X : Cx) : Prop where
  g2 : Gd2 T P n sc X
  kind : sc.kind = .function
  fn : ∀ x, X.fn x = true
theorem Gd3.sto (g : Gd3 T P n sc X) : Sto T.N sc X := by
  intro x i h
  unfold stoOf at h
  rw [g.g2.gd.N, g.g2.gd.sc]
  split at h
  · rename_i hk
    obtain ⟨j, h1, h2⟩ := idxS_at h
    exact ⟨by rw [h1, Nat.zero_add]; exact h2, .inl hk, .inl (g.fn x)⟩
  · rename_i hk
    obtain ⟨j, h1, h2⟩ := idxS_at h
    exact ⟨by rw [h1, Nat.zero_add]; exact h2, .inr hk, .inl (g.fn x)⟩
  · cases h
theorem gE (g : Gd3 T P n sc X) (f : Nat) (e : Expr) : PE X e (tE X.K X.w (CLn P n) (cE T sc f e)) ∧ PT X e (tT X.K X.w (CLn P n) (cE T sc f e)) := (okE T P n f).g g.g2 e
structure OkS (T : Tab) (P : List Fn) (n : Nat) (f : Nat) : Prop where
  s : ∀ (X : Cx) (sc : Scope), Gd3 T P n sc X → ∀ st is, cS' T sc f st = some is → PS X st (tS X.K X.w (CLn P n) is)
  ss : ∀ (X : Cx) (sc : Scope), Gd3 T P n sc X → ∀ st, PSs X st (tS X.K X.w (CLn P n) (cSs T sc f st))
theorem OkS.g {f : Nat} (h : OkS T P n f) (g : Gd3 T P n sc X) (st : Stmt) : PS X st (tS X.K X.w (CLn P n) ((cS' T sc f st).getD .bad)) := by
  cases q : cS' T sc f st with
  | none => exact s_bad
  | some ie => exact h.s X sc g st ie q
theorem asg_readN {C : Cl} {D : Ends} {σ : St} {H : Hp} {ie : E} {i : Nat} {te : TE} (hw : ∀ σ H Q, tE X.K X.w C ie σ H Q → te σ H Q) (h : tS X.K X.w C (.asg (.nm i) ie) D σ H) : tAsg te (gName i) D σ H := by
  obtain ⟨ρ, σd, G, fl, σd', G', R, S, e, q⟩ := h
  simp only [evS, M.bind_ok, M.pure_ok, ofOpt_ok, Prod.mk.injEq, asgT] at e
  obtain ⟨x, G1, e1, σ1, G2, ⟨e2, rfl⟩, ⟨rfl, rfl⟩, rfl⟩ := e
  split at e2
  · cases e2
    exact hw _ _ _ ⟨ρ, σd, G, x, G1, R, S, e1, fun ρ1 v H1 s1 R1 r1 => q.nx s1 R1 ((RS.step R s1 S).set i r1)⟩
  · cases e2
theorem sw_is {elt : Expr} {gs : List Comprehension} {so : Scope} {q py : Pos} {y : Str} {l : Nat} {env : Env} : ∃ b : Bool, swapsWith (.ListComp elt gs so q) (some (.Name y py)) l env = pure b ∧ (b = true → env.scope.names.lookup y = some .local) :=
  ⟨env.blockKind == .function && env.kindOf y == some .local && py.line == q.line && !(so.names.any fun (n, k) => n == y && (k == .local || k == .cell)), rfl, fun h => by
    simp only [Bool.and_eq_true] at h
    exact eq_of_beq h.1.1.2⟩
theorem lc_set (g : Gd3 T P n sc X) {f : Nat} {y : Str} {py q spos : Pos} {elt : Expr} {gs : List Comprehension} {so : Scope} {i : Nat} {ie : E} (hi : X.N[i]? = some y) (hl : X.env.scope.names.lookup y = some .local) (hsw : swapsWith (.ListComp elt gs so q) (some (.Name y py)) spos.line X.env = pure true)
    (h : cE' T sc (f + 1) (.ListComp elt gs so q) = some ie) : PS X (.Assign [.Name y py] (.ListComp elt gs so q) spos) (tS X.K X.w (CLn P n) (.asg (.nm i) ie)) := by
  have ih := okE T P n f
  have g2 := g.g2
  rcases gs with _ | ⟨⟨tg, it, ifs, as⟩, _ | ⟨⟨tg1, it1, ifs1, as1⟩, _ | ⟨g3, gr⟩⟩⟩
  · simp [cE'] at h
  · by_cases h0 : as = 0
    · subst h0
      simp only [cE'] at h
      split at h
      · rename_i hb
        simp only [Option.bind_eq_bind, Option.bind_eq_some_iff] at h
        obtain ⟨t, ht, h⟩ := h
        split at h
        · rename_i hw
          simp only [Option.bind_eq_bind, Option.bind_eq_some_iff] at h
          obtain ⟨⟨hc, c⟩, hcc, h⟩ := h
          cases h
          have okb := blkOk_by hb.1
          have okb' : BlkOk X.N X.env.scope so (ownOf T.N so) := by rw [g2.gd.N, g2.gd.sc]; exact okb
          have hi' := ih.w X sc g2 tg it
          have hg := fun s H B cl fp => g_of (X := X.blk s H so (compEnvC so cl B X.env) fp) g2.gd.calm g2.gd.nd (sto_blk (so := so) g2 s H B cl fp) T rfl f tg t ht
          have hif := fun s H B cl fp => ih.i (X.blk s H so (compEnvC so cl B X.env) fp) (relS so sc) (g2.blk s H B cl fp) ifs hc c hcc
          have hel := fun s H B cl fp => (ih.g (g2.blk (so := so) s H B cl fp) elt).1
          exact PS.weak (ps_setLc g2.gd.calm g2.gd.nd hi hl hsw hi' okb' hg hif hel (folded_set hb.2)) fun D σ H q1 => asg_readN (fun σ H Q q2 => q_comp g2.gd.calm g2.gd.nd hi' okb' hg hif hel (folded_set hb.2) (within_ok hw) (pos := q) q2) q1
        · cases h
      · cases h
    · simp [cE', h0] at h
  · by_cases h0 : as = 0
    · by_cases h1 : as1 = 0
      · subst h0 h1
        simp only [cE'] at h
        split at h
        · rename_i hb
          simp only [Option.bind_eq_bind, Option.bind_eq_some_iff] at h
          obtain ⟨t, ht, t1, ht1, h⟩ := h
          split at h
          · rename_i hw
            simp only [Option.bind_eq_bind, Option.bind_eq_some_iff] at h
            obtain ⟨⟨hc, c⟩, hcc, ⟨hc1, c1⟩, hcc1, h⟩ := h
            cases h
            have okb := blkOk_by hb.1
            have okb' : BlkOk X.N X.env.scope so (ownOf T.N so) := by rw [g2.gd.N, g2.gd.sc]; exact okb
            have hi' := ih.w X sc g2 tg it
            have hg := fun s H B cl fp => g_of (X := X.blk s H so (compEnvC so cl B X.env) fp) g2.gd.calm g2.gd.nd (sto_blk (so := so) g2 s H B cl fp) T rfl f tg t ht
            have hg1 := fun s H B cl fp => g_of (X := X.blk s H so (compEnvC so cl B X.env) fp) g2.gd.calm g2.gd.nd (sto_blk (so := so) g2 s H B cl fp) T rfl f tg1 t1 ht1
            have hi1 := fun s H B cl fp => ih.w (X.blk s H so (compEnvC so cl B X.env) fp) (relS so sc) (g2.blk s H B cl fp) tg1 it1
            have hif := fun s H B cl fp => ih.i (X.blk s H so (compEnvC so cl B X.env) fp) (relS so sc) (g2.blk s H B cl fp) ifs hc c hcc
            have hif1 := fun s H B cl fp => ih.i (X.blk s H so (compEnvC so cl B X.env) fp) (relS so sc) (g2.blk s H B cl fp) ifs1 hc1 c1 hcc1
            have hel := fun s H B cl fp => (ih.g (g2.blk (so := so) s H B cl fp) elt).1
            exact PS.weak (ps_setLc2 (vs1 := t1.slots) g2.gd.calm g2.gd.nd hi hl hsw hi' okb' (within_ok (t := t1) hw.2) hg hif hi1 hg1 hif1 hel (folded_set hb.2.1) (fun env x => folded_set hb.2.2 x)) fun D σ H q1 => asg_readN (fun σ H Q q2 => q_comp2 (within_ok hw.1) q2) q1
          · cases h
        · cases h
      · simp [cE', h0, h1] at h
    · simp [cE', h0] at h
  · simp [cE'] at h
/-- name = [..]: whichever way the machine takes -/
theorem s_lc (g : Gd3 T P n sc X) {f : Nat} {x : Str} {p q pos : Pos} {elt : Expr} {gs : List Comprehension} {so : Scope} {i : Nat} (hi : stoOf T.N sc x = some i) : PS X (.Assign [.Name x p] (.ListComp elt gs so q) pos) (tS X.K X.w (CLn P n) (.asg (.nm i) (cE T sc f (.ListComp elt gs so q)))) := by
  obtain ⟨h1, h2, h3⟩ := g.sto x i hi
  have gn : PG X (.Name x p) (tG X.K X.w (.nm i)) := PG.weak (pg_name g.g2.gd.nd h1 h2 h3) fun v σ H Q ⟨ρ, σd, G, d, σd', R, Sg, r, e, q⟩ => by
    simp only [asgT] at e
    split at e
    · cases e
      exact q _ (Sg.set i r) (Only.set σ i _)
    · cases e
  obtain ⟨b, hb, hloc⟩ := sw_is (elt := elt) (gs := gs) (so := so) (q := q) (py := p) (y := x) (l := pos.line) (env := X.env)
  cases b with
  | false => exact s_asg (gE g f _).1 gn hb (swapped_none (.inl rfl)) rfl
  | true =>
    have bad : PS X (.Assign [.Name x p] (.ListComp elt gs so q) pos) (tS X.K X.w (CLn P n) (.asg (.nm i) .bad)) := ⟨fun pins s σ H D I ⟨ρ, σd, G, fl, σd', G', R, S, e, q⟩ => by cases e⟩
    unfold cE
    cases f with
    | zero => simp only [cE', Option.getD]; exact bad
    | succ f =>
      cases h : cE' T sc (f + 1) (.ListComp elt gs so q) with
      | none => exact bad
      | some ie => exact lc_set g h1 (hloc rfl) hb h

theorem g_nm (g : Gd3 T P n sc X) {x : Str} {p : Pos} {i : Nat} (hi : stoOf T.N sc x = some i) : PG X (.Name x p) (tG X.K X.w (.nm i)) := by
  obtain ⟨h1, h2, h3⟩ := g.sto x i hi
  refine PG.weak (pg_name g.g2.gd.nd h1 h2 h3) fun v σ H Q ⟨ρ, σd, G, d, σd', R, Sg, r, e, q⟩ => ?_
  simp only [asgT] at e
  split at e
  · cases e
    exact q _ (Sg.set i r) (Only.set σ i _)
  · cases e
theorem sto_idx {N : List Str} {sc : Scope} {x : Str} {i : Nat} (h : stoOf N sc x = some i) : idxS x N 0 = some i := by
  unfold stoOf at h
  split at h
  · exact h
  · exact h
  · cases h
theorem s_pass_never : PassesOwn (model X.prog X.w) X.A X.env (fun _ _ => False) := PassesOwn.never
theorem folded_two {x y : Str} {px py pt pt2 : Pos} {kt k2 : Nat} {a b : Expr} {env : Env} (h : [a, b].all (foldedForSure 8) = true) : swappedStores [.Tuple [.Name x px, .Name y py] kt pt] (.Tuple [a, b] k2 pt2) env = pure none := by
  unfold swappedStores
  simp only
  split
  · rfl
  split
  · rfl
  split
  · rfl
  first | rfl | rw [if_pos h]
theorem swapped_two {x y : Str} {px py pt pt2 : Pos} {kt k2 : Nat} {a b : Expr} {env : Env} (hk : env.blockKind = .function) (hx : env.kindOf x = some .local) (hy : env.kindOf y = some .local) (hp : px.line = py.line) (hxy : x ≠ y) (ha : isStar a = false) (hb : isStar b = false) (h1 : [a, b].all (foldedForSure 8) = false) (h2 : [a, b].all (constantsAlone 8) = false) :
    swappedStores [.Tuple [.Name x px, .Name y py] kt pt] (.Tuple [a, b] k2 pt2) env = pure (some [x, y]) := by
  have s1 : ([a, b].any fun | .Starred .. => true | _ => false) = false := by
    cases a <;> first | (exfalso; simp [isStar] at ha; done) | (cases b <;> first | (exfalso; simp [isStar] at hb; done) | rfl)
  unfold swappedStores
  simp only
  rw [if_neg (by rw [hk]; simp)]
  split
  · rename_i h; exact absurd (s1.symm.trans h) Bool.false_ne_true
  have n1 : (x == y) = false := by simpa using hxy
  simp only [List.filterMap_cons, List.filterMap_nil, hx, hy, Expr.pos, List.head?_cons, Option.map_some, Option.getD_some, hp, beq_self_eq_true, Bool.and_self, if_true]
  rw [if_neg (by simp [List.eraseDups_cons, n1, hxy, Ne.symm hxy]), if_neg (by rw [h1]; exact Bool.false_ne_true), if_neg (by rw [h2]; exact Bool.false_ne_true)]

theorem okS0 : OkS T P n 0 where
  s := fun X sc g st is h => by simp [cS'] at h
  ss := fun X sc g st => by cases st <;> (simp only [cSs]; exact ss_bad)
theorem s_dc (g : Gd3 T P n sc X) {f : Nat} {x : Str} {p q pos : Pos} {kx vx tg it : Expr} {ifs : List Expr} {so : Scope} {is : S} (h : (if p.line = q.line ∧ sc.names.lookup x = some .local ∧ (so.names.any fun y => y.1 == x && (y.2 == .local || y.2 == .cell)) = false ∧ blkC T.N sc so (ownOf T.N so) = true ∧ isSetE it = false then do
        let s := cI T sc f tg it
        let t ← cT T so f tg
        let sc' := relS so sc
        let i ← stoOf T.N sc x
        if t.within ((ownOf T.N so).map (·.2)) = true then do
          let c ← cIfs T sc' f ifs
          return .asg (.nm i) (.dcomp ((ownOf T.N so).map (·.2)) s.1 s.2 t c.1 c.2 (cE T sc' f kx) (cE T sc' f vx))
        else none
      else none) = some is) : PS X (.Assign [.Name x p] (.DictComp kx vx [⟨tg, it, ifs, 0⟩] so q) pos) (tS X.K X.w (CLn P n) is) := by
  have ih := okE T P n f
  have g2 := g.g2
  split at h
  · rename_i hb
    obtain ⟨b1, b2, b3, b4, b5⟩ := hb
    simp only [Option.bind_eq_bind, Option.bind_eq_some_iff] at h
    obtain ⟨t, ht, i, hi, h⟩ := h
    split at h
    · rename_i hw
      simp only [Option.bind_eq_bind, Option.bind_eq_some_iff] at h
      obtain ⟨⟨hc, c⟩, hcc, h⟩ := h
      cases h
      obtain ⟨i1, _, _⟩ := g.sto x i hi
      have okb := blkOk_by b4
      have okb' : BlkOk X.N X.env.scope so (ownOf T.N so) := by rw [g2.gd.N, g2.gd.sc]; exact okb
      have hi' := ih.w X sc g2 tg it
      have hg := fun s H B cl fp => g_of (X := X.blk s H so (compEnvC so cl B X.env) fp) g2.gd.calm g2.gd.nd (sto_blk (so := so) g2 s H B cl fp) T rfl f tg t ht
      have hif := fun s H B cl fp => ih.i (X.blk s H so (compEnvC so cl B X.env) fp) (relS so sc) (g2.blk s H B cl fp) ifs hc c hcc
      have hkx := fun s H B cl fp => (ih.g (g2.blk (so := so) s H B cl fp) kx).1
      have hvx := fun s H B cl fp => (ih.g (g2.blk (so := so) s H B cl fp) vx).1
      have hl : X.env.scope.names.lookup x = some .local := by rw [g2.gd.sc]; exact b2
      have hk : X.env.scope.kind = .function := by rw [g2.gd.sc]; exact g.kind
      have hbk : X.env.blockKind = .function := by unfold Env.blockKind; rw [hk]; rfl
      have hsw : swapsWith (.DictComp kx vx [⟨tg, it, ifs, 0⟩] so q) (some (.Name x p)) pos.line X.env = pure true := by
        have ky : X.env.kindOf x = some .local := hl
        have b3' : (so.names.any fun (n, k) => n == x && (k == .local || k == .cell)) = false := b3
        unfold swapsWith
        simp only [hbk, ky, b3', Expr.pos, b1]
        simp
      exact PS.weak (ps_setDc g2.gd.calm g2.gd.nd i1 hl hsw hi' okb' hg hif hkx hvx (folded_set b5)) fun D σ H q1 => q_dcomp (within_ok hw) q1
    · cases h
  · cases h
theorem okS_asg {f : Nat} (ih : OkS T P n f) (X : Cx) (sc : Scope) (g : Gd3 T P n sc X) (tg e : Expr) (pos : Pos) (is : S) (h : cS' T sc (f + 1) (.Assign [tg] e pos) = some is) : PS X (.Assign [tg] e pos) (tS X.K X.w (CLn P n) is) := by
  have ge := fun e => (gE g f e).1
  have hu := g.g2.gd.u64
  rw [cS'.eq_def] at h
  dsimp only at h
  split at h
  all_goals first
    | (rename_i q; cases q; done)
    | (rename_i q _; cases q; done)
    | skip
  · rename_i x p elt gs so q ps hq
    injection hq with a1 a2 a3
    injection a1 with a1 _
    subst a1 a2
    simp only [Option.bind_eq_bind, Option.bind_eq_some_iff] at h
    obtain ⟨i, hi, h⟩ := h
    cases h
    exact s_lc g hi
  · rename_i x p kx vx tg' it ifs so q ps hq
    injection hq with a1 a2 a3
    injection a1 with a1 _
    subst a1 a2
    exact s_dc g h
  · rename_i x p e' ps _ _ hq
    injection hq with a1 a2 a3
    injection a1 with a1 _
    subst a1 a2
    split at h
    · cases h
    · rename_i hc
      simp only [Option.bind_eq_bind, Option.bind_eq_some_iff] at h
      obtain ⟨i, hi, h⟩ := h
      cases h
      exact s_asg (ge _) (g_nm g hi) (swapsSole_false (by simpa using hc)) (swapped_none (.inr ⟨_, _, rfl⟩)) rfl
  · rename_i x px y py kt pt a b k2 pt2 ps hq
    injection hq with a1 a2 a3
    injection a1 with a1 _
    subst a1 a2
    split at h
    · rename_i hf
      simp only [Option.bind_eq_bind, Option.bind_eq_some_iff] at h
      obtain ⟨t, ht, h⟩ := h
      cases h
      exact s_asg (ge _) (g_of g.g2.gd.calm g.g2.gd.nd g.sto T rfl f _ t ht) (swapsSole_false rfl) (folded_two hf) rfl
    · rename_i hf
      split at h
      · rename_i hh
        obtain ⟨c1, c2, c3, c4, c5, c6, c7, c8⟩ := hh
        simp only [Option.bind_eq_bind, Option.bind_eq_some_iff] at h
        obtain ⟨i, hi, j, hj, ia, ha, h⟩ := h
        cases h
        obtain ⟨i1, _, _⟩ := g.sto _ _ hi
        obtain ⟨j1, _, _⟩ := g.sto _ _ hj
        have hk : X.env.scope.kind = .function := by rw [g.g2.gd.sc]; exact g.kind
        have hb : X.env.blockKind = .function := by unfold Env.blockKind; rw [hk]; rfl
        have hij : i ≠ j := fun z => by
          subst z
          rw [i1] at j1
          exact c4 (Option.some.inj j1)
        refine s_par g.g2.gd.calm g.g2.gd.nd i1 j1 hij (by rw [g.g2.gd.sc]; exact c1) (by rw [g.g2.gd.sc]; exact c2) ((okE T P n f).a X sc g.g2 _ ia ha).1 (swapped_two hb ?_ ?_ c3 c4 c5 c6 c7 c8)
        · rw [g.g2.gd.kindOf]; exact c1
        · rw [g.g2.gd.kindOf]; exact c2
      · cases h
  · rename_i es k p e' ps _ hq
    injection hq with a1 a2 a3
    injection a1 with a1 _
    subst a1 a2
    split at h
    · cases h
    · rename_i hnt
      split at h
      · cases h
      · rename_i hc
        simp only [Option.bind_eq_bind, Option.bind_eq_some_iff] at h
        obtain ⟨t, ht, h⟩ := h
        cases h
        refine s_asg (ge _) (g_of g.g2.gd.calm g.g2.gd.nd g.sto T rfl f _ t ht) (swapsSole_false (by simpa using hc)) (swapped_none (.inl ?_)) rfl
        unfold notTup
        split
        · exact absurd rfl (hnt _ _ _)
        · rfl
  · rename_i o i p e' ps hq
    injection hq with a1 a2 a3
    injection a1 with a1 _
    subst a1 a2
    split at h
    · cases h
    · rename_i hc
      rw [not_or] at hc
      cases h
      exact s_setix hu (ge _) (ge _) (ge _) (by simpa using hc.1) (by simpa using hc.2)
  · cases h
set_option maxHeartbeats 1000000 in
theorem okS_s {f : Nat} (ih : OkS T P n f) (X : Cx) (sc : Scope) (g : Gd3 T P n sc X) (st : Stmt) (is : S) (h : cS' T sc (f + 1) st = some is) : PS X st (tS X.K X.w (CLn P n) is) := by
  have ge := fun e => (gE g f e).1
  have gt := fun e => (gE g f e).2
  have hp : PassesOwn (model X.prog X.w) X.A X.env X.xe := by rw [g.g2.gd.xe]; exact PassesOwn.never
  cases st with
  | Expr e pos =>
    simp only [cS'] at h
    split at h
    · cases h
    · rename_i hc; cases h
      exact s_expr (ge e) (by simpa using hc)
  | Pass pos => simp only [cS'] at h; cases h; exact s_pass
  | Break pos => simp only [cS'] at h; cases h; exact s_brk
  | Continue pos => simp only [cS'] at h; cases h; exact s_cnt
  | Return e pos =>
    cases e with
    | none => simp only [cS'] at h; cases h; exact s_retN
    | some e => simp only [cS'] at h; cases h; exact s_ret (ge e)
  | If c a b pos => simp only [cS'] at h; cases h; exact s_ite (gt c) (ih.ss X sc g a) (ih.ss X sc g b)
  | While c a el pos =>
    cases el with
    | nil => simp only [cS'] at h; cases h; exact s_while hp (gt c) (ih.ss X sc g a)
    | cons _ _ => simp [cS'] at h
  | For t it a el pos =>
    cases el with
    | nil =>
      simp only [cS'] at h
      split at h
      · cases h
      · rename_i hs
        simp only [Option.bind_eq_bind, Option.bind_eq_some_iff] at h
        obtain ⟨t', ht, h⟩ := h
        cases h
        exact s_for hp g.g2.gd.calm ((okE T P n f).w X sc g.g2 t it) (g_of g.g2.gd.calm g.g2.gd.nd g.sto T rfl f t t' ht) (ih.ss X sc g a) (by simpa using hs)
    | cons _ _ => simp [cS'] at h
  | Assign ts e pos =>
    match ts with
    | [] => simp [cS'] at h
    | _ :: _ :: _ => simp [cS'] at h
    | [tg] => exact okS_asg ih X sc g tg e pos is h
  | _ => simp [cS'] at h
theorem okS1 {f : Nat} (ih : OkS T P n f) : OkS T P n (f + 1) where
  s := okS_s ih
  ss := fun X sc g st => by
    match st with
    | [] => simp only [cSs]; exact ss_nil
    | [s] => simp only [cSs]; exact ss_one (ih.g g s)
    | s :: s2 :: rest => simp only [cSs]; exact ss_cons (ih.g g s) (ih.ss X sc g (s2 :: rest))
theorem okS' (T : Tab) (P : List Fn) (n : Nat) : ∀ f, OkS T P n f
  | 0 => okS0
  | f + 1 => okS1 (okS' T P n f)
end
end Ev

/-! EvF: defs. -/
namespace Ev
open PySem PySem.Spec
open PyProof.Rows hiding St
open L2
open Sem (wp)
/-- the defs of the module, as they are compiled -/
structure Mdl (fs : List (Str × Nat)) (ks : List (Str × D)) (kd : List ((Str × Str) × D)) (P : List Fn) (prog : Program) (w : World) (K : PySem.W.Frag) (mg : Str → Option Value) (base : Heap) : Prop where
  df : ∀ x i, fs.lookup x = some i → ∃ (st : Stmt) (f : Addr) (fd : FuncData) (N ps : List Str), Fun K x x st f fd ∧ mg x = some (.ref f) ∧ Binds K fd ps [] ∧ FnScope N ps (defScope st) ∧
    P[i]? = some ⟨ps.length, N.length, cSs ⟨N, fs, ks, kd⟩ (defScope st) 60 (defBody st)⟩
  blt : ∀ g, g ∈ builtinsUsed → mg g = none
  cst : ∀ (N : List Str) (X : Cx), X.prog = prog → X.w = w → X.K = K → X.mg = mg → X.base = base → X.calm = true → Cst ⟨N, fs, ks, kd⟩ X
section
variable {fs : List (Str × Nat)} {ks : List (Str × D)} {kd : List ((Str × Str) × D)} {P : List Fn} {prog : Program} {w : World} {K : PySem.W.Frag} {mg : Str → Option Value} {base : Heap}
theorem start_rs {ρ : Rho} {m : Nat} {H : Hp} {ds : List D} {vs : List V} {N : List Str} (r : RVs K ρ m H ds vs) : RS K ρ m H (ds ++ List.replicate (N.length - ds.length) .und) (L2.start N vs) := by
  have hl := r.length
  unfold L2.start
  refine ⟨by simp [hl], fun i d hd hn => ?_⟩
  by_cases hi : i < ds.length
  · rw [List.getElem?_append_left hi] at hd
    obtain ⟨v, h1, h2⟩ := r.get hd
    refine ⟨v, ?_, h2⟩
    rw [List.getElem?_append_left (by simp [hl, hi]), List.getElem?_map, h1]
    rfl
  · rw [List.getElem?_append_right (by omega), List.getElem?_replicate] at hd
    split at hd
    · cases hd; exact absurd rfl hn
    · cases hd
theorem fnAt (M : Mdl fs ks kd P prog w K mg base) : ∀ (n : Nat) (x : Str) (i : Nat) (st : Stmt) (f : Addr) (fd : FuncData) (N ps : List Str), Fun K x x st f fd → FnScope N ps (defScope st) → P[i]? = some ⟨ps.length, N.length, cSs ⟨N, fs, ks, kd⟩ (defScope st) 60 (defBody st)⟩ → FnOk prog w K mg base CX0 n f fd ps (spEv K w P n i)
  | 0, x, i, st, f, fd, N, ps, h1, h4, h5 => by
    have no : ∀ vs H Q E, spEv K w P 0 i vs H Q E → False := fun vs H Q E ⟨ρ, G, ds, d, G', R, r, e, q⟩ => by cases e
    exact ⟨fun vs H Q E q => (no vs H Q E q).elim, fun A outer s H args us vs Q E _ _ _ _ q => (no vs H Q E q).elim⟩
  | n + 1, x, i, st, f, fd, N, ps, h1, h4, h5 => by
    refine h1.ok h4 (fun vs H Q E ⟨ρ, G, ds, d, G', R, r, e, q⟩ => ?_) fun cdv A outer s H vs Q E hr hsp => ?_
    · simp only [callN, h5, runF] at e
      split at e
      · rename_i hl
        rw [r.length, hl]
      · cases e
    · obtain ⟨ρ, G, ds, d, G', R, r, e, q⟩ := hsp
      simp only [callN, h5, runF] at e
      split at e
      · rename_i hl
        have fns : ∀ y j, fs.lookup y = some j → ∃ f fd ps, mg y = some (.ref f) ∧ PySem.W.keepIn K (.ref f) = true ∧ Binds K fd ps [] ∧ FnOk prog w K mg base CX0 n f fd ps (spEv K w P n j) := fun y j hy => by
          obtain ⟨st', f', fd', N', ps', a1, a2, a3, a4, a5⟩ := M.df y j hy
          exact ⟨f', fd', ps', a2, a1.kp, a3, fnAt M n y j st' f' fd' N' ps' a1 a4 a5⟩
        have g : Gd3 ⟨N, fs, ks, kd⟩ P n (defScope st) (cxOf CX0 prog w K mg base N x (defScope st) f cdv A outer s H E).nox :=
          ⟨⟨⟨rfl, rfl, h4.nd, rfl, rfl, hr, fns, M.blt⟩, M.cst N _ rfl rfl rfl rfl rfl rfl⟩, h4.kind, fun _ => rfl⟩
        refine ⟨_, (okS' ⟨N, fs, ks, kd⟩ P n 60).ss _ (defScope st) g (defBody st), ?_⟩
        generalize hb : cSs ⟨N, fs, ks, kd⟩ (defScope st) 60 (defBody st) = body at e
        have S : RS K ρ G.n H (ds ++ List.replicate (N.length - ps.length) .und) (L2.start N vs) := by
          rw [← hl]; exact start_rs r
        cases hf : evS ⟨callN P n⟩ body (ds ++ List.replicate (N.length - ps.length) .und) G with
        | bad => rw [hf] at e; cases e
        | ex a b c => rw [hf] at e; cases e
        | ok r2 G2 =>
          obtain ⟨fl, σ2⟩ := r2
          rw [hf] at e
          refine ⟨ρ, _, G, fl, σ2, G2, R, S, hf, fun ρ' H' s' R' => ?_⟩
          cases fl with
          | nx => cases e; exact fun σ' S' => q ρ' .non H' s' R' rfl
          | rt d2 => cases e; exact fun v rv => q ρ' v H' s' R' rv
          | bk => cases e
          | ct => cases e
      · cases e
end
end Ev

namespace Ev
open PySem PySem.Spec
open PyProof.Rows hiding St
open L2
open Sem (wp)
def topS (i : Nat) : Stmt := PySem.Challenge.pw_gateproof_k60_whole_least_tables_of_pref.main.body.getD i (.Pass ⟨0, 0, 0, 0⟩)
def q0 : Fn := ⟨1, 3, (.seq (.asg (.nm 1) (.con (.int (0)))) (.seq (.asg (.nm 2) (.con (.int (1)))) (.seq (.whl (.bin .lt (.var 2) (.var 0)) (.seq (.asg (.nm 1) (.bin .add (.var 1) (.con (.int (1))))) (.asg (.nm 2) (.bin .mul (.con (.int (2))) (.var 2))))) (.ret (.var 1)))))⟩
def q1 : Fn := ⟨1, 3, (.seq (.asg (.nm 1) (.lst .nil)) (.seq (.for .seq (.var 0) (.nm 2) (.ite (.bin .notin (.var 2) (.var 1)) (.expr (.meth .append (.var 1) (.cons (.var 2) .nil))) .skip)) (.ret (.var 1))))⟩
def q2 : Fn := ⟨1, 9, (.seq (.asg (.nm 1) (.call 0 (.cons (.bfn .len (.cons (.var 0) .nil)) .nil))) (.seq (.asg (.nm 2) (.bin .add (.lst (.cons (.con .non) .nil)) (.call 1 (.cons (.var 0) .nil)))) (.seq (.asg (.nm 3) .dnew) (.seq (.for .range (.cons (.var 1) (.cons (.neg (.con (.int (1)))) (.cons (.neg (.con (.int (1)))) .nil))) (.nm 4) (.for .range (.cons (.call 3 (.cons (.var 4) .nil)) .nil) (.nm 5) (.seq (.asg (.nm 6) .dnew) (.seq (.for .seq (.var 2) (.nm 7) (.ite (.bin .eq (.var 4) (.var 1)) (.setix (.var 6) (.var 7) (.ite (.or (.bin .ge (.var 5) (.bfn .len (.cons (.var 0) .nil))) (.bin .eq (.bin .idx (.var 0) (.var 5)) (.var 7))) (.con (.int (0))) (.con (.int (1))))) (.setix (.var 6) (.var 7) (.bin .add (.bin .idx (.var 3) (.tup (.cons (.bin .add (.var 4) (.con (.int (1)))) (.cons (.bin .mul (.con (.int (2))) (.var 5)) (.cons (.var 7) .nil))))) (.bin .idx (.var 3) (.tup (.cons (.bin .add (.var 4) (.con (.int (1)))) (.cons (.bin .add (.bin .mul (.con (.int (2))) (.var 5)) (.con (.int (1)))) (.cons (.var 7) .nil))))))))) (.seq (.asg (.nm 8) (.bfn .minL (.cons (.comp [7] .seq (.slice (.var 2) true (.con (.int (1))) false (.con (.int (0)))) (.nm 7) false .bad (.bin .idx (.var 6) (.var 7))) .nil))) (.for .seq (.var 2) (.nm 7) (.setix (.var 3) (.tup (.cons (.var 4) (.cons (.var 5) (.cons (.var 7) .nil)))) (.ite (.bin .lt (.var 4) (.var 1)) (.bfn .min2 (.cons (.bin .idx (.var 6) (.var 7)) (.cons (.bin .add (.con (.int (1))) (.var 8)) .nil))) (.bin .idx (.var 6) (.var 7)))))))))) (.ret (.var 3))))))⟩
def q3 : Fn := ⟨1, 3, (.seq (.asg (.nm 1) (.con (.int (1)))) (.seq (.for .range (.cons (.var 0) .nil) (.nm 2) (.asg (.nm 1) (.bin .mul (.con (.int (2))) (.var 1)))) (.ret (.var 1))))⟩
def q4 : Fn := ⟨1, 12, (.seq (.asg (.nm 1) (.call 0 (.cons (.bfn .len (.cons (.var 0) .nil)) .nil))) (.seq (.asg (.nm 2) (.call 2 (.cons (.var 0) .nil))) (.seq (.asg (.nm 3) (.call 1 (.cons (.var 0) .nil))) (.seq (.asg (.nm 4) (.lst .nil)) (.seq (.asg (.nm 5) (.lst (.cons (.tup (.cons (.con (.int (0))) (.cons (.con (.int (0))) (.cons (.con .non) .nil)))) .nil))) (.seq (.whl (.var 5) (.seq (.asg (.tup (.cons (.nm 6) (.cons (.nm 7) (.cons (.nm 8) .nil)))) (.meth .pop (.var 5) .nil)) (.seq (.ite (.bin .eq (.var 6) (.var 1)) (.seq (.ite (.and (.bin .lt (.var 7) (.bfn .len (.cons (.var 0) .nil))) (.bin .ne (.bin .idx (.var 0) (.var 7)) (.var 8))) (.expr (.meth .append (.var 4) (.cons (.tup (.cons (.var 6) (.cons (.var 7) (.cons (.bin .idx (.var 0) (.var 7)) .nil)))) .nil))) .skip) .cnt) .skip) (.seq (.asg (.nm 9) (.bin .add (.bin .idx (.var 2) (.tup (.cons (.bin .add (.var 6) (.con (.int (1)))) (.cons (.bin .mul (.con (.int (2))) (.var 7)) (.cons (.var 8) .nil))))) (.bin .idx (.var 2) (.tup (.cons (.bin .add (.var 6) (.con (.int (1)))) (.cons (.bin .add (.bin .mul (.con (.int (2))) (.var 7)) (.con (.int (1)))) (.cons (.var 8) .nil))))))) (.seq (.ite (.bin .gt (.var 9) (.bin .idx (.var 2) (.tup (.cons (.var 6) (.cons (.var 7) (.cons (.var 8) .nil)))))) (.seq (.asg (.nm 10) (.comp [11] .seq (.var 3) (.nm 11) false .bad (.bin .add (.bin .idx (.var 2) (.tup (.cons (.bin .add (.var 6) (.con (.int (1)))) (.cons (.bin .mul (.con (.int (2))) (.var 7)) (.cons (.var 11) .nil))))) (.bin .idx (.var 2) (.tup (.cons (.bin .add (.var 6) (.con (.int (1)))) (.cons (.bin .add (.bin .mul (.con (.int (2))) (.var 7)) (.con (.int (1)))) (.cons (.var 11) .nil)))))))) (.seq (.asg (.nm 8) (.bin .idx (.var 3) (.meth .index (.var 10) (.cons (.bfn .minL (.cons (.var 10) .nil)) .nil)))) (.expr (.meth .append (.var 4) (.cons (.tup (.cons (.var 6) (.cons (.var 7) (.cons (.var 8) .nil)))) .nil))))) .skip) (.expr (.meth .extend (.var 5) (.cons (.lst (.cons (.tup (.cons (.bin .add (.var 6) (.con (.int (1)))) (.cons (.bin .mul (.con (.int (2))) (.var 7)) (.cons (.var 8) .nil)))) (.cons (.tup (.cons (.bin .add (.var 6) (.con (.int (1)))) (.cons (.bin .add (.bin .mul (.con (.int (2))) (.var 7)) (.con (.int (1)))) (.cons (.var 8) .nil)))) .nil))) .nil)))))))) (.ret (.tup (.cons (.bfn .tuple (.cons (.bfn .sorted (.cons (.var 4) .nil)) .nil)) (.cons (.var 2) .nil))))))))))⟩
def q5 : Fn := ⟨3, 8, (.seq (.asg (.nm 3) (.con .non)) (.seq (.asg (.nm 4) (.neg (.con (.int (1))))) (.seq (.for .seq (.var 0) (.tup (.cons (.nm 5) (.cons (.nm 6) (.cons (.nm 7) .nil)))) (.ite (.and (.bin .gt (.var 5) (.var 4)) (.bin .eq (.bin .fdiv (.var 2) (.call 3 (.cons (.bin .sub (.var 1) (.var 5)) .nil))) (.var 6))) (.seq (.asg (.nm 3) (.var 7)) (.asg (.nm 4) (.var 5))) .skip)) (.ret (.var 3)))))⟩
def q6 : Fn := ⟨2, 5, (.seq (.asg (.nm 2) (.bin .mod (.bfn .int (.cons (.bin .add (.bin .add (.bin .mul (.var 0) (.con (.int (48271)))) (.bin .mul (.var 1) (.con (.int (69621))))) (.con (.int (11)))) .nil)) (.con (.int (618970019642690137449562111))))) (.seq (.asg (.nm 3) (.bin .mod (.bfn .int (.cons (.bin .add (.bin .add (.bin .mul (.var 2) (.var 2)) (.bin .mul (.con (.int (7))) (.var 2))) (.var 1)) .nil)) (.con (.int (162259276829213363391578010288127))))) (.seq (.asg (.nm 4) (.bin .mod (.bfn .int (.cons (.bin .add (.bin .mul (.var 3) (.var 3)) (.var 2)) .nil)) (.con (.int (618970019642690137449562111))))) (.ret (.bin .add (.bin .mul (.var 3) (.con (.int (618970019642690137449562111)))) (.var 4))))))⟩
def q7 : Fn := ⟨3, 4, (.seq (.asg (.nm 3) (.con (.int (0)))) (.seq (.ite (.bin .gt (.bfn .len (.cons (.var 0) .nil)) (.con (.int (0)))) (.asg (.nm 3) (.bfn .int (.cons (.bin .idx (.var 0) (.bin .mod (.bfn .int (.cons (.var 1) .nil)) (.bfn .len (.cons (.var 0) .nil)))) .nil))) .skip) (.seq (.ite (.bin .lt (.var 3) (.con (.int (0)))) (.asg (.nm 3) (.bin .sub (.con (.int (1))) (.bin .mul (.con (.int (2))) (.var 3)))) .skip) (.seq (.ite (.and (.bin .eq (.var 2) (.con (.int (0)))) (.and (.bin .lt (.var 1) (.bfn .len (.cons (.var 0) .nil))) (.bin .ge (.var 3) (.bin .pow (.con (.int (10))) (.con (.int (18))))))) (.ret (.bin .sub (.var 3) (.bin .pow (.con (.int (10))) (.con (.int (18)))))) .skip) (.ret (.call 6 (.cons (.bin .add (.var 3) (.bin .mul (.var 2) (.con (.int (1000003))))) (.cons (.var 1) .nil))))))))⟩
def q8 : Fn := ⟨1, 1, (.ret (.lst (.cons (.var 0) (.cons (.con (.int (0))) (.cons (.call 7 (.cons (.var 0) (.cons (.con (.int (0))) (.cons (.con (.int (0))) .nil)))) (.cons (.con (.int (0))) .nil))))))⟩
def q9 : Fn := ⟨1, 1, (.seq (.setix (.var 0) (.con (.int (1))) (.bin .add (.bin .idx (.var 0) (.con (.int (1)))) (.con (.int (1))))) (.seq (.setix (.var 0) (.con (.int (2))) (.call 7 (.cons (.bin .idx (.var 0) (.con (.int (0)))) (.cons (.bin .idx (.var 0) (.con (.int (1)))) (.cons (.con (.int (0))) .nil))))) (.setix (.var 0) (.con (.int (3))) (.con (.int (0))))))⟩
def q10 : Fn := ⟨2, 3, (.seq (.ite (.bin .le (.bin .idx (.var 0) (.con (.int (2)))) (.con (.int (1)))) (.seq (.setix (.var 0) (.con (.int (3))) (.bin .add (.bin .idx (.var 0) (.con (.int (3)))) (.con (.int (1))))) (.setix (.var 0) (.con (.int (2))) (.call 7 (.cons (.bin .idx (.var 0) (.con (.int (0)))) (.cons (.bin .idx (.var 0) (.con (.int (1)))) (.cons (.bin .idx (.var 0) (.con (.int (3)))) .nil)))))) .skip) (.seq (.asg (.nm 2) (.bin .mod (.bfn .int (.cons (.bin .idx (.var 0) (.con (.int (2)))) .nil)) (.var 1))) (.seq (.setix (.var 0) (.con (.int (2))) (.bin .fdiv (.bfn .int (.cons (.bin .idx (.var 0) (.con (.int (2)))) .nil)) (.var 1))) (.ret (.var 2)))))⟩
def q11 : Fn := ⟨2, 2, (.ret (.bin .idx (.var 1) (.call 10 (.cons (.var 0) (.cons (.bfn .len (.cons (.var 1) .nil)) .nil)))))⟩
def q12 : Fn := ⟨2, 4, (.seq (.ite (.or (.isK false none (.var 1)) (.or (.isK false (some true) (.var 1)) (.isK false (some false) (.var 1)))) (.ret (.or (.and (.isK false none (.var 1)) (.isK false none (.var 0))) (.or (.and (.isK false (some true) (.var 1)) (.isK false (some true) (.var 0))) (.and (.isK false (some false) (.var 1)) (.isK false (some false) (.var 0)))))) .skip) (.seq (.ite (.bfn .isInt (.cons (.var 1) .nil)) (.ret (.and (.bfn .isInt (.cons (.var 0) .nil)) (.and (.not (.bfn .isBool (.cons (.var 0) .nil))) (.bin .eq (.var 0) (.var 1))))) .skip) (.seq (.ite (.bfn .isStr (.cons (.var 1) .nil)) (.ret (.and (.bfn .isStr (.cons (.var 0) .nil)) (.bin .eq (.var 0) (.var 1)))) .skip) (.seq (.ite (.bfn .isDct (.cons (.var 1) .nil)) (.seq (.ite (.or (.not (.bfn .isDct (.cons (.var 0) .nil))) (.bin .ne (.bfn .len (.cons (.var 0) .nil)) (.bfn .len (.cons (.var 1) .nil)))) (.ret (.con (.bl false))) .skip) (.seq (.for .seq (.var 1) (.nm 2) (.ite (.or (.bin .notin (.var 2) (.var 0)) (.not (.call 12 (.cons (.bin .idx (.var 0) (.var 2)) (.cons (.bin .idx (.var 1) (.var 2)) .nil))))) (.ret (.con (.bl false))) .skip)) (.ret (.con (.bl true))))) .skip) (.seq (.ite (.and (.bfn .isTup (.cons (.var 1) .nil)) (.not (.bfn .isTup (.cons (.var 0) .nil)))) (.ret (.con (.bl false))) .skip) (.seq (.ite (.and (.bfn .isLst (.cons (.var 1) .nil)) (.not (.bfn .isLst (.cons (.var 0) .nil)))) (.ret (.con (.bl false))) .skip) (.seq (.ite (.bin .ne (.bfn .len (.cons (.var 0) .nil)) (.bfn .len (.cons (.var 1) .nil))) (.ret (.con (.bl false))) .skip) (.seq (.for .range (.cons (.bfn .len (.cons (.var 1) .nil)) .nil) (.nm 3) (.ite (.not (.call 12 (.cons (.bin .idx (.var 0) (.var 3)) (.cons (.bin .idx (.var 1) (.var 3)) .nil)))) (.ret (.con (.bl false))) .skip)) (.ret (.con (.bl true)))))))))))⟩
def q13 : Fn := ⟨3, 9, (.seq (.asg (.nm 3) (.con .non)) (.seq (.for .seq (.var 0) (.tup (.cons (.nm 4) (.cons (.nm 5) (.cons (.nm 6) .nil)))) (.seq (.asg (.nm 7) (.con (.int (1)))) (.seq (.for .range (.cons (.bin .sub (.var 1) (.var 4)) .nil) (.nm 8) (.asg (.nm 7) (.bin .mul (.con (.int (2))) (.var 7)))) (.ite (.and (.bin .eq (.bin .fdiv (.bfn .int (.cons (.var 2) .nil)) (.var 7)) (.var 5)) (.or (.isK false none (.var 3)) (.bin .gt (.var 4) (.bin .idx (.var 3) (.con (.int (0))))))) (.asg (.nm 3) (.tup (.cons (.var 4) (.cons (.var 6) .nil)))) .skip)))) (.ret (.ite (.isK true none (.var 3)) (.bin .idx (.var 3) (.con (.int (1)))) (.con .non)))))⟩
def q14 : Fn := ⟨5, 9, (.seq (.ite (.bin .eq (.var 2) (.var 1)) (.ret (.ite (.or (.bin .ge (.var 3) (.bfn .len (.cons (.var 0) .nil))) (.bin .eq (.bin .idx (.var 0) (.var 3)) (.var 4))) (.con (.int (0))) (.con (.int (1))))) .skip) (.seq (.asg (.nm 5) (.bin .add (.call 14 (.cons (.var 0) (.cons (.var 1) (.cons (.bin .add (.var 2) (.con (.int (1)))) (.cons (.bin .mul (.con (.int (2))) (.var 3)) (.cons (.var 4) .nil)))))) (.call 14 (.cons (.var 0) (.cons (.var 1) (.cons (.bin .add (.var 2) (.con (.int (1)))) (.cons (.bin .add (.bin .mul (.con (.int (2))) (.var 3)) (.con (.int (1)))) (.cons (.var 4) .nil)))))))) (.seq (.asg (.nm 6) (.var 5)) (.seq (.for .seq (.var 0) (.nm 7) (.seq (.asg (.nm 8) (.bin .add (.bin .add (.con (.int (1))) (.call 14 (.cons (.var 0) (.cons (.var 1) (.cons (.bin .add (.var 2) (.con (.int (1)))) (.cons (.bin .mul (.con (.int (2))) (.var 3)) (.cons (.var 7) .nil))))))) (.call 14 (.cons (.var 0) (.cons (.var 1) (.cons (.bin .add (.var 2) (.con (.int (1)))) (.cons (.bin .add (.bin .mul (.con (.int (2))) (.var 3)) (.con (.int (1)))) (.cons (.var 7) .nil)))))))) (.asg (.nm 6) (.bfn .min2 (.cons (.var 6) (.cons (.var 8) .nil)))))) (.ret (.var 6))))))⟩
def q15 : Fn := ⟨1, 5, (.seq (.asg (.nm 1) (.lst .nil)) (.seq (.asg (.nm 2) (.con (.int (1)))) (.seq (.for .range (.cons (.bin .add (.var 0) (.con (.int (1)))) .nil) (.nm 3) (.seq (.asg (.nm 1) (.bin .add (.var 1) (.comp [4] .range (.cons (.var 2) .nil) (.nm 4) false .bad (.tup (.cons (.var 3) (.cons (.var 4) .nil)))))) (.asg (.nm 2) (.bin .mul (.con (.int (2))) (.var 2))))) (.ret (.var 1)))))⟩
def q16 : Fn := ⟨3, 11, (.seq (.asg (.nm 3) (.lst (.cons (.lst .nil) .nil))) (.seq (.asg (.nm 4) (.lst (.cons (.lst .nil) .nil))) (.seq (.for .range (.cons (.var 2) .nil) (.nm 5) (.seq (.asg (.nm 6) (.lst .nil)) (.seq (.for .seq (.var 4) (.nm 7) (.for .seq (.call 15 (.cons (.var 0) .nil)) (.tup (.cons (.nm 8) (.cons (.nm 9) .nil))) (.ite (.or (.bin .eq (.bfn .len (.cons (.var 7) .nil)) (.con (.int (0)))) (.bin .gt (.tup (.cons (.var 8) (.cons (.var 9) .nil))) (.slice (.bin .idx (.var 7) (.neg (.con (.int (1))))) false (.con (.int (0))) true (.con (.int (2)))))) (.asg (.nm 6) (.bin .add (.var 6) (.comp [10] .seq (.var 1) (.nm 10) false .bad (.bin .add (.var 7) (.lst (.cons (.tup (.cons (.var 8) (.cons (.var 9) (.cons (.var 10) .nil)))) .nil)))))) .skip))) (.seq (.asg (.nm 4) (.var 6)) (.asg (.nm 3) (.bin .add (.var 3) (.var 6))))))) (.ret (.var 3)))))⟩
def q17 : Fn := ⟨1, 19, (.seq (.asg (.nm 1) (.call 8 (.cons (.var 0) .nil))) (.seq (.for .range (.cons (.con (.int (3))) .nil) (.nm 2) (.seq (.expr (.call 9 (.cons (.var 1) .nil))) (.seq (.asg (.nm 3) (.bin .add (.con (.int (1))) (.call 10 (.cons (.var 1) (.cons (.con (.int (3))) .nil))))) (.seq (.asg (.nm 4) (.bfn .tuple (.cons (.comp [7] .range (.cons (.bin .add (.con (.int (1))) (.call 10 (.cons (.var 1) (.cons (.con (.int (8))) .nil)))) .nil) (.nm 7) false .bad (.bin .add (.con (.int (5))) (.call 10 (.cons (.var 1) (.cons (.var 3) .nil))))) .nil))) (.seq (.asg (.nm 5) (.con (.int (0)))) (.seq (.asg (.nm 6) (.con (.int (1)))) (.seq (.for .range (.cons (.con (.int (4))) .nil) (.nm 7) (.ite (.bin .lt (.var 6) (.bfn .len (.cons (.var 4) .nil))) (.seq (.asg (.nm 5) (.bin .add (.var 5) (.con (.int (1))))) (.asg (.nm 6) (.bin .mul (.con (.int (2))) (.var 6)))) .skip)) (.seq (.ite (.not (.call 12 (.cons (.lst (.cons (.call 0 (.cons (.bfn .len (.cons (.var 4) .nil)) .nil)) (.cons (.call 3 (.cons (.var 5) .nil)) .nil))) (.cons (.lst (.cons (.var 5) (.cons (.var 6) .nil))) .nil)))) (.ret (.con (.bl false))) .skip) (.seq (.asg (.nm 8) (.lst .nil)) (.seq (.for .seq (.var 4) (.nm 9) (.asg (.nm 8) (.ite (.bin .isin (.var 9) (.var 8)) (.var 8) (.bin .add (.var 8) (.lst (.cons (.var 9) .nil)))))) (.seq (.asg (.tup (.cons (.nm 10) (.cons (.nm 11) .nil))) (.call 4 (.cons (.var 4) .nil))) (.seq (.ite (.or (.not (.call 12 (.cons (.call 1 (.cons (.var 4) .nil)) (.cons (.var 8) .nil)))) (.bin .ne (.bfn .list (.cons (.var 10) .nil)) (.bfn .sorted (.cons (.var 10) .nil)))) (.ret (.con (.bl false))) .skip) (.seq (.asg (.nm 12) .dnew) (.seq (.for .seq (.call 15 (.cons (.var 5) .nil)) (.tup (.cons (.nm 13) (.cons (.nm 14) .nil))) (.for .seq (.bin .add (.lst (.cons (.con .non) .nil)) (.var 8)) (.nm 15) (.setix (.var 12) (.tup (.cons (.var 13) (.cons (.var 14) (.cons (.var 15) .nil)))) (.call 14 (.cons (.var 4) (.cons (.var 5) (.cons (.var 13) (.cons (.var 14) (.cons (.var 15) .nil))))))))) (.seq (.ite (.or (.not (.call 12 (.cons (.var 11) (.cons (.var 12) .nil)))) (.or (.not (.call 12 (.cons (.call 2 (.cons (.var 4) .nil)) (.cons (.var 12) .nil)))) (.bin .ne (.bfn .len (.cons (.var 10) .nil)) (.bin .idx (.var 12) (.tup (.cons (.con (.int (0))) (.cons (.con (.int (0))) (.cons (.con .non) .nil)))))))) (.ret (.con (.bl false))) .skip) (.seq (.for .range (.cons (.bfn .len (.cons (.var 4) .nil)) .nil) (.nm 16) (.ite (.or (.bin .ne (.call 13 (.cons (.var 10) (.cons (.var 5) (.cons (.var 16) .nil)))) (.bin .idx (.var 4) (.var 16))) (.not (.call 12 (.cons (.call 5 (.cons (.var 10) (.cons (.var 5) (.cons (.var 16) .nil)))) (.cons (.bin .idx (.var 4) (.var 16)) .nil))))) (.ret (.con (.bl false))) .skip)) (.seq (.asg (.nm 17) (.call 11 (.cons (.var 1) (.cons (.call 16 (.cons (.bfn .min2 (.cons (.var 5) (.cons (.con (.int (2))) .nil))) (.cons (.var 8) (.cons (.con (.int (2))) .nil)))) .nil)))) (.seq (.asg (.nm 16) (.call 10 (.cons (.var 1) (.cons (.var 6) .nil)))) (.seq (.ite (.not (.call 12 (.cons (.call 5 (.cons (.bfn .tuple (.cons (.var 17) .nil)) (.cons (.var 5) (.cons (.var 16) .nil)))) (.cons (.call 13 (.cons (.var 17) (.cons (.var 5) (.cons (.var 16) .nil)))) .nil)))) (.ret (.con (.bl false))) .skip) (.ite (.and (.bin .lt (.var 5) (.con (.int (3)))) (.bin .lt (.bfn .len (.cons (.var 10) .nil)) (.con (.int (4))))) (.for .seq (.call 16 (.cons (.var 5) (.cons (.var 8) (.cons (.bin .sub (.bfn .len (.cons (.var 10) .nil)) (.con (.int (1)))) .nil)))) (.nm 18) (.ite (.bin .eq (.bfn .len (.cons (.comp [7] .range (.cons (.bfn .len (.cons (.var 4) .nil)) .nil) (.nm 7) true (.bin .ne (.call 13 (.cons (.var 18) (.cons (.var 5) (.cons (.var 7) .nil)))) (.bin .idx (.var 4) (.var 7))) (.var 7)) .nil)) (.con (.int (0)))) (.ret (.con (.bl false))) .skip)) .skip)))))))))))))))))))) (.ret (.con (.bl true)))))⟩
def PP : List Fn := [q0, q1, q2, q3, q4, q5, q6, q7, q8, q9, q10, q11, q12, q13, q14, q15, q16, q17]
def fsT : List (Str × Nat) := [(Str.ofString "bits_for", 0), (Str.ofString "answers_of", 1), (Str.ofString "cost_table", 2), (Str.ofString "power_of", 3), (Str.ofString "least_prefixes", 4), (Str.ofString "fitting", 5), (Str.ofString "_law_mixed", 6), (Str.ofString "_law_rest", 7), (Str.ofString "_law_pool", 8), (Str.ofString "_law_next", 9), (Str.ofString "_law_draw", 10), (Str.ofString "_law_pick", 11), (Str.ofString "_law_same", 12), (Str.ofString "_law_fit", 13), (Str.ofString "_law_cost_own", 14), (Str.ofString "_law_heads", 15), (Str.ofString "_law_tables", 16), (Str.ofString "law", 17)]
def ksT : List (Str × D) := []
def kdT : List ((Str × Str) × D) := []
/-- a def as it stands behind the top -/
structure DefAt (K : PySem.W.Frag) (x : Str) (st : Stmt) : Prop where
  ex : ∃ (f : Addr) (oc : Value) (od : Option Addr) (kV dc pm : Value) (an : Option Addr) (cd ct : Value) (osl : Array (Option Value)), PySem.W.nsIn K mainGlobals x = some (some (.ref f)) ∧
    K.lookup f = some ⟨oc, od, .func (PySem.W.fnOf x x (defArgs st) (defBody st) (defScope st) .none kV dc pm an cd ct), osl⟩ ∧ PySem.W.codeIn K cd x = true ∧ PySem.W.keepIn K (.ref f) = true
theorem DefAt.mk' {K : PySem.W.Frag} {x : Str} {st : Stmt} {f : Addr} {oc : Value} {od : Option Addr} {kV dc pm : Value} {an : Option Addr} {cd ct : Value} {osl : Array (Option Value)} (a : PySem.W.nsIn K mainGlobals x = some (some (.ref f)))
    (l : K.lookup f = some ⟨oc, od, .func (PySem.W.fnOf x x (defArgs st) (defBody st) (defScope st) .none kV dc pm an cd ct), osl⟩) (c : PySem.W.codeIn K cd x = true) (k : PySem.W.keepIn K (.ref f) = true) : DefAt K x st := ⟨⟨f, oc, od, kV, dc, pm, an, cd, ct, osl, a, l, c, k⟩⟩
/-- what Mdl wants of one def -/
def Want (P : List Fn) (K : PySem.W.Frag) (mg : Str → Option Value) (x : Str) (i : Nat) : Prop := ∃ (st : Stmt) (f : Addr) (fd : FuncData) (N ps : List Str), Fun K x x st f fd ∧ mg x = some (.ref f) ∧ Binds K fd ps [] ∧ FnScope N ps (defScope st) ∧
    P[i]? = some ⟨ps.length, N.length, cSs ⟨N, fsT, ksT, kdT⟩ (defScope st) 60 (defBody st)⟩
theorem want {K : PySem.W.Frag} {mg : Str → Option Value} {h : Heap} (X : K.In h) (G : h.Ns mainGlobals mg) {x : Str} {st : Stmt} {i : Nat} (d : DefAt K x st) (N ps : List Str) (hb : ∀ (kV doc pm : Value) (an : Option Addr) (cdv ct : Value) (us : List Value), us.length = ps.length → bindArgs (PySem.W.fnOf x x (defArgs st) (defBody st) (defScope st) .none kV doc pm an cdv ct) ⟨us, []⟩ = pure (ps.zip us))
    (S : FnScope N ps (defScope st)) (hP : PP[i]? = some ⟨ps.length, N.length, cSs ⟨N, fsT, ksT, kdT⟩ (defScope st) 60 (defBody st)⟩) : Want PP K mg x i := by
  obtain ⟨f, oc, od, kV, dc, pm, an, cd, ct, osl, a, l, c, k⟩ := d.ex
  have F := fun_mk (st := st) l c k
  exact ⟨st, f, _, N, ps, F, PySem.W.mg_of X G a, F.binds hb, S, hP⟩
theorem sc0 : FnScope ["size", "bits", "power"] ["size"] (defScope (topS 1)) := ⟨rfl, rfl, rfl, by decide +kernel, rfl, by decide +kernel, by decide +kernel⟩
theorem hp0 : PP[0]? = some ⟨1, 3, cSs ⟨["size", "bits", "power"], fsT, ksT, kdT⟩ (defScope (topS 1)) 60 (defBody (topS 1))⟩ := by kernel_rfl
theorem wa0 {K : PySem.W.Frag} {mg : Str → Option Value} {h : Heap} (X : K.In h) (G : h.Ns mainGlobals mg) (d : DefAt K "bits_for" (topS 1)) : Want PP K mg "bits_for" 0 := want X G d ["size", "bits", "power"] ["size"] (fun _ _ _ _ _ _ us hl => match us, hl with | [_], _ => rfl) sc0 hp0
theorem sc1 : FnScope ["wished", "found", "answer"] ["wished"] (defScope (topS 2)) := ⟨rfl, rfl, rfl, by decide +kernel, rfl, by decide +kernel, by decide +kernel⟩
theorem hp1 : PP[1]? = some ⟨1, 3, cSs ⟨["wished", "found", "answer"], fsT, ksT, kdT⟩ (defScope (topS 2)) 60 (defBody (topS 2))⟩ := by kernel_rfl
theorem wa1 {K : PySem.W.Frag} {mg : Str → Option Value} {h : Heap} (X : K.In h) (G : h.Ns mainGlobals mg) (d : DefAt K "answers_of" (topS 2)) : Want PP K mg "answers_of" 1 := want X G d ["wished", "found", "answer"] ["wished"] (fun _ _ _ _ _ _ us hl => match us, hl with | [_], _ => rfl) sc1 hp1
theorem sc2 : FnScope ["wished", "depth", "above", "table", "length", "told", "plain", "answer", "least"] ["wished"] (defScope (topS 3)) := ⟨rfl, rfl, rfl, by decide +kernel, rfl, by decide +kernel, by decide +kernel⟩
theorem hp2 : PP[2]? = some ⟨1, 9, cSs ⟨["wished", "depth", "above", "table", "length", "told", "plain", "answer", "least"], fsT, ksT, kdT⟩ (defScope (topS 3)) 60 (defBody (topS 3))⟩ := by kernel_rfl
theorem wa2 {K : PySem.W.Frag} {mg : Str → Option Value} {h : Heap} (X : K.In h) (G : h.Ns mainGlobals mg) (d : DefAt K "cost_table" (topS 3)) : Want PP K mg "cost_table" 2 := want X G d ["wished", "depth", "above", "table", "length", "told", "plain", "answer", "least"] ["wished"] (fun _ _ _ _ _ _ us hl => match us, hl with | [_], _ => rfl) sc2 hp2
theorem sc3 : FnScope ["bits", "found", "turn"] ["bits"] (defScope (topS 4)) := ⟨rfl, rfl, rfl, by decide +kernel, rfl, by decide +kernel, by decide +kernel⟩
theorem hp3 : PP[3]? = some ⟨1, 3, cSs ⟨["bits", "found", "turn"], fsT, ksT, kdT⟩ (defScope (topS 4)) 60 (defBody (topS 4))⟩ := by kernel_rfl
theorem wa3 {K : PySem.W.Frag} {mg : Str → Option Value} {h : Heap} (X : K.In h) (G : h.Ns mainGlobals mg) (d : DefAt K "power_of" (topS 4)) : Want PP K mg "power_of" 3 := want X G d ["bits", "found", "turn"] ["bits"] (fun _ _ _ _ _ _ us hl => match us, hl with | [_], _ => rfl) sc3 hp3
theorem sc4 : FnScope ["wished", "depth", "costs", "names", "rows", "waiting", "length", "told", "answer", "kept", "sums", "one"] ["wished"] (defScope (topS 5)) := ⟨rfl, rfl, rfl, by decide +kernel, rfl, by decide +kernel, by decide +kernel⟩
theorem hp4 : PP[4]? = some ⟨1, 12, cSs ⟨["wished", "depth", "costs", "names", "rows", "waiting", "length", "told", "answer", "kept", "sums", "one"], fsT, ksT, kdT⟩ (defScope (topS 5)) 60 (defBody (topS 5))⟩ := by kernel_rfl
theorem wa4 {K : PySem.W.Frag} {mg : Str → Option Value} {h : Heap} (X : K.In h) (G : h.Ns mainGlobals mg) (d : DefAt K "least_prefixes" (topS 5)) : Want PP K mg "least_prefixes" 4 := want X G d ["wished", "depth", "costs", "names", "rows", "waiting", "length", "told", "answer", "kept", "sums", "one"] ["wished"] (fun _ _ _ _ _ _ us hl => match us, hl with | [_], _ => rfl) sc4 hp4
theorem sc5 : FnScope ["rows", "depth", "value", "found", "longest", "length", "told", "answer"] ["rows", "depth", "value"] (defScope (topS 6)) := ⟨rfl, rfl, rfl, by decide +kernel, rfl, by decide +kernel, by decide +kernel⟩
theorem hp5 : PP[5]? = some ⟨3, 8, cSs ⟨["rows", "depth", "value", "found", "longest", "length", "told", "answer"], fsT, ksT, kdT⟩ (defScope (topS 6)) 60 (defBody (topS 6))⟩ := by kernel_rfl
theorem wa5 {K : PySem.W.Frag} {mg : Str → Option Value} {h : Heap} (X : K.In h) (G : h.Ns mainGlobals mg) (d : DefAt K "fitting" (topS 6)) : Want PP K mg "fitting" 5 := want X G d ["rows", "depth", "value", "found", "longest", "length", "told", "answer"] ["rows", "depth", "value"] (fun _ _ _ _ _ _ us hl => match us, hl with | [_, _, _], _ => rfl) sc5 hp5
theorem sc6 : FnScope ["number", "place", "first", "second", "third"] ["number", "place"] (defScope (topS 8)) := ⟨rfl, rfl, rfl, by decide +kernel, rfl, by decide +kernel, by decide +kernel⟩
theorem hp6 : PP[6]? = some ⟨2, 5, cSs ⟨["number", "place", "first", "second", "third"], fsT, ksT, kdT⟩ (defScope (topS 8)) 60 (defBody (topS 8))⟩ := by kernel_rfl
theorem wa6 {K : PySem.W.Frag} {mg : Str → Option Value} {h : Heap} (X : K.In h) (G : h.Ns mainGlobals mg) (d : DefAt K "_law_mixed" (topS 8)) : Want PP K mg "_law_mixed" 6 := want X G d ["number", "place", "first", "second", "third"] ["number", "place"] (fun _ _ _ _ _ _ us hl => match us, hl with | [_, _], _ => rfl) sc6 hp6
theorem sc7 : FnScope ["script", "place", "fills", "number"] ["script", "place", "fills"] (defScope (topS 9)) := ⟨rfl, rfl, rfl, by decide +kernel, rfl, by decide +kernel, by decide +kernel⟩
theorem hp7 : PP[7]? = some ⟨3, 4, cSs ⟨["script", "place", "fills", "number"], fsT, ksT, kdT⟩ (defScope (topS 9)) 60 (defBody (topS 9))⟩ := by kernel_rfl
theorem wa7 {K : PySem.W.Frag} {mg : Str → Option Value} {h : Heap} (X : K.In h) (G : h.Ns mainGlobals mg) (d : DefAt K "_law_rest" (topS 9)) : Want PP K mg "_law_rest" 7 := want X G d ["script", "place", "fills", "number"] ["script", "place", "fills"] (fun _ _ _ _ _ _ us hl => match us, hl with | [_, _, _], _ => rfl) sc7 hp7
theorem sc8 : FnScope ["script"] ["script"] (defScope (topS 10)) := ⟨rfl, rfl, rfl, by decide +kernel, rfl, by decide +kernel, by decide +kernel⟩
theorem hp8 : PP[8]? = some ⟨1, 1, cSs ⟨["script"], fsT, ksT, kdT⟩ (defScope (topS 10)) 60 (defBody (topS 10))⟩ := by kernel_rfl
theorem wa8 {K : PySem.W.Frag} {mg : Str → Option Value} {h : Heap} (X : K.In h) (G : h.Ns mainGlobals mg) (d : DefAt K "_law_pool" (topS 10)) : Want PP K mg "_law_pool" 8 := want X G d ["script"] ["script"] (fun _ _ _ _ _ _ us hl => match us, hl with | [_], _ => rfl) sc8 hp8
theorem sc9 : FnScope ["pool"] ["pool"] (defScope (topS 11)) := ⟨rfl, rfl, rfl, by decide +kernel, rfl, by decide +kernel, by decide +kernel⟩
theorem hp9 : PP[9]? = some ⟨1, 1, cSs ⟨["pool"], fsT, ksT, kdT⟩ (defScope (topS 11)) 60 (defBody (topS 11))⟩ := by kernel_rfl
theorem wa9 {K : PySem.W.Frag} {mg : Str → Option Value} {h : Heap} (X : K.In h) (G : h.Ns mainGlobals mg) (d : DefAt K "_law_next" (topS 11)) : Want PP K mg "_law_next" 9 := want X G d ["pool"] ["pool"] (fun _ _ _ _ _ _ us hl => match us, hl with | [_], _ => rfl) sc9 hp9
theorem sc10 : FnScope ["pool", "limit", "value"] ["pool", "limit"] (defScope (topS 12)) := ⟨rfl, rfl, rfl, by decide +kernel, rfl, by decide +kernel, by decide +kernel⟩
theorem hp10 : PP[10]? = some ⟨2, 3, cSs ⟨["pool", "limit", "value"], fsT, ksT, kdT⟩ (defScope (topS 12)) 60 (defBody (topS 12))⟩ := by kernel_rfl
theorem wa10 {K : PySem.W.Frag} {mg : Str → Option Value} {h : Heap} (X : K.In h) (G : h.Ns mainGlobals mg) (d : DefAt K "_law_draw" (topS 12)) : Want PP K mg "_law_draw" 10 := want X G d ["pool", "limit", "value"] ["pool", "limit"] (fun _ _ _ _ _ _ us hl => match us, hl with | [_, _], _ => rfl) sc10 hp10
theorem sc11 : FnScope ["pool", "options"] ["pool", "options"] (defScope (topS 13)) := ⟨rfl, rfl, rfl, by decide +kernel, rfl, by decide +kernel, by decide +kernel⟩
theorem hp11 : PP[11]? = some ⟨2, 2, cSs ⟨["pool", "options"], fsT, ksT, kdT⟩ (defScope (topS 13)) 60 (defBody (topS 13))⟩ := by kernel_rfl
theorem wa11 {K : PySem.W.Frag} {mg : Str → Option Value} {h : Heap} (X : K.In h) (G : h.Ns mainGlobals mg) (d : DefAt K "_law_pick" (topS 13)) : Want PP K mg "_law_pick" 11 := want X G d ["pool", "options"] ["pool", "options"] (fun _ _ _ _ _ _ us hl => match us, hl with | [_, _], _ => rfl) sc11 hp11
theorem sc12 : FnScope ["answer", "due", "key", "k"] ["answer", "due"] (defScope (topS 14)) := ⟨rfl, rfl, rfl, by decide +kernel, rfl, by decide +kernel, by decide +kernel⟩
theorem hp12 : PP[12]? = some ⟨2, 4, cSs ⟨["answer", "due", "key", "k"], fsT, ksT, kdT⟩ (defScope (topS 14)) 60 (defBody (topS 14))⟩ := by kernel_rfl
theorem wa12 {K : PySem.W.Frag} {mg : Str → Option Value} {h : Heap} (X : K.In h) (G : h.Ns mainGlobals mg) (d : DefAt K "_law_same" (topS 14)) : Want PP K mg "_law_same" 12 := want X G d ["answer", "due", "key", "k"] ["answer", "due"] (fun _ _ _ _ _ _ us hl => match us, hl with | [_, _], _ => rfl) sc12 hp12
theorem sc13 : FnScope ["rows", "depth", "value", "best", "length", "head", "answer", "share", "k"] ["rows", "depth", "value"] (defScope (topS 15)) := ⟨rfl, rfl, rfl, by decide +kernel, rfl, by decide +kernel, by decide +kernel⟩
theorem hp13 : PP[13]? = some ⟨3, 9, cSs ⟨["rows", "depth", "value", "best", "length", "head", "answer", "share", "k"], fsT, ksT, kdT⟩ (defScope (topS 15)) 60 (defBody (topS 15))⟩ := by kernel_rfl
theorem wa13 {K : PySem.W.Frag} {mg : Str → Option Value} {h : Heap} (X : K.In h) (G : h.Ns mainGlobals mg) (d : DefAt K "_law_fit" (topS 15)) : Want PP K mg "_law_fit" 13 := want X G d ["rows", "depth", "value", "best", "length", "head", "answer", "share", "k"] ["rows", "depth", "value"] (fun _ _ _ _ _ _ us hl => match us, hl with | [_, _, _], _ => rfl) sc13 hp13
theorem sc14 : FnScope ["wished", "depth", "length", "head", "above", "kept", "best", "answer", "other"] ["wished", "depth", "length", "head", "above"] (defScope (topS 16)) := ⟨rfl, rfl, rfl, by decide +kernel, rfl, by decide +kernel, by decide +kernel⟩
theorem hp14 : PP[14]? = some ⟨5, 9, cSs ⟨["wished", "depth", "length", "head", "above", "kept", "best", "answer", "other"], fsT, ksT, kdT⟩ (defScope (topS 16)) 60 (defBody (topS 16))⟩ := by kernel_rfl
theorem wa14 {K : PySem.W.Frag} {mg : Str → Option Value} {h : Heap} (X : K.In h) (G : h.Ns mainGlobals mg) (d : DefAt K "_law_cost_own" (topS 16)) : Want PP K mg "_law_cost_own" 14 := want X G d ["wished", "depth", "length", "head", "above", "kept", "best", "answer", "other"] ["wished", "depth", "length", "head", "above"] (fun _ _ _ _ _ _ us hl => match us, hl with | [_, _, _, _, _], _ => rfl) sc14 hp14
theorem sc15 : FnScope ["depth", "found", "many", "length", "head"] ["depth"] (defScope (topS 17)) := ⟨rfl, rfl, rfl, by decide +kernel, rfl, by decide +kernel, by decide +kernel⟩
theorem hp15 : PP[15]? = some ⟨1, 5, cSs ⟨["depth", "found", "many", "length", "head"], fsT, ksT, kdT⟩ (defScope (topS 17)) 60 (defBody (topS 17))⟩ := by kernel_rfl
theorem wa15 {K : PySem.W.Frag} {mg : Str → Option Value} {h : Heap} (X : K.In h) (G : h.Ns mainGlobals mg) (d : DefAt K "_law_heads" (topS 17)) : Want PP K mg "_law_heads" 15 := want X G d ["depth", "found", "many", "length", "head"] ["depth"] (fun _ _ _ _ _ _ us hl => match us, hl with | [_], _ => rfl) sc15 hp15
theorem sc16 : FnScope ["depth", "answers", "most", "found", "level", "count", "longer", "rows", "length", "head", "answer"] ["depth", "answers", "most"] (defScope (topS 18)) := ⟨rfl, rfl, rfl, by decide +kernel, rfl, by decide +kernel, by decide +kernel⟩
theorem hp16 : PP[16]? = some ⟨3, 11, cSs ⟨["depth", "answers", "most", "found", "level", "count", "longer", "rows", "length", "head", "answer"], fsT, ksT, kdT⟩ (defScope (topS 18)) 60 (defBody (topS 18))⟩ := by kernel_rfl
theorem wa16 {K : PySem.W.Frag} {mg : Str → Option Value} {h : Heap} (X : K.In h) (G : h.Ns mainGlobals mg) (d : DefAt K "_law_tables" (topS 18)) : Want PP K mg "_law_tables" 16 := want X G d ["depth", "answers", "most", "found", "level", "count", "longer", "rows", "length", "head", "answer"] ["depth", "answers", "most"] (fun _ _ _ _ _ _ us hl => match us, hl with | [_, _, _], _ => rfl) sc16 hp16
theorem sc17 : FnScope ["script", "pool", "turn", "many", "wished", "depth", "whole", "k", "names", "answer", "rows", "costs", "due", "length", "head", "above", "value", "some", "other"] ["script"] (defScope (topS 19)) := ⟨rfl, rfl, rfl, by decide +kernel, rfl, by decide +kernel, by decide +kernel⟩
theorem hp17 : PP[17]? = some ⟨1, 19, cSs ⟨["script", "pool", "turn", "many", "wished", "depth", "whole", "k", "names", "answer", "rows", "costs", "due", "length", "head", "above", "value", "some", "other"], fsT, ksT, kdT⟩ (defScope (topS 19)) 60 (defBody (topS 19))⟩ := by kernel_rfl
theorem wa17 {K : PySem.W.Frag} {mg : Str → Option Value} {h : Heap} (X : K.In h) (G : h.Ns mainGlobals mg) (d : DefAt K "law" (topS 19)) : Want PP K mg "law" 17 := want X G d ["script", "pool", "turn", "many", "wished", "depth", "whole", "k", "names", "answer", "rows", "costs", "due", "length", "head", "above", "value", "some", "other"] ["script"] (fun _ _ _ _ _ _ us hl => match us, hl with | [_], _ => rfl) sc17 hp17
end Ev

/-! SymA: the evaluator step by step, for values that are not written out. -/
namespace Ev
open PySem
def restS : S → Nat → S
  | .seq _ b, k + 1 => restS b k
  | s, _ => s
def bindR {α β : Type} (r : Res α) (f : α → Hh → Res β) : Res β := match r with
  | .ok x G => f x G
  | .ex c as G => .ex c as G
  | .bad => .bad
@[simp] theorem bindR_ok {α β : Type} (x : α) (G : Hh) (f : α → Hh → Res β) : bindR (.ok x G) f = f x G := rfl
theorem bind_eq {α β : Type} (m : M α) (f : α → M β) (G : Hh) : M.bind m f G = bindR (m G) fun x G1 => f x G1 := rfl
def rdv : Option D → Hh → Res D
  | some .und, _ => .bad
  | some d, G => .ok d G
  | none, _ => .bad
@[simp] theorem rdv_int (i : Int) (G : Hh) : rdv (some (.int i)) G = .ok (.int i) G := rfl
@[simp] theorem rdv_non (G : Hh) : rdv (some .non) G = .ok .non G := rfl
@[simp] theorem rdv_bl (b : Bool) (G : Hh) : rdv (some (.bl b)) G = .ok (.bl b) G := rfl
@[simp] theorem rdv_str (b : Str) (G : Hh) : rdv (some (.str b)) G = .ok (.str b) G := rfl
@[simp] theorem rdv_tup (l : List D) (G : Hh) : rdv (some (.tup l)) G = .ok (.tup l) G := rfl
@[simp] theorem rdv_ref (a : Nat) (G : Hh) : rdv (some (.ref a)) G = .ok (.ref a) G := rfl
def truR (d : D) (G : Hh) : Res Bool := match truth G d with | some b => .ok b G | none => .bad
@[simp] theorem truR_bl (b : Bool) (G : Hh) : truR (.bl b) G = .ok b G := rfl
@[simp] theorem truR_non (G : Hh) : truR .non G = .ok false G := rfl
@[simp] theorem truR_int (i : Int) (G : Hh) : truR (.int i) G = .ok (i != 0) G := rfl
@[simp] theorem truR_tup (l : List D) (G : Hh) : truR (.tup l) G = .ok (!l.isEmpty) G := rfl
def tupR (d : D) (G : Hh) : Res (List D) := unTup d G
@[simp] theorem tupR_tup (l : List D) (G : Hh) : tupR (.tup l) G = .ok l G := rfl
section
variable {C : Cl} {σ : List D} {G : Hh}
@[simp] theorem ev_con (d : D) : evE C (.con d) σ G = .ok d G := rfl
@[simp] theorem ev_var (i : Nat) : evE C (.var i) σ G = rdv σ[i]? G := by
  simp only [evE]
  cases σ[i]? with
  | none => rfl
  | some d => cases d <;> rfl
@[simp] theorem ev_nil : evE C .nil σ G = .ok (.tup []) G := rfl
@[simp] theorem ev_cons (a r : E) : evE C (.cons a r) σ G = bindR (evE C a σ G) fun x G1 => bindR (evE C r σ G1) fun y G2 => bindR (tupR y G2) fun xs G3 => .ok (.tup (x :: xs)) G3 := rfl
@[simp] theorem ev_tup (a : E) : evE C (.tup a) σ G = bindR (evE C a σ G) fun y G1 => bindR (tupR y G1) fun xs G2 => if xs.length ≤ sizeMax then .ok (.tup xs) G2 else .bad := by
  simp only [evE, bind_eq]
  congr 1; funext y G1
  show bindR (unTup y G1) _ = bindR (unTup y G1) _
  congr 1; funext xs G2
  split <;> rfl
@[simp] theorem ev_lst (a : E) : evE C (.lst a) σ G = bindR (evE C a σ G) fun y G1 => bindR (tupR y G1) fun xs G2 => if xs.length ≤ sizeMax then .ok (.ref G2.n) (G2.new (.lst xs)) else .bad := by
  simp only [evE, bind_eq]
  congr 1; funext y G1
  show bindR (unTup y G1) _ = bindR (unTup y G1) _
  congr 1; funext xs G2
  split <;> rfl
@[simp] theorem ev_dnew : evE C .dnew σ G = .ok (.ref G.n) (G.new (.dct [])) := rfl
@[simp] theorem ev_bin (o : Op) (a b : E) : evE C (.bin o a b) σ G = bindR (evE C a σ G) fun x G1 => bindR (evE C b σ G1) fun y G2 => bin o x y G2 := rfl
@[simp] theorem ev_isK (n : Bool) (k : Option Bool) (a : E) : evE C (.isK n k a) σ G = bindR (evE C a σ G) fun x G1 => isKD n k x G1 := rfl
@[simp] theorem ev_neg (a : E) : evE C (.neg a) σ G = bindR (evE C a σ G) fun x G1 => (match x with | .int i => .ok (.int (-i)) G1 | _ => .bad) := by
  simp only [evE, bind_eq]
  congr 1; funext x G1
  cases x <;> rfl
@[simp] theorem ev_and (a b : E) : evE C (.and a b) σ G = bindR (evE C a σ G) fun x G1 => bindR (truR x G1) fun t G2 => if t = true then evE C b σ G2 else .ok x G2 := by
  simp only [evE, bind_eq]
  congr 1; funext x G1
  show bindR (truR x G1) _ = bindR (truR x G1) _
  congr 1; funext t G2
  split <;> rfl
@[simp] theorem ev_or (a b : E) : evE C (.or a b) σ G = bindR (evE C a σ G) fun x G1 => bindR (truR x G1) fun t G2 => if t = true then .ok x G2 else evE C b σ G2 := by
  simp only [evE, bind_eq]
  congr 1; funext x G1
  show bindR (truR x G1) _ = bindR (truR x G1) _
  congr 1; funext t G2
  split <;> rfl
@[simp] theorem ev_not (a : E) : evE C (.not a) σ G = bindR (evE C a σ G) fun x G1 => bindR (truR x G1) fun t G2 => .ok (.bl !t) G2 := rfl
@[simp] theorem ev_ite (c a b : E) : evE C (.ite c a b) σ G = bindR (evE C c σ G) fun x G1 => bindR (truR x G1) fun t G2 => if t = true then evE C a σ G2 else evE C b σ G2 := by
  simp only [evE, bind_eq]
  congr 1; funext x G1
  show bindR (truR x G1) _ = bindR (truR x G1) _
  congr 1; funext t G2
  split <;> rfl
@[simp] theorem ev_call (f : Nat) (a : E) : evE C (.call f a) σ G = bindR (evE C a σ G) fun y G1 => bindR (tupR y G1) fun xs G2 => C.call f xs G2 := rfl
@[simp] theorem ev_bfn (f : Bf) (a : E) : evE C (.bfn f a) σ G = bindR (evE C a σ G) fun y G1 => bindR (tupR y G1) fun xs G2 => bfn f xs G2 := rfl
@[simp] theorem ev_meth (f : Bf) (o a : E) : evE C (.meth f o a) σ G = bindR (evE C o σ G) fun x G1 => bindR (rd (mtK f x) G1) fun _ G2 => bindR (evE C a σ G2) fun y G3 => bindR (tupR y G3) fun xs G4 => bfn f (x :: xs) G4 := rfl
/-! ### statements -/
def contS (C : Cl) (b : S) : Fl × List D → Hh → Res (Fl × List D)
  | (.nx, σ'), G => evS C b σ' G
  | r, G => .ok r G
@[simp] theorem contS_nx (b : S) (σ' : List D) : contS C b (.nx, σ') G = evS C b σ' G := rfl
@[simp] theorem contS_rt (b : S) (d : D) (σ' : List D) : contS C b (.rt d, σ') G = .ok (.rt d, σ') G := rfl
@[simp] theorem contS_ct (b : S) (σ' : List D) : contS C b (.ct, σ') G = .ok (.ct, σ') G := rfl
@[simp] theorem es_seq (a b : S) : evS C (.seq a b) σ G = bindR (evS C a σ G) fun r G1 => contS C b r G1 := by
  simp only [evS, bind_eq]
  congr 1; funext r G1
  obtain ⟨f, σ'⟩ := r
  cases f <;> rfl
@[simp] theorem es_skip : evS C .skip σ G = .ok (.nx, σ) G := rfl
@[simp] theorem es_cnt : evS C .cnt σ G = .ok (.ct, σ) G := rfl
def optR {α : Type} (o : Option α) (G : Hh) : Res α := match o with | some x => .ok x G | none => .bad
@[simp] theorem optR_some {α : Type} (x : α) : optR (some x) G = .ok x G := rfl
@[simp] theorem es_asg (t : T) (e : E) : evS C (.asg t e) σ G = bindR (evE C e σ G) fun x G1 => bindR (optR (asgT t x σ) G1) fun σ' G2 => .ok (.nx, σ') G2 := by
  simp only [evS, bind_eq]
  congr 1; funext x G1
  first | rfl | (cases asgT t x σ <;> rfl)
@[simp] theorem es_setix (o i e : E) : evS C (.setix o i e) σ G = bindR (evE C e σ G) fun v G1 => bindR (evE C o σ G1) fun x G2 => bindR (evE C i σ G2) fun k G3 => bindR (setIx x k v G3) fun _ G4 => .ok (.nx, σ) G4 := rfl
@[simp] theorem es_expr (e : E) : evS C (.expr e) σ G = bindR (evE C e σ G) fun _ G1 => .ok (.nx, σ) G1 := rfl
@[simp] theorem es_ret (e : E) : evS C (.ret e) σ G = bindR (evE C e σ G) fun x G1 => .ok (.rt x, σ) G1 := rfl
@[simp] theorem es_ite (c : E) (a b : S) : evS C (.ite c a b) σ G = bindR (evE C c σ G) fun x G1 => bindR (truR x G1) fun t G2 => if t = true then evS C a σ G2 else evS C b σ G2 := by
  simp only [evS, bind_eq]
  congr 1; funext x G1
  show bindR (truR x G1) _ = bindR (truR x G1) _
  congr 1; funext t G2
  split <;> rfl
@[simp] theorem es_for (k : Ik) (src : E) (t : T) (b : S) : evS C (.for k src t b) σ G = bindR (evE C src σ G) fun x G1 => bindR (optR (srcOf k x G1) G1) fun s G2 => forN s t (fun σ' => evS C b σ') s.n 0 σ G2 := by
  simp only [evS, bind_eq]
  first
    | rfl
    | (congr 1; done)
    | (congr 1; funext x G1; show bindR (rd (srcOf k x) G1) _ = _; unfold rd; cases srcOf k x G1 <;> rfl)
end
/-! ### operators on numbers -/
section
variable {G : Hh} {i j : Int}
@[simp] theorem bin_add : bin .add (.int i) (.int j) G = .ok (.int (i + j)) G := rfl
@[simp] theorem bin_sub : bin .sub (.int i) (.int j) G = .ok (.int (i - j)) G := rfl
theorem mulOk_l {i j : Int} (h : -(2 ^ 64) < i ∧ i < 2 ^ 64) : mulOk i j = true := by
  unfold mulOk
  rw [decide_eq_true h.1, decide_eq_true h.2]
  rfl
theorem mulOk_r {i j : Int} (h : -(2 ^ 64) < j ∧ j < 2 ^ 64) : mulOk i j = true := by
  unfold mulOk
  rw [decide_eq_true h.1, decide_eq_true h.2]
  simp
@[simp] theorem bin_mul2 : bin .mul (.int 2) (.int j) G = .ok (.int (2 * j)) G := by
  simp only [bin, mulOk_l (i := 2) (j := j) (by decide), if_true]
@[simp] theorem bin_le : bin .le (.int i) (.int j) G = .ok (.bl (decide (i ≤ j))) G := rfl
@[simp] theorem bin_ge : bin .ge (.int i) (.int j) G = .ok (.bl (decide (j ≤ i))) G := rfl
@[simp] theorem bin_lt : bin .lt (.int i) (.int j) G = .ok (.bl (decide (i < j))) G := rfl
@[simp] theorem bin_gt : bin .gt (.int i) (.int j) G = .ok (.bl (decide (j < i))) G := rfl
theorem eq_int : eqD G (.int i) (.int j) = some (decide (i = j)) := by
  simp [eqD, D.flat, D.depth, D.eqv]
  by_cases h : i = j <;> simp [h]
@[simp] theorem bin_eq : bin .eq (.int i) (.int j) G = .ok (.bl (decide (i = j))) G := by simp only [bin, eq_int]
@[simp] theorem bin_ne : bin .ne (.int i) (.int j) G = .ok (.bl (!decide (i = j))) G := by simp only [bin, eq_int]
@[simp] theorem bfn_min2 : bfn .min2 [.int i, .int j] G = .ok (.int (if j < i then j else i)) G := rfl
@[simp] theorem bfn_int : bfn .int [.int i] G = .ok (.int i) G := rfl
@[simp] theorem bfn_len_tup (l : List D) : bfn .len [.tup l] G = .ok (.int l.length) G := rfl
theorem ix_nat {n h : Nat} (hl : h < n) : ixN n (h : Int) = some h := by
  unfold ixN
  rw [if_pos (by omega), if_pos (by omega), Int.toNat_natCast]
theorem bin_idx_tup {l : List D} {h : Nat} (hl : h < l.length) : bin .idx (.tup l) (.int (h : Int)) G = .ok l[h] G := by
  simp only [bin, itemG, ix_nat hl, List.getElem?_eq_getElem hl]
end
/-! ### loops -/
theorem forN_inv (s : Src) (t : T) (f : List D → M (Fl × List D)) (n : Nat) (Inv : Nat → List D → Hh → Prop)
    (hs : ∀ i σ G, i < n → Inv i σ G → ∃ x σ1 σ2 G2, s.at i G = some (some x) ∧ asgT t x σ = some σ1 ∧ (f σ1 G = .ok (.nx, σ2) G2 ∨ f σ1 G = .ok (.ct, σ2) G2) ∧ Inv (i + 1) σ2 G2)
    (he : ∀ σ G, Inv n σ G → s.at n G = some none) : ∀ (m i : Nat) (σ : List D) (G : Hh), i + m = n → Inv i σ G → ∃ σ' G', forN s t f m i σ G = .ok (.nx, σ') G' ∧ Inv n σ' G'
  | 0, i, σ, G, e, h => by
    have e' : i = n := by omega
    subst e'
    exact ⟨σ, G, by simp only [forN, he σ G h], h⟩
  | m + 1, i, σ, G, e, h => by
    obtain ⟨x, σ1, σ2, G2, h1, h2, h3, h4⟩ := hs i σ G (by omega) h
    obtain ⟨σ', G', q1, q2⟩ := forN_inv s t f n Inv hs he m (i + 1) σ2 G2 (by omega) h4
    refine ⟨σ', G', ?_, q2⟩
    simp only [forN, h1, h2]
    rcases h3 with h3 | h3 <;> simp only [h3] <;> exact q1
theorem compN_inv {α : Type} (s : Src) (t : T) (σ : List D) (f : List D → α → M α) (n : Nat) (Inv : Nat → α → Hh → Prop)
    (hs : ∀ i a G, i < n → Inv i a G → ∃ x σ1 a2 G2, s.at i G = some (some x) ∧ asgT t x σ = some σ1 ∧ f σ1 a G = .ok a2 G2 ∧ Inv (i + 1) a2 G2)
    (he : ∀ a G, Inv n a G → s.at n G = some none) : ∀ (m i : Nat) (a : α) (G : Hh), i + m = n → Inv i a G → ∃ a' G', compN s t σ f m i a G = .ok a' G' ∧ Inv n a' G'
  | 0, i, a, G, e, h => by
    have e' : i = n := by omega
    subst e'
    exact ⟨a, G, by simp only [compN, he a G h], h⟩
  | m + 1, i, a, G, e, h => by
    obtain ⟨x, σ1, a2, G2, h1, h2, h3, h4⟩ := hs i a G (by omega) h
    obtain ⟨a', G', q1, q2⟩ := compN_inv s t σ f n Inv hs he m (i + 1) a2 G2 (by omega) h4
    exact ⟨a', G', by simp only [compN, h1, h2, h3]; exact q1, q2⟩
theorem items_at {xs : List D} {i : Nat} (h : i < xs.length) (G : Hh) : Src.at (.items xs) i G = some (some xs[i]) := by
  simp [Src.at, h]
theorem items_end (xs : List D) (G : Hh) : Src.at (.items xs) xs.length G = some none := by
  simp [Src.at]
def outF : Res (Fl × List D) → Res D
  | .ok (.rt d, _) G => .ok d G
  | .ok (.nx, _) G => .ok .non G
  | .ok _ _ => .bad
  | .ex c as G => .ex c as G
  | .bad => .bad
@[simp] theorem outF_rt (d : D) (σ : List D) (G : Hh) : outF (.ok (.rt d, σ) G) = .ok d G := rfl
@[simp] theorem outF_nx (σ : List D) (G : Hh) : outF (.ok (.nx, σ) G) = .ok .non G := rfl
theorem runF_eq {C : Cl} {F : Fn} {ds : List D} {G : Hh} (hl : ds.length = F.np) : runF C F ds G = outF (evS C F.body (ds ++ List.replicate (F.nl - F.np) .und) G) := by
  simp only [runF, hl, if_true]
  generalize evS C F.body _ G = r
  cases r with
  | ok x G' =>
    obtain ⟨f, σ'⟩ := x
    cases f <;> rfl
  | ex c as G' => rfl
  | bad => rfl
end Ev

/-! K60b: the small defs of k60. -/
namespace Ev
open PySem
/-! ### numbers of figures, powers -/
def bitsN (n : Nat) : Nat := if n ≤ 1 then 0 else if n ≤ 2 then 1 else if n ≤ 4 then 2 else 3
theorem bits_ok (k : Nat) (G : Hh) : ∀ n : Nat, 1 ≤ n → n ≤ 8 → callN PP (k + 1) 0 [.int n] G = .ok (.int (bitsN n)) G
  | 1, _, _ => by kernel_rfl
  | 2, _, _ => by kernel_rfl
  | 3, _, _ => by kernel_rfl
  | 4, _, _ => by kernel_rfl
  | 5, _, _ => by kernel_rfl
  | 6, _, _ => by kernel_rfl
  | 7, _, _ => by kernel_rfl
  | 8, _, _ => by kernel_rfl
theorem pow_ok (k : Nat) (G : Hh) : ∀ n : Nat, n ≤ 3 → callN PP (k + 1) 3 [.int n] G = .ok (.int ((2 ^ n : Nat) : Int)) G
  | 0, _ => by kernel_rfl
  | 1, _ => by kernel_rfl
  | 2, _ => by kernel_rfl
  | 3, _ => by kernel_rfl
/-! ### the least costs -/
abbrev Ws (ws : List Int) : D := .tup (ws.map D.int)
def optD : Option Int → D
  | none => .non
  | some i => .int i
@[simp] theorem rdv_opt (a : Option Int) (G : Hh) : rdv (some (optD a)) G = .ok (optD a) G := by cases a <;> rfl
theorem eq_opt (G : Hh) (i : Int) (a : Option Int) : eqD G (.int i) (optD a) = some (decide (some i = a)) := by
  cases a with
  | none => simp [eqD, D.flat, D.depth, D.eqv, optD]
  | some j =>
    simp only [optD, eq_int]
    by_cases h : i = j <;> simp [h]
@[simp] theorem bin_eq_opt (G : Hh) (i : Int) (a : Option Int) : bin .eq (.int i) (optD a) G = .ok (.bl (decide (some i = a))) G := by simp only [bin, eq_opt]
theorem ws_idx {ws : List Int} {h : Nat} (hl : h < ws.length) (G : Hh) : bin .idx (Ws ws) (.int (h : Int)) G = .ok (.int ws[h]) G := by
  rw [bin_idx_tup (by rw [List.length_map]; exact hl)]
  simp
def hit (ws : List Int) (h : Nat) (a : Option Int) : Nat := match ws[h]? with
  | none => 0
  | some x => if some x = a then 0 else 1
def co (ws : List Int) : Nat → Nat → Option Int → Nat
  | 0, h, a => hit ws h a
  | r + 1, h, a => ws.foldl (fun b x => min b (1 + co ws r (2 * h) (some x) + co ws r (2 * h + 1) (some x))) (co ws r (2 * h) a + co ws r (2 * h + 1) a)
theorem callN_at (k i : Nat) (F : Fn) (ds : List D) (G : Hh) (h : PP[i]? = some F) : callN PP (k + 1) i ds G = runF ⟨callN PP k⟩ F ds G := by
  simp only [callN, h]
theorem hit_le (ws : List Int) (h : Nat) (a : Option Int) : hit ws h a ≤ 1 := by
  unfold hit
  split
  · omega
  · split <;> omega
theorem run14 (k : Nat) (d0 d1 d2 d3 d4 : D) (G : Hh) : callN PP (k + 1) 14 [d0, d1, d2, d3, d4] G = outF (evS ⟨callN PP k⟩ q14.body [d0, d1, d2, d3, d4, .und, .und, .und, .und] G) := by
  rw [callN_at k 14 q14 _ _ rfl, runF_eq rfl]
  rfl
theorem co_ok (ws : List Int) : ∀ (r l h : Nat) (a : Option Int) (k : Nat) (G : Hh), callN PP (k + r + 1) 14 [Ws ws, .int ((l + r : Nat) : Int), .int (l : Int), .int (h : Int), optD a] G = .ok (.int (co ws r h a)) G
  | 0, l, h, a, k, G => by
    rw [run14]
    by_cases hl : h < ws.length
    · have n1 : ¬ ((ws.length : Int) ≤ (h : Int)) := by omega
      by_cases he : some ws[h] = a
      · subst he
        simp [q14, ws_idx hl, n1, hl, co, hit]
      · simp [q14, ws_idx hl, n1, hl, co, hit, he]
    · have n1 : (ws.length : Int) ≤ (h : Int) := by omega
      have g : ws[h]? = none := List.getElem?_eq_none_iff.mpr (by omega)
      simp [q14, n1, co, hit, g]
  | r + 1, l, h, a, k, G => by
    show callN PP ((k + r + 1) + 1) 14 _ G = _
    rw [run14]
    generalize hD : ((l + (r + 1) : Nat) : Int) = dep
    have hc : ∀ (j : Nat) (b : Option Int) (G : Hh), callN PP (k + r + 1) 14 [Ws ws, .int dep, .int ((l : Int) + 1), .int (j : Int), optD b] G = .ok (.int (co ws r j b)) G := fun j b G => by
      have := co_ok ws r (l + 1) j b k G
      have e1 : ((l + 1 + r : Nat) : Int) = dep := by omega
      have e2 : ((l + 1 : Nat) : Int) = (l : Int) + 1 := by omega
      rw [e1, e2] at this
      exact this
    generalize callN PP (k + r + 1) = cf at hc
    have d1 : ((2 * h : Nat) : Int) = 2 * (h : Int) := by omega
    have d2 : ((2 * h + 1 : Nat) : Int) = 2 * (h : Int) + 1 := by omega
    have c1 := fun b G => hc (2 * h) b G
    have c2 := fun b G => hc (2 * h + 1) b G
    rw [d1] at c1
    rw [d2] at c2
    have c1s := fun (x : Int) G => c1 (some x) G
    have c2s := fun (x : Int) G => c2 (some x) G
    simp only [optD] at c1s c2s
    have nd : ¬ ((l : Int) = dep) := by omega
    generalize hK : co ws r (2 * h) a + co ws r (2 * h + 1) a = kept
    have hK' : (co ws r (2 * h) a : Int) + (co ws r (2 * h + 1) a : Int) = (kept : Int) := by omega
    let best : Nat → Nat := fun i => (ws.take i).foldl (fun b x => min b (1 + co ws r (2 * h) (some x) + co ws r (2 * h + 1) (some x))) kept
    obtain ⟨σ', G', hf, e1, y, z, e2⟩ := forN_inv (.items (ws.map D.int)) (.nm 7) (fun σ' => evS ⟨cf⟩ (.seq (.asg (.nm 8) (.bin .add (.bin .add (.con (.int (1))) (.call 14 (.cons (.var 0) (.cons (.var 1) (.cons (.bin .add (.var 2) (.con (.int (1)))) (.cons (.bin .mul (.con (.int (2))) (.var 3)) (.cons (.var 7) .nil))))))) (.call 14 (.cons (.var 0) (.cons (.var 1) (.cons (.bin .add (.var 2) (.con (.int (1)))) (.cons (.bin .add (.bin .mul (.con (.int (2))) (.var 3)) (.con (.int (1)))) (.cons (.var 7) .nil)))))))) (.asg (.nm 6) (.bfn .min2 (.cons (.var 6) (.cons (.var 8) .nil))))) σ') ws.length
      (fun i σ G' => G' = G ∧ ∃ y z, σ = [Ws ws, .int dep, .int l, .int h, optD a, .int (kept : Int), .int (best i : Int), y, z])
      (fun i σ G' hi ⟨e1, y, z, e2⟩ => by
        subst e1 e2
        refine ⟨.int ws[i], [Ws ws, .int dep, .int l, .int h, optD a, .int (kept : Int), .int (best i : Int), .int ws[i], z], [Ws ws, .int dep, .int l, .int h, optD a, .int (kept : Int), .int (best (i + 1) : Int), .int ws[i], .int (1 + (co ws r (2 * h) (some ws[i]) : Int) + (co ws r (2 * h + 1) (some ws[i]) : Int))], G', ?_, ?_, .inl ?_, rfl, _, _, rfl⟩
        · rw [items_at (by rw [List.length_map]; exact hi)]; simp
        · simp [asgT]
        · have hb : best (i + 1) = min (best i) (1 + co ws r (2 * h) (some ws[i]) + co ws r (2 * h + 1) (some ws[i])) := by
            simp only [best, List.take_succ_eq_append_getElem hi, List.foldl_append, List.foldl_cons, List.foldl_nil]
          simp [c1s, c2s, asgT]
          rw [hb]
          split <;> omega)
      (fun σ G' _ => by have := items_end (ws.map D.int) G'; rw [List.length_map] at this; exact this) ws.length 0 [Ws ws, .int dep, .int l, .int h, optD a, .int (kept : Int), .int (kept : Int), .und, .und] G (by omega) ⟨rfl, .und, .und, by simp [best]⟩
    subst e1 e2
    have hbest : best ws.length = co ws (r + 1) h a := by simp only [best, List.take_length, co, hK]
    rw [hbest] at hf
    simp [q14, nd, c1, c2, hK', asgT, srcOf, Src.n, hf]
end Ev

/-! K60c: the pool. -/
namespace Ev
open PySem
/-- what stood before stands -/
structure Ext (G G' : Hh) : Prop where
  le : G.n ≤ G'.n
  eq : ∀ a, a < G.n → G'.get a = G.get a
theorem Ext.refl (G : Hh) : Ext G G := ⟨Nat.le_refl _, fun _ _ => rfl⟩
theorem Ext.trans {G G' G'' : Hh} (a : Ext G G') (b : Ext G' G'') : Ext G G'' := ⟨Nat.le_trans a.le b.le, fun x h => (b.eq x (Nat.lt_of_lt_of_le h a.le)).trans (a.eq x h)⟩
theorem Ext.new (G : Hh) (o : O) : Ext G (G.new o) := ⟨Nat.le_succ _, fun a h => Hh.get_new_lt o h⟩
theorem Ext.set {G G' : Hh} (e : Ext G G') {a : Nat} (o : O) (h : G.n ≤ a) : Ext G (G'.set a o) := ⟨e.le, fun x hx => by rw [Hh.get_set_ne o (by omega)]; exact e.eq x hx⟩
theorem Ext.get {G G' : Hh} (e : Ext G G') {a : Nat} {o : O} (h : G.get a = some o) : G'.get a = some o := by rw [e.eq a (Hh.get_lt h)]; exact h
/-- only the object at p is other -/
structure But (p : Nat) (G G' : Hh) : Prop where
  n : G'.n = G.n
  eq : ∀ a, a ≠ p → G'.get a = G.get a
theorem But.refl (p : Nat) (G : Hh) : But p G G := ⟨rfl, fun _ _ => rfl⟩
theorem But.trans {p : Nat} {G G' G'' : Hh} (a : But p G G') (b : But p G' G'') : But p G G'' := ⟨b.n.trans a.n, fun x h => (b.eq x h).trans (a.eq x h)⟩
theorem But.set {p : Nat} {G : Hh} (o : O) : But p G (G.set p o) := ⟨rfl, fun x h => Hh.get_set_ne o h⟩
def plO (p r f : Int) : O := .lst [.ref 0, .int p, .int r, .int f]
/-- the pool at q -/
def Pool (q : Nat) (G : Hh) : Prop := q ≠ 0 ∧ (∃ ns : List Int, G.get 0 = some (.frz (ns.map D.int))) ∧ ∃ p r f : Int, 0 ≤ p ∧ G.get q = some (plO p r f)
theorem Pool.but {q : Nat} {G G' : Hh} (h : Pool q G) (b : But q G G') {p r f : Int} (hp : 0 ≤ p) (e : G'.get q = some (plO p r f)) : Pool q G' := by
  obtain ⟨h0, ⟨ns, h1⟩, _⟩ := h
  exact ⟨h0, ⟨ns, by rw [b.eq 0 (Ne.symm h0)]; exact h1⟩, p, r, f, hp, e⟩
theorem Pool.ext {q : Nat} {G G' : Hh} (h : Pool q G) (b : Ext G G') : Pool q G' := by
  obtain ⟨h0, ⟨ns, h1⟩, p, r, f, hp, h2⟩ := h
  exact ⟨h0, ⟨ns, b.get h1⟩, p, r, f, hp, b.get h2⟩
theorem mulOk_b {i j : Int} (h : 0 ≤ i ∧ i < 2 ^ 200) (h' : 0 ≤ j ∧ j < 2 ^ 200) : mulOk i j = true := by
  unfold mulOk
  have e : (2 : Nat) ^ 200 ≤ 2 ^ 100000 := Nat.pow_le_pow_right (by decide) (by decide)
  have e1 : i.natAbs < 2 ^ 200 := by omega
  have e2 : j.natAbs < 2 ^ 200 := by omega
  rw [decide_eq_true (Nat.lt_of_lt_of_le e1 e), decide_eq_true (Nat.lt_of_lt_of_le e2 e)]
  simp
theorem bin_mul {i j : Int} (h : mulOk i j = true) (G : Hh) : bin .mul (.int i) (.int j) G = .ok (.int (i * j)) G := by
  simp only [bin, h, if_true]
theorem bin_mod {i j : Int} (h : 0 < j) (G : Hh) : bin .mod (.int i) (.int j) G = .ok (.int (i % j)) G := by
  simp only [bin, h, if_true]
theorem bin_fdiv {i j : Int} (h : 0 < j ∧ j < 1073741824) (G : Hh) : bin .fdiv (.int i) (.int j) G = .ok (.int (i / j)) G := by
  simp only [bin, h, and_self, if_true]
def mf (a p : Int) : Int := (a * 48271 + p * 69621 + 11) % 618970019642690137449562111
def ms (a p : Int) : Int := (mf a p * mf a p + 7 * mf a p + p) % 162259276829213363391578010288127
def mt (a p : Int) : Int := (ms a p * ms a p + mf a p) % 618970019642690137449562111
def mixI (a p : Int) : Int := ms a p * 618970019642690137449562111 + mt a p
theorem mf_b (a p : Int) : 0 ≤ mf a p ∧ mf a p < 2 ^ 200 := ⟨Int.emod_nonneg _ (by decide), Int.lt_trans (Int.emod_lt_of_pos _ (by decide)) (by decide)⟩
theorem ms_b (a p : Int) : 0 ≤ ms a p ∧ ms a p < 2 ^ 200 := ⟨Int.emod_nonneg _ (by decide), Int.lt_trans (Int.emod_lt_of_pos _ (by decide)) (by decide)⟩
theorem mixed_ok (k : Nat) (a p : Int) (G : Hh) : callN PP (k + 1) 6 [.int a, .int p] G = .ok (.int (mixI a p)) G := by
  rw [callN_at k 6 q6 _ _ rfl, runF_eq rfl]
  have h1 := bin_mul (mulOk_b (mf_b a p) (mf_b a p))
  have h2 := bin_mul (mulOk_b (ms_b a p) (ms_b a p))
  have h3 := bin_mul (mulOk_b (ms_b a p) (j := 618970019642690137449562111) (by decide))
  have h4 := bin_mul (mulOk_r (i := a) (j := 48271) (by decide))
  have h5 := bin_mul (mulOk_r (i := p) (j := 69621) (by decide))
  have h6 := bin_mul (mulOk_l (i := 7) (j := mf a p) (by decide))
  have m1 := fun (i : Int) => bin_mod (i := i) (j := 618970019642690137449562111) (by decide)
  have m2 := fun (i : Int) => bin_mod (i := i) (j := 162259276829213363391578010288127) (by decide)
  have e1 : (a * 48271 + p * 69621 + 11) % 618970019642690137449562111 = mf a p := rfl
  have e2 : (mf a p * mf a p + 7 * mf a p + p) % 162259276829213363391578010288127 = ms a p := rfl
  have e3 : (ms a p * ms a p + mf a p) % 618970019642690137449562111 = mt a p := rfl
  simp [q6, asgT, List.replicate, h1, h2, h3, h4, h5, h6, m1, m2, e1, e2, e3, mixI]
theorem rest_ok (k : Nat) (p f : Int) (hp : 0 ≤ p) (ns : List Int) (G : Hh) (hG : G.get 0 = some (.frz (ns.map D.int))) : ∃ r : Int, callN PP (k + 2) 7 [.ref 0, .int p, .int f] G = .ok (.int r) G := by
  rw [callN_at (k + 1) 7 q7 _ _ rfl, runF_eq rfl]
  have hx := fun a p => mixed_ok k a p G
  have h4 := bin_mul (mulOk_r (i := f) (j := 1000003) (by decide)) G
  have pw : bin .pow (.int 10) (.int 18) G = .ok (.int 1000000000000000000) G := by
    simp only [bin]
    rfl
  have hl : bfn .len [.ref 0] G = .ok (.int ns.length) G := by simp [bfn, lenD, hG]
  by_cases hn : ns = []
  · subst hn
    by_cases hf : f = 0
    · subst hf
      exact ⟨_, by simp [q7, asgT, List.replicate, hl, h4, hx, Int.not_lt.mpr hp]; rfl⟩
    · exact ⟨_, by simp [q7, asgT, List.replicate, hl, h4, hx, hf]; rfl⟩
  · have lp : (0 : Int) < ns.length := by
      have : 0 < ns.length := by cases ns with | nil => exact absurd rfl hn | cons a b => simp
      omega
    have lpn : 0 < ns.length := by omega
    obtain ⟨j, hj, hje⟩ : ∃ j : Nat, j < ns.length ∧ p % (ns.length : Int) = j := ⟨(p % (ns.length : Int)).toNat, by
      have a1 := Int.emod_nonneg p (by omega : (ns.length : Int) ≠ 0)
      have a2 := Int.emod_lt_of_pos p lp
      omega, by
      have a1 := Int.emod_nonneg p (by omega : (ns.length : Int) ≠ 0)
      omega⟩
    have hm : bin .mod (.int p) (.int ns.length) G = .ok (.int j) G := by rw [bin_mod lp, hje]
    have hi : bin .idx (.ref 0) (.int (j : Int)) G = .ok (.int ns[j]) G := by
      simp only [bin, hG, itemG, List.length_map, ix_nat hj, List.getElem?_map, List.getElem?_eq_getElem hj, Option.map_some]
    have main : ∀ v : Int, ∃ r : Int, outF (evS ⟨callN PP (k + 1)⟩ (restS q7.body 3) [.ref 0, .int p, .int f, .int v] G) = .ok (.int r) G := fun v => by
      by_cases hf : f = 0
      · subst hf
        by_cases hpl : p < ns.length
        · by_cases hb : 1000000000000000000 ≤ v
          · exact ⟨_, by simp [q7, restS, asgT, hl, h4, hx, pw, hpl, hb]; rfl⟩
          · exact ⟨_, by simp [q7, restS, asgT, hl, h4, hx, pw, hpl, hb]; rfl⟩
        · exact ⟨_, by simp [q7, restS, asgT, hl, h4, hx, pw, hpl]; rfl⟩
      · exact ⟨_, by simp [q7, restS, asgT, hl, h4, hx, hf]; rfl⟩
    by_cases hv : ns[j] < 0
    · obtain ⟨r, hr⟩ := main (1 - 2 * ns[j])
      refine ⟨r, ?_⟩
      rw [← hr]
      simp [q7, restS, asgT, List.replicate, hl, hm, hi, lpn, hv]
    · obtain ⟨r, hr⟩ := main ns[j]
      refine ⟨r, ?_⟩
      rw [← hr]
      simp [q7, restS, asgT, List.replicate, hl, hm, hi, lpn, hv]
/-! ### the pool's places -/
section
variable {q : Nat} {G : Hh} {p r f x : Int}
theorem pl0 (h : G.get q = some (plO p r f)) : bin .idx (.ref q) (.int 0) G = .ok (.ref 0) G := by simp [bin, h, plO, itemG, ixN]
theorem pl1 (h : G.get q = some (plO p r f)) : bin .idx (.ref q) (.int 1) G = .ok (.int p) G := by simp [bin, h, plO, itemG, ixN]
theorem pl2 (h : G.get q = some (plO p r f)) : bin .idx (.ref q) (.int 2) G = .ok (.int r) G := by simp [bin, h, plO, itemG, ixN]
theorem pl3 (h : G.get q = some (plO p r f)) : bin .idx (.ref q) (.int 3) G = .ok (.int f) G := by simp [bin, h, plO, itemG, ixN]
theorem ps1 (h : G.get q = some (plO p r f)) : setIx (.ref q) (.int 1) (.int x) G = .ok .non (G.set q (plO x r f)) := by simp [setIx, h, plO, ixN]
theorem ps2 (h : G.get q = some (plO p r f)) : setIx (.ref q) (.int 2) (.int x) G = .ok .non (G.set q (plO p x f)) := by simp [setIx, h, plO, ixN]
theorem ps3 (h : G.get q = some (plO p r f)) : setIx (.ref q) (.int 3) (.int x) G = .ok .non (G.set q (plO p r x)) := by simp [setIx, h, plO, ixN]
theorem pget (h : G.get q = some (plO p r f)) (o : O) : (G.set q o).get q = some o := Hh.get_set_self o (Hh.get_lt h)
end
theorem next_ok (k q : Nat) (G : Hh) (h : Pool q G) : ∃ G', callN PP (k + 3) 9 [.ref q] G = .ok .non G' ∧ But q G G' ∧ Pool q G' := by
  have hP := h
  obtain ⟨h0, ⟨ns, h1⟩, p, r, f, hp, h2⟩ := h
  have g1 := pget h2 (plO (p + 1) r f)
  obtain ⟨r', hr⟩ := rest_ok k (p + 1) 0 (by omega) ns (G.set q (plO (p + 1) r f)) (by rw [Hh.get_set_ne _ (Ne.symm h0)]; exact h1)
  have g2 := pget g1 (plO (p + 1) r' f)
  have g3 := pget g2 (plO (p + 1) r' 0)
  refine ⟨((G.set q (plO (p + 1) r f)).set q (plO (p + 1) r' f)).set q (plO (p + 1) r' 0), ?_, ((But.set _).trans (But.set _)).trans (But.set _), ?_⟩
  · rw [callN_at (k + 2) 9 q9 _ _ rfl, runF_eq rfl]
    simp [q9, List.replicate, pl1 h2, ps1 h2, pl0 g1, pl1 g1, hr, ps2 g1, ps3 g2]
  · exact hP.but (((But.set _).trans (But.set _)).trans (But.set _)) (by omega) g3
theorem draw_ok (k q : Nat) (n : Int) (hn : 0 < n ∧ n < 1073741824) (G : Hh) (h : Pool q G) : ∃ (v : Int) (G' : Hh), 0 ≤ v ∧ v < n ∧ callN PP (k + 3) 10 [.ref q, .int n] G = .ok (.int v) G' ∧ But q G G' ∧ Pool q G' := by
  have hP := h
  obtain ⟨h0, ⟨ns, h1⟩, p, r, f, hp, h2⟩ := h
  have m := fun i : Int => bin_mod (i := i) hn.1
  have d := fun i : Int => bin_fdiv (i := i) hn
  by_cases hr1 : r ≤ 1
  · have g1 := pget h2 (plO p r (f + 1))
    obtain ⟨r', hr⟩ := rest_ok k p (f + 1) hp ns (G.set q (plO p r (f + 1))) (by rw [Hh.get_set_ne _ (Ne.symm h0)]; exact h1)
    have g2 := pget g1 (plO p r' (f + 1))
    have g3 := pget g2 (plO p (r' / n) (f + 1))
    refine ⟨r' % n, ((G.set q (plO p r (f + 1))).set q (plO p r' (f + 1))).set q (plO p (r' / n) (f + 1)), Int.emod_nonneg _ (by omega), Int.emod_lt_of_pos _ hn.1, ?_, ((But.set _).trans (But.set _)).trans (But.set _), ?_⟩
    · rw [callN_at (k + 2) 10 q10 _ _ rfl, runF_eq rfl]
      simp [q10, List.replicate, asgT, pl2 h2, hr1, pl3 h2, ps3 h2, pl0 g1, pl1 g1, pl3 g1, hr, ps2 g1, pl2 g2, m, d, ps2 g2]
    · exact hP.but (((But.set _).trans (But.set _)).trans (But.set _)) hp g3
  · have g1 := pget h2 (plO p (r / n) f)
    refine ⟨r % n, G.set q (plO p (r / n) f), Int.emod_nonneg _ (by omega), Int.emod_lt_of_pos _ hn.1, ?_, But.set _, ?_⟩
    · rw [callN_at (k + 2) 10 q10 _ _ rfl, runF_eq rfl]
      simp [q10, List.replicate, asgT, pl2 h2, hr1, m, d, ps2 h2]
    · exact hP.but (But.set _) hp g1
end Ev

/-! K60d: rows of prefixes, what they tell. -/
namespace Ev
open PySem
abbrev Row := Nat × Nat × Int
def rowD (r : Row) : D := .tup [.int r.1, .int r.2.1, .int r.2.2]
def stepR (d v : Nat) (b : Option (Nat × Int)) (r : Row) : Option (Nat × Int) :=
  if decide (v / 2 ^ (d - r.1) = r.2.1) && (match b with | none => true | some c => decide (c.1 < r.1)) then some (r.1, r.2.2) else b
def bestR (d v : Nat) (rows : List Row) : Option (Nat × Int) := rows.foldl (stepR d v) none
def fitR (d v : Nat) (rows : List Row) : Option Int := (bestR d v rows).map (·.2)
/-- what a for walks: n things that do not move -/
structure Walked (x : D) (G : Hh) (s : Src) (ds : List D) : Prop where
  rd : rdv (some x) G = .ok x G
  src : srcOf .seq x G = some s
  n : s.n = ds.length
  at_ : ∀ (i : Nat) (h : i < ds.length), s.at i G = some (some ds[i])
  end_ : s.at ds.length G = some none
theorem walked_tup (ds : List D) (G : Hh) : Walked (.tup ds) G (.items ds) ds := ⟨rfl, rfl, rfl, fun i h => items_at h G, items_end ds G⟩
theorem walked_lst {a : Nat} {ds : List D} {G : Hh} (h : G.get a = some (.lst ds)) : Walked (.ref a) G (.live a ds.length) ds :=
  ⟨rfl, by simp [srcOf, h], rfl, fun i hi => by simp [Src.at, h, hi], by simp [Src.at, h]⟩
def bestD : Option (Nat × Int) → D
  | none => .non
  | some c => .tup [.int c.1, .int c.2]
theorem div_pow (v e : Nat) : (v : Int) / ((2 ^ e : Nat) : Int) = ((v / 2 ^ e : Nat) : Int) := by
  exact (Int.natCast_ediv v (2 ^ e)).symm
theorem pow_b {e : Nat} (h : e ≤ 3) : (0 : Int) < ((2 ^ e : Nat) : Int) ∧ ((2 ^ e : Nat) : Int) < 1073741824 := by
  have : e = 0 ∨ e = 1 ∨ e = 2 ∨ e = 3 := by omega
  rcases this with rfl | rfl | rfl | rfl <;> decide
def fitB : S := (.ite (.and (.bin .gt (.var 5) (.var 4)) (.bin .eq (.bin .fdiv (.var 2) (.call 3 (.cons (.bin .sub (.var 1) (.var 5)) .nil))) (.var 6))) (.seq (.asg (.nm 3) (.var 7)) (.asg (.nm 4) (.var 5))) .skip)
theorem fit_step (cf : Nat → List D → M D) (x fo : D) (d v l hh q : Nat) (a lo pw : Int) (G : Hh) (hp : cf 3 [.int ((d - l : Nat) : Int)] G = .ok (.int pw) G) (hq : bin .fdiv (.int v) (.int pw) G = .ok (.int q) G) (hl : l ≤ d) :
    evS ⟨cf⟩ fitB [x, .int d, .int v, fo, .int lo, .int l, .int hh, .int a] G = .ok (.nx, if lo < l ∧ q = hh then [x, .int d, .int v, .int a, .int l, .int l, .int hh, .int a] else [x, .int d, .int v, fo, .int lo, .int l, .int hh, .int a]) G := by
  have hdl : (d : Int) - (l : Int) = ((d - l : Nat) : Int) := by omega
  generalize ((d - l : Nat) : Int) = e at hp hdl
  by_cases n1 : lo < (l : Int)
  · by_cases n2 : q = hh
    · have n3 : (q : Int) = (hh : Int) := by rw [n2]
      rw [if_pos ⟨n1, n2⟩]
      simp only [fitB, es_ite, ev_and, ev_bin, ev_var, ev_call, ev_cons, ev_nil, List.getElem?_cons_succ, List.getElem?_cons_zero, rdv_int, bindR_ok, bin_gt, bin_sub, tupR_tup, truR_bl, n1, decide_true, if_true, hdl, hp, hq, bin_eq, n3, es_seq, es_asg, asgT, optR_some, contS_nx, List.length_cons, List.length_nil, List.set_cons_succ, List.set_cons_zero, Nat.reduceAdd, Nat.reduceLT]
    · have n3 : ¬ (q : Int) = (hh : Int) := by omega
      rw [if_neg (fun z => n2 z.2)]
      simp only [fitB, es_ite, ev_and, ev_bin, ev_var, ev_call, ev_cons, ev_nil, List.getElem?_cons_succ, List.getElem?_cons_zero, rdv_int, bindR_ok, bin_gt, bin_sub, tupR_tup, truR_bl, n1, decide_true, if_true, hdl, hp, hq, bin_eq, n3, decide_false, Bool.false_eq_true, if_false, es_skip]
  · rw [if_neg (fun z => n1 z.1)]
    simp only [fitB, es_ite, ev_and, ev_bin, ev_var, List.getElem?_cons_succ, List.getElem?_cons_zero, rdv_int, bindR_ok, bin_gt, truR_bl, n1, decide_false, Bool.false_eq_true, if_false, es_skip]
theorem fitting_ok (k d v : Nat) (hd : d ≤ 3) (rows : List Row) (hr : ∀ r ∈ rows, r.1 ≤ d) (x : D) (s : Src) (G : Hh) (w : Walked x G s (rows.map rowD)) : callN PP (k + 2) 5 [x, .int d, .int v] G = .ok (optD (fitR d v rows)) G := by
  rw [callN_at (k + 1) 5 q5 _ _ rfl, runF_eq rfl]
  have hn : s.n = rows.length := by rw [w.n, List.length_map]
  let b : Nat → Option (Nat × Int) := fun i => (rows.take i).foldl (stepR d v) none
  let lg : Option (Nat × Int) → Int := fun b => match b with | none => -1 | some c => c.1
  obtain ⟨σ', G', hf, e1, y5, y6, y7, e2⟩ := forN_inv s (.tup (.cons (.nm 5) (.cons (.nm 6) (.cons (.nm 7) .nil)))) (fun σ' => evS ⟨callN PP (k + 1)⟩ fitB σ') rows.length
    (fun i σ G' => G' = G ∧ ∃ y5 y6 y7, σ = [x, .int d, .int v, optD ((b i).map (·.2)), .int (lg (b i)), y5, y6, y7])
    (fun i σ G' hi ⟨e1, y5, y6, y7, e2⟩ => by
      subst e1 e2
      have hb : b (i + 1) = stepR d v (b i) rows[i] := by simp only [b, List.take_succ_eq_append_getElem hi, List.foldl_append, List.foldl_cons, List.foldl_nil]
      have hl := hr rows[i] (List.getElem_mem hi)
      have hat : s.at i G' = some (some (rowD rows[i])) := by
        have := w.at_ i (by rw [List.length_map]; exact hi)
        simpa using this
      generalize rows[i] = r at hb hl hat
      obtain ⟨l, hh, a⟩ := r
      simp only at hl
      have hdl : (d : Int) - (l : Int) = ((d - l : Nat) : Int) := by omega
      have hp := pow_ok k G' (d - l) (by omega)
      have hq := bin_fdiv (i := (v : Int)) (pow_b (e := d - l) (by omega)) G'
      rw [div_pow] at hq
      generalize ((2 ^ (d - l) : Nat) : Int) = pw at hp hq
      have hb' : b (i + 1) = if decide (v / 2 ^ (d - l) = hh) && (match b i with | none => true | some c => decide (c.1 < l)) then some (l, a) else b i := hb
      generalize v / 2 ^ (d - l) = q at hq hb'
      clear hb
      refine ⟨_, [x, .int d, .int v, optD ((b i).map (·.2)), .int (lg (b i)), .int l, .int hh, .int a], [x, .int d, .int v, optD ((b (i + 1)).map (·.2)), .int (lg (b (i + 1))), .int l, .int hh, .int a], G', hat, by simp [asgT, rowD], .inl ?_, rfl, _, _, _, rfl⟩
      show evS ⟨callN PP (k + 1)⟩ fitB _ G' = _
      rw [fit_step _ x _ d v l hh q a _ pw G' hp hq hl]
      refine congrArg (fun z => Res.ok (Fl.nx, z) G') ?_
      rw [hb']
      cases b i with
      | none =>
        have n1 : (-1 : Int) < (l : Int) := by omega
        by_cases h1 : q = hh
        · rw [if_pos ⟨n1, h1⟩]; simp only [h1, decide_true, Bool.and_self, if_true, Option.map_some, optD, lg]
        · rw [if_neg (fun z => h1 z.2)]; simp only [h1, decide_false, Bool.false_and, Bool.false_eq_true, if_false]
      | some c =>
        by_cases h1 : q = hh
        · by_cases h2 : c.1 < l
          · rw [if_pos ⟨by simp only [lg]; omega, h1⟩]; simp only [h1, h2, decide_true, Bool.and_self, if_true, Option.map_some, optD, lg]
          · rw [if_neg (fun z => h2 (by have := z.1; simp only [lg] at this; omega))]; simp only [h2, decide_false, Bool.and_false, Bool.false_eq_true, if_false]
        · rw [if_neg (fun z => h1 z.2)]; simp only [h1, decide_false, Bool.false_and, Bool.false_eq_true, if_false])
    (fun σ G' h => by rw [h.1, ← List.length_map (f := rowD)]; exact w.end_) rows.length 0 [x, .int d, .int v, .non, .int (-1), .und, .und, .und] G (by omega) ⟨rfl, .und, .und, .und, rfl⟩
  subst e1 e2
  have hfin : b rows.length = bestR d v rows := by simp only [b, List.take_length, bestR]
  rw [hfin] at hf
  simp [q5, List.replicate, asgT, w.rd, w.src, hn, fitR]
  rw [show (fun σ' => evS ⟨callN PP (k + 1)⟩ (.ite (.and (.bin .gt (.var 5) (.var 4)) (.bin .eq (.bin .fdiv (.var 2) (.call 3 (.cons (.bin .sub (.var 1) (.var 5)) .nil))) (.var 6))) (.seq (.asg (.nm 3) (.var 7)) (.asg (.nm 4) (.var 5))) .skip) σ') = fun σ' => evS ⟨callN PP (k + 1)⟩ fitB σ' from rfl, hf]
  simp
end Ev

/-! K60e: the law's own fitting. -/
namespace Ev
open PySem
theorem smallI_nat {n : Nat} (h : n ≤ 1000) : smallI (n : Int) = true := by
  unfold smallI
  rw [decide_eq_true (by omega), decide_eq_true (by omega)]
  rfl
theorem src_rngN {n : Nat} (h : n ≤ 1000) (G : Hh) : srcOf .range (.tup [.int (n : Int)]) G = some (.rng 0 1 n) := by
  simp only [srcOf, smallI_nat h, if_true, Int.toNat_natCast]
theorem rng_at {n i : Nat} (h : i < n) (G : Hh) : Src.at (.rng 0 1 n) i G = some (some (.int (i : Int))) := by
  simp [Src.at, h]
theorem rng_end (n : Nat) (G : Hh) : Src.at (.rng 0 1 n) n G = some none := by
  simp [Src.at]
def shB : S := .asg (.nm 7) (.bin .mul (.con (.int (2))) (.var 7))
theorem share_ok (C : Cl) (d0 d1 d2 d3 d4 d5 d6 y : D) (m : Nat) (G : Hh) : ∃ y', forN (.rng 0 1 m) (.nm 8) (fun σ' => evS C shB σ') m 0 [d0, d1, d2, d3, d4, d5, d6, .int 1, y] G = .ok (.nx, [d0, d1, d2, d3, d4, d5, d6, .int ((2 ^ m : Nat) : Int), y']) G := by
  obtain ⟨σ', G', h1, rfl, y', rfl⟩ := forN_inv (.rng 0 1 m) (.nm 8) (fun σ' => evS C shB σ') m (fun i σ G' => G' = G ∧ ∃ y, σ = [d0, d1, d2, d3, d4, d5, d6, .int ((2 ^ i : Nat) : Int), y])
    (fun i σ G' hi ⟨e1, y, e2⟩ => by
      subst e1 e2
      refine ⟨_, [d0, d1, d2, d3, d4, d5, d6, .int ((2 ^ i : Nat) : Int), .int (i : Int)], [d0, d1, d2, d3, d4, d5, d6, .int ((2 ^ (i + 1) : Nat) : Int), .int (i : Int)], G', rng_at hi G', by simp [asgT], .inl ?_, rfl, _, rfl⟩
      have e : ((2 ^ (i + 1) : Nat) : Int) = 2 * ((2 ^ i : Nat) : Int) := by rw [Nat.pow_succ]; omega
      rw [e]
      generalize ((2 ^ i : Nat) : Int) = z
      simp only [shB, es_asg, ev_bin, ev_con, ev_var, List.getElem?_cons_succ, List.getElem?_cons_zero, rdv_int, bindR_ok, bin_mul2, asgT, List.length_cons, List.length_nil, Nat.reduceAdd, Nat.reduceLT, if_true, optR_some, List.set_cons_succ, List.set_cons_zero])
    (fun σ G' _ => rng_end m G') m 0 [d0, d1, d2, d3, d4, d5, d6, .int 1, y] G (by omega) ⟨rfl, y, rfl⟩
  exact ⟨y', h1⟩
def lfitT : S := .ite (.and (.bin .eq (.bin .fdiv (.bfn .int (.cons (.var 2) .nil)) (.var 7)) (.var 5)) (.or (.isK false none (.var 3)) (.bin .gt (.var 4) (.bin .idx (.var 3) (.con (.int (0))))))) (.asg (.nm 3) (.tup (.cons (.var 4) (.cons (.var 6) .nil)))) .skip
def lfitB : S := .seq (.asg (.nm 7) (.con (.int (1)))) (.seq (.for .range (.cons (.bin .sub (.var 1) (.var 4)) .nil) (.nm 8) shB) lfitT)
@[simp] theorem rdv_best (b : Option (Nat × Int)) (G : Hh) : rdv (some (bestD b)) G = .ok (bestD b) G := by cases b <;> rfl
theorem lfit_step (C : Cl) (x y7 y8 : D) (d v l hh q : Nat) (a pw : Int) (b : Option (Nat × Int)) (G : Hh) (hpw : ((2 ^ (d - l) : Nat) : Int) = pw) (hq : bin .fdiv (.int v) (.int pw) G = .ok (.int q) G) (hl : l ≤ d) (hd : d ≤ 3) :
    ∃ y7' y8', evS C lfitB [x, .int d, .int v, bestD b, .int l, .int hh, .int a, y7, y8] G = .ok (.nx, [x, .int d, .int v, bestD (if decide (q = hh) && (match b with | none => true | some c => decide (c.1 < l)) then some (l, a) else b), .int l, .int hh, .int a, y7', y8']) G := by
  have hdl : (d : Int) - (l : Int) = ((d - l : Nat) : Int) := by omega
  obtain ⟨y', hs⟩ := share_ok C x (.int d) (.int v) (bestD b) (.int l) (.int hh) (.int a) y8 (d - l) G
  rw [hpw] at hs
  have hsrc := src_rngN (n := d - l) (by omega) G
  have hrn : (Src.rng 0 1 (d - l)).n = d - l := rfl
  have pre : evS C lfitB [x, .int d, .int v, bestD b, .int l, .int hh, .int a, y7, y8] G = evS C lfitT [x, .int d, .int v, bestD b, .int l, .int hh, .int a, .int pw, y'] G := by
    have he : evE C (.cons (.bin .sub (.var 1) (.var 4)) .nil) [x, .int d, .int v, bestD b, .int l, .int hh, .int a, .int 1, y8] G = .ok (.tup [.int ((d - l : Nat) : Int)]) G := by
      simp only [ev_cons, ev_nil, ev_bin, ev_var, List.getElem?_cons_succ, List.getElem?_cons_zero, rdv_int, bindR_ok, bin_sub, tupR_tup, hdl]
    have h2 : evS C (.for .range (.cons (.bin .sub (.var 1) (.var 4)) .nil) (.nm 8) shB) [x, .int d, .int v, bestD b, .int l, .int hh, .int a, .int 1, y8] G = .ok (.nx, [x, .int d, .int v, bestD b, .int l, .int hh, .int a, .int pw, y']) G := by
      rw [es_for, he, bindR_ok, hsrc, optR_some, bindR_ok, hrn, hs]
    have h1 : evS C (.asg (.nm 7) (.con (.int (1)))) [x, .int d, .int v, bestD b, .int l, .int hh, .int a, y7, y8] G = .ok (.nx, [x, .int d, .int v, bestD b, .int l, .int hh, .int a, .int 1, y8]) G := rfl
    rw [lfitB, es_seq, h1, bindR_ok, contS_nx, es_seq, h2, bindR_ok, contS_nx]
  rw [pre]
  refine ⟨.int pw, y', ?_⟩
  have sz2 : (2 ≤ sizeMax) = True := eq_true (by decide)
  by_cases h1 : q = hh
  · have h1' : (q : Int) = (hh : Int) := by rw [h1]
    cases b with
    | none =>
      have isk : isKD false none (bestD none) = M.pure (.bl true) := rfl
      have e : bestD (if (decide (q = hh) && true) = true then some (l, a) else none) = .tup [.int l, .int a] := by rw [decide_eq_true h1]; rfl
      simp only [lfitT, es_ite, ev_and, ev_or, ev_bin, ev_bfn, ev_var, ev_cons, ev_nil, ev_con, List.getElem?_cons_succ, List.getElem?_cons_zero, rdv_int, rdv_best, bindR_ok, tupR_tup, bfn_int, hq, bin_eq, truR_bl, decide_eq_true h1', if_true, ev_isK, isk, M.pure, es_asg, ev_tup, List.length_cons, List.length_nil, Nat.reduceAdd, sz2, asgT, Nat.reduceLT, optR_some, List.set_cons_succ, List.set_cons_zero]
      rw [e]
    | some c =>
      obtain ⟨c1, c2⟩ := c
      have isk : isKD false none (bestD (some (c1, c2))) = M.pure (.bl false) := rfl
      have hi : bin .idx (bestD (some (c1, c2))) (.int 0) G = .ok (.int c1) G := rfl
      by_cases h2 : c1 < l
      · have h2' : (c1 : Int) < (l : Int) := by omega
        have e : bestD (if (decide (q = hh) && decide (c1 < l)) = true then some (l, a) else some (c1, c2)) = .tup [.int l, .int a] := by rw [decide_eq_true h1, decide_eq_true h2]; rfl
        simp only [lfitT, es_ite, ev_and, ev_or, ev_bin, ev_bfn, ev_var, ev_cons, ev_nil, ev_con, List.getElem?_cons_succ, List.getElem?_cons_zero, rdv_int, rdv_best, bindR_ok, tupR_tup, bfn_int, hq, bin_eq, truR_bl, decide_eq_true h1', if_true, ev_isK, isk, M.pure, Bool.false_eq_true, if_false, hi, bin_gt, decide_eq_true h2', es_asg, ev_tup, List.length_cons, List.length_nil, Nat.reduceAdd, sz2, asgT, Nat.reduceLT, optR_some, List.set_cons_succ, List.set_cons_zero]
        rw [e]
      · have h2' : ¬ (c1 : Int) < (l : Int) := by omega
        have e : bestD (if (decide (q = hh) && decide (c1 < l)) = true then some (l, a) else some (c1, c2)) = bestD (some (c1, c2)) := by rw [decide_eq_true h1, decide_eq_false h2]; rfl
        simp only [lfitT, es_ite, ev_and, ev_or, ev_bin, ev_bfn, ev_var, ev_cons, ev_nil, ev_con, List.getElem?_cons_succ, List.getElem?_cons_zero, rdv_int, rdv_best, bindR_ok, tupR_tup, bfn_int, hq, bin_eq, truR_bl, decide_eq_true h1', if_true, ev_isK, isk, M.pure, Bool.false_eq_true, if_false, hi, bin_gt, decide_eq_false h2', es_skip]
        rw [e]
  · have h1' : ¬ (q : Int) = (hh : Int) := by omega
    have e : ∀ z : Bool, bestD (if (decide (q = hh) && z) = true then some (l, a) else b) = bestD b := fun z => by rw [decide_eq_false h1]; rfl
    simp only [lfitT, es_ite, ev_and, ev_or, ev_bin, ev_bfn, ev_var, ev_cons, ev_nil, ev_con, List.getElem?_cons_succ, List.getElem?_cons_zero, rdv_int, rdv_best, bindR_ok, tupR_tup, bfn_int, hq, bin_eq, truR_bl, decide_eq_false h1', Bool.false_eq_true, if_false, es_skip]
    rw [e]
theorem lawfit_ok (k d v : Nat) (hd : d ≤ 3) (rows : List Row) (hr : ∀ r ∈ rows, r.1 ≤ d) (x : D) (s : Src) (G : Hh) (w : Walked x G s (rows.map rowD)) : callN PP (k + 1) 13 [x, .int d, .int v] G = .ok (optD (fitR d v rows)) G := by
  rw [callN_at k 13 q13 _ _ rfl, runF_eq rfl]
  have hn : s.n = rows.length := by rw [w.n, List.length_map]
  let b : Nat → Option (Nat × Int) := fun i => (rows.take i).foldl (stepR d v) none
  obtain ⟨σ', G', hf, e1, y4, y5, y6, y7, y8, e2⟩ := forN_inv s (.tup (.cons (.nm 4) (.cons (.nm 5) (.cons (.nm 6) .nil)))) (fun σ' => evS ⟨callN PP k⟩ lfitB σ') rows.length
    (fun i σ G' => G' = G ∧ ∃ y4 y5 y6 y7 y8, σ = [x, .int d, .int v, bestD (b i), y4, y5, y6, y7, y8])
    (fun i σ G' hi ⟨e1, y4, y5, y6, y7, y8, e2⟩ => by
      subst e1 e2
      have hb : b (i + 1) = stepR d v (b i) rows[i] := by simp only [b, List.take_succ_eq_append_getElem hi, List.foldl_append, List.foldl_cons, List.foldl_nil]
      have hl := hr rows[i] (List.getElem_mem hi)
      have hat : s.at i G' = some (some (rowD rows[i])) := by
        have := w.at_ i (by rw [List.length_map]; exact hi)
        simpa using this
      generalize rows[i] = r at hb hl hat
      obtain ⟨l, hh, a⟩ := r
      simp only at hl
      have hq := bin_fdiv (i := (v : Int)) (pow_b (e := d - l) (by omega)) G'
      rw [div_pow] at hq
      have hb' : b (i + 1) = if decide (v / 2 ^ (d - l) = hh) && (match b i with | none => true | some c => decide (c.1 < l)) then some (l, a) else b i := hb
      generalize v / 2 ^ (d - l) = q at hq hb'
      obtain ⟨y7', y8', hst⟩ := lfit_step ⟨callN PP k⟩ x y7 y8 d v l hh q a _ (b i) G' rfl hq hl hd
      rw [← hb'] at hst
      exact ⟨_, [x, .int d, .int v, bestD (b i), .int l, .int hh, .int a, y7, y8], _, G', hat, by simp [asgT, rowD], .inl hst, rfl, _, _, _, _, _, rfl⟩)
    (fun σ G' h => by rw [h.1, ← List.length_map (f := rowD)]; exact w.end_) rows.length 0 [x, .int d, .int v, .non, .und, .und, .und, .und, .und] G (by omega) ⟨rfl, .und, .und, .und, .und, .und, rfl⟩
  subst e1 e2
  have hfin : b rows.length = bestR d v rows := by simp only [b, List.take_length, bestR]
  rw [hfin] at hf
  have body : ∃ hd tl, q13.body = .seq (.asg (.nm 3) (.con .non)) (.seq (.for .seq (.var 0) (.tup (.cons (.nm 4) (.cons (.nm 5) (.cons (.nm 6) .nil)))) lfitB) (.ret (.ite (.isK true none (.var 3)) (.bin .idx (.var 3) (.con (.int (1)))) (.con .non)))) ∧ hd = 0 ∧ tl = 0 := ⟨0, 0, rfl, rfl, rfl⟩
  obtain ⟨_, _, hbody, _, _⟩ := body
  rw [hbody]
  show outF (evS _ _ [x, .int d, .int v, .und, .und, .und, .und, .und, .und] _) = _
  simp only [es_seq, es_asg, ev_con, bindR_ok, asgT, List.length_cons, List.length_nil, Nat.reduceAdd, Nat.reduceLT, if_true, optR_some, List.set_cons_succ, List.set_cons_zero, contS_nx, es_for, ev_var, List.getElem?_cons_zero, w.rd, w.src, hn, hf]
  unfold fitR
  cases bestR d v rows with
  | none => simp [bestD, isKD, M.pure, optD]
  | some c =>
    obtain ⟨c1, c2⟩ := c
    have hi : ∀ G : Hh, bin .idx (.tup [.int (c1 : Int), .int c2]) (.int 1) G = .ok (.int c2) G := fun _ => rfl
    simp [bestD, isKD, M.pure, optD, hi]
end Ev

/-! K60f: the law's equality. -/
namespace Ev
open PySem
@[simp] theorem isk_int (n : Bool) (k : Option Bool) (i : Int) (G : Hh) : isKD n k (.int i) G = .ok (.bl n) G := rfl
@[simp] theorem isk_ref (n : Bool) (k : Option Bool) (i : Nat) (G : Hh) : isKD n k (.ref i) G = .ok (.bl n) G := rfl
@[simp] theorem isk_tup (n : Bool) (k : Option Bool) (i : List D) (G : Hh) : isKD n k (.tup i) G = .ok (.bl n) G := rfl
@[simp] theorem isk_non (n : Bool) (G : Hh) : isKD n none .non G = .ok (.bl (xor n true)) G := rfl
theorem seq_nx {C : Cl} {a b : S} {σ σ' : List D} {G G' : Hh} (h : evS C a σ G = .ok (.nx, σ') G') : evS C (.seq a b) σ G = evS C b σ' G' := by
  rw [es_seq, h, bindR_ok, contS_nx]
def headS : S → Nat → S
  | .seq a _, 0 => a
  | .seq _ b, k + 1 => headS b k
  | s, _ => s
theorem same_int (k : Nat) (i : Int) (G : Hh) : callN PP (k + 1) 12 [.int i, .int i] G = .ok (.bl true) G := by
  rw [callN_at k 12 q12 _ _ rfl, runF_eq rfl]
  have h1 : bfn .isInt [.int i] G = .ok (.bl true) G := rfl
  have h2 : bfn .isBool [.int i] G = .ok (.bl false) G := rfl
  simp [q12, List.replicate, h1, h2]
theorem same_opt (k : Nat) (a : Option Int) (G : Hh) : callN PP (k + 1) 12 [optD a, optD a] G = .ok (.bl true) G := by
  cases a with
  | none => kernel_rfl
  | some i => exact same_int k i G
/-- a list's facts -/
structure LstAt (G : Hh) (a : Nat) (l : List D) : Prop where
  get : G.get a = some (.lst l)
theorem len_lst {G : Hh} {a : Nat} {l : List D} (h : G.get a = some (.lst l)) : bfn .len [.ref a] G = .ok (.int l.length) G := by simp [bfn, lenD, h]
theorem idx_lst {G : Hh} {a i : Nat} {l : List D} (h : G.get a = some (.lst l)) (hi : i < l.length) : bin .idx (.ref a) (.int (i : Int)) G = .ok l[i] G := by
  simp only [bin, h, itemG, ix_nat hi, List.getElem?_eq_getElem hi]
def sameH : S := restS q12.body 6
theorem same_list (k a b : Nat) (l : List Int) (hl : l.length ≤ 1000) (G : Hh) (ha : G.get a = some (.lst (l.map D.int))) (hb : G.get b = some (.lst (l.map D.int))) : callN PP (k + 2) 12 [.ref a, .ref b] G = .ok (.bl true) G := by
  rw [callN_at (k + 1) 12 q12 _ _ rfl, runF_eq rfl]
  have t1 : bfn .isInt [.ref b] G = .ok (.bl false) G := by simp [bfn, isaN, kindN, hb]
  have t2 : bfn .isStr [.ref b] G = .ok (.bl false) G := by simp [bfn, isaN, kindN, hb]
  have t3 : bfn .isDct [.ref b] G = .ok (.bl false) G := by simp [bfn, isaN, kindN, hb]
  have t4 : bfn .isTup [.ref b] G = .ok (.bl false) G := by simp [bfn, isaN, kindN, hb]
  have t5 : bfn .isLst [.ref b] G = .ok (.bl true) G := by simp [bfn, isaN, kindN, hb]
  have t6 : bfn .isLst [.ref a] G = .ok (.bl true) G := by simp [bfn, isaN, kindN, ha]
  have n1 := len_lst ha
  have n2 := len_lst hb
  rw [List.length_map] at n1 n2
  have st : ∀ j, j < 7 → evS ⟨callN PP (k + 1)⟩ (headS q12.body j) [.ref a, .ref b, .und, .und] G = .ok (.nx, [.ref a, .ref b, .und, .und]) G := fun j hj => by
    match j, hj with
    | 0, _ => simp only [q12, headS, es_ite, ev_or, ev_and, ev_not, ev_isK, ev_bfn, ev_bin, ev_cons, ev_nil, ev_var, List.getElem?_cons_succ, List.getElem?_cons_zero, rdv_ref, bindR_ok, tupR_tup, isk_ref, truR_bl, Bool.not_true, Bool.false_eq_true, if_false, es_skip, t1, t2, t3, t4, t5, t6, n1, n2, bin_ne, decide_true, Bool.not_true, if_true]
    | 1, _ => simp only [q12, headS, es_ite, ev_or, ev_and, ev_not, ev_isK, ev_bfn, ev_bin, ev_cons, ev_nil, ev_var, List.getElem?_cons_succ, List.getElem?_cons_zero, rdv_ref, bindR_ok, tupR_tup, isk_ref, truR_bl, Bool.not_true, Bool.false_eq_true, if_false, es_skip, t1, t2, t3, t4, t5, t6, n1, n2, bin_ne, decide_true, Bool.not_true, if_true]
    | 2, _ => simp only [q12, headS, es_ite, ev_or, ev_and, ev_not, ev_isK, ev_bfn, ev_bin, ev_cons, ev_nil, ev_var, List.getElem?_cons_succ, List.getElem?_cons_zero, rdv_ref, bindR_ok, tupR_tup, isk_ref, truR_bl, Bool.not_true, Bool.false_eq_true, if_false, es_skip, t1, t2, t3, t4, t5, t6, n1, n2, bin_ne, decide_true, Bool.not_true, if_true]
    | 3, _ => simp only [q12, headS, es_ite, ev_or, ev_and, ev_not, ev_isK, ev_bfn, ev_bin, ev_cons, ev_nil, ev_var, List.getElem?_cons_succ, List.getElem?_cons_zero, rdv_ref, bindR_ok, tupR_tup, isk_ref, truR_bl, Bool.not_true, Bool.false_eq_true, if_false, es_skip, t1, t2, t3, t4, t5, t6, n1, n2, bin_ne, decide_true, Bool.not_true, if_true]
    | 4, _ => simp only [q12, headS, es_ite, ev_or, ev_and, ev_not, ev_isK, ev_bfn, ev_bin, ev_cons, ev_nil, ev_var, List.getElem?_cons_succ, List.getElem?_cons_zero, rdv_ref, bindR_ok, tupR_tup, isk_ref, truR_bl, Bool.not_true, Bool.false_eq_true, if_false, es_skip, t1, t2, t3, t4, t5, t6, n1, n2, bin_ne, decide_true, Bool.not_true, if_true]
    | 5, _ => simp only [q12, headS, es_ite, ev_or, ev_and, ev_not, ev_isK, ev_bfn, ev_bin, ev_cons, ev_nil, ev_var, List.getElem?_cons_succ, List.getElem?_cons_zero, rdv_ref, bindR_ok, tupR_tup, isk_ref, truR_bl, Bool.not_true, Bool.false_eq_true, if_false, es_skip, t1, t2, t3, t4, t5, t6, n1, n2, bin_ne, decide_true, Bool.not_true, if_true]
    | 6, _ => simp only [q12, headS, es_ite, ev_or, ev_and, ev_not, ev_isK, ev_bfn, ev_bin, ev_cons, ev_nil, ev_var, List.getElem?_cons_succ, List.getElem?_cons_zero, rdv_ref, bindR_ok, tupR_tup, isk_ref, truR_bl, Bool.not_true, Bool.false_eq_true, if_false, es_skip, t1, t2, t3, t4, t5, t6, n1, n2, bin_ne, decide_true, Bool.not_true, if_true]
  have pre : evS ⟨callN PP (k + 1)⟩ q12.body ([D.ref a, D.ref b] ++ List.replicate (q12.nl - q12.np) .und) G = evS ⟨callN PP (k + 1)⟩ (restS q12.body 7) [.ref a, .ref b, .und, .und] G := by
    show evS _ (.seq (headS q12.body 0) (.seq (headS q12.body 1) (.seq (headS q12.body 2) (.seq (headS q12.body 3) (.seq (headS q12.body 4) (.seq (headS q12.body 5) (.seq (headS q12.body 6) (restS q12.body 7)))))))) [.ref a, .ref b, .und, .und] G = _
    rw [seq_nx (st 0 (by omega)), seq_nx (st 1 (by omega)), seq_nx (st 2 (by omega)), seq_nx (st 3 (by omega)), seq_nx (st 4 (by omega)), seq_nx (st 5 (by omega)), seq_nx (st 6 (by omega))]
  rw [pre]
  obtain ⟨σ', G', hf, rfl, y, rfl⟩ := forN_inv (.rng 0 1 l.length) (.nm 3) (fun σ' => evS ⟨callN PP (k + 1)⟩ (.ite (.not (.call 12 (.cons (.bin .idx (.var 0) (.var 3)) (.cons (.bin .idx (.var 1) (.var 3)) .nil)))) (.ret (.con (.bl false))) .skip) σ') l.length (fun i σ G' => G' = G ∧ ∃ y, σ = [.ref a, .ref b, .und, y])
    (fun i σ G' hi ⟨e1, y, e2⟩ => by
      subst e1 e2
      refine ⟨_, [.ref a, .ref b, .und, .int (i : Int)], [.ref a, .ref b, .und, .int (i : Int)], G', rng_at hi G', by simp [asgT], .inl ?_, rfl, _, rfl⟩
      have i1 := idx_lst (i := i) ha (by rw [List.length_map]; exact hi)
      have i2 := idx_lst (i := i) hb (by rw [List.length_map]; exact hi)
      rw [List.getElem_map] at i1 i2
      simp only [es_ite, ev_not, ev_call, ev_cons, ev_nil, ev_bin, ev_var, List.getElem?_cons_succ, List.getElem?_cons_zero, rdv_int, rdv_ref, bindR_ok, i1, i2, tupR_tup, same_int, truR_bl, Bool.not_true, Bool.false_eq_true, if_false, es_skip])
    (fun σ G' _ => rng_end _ G') l.length 0 [.ref a, .ref b, .und, .und] G (by omega) ⟨rfl, .und, rfl⟩
  have hb2 : restS q12.body 7 = .seq (.for .range (.cons (.bfn .len (.cons (.var 1) .nil)) .nil) (.nm 3) (.ite (.not (.call 12 (.cons (.bin .idx (.var 0) (.var 3)) (.cons (.bin .idx (.var 1) (.var 3)) .nil)))) (.ret (.con (.bl false))) .skip)) (.ret (.con (.bl true))) := rfl
  have he : evE ⟨callN PP (k + 1)⟩ (.cons (.bfn .len (.cons (.var 1) .nil)) .nil) [.ref a, .ref b, .und, .und] G' = .ok (.tup [.int (l.length : Int)]) G' := by
    simp only [ev_cons, ev_nil, ev_bfn, ev_var, List.getElem?_cons_succ, List.getElem?_cons_zero, rdv_ref, bindR_ok, tupR_tup, n2]
  rw [hb2, es_seq, es_for, he, bindR_ok, src_rngN (n := l.length) (by omega) G', optR_some, bindR_ok, show (Src.rng 0 1 l.length).n = l.length from rfl, hf, bindR_ok, contS_nx, es_ret, ev_con, bindR_ok, outF_rt]
end Ev

/-! K60g: the law's equality of tables. -/
namespace Ev
open PySem
def keyT (l t : Nat) (a : Option Int) : D := .tup [.int l, .int t, optD a]
def Ans (names : List Int) (a : Option Int) : Prop := a = none ∨ ∃ x ∈ names, a = some x
structure Tbl (d : Nat) (names : List Int) (val : Nat → Nat → Option Int → Nat) (kvs : List (D × D)) : Prop where
  len : kvs.length = (2 ^ (d + 1) - 1) * (names.length + 1)
  dom : ∀ p ∈ kvs, ∃ l t a, l ≤ d ∧ t < 2 ^ l ∧ Ans names a ∧ p.1 = keyT l t a
  val : ∀ l t a, l ≤ d → t < 2 ^ l → Ans names a → look (keyT l t a) kvs = some (.int (val l t a))
theorem keyT_ok (l t : Nat) (a : Option Int) : keyOk (keyT l t a) = true := by
  cases a <;> simp [keyOk, keyT, optD, D.flat, D.flats, D.depth, D.depths]
def dictF : S := .ite (.or (.bin .notin (.var 2) (.var 0)) (.not (.call 12 (.cons (.bin .idx (.var 0) (.var 2)) (.cons (.bin .idx (.var 1) (.var 2)) .nil))))) (.ret (.con (.bl false))) .skip
def dictB : S := .seq (.ite (.or (.not (.bfn .isDct (.cons (.var 0) .nil))) (.bin .ne (.bfn .len (.cons (.var 0) .nil)) (.bfn .len (.cons (.var 1) .nil)))) (.ret (.con (.bl false))) .skip) (.seq (.for .seq (.var 1) (.nm 2) dictF) (.ret (.con (.bl true))))
theorem same_dict (k a b d : Nat) (names : List Int) (val : Nat → Nat → Option Int → Nat) (kv kw : List (D × D)) (G : Hh) (ha : G.get a = some (.dct kv)) (hb : G.get b = some (.dct kw)) (ta : Tbl d names val kv) (tb : Tbl d names val kw) :
    callN PP (k + 2) 12 [.ref a, .ref b] G = .ok (.bl true) G := by
  rw [callN_at (k + 1) 12 q12 _ _ rfl, runF_eq rfl]
  have t1 : bfn .isInt [.ref b] G = .ok (.bl false) G := by simp [bfn, isaN, kindN, hb]
  have t2 : bfn .isStr [.ref b] G = .ok (.bl false) G := by simp [bfn, isaN, kindN, hb]
  have t3 : bfn .isDct [.ref b] G = .ok (.bl true) G := by simp [bfn, isaN, kindN, hb]
  have t4 : bfn .isDct [.ref a] G = .ok (.bl true) G := by simp [bfn, isaN, kindN, ha]
  have n1 : bfn .len [.ref a] G = .ok (.int (kw.length : Int)) G := by simp [bfn, lenD, ha, ta.len, tb.len]
  have n2 : bfn .len [.ref b] G = .ok (.int (kw.length : Int)) G := by simp [bfn, lenD, hb]
  have st : ∀ j, j < 3 → evS ⟨callN PP (k + 1)⟩ (headS q12.body j) [.ref a, .ref b, .und, .und] G = .ok (.nx, [.ref a, .ref b, .und, .und]) G := fun j hj => by
    match j, hj with
    | 0, _ => simp only [q12, headS, es_ite, ev_or, ev_and, ev_not, ev_isK, ev_bfn, ev_bin, ev_cons, ev_nil, ev_var, List.getElem?_cons_succ, List.getElem?_cons_zero, rdv_ref, bindR_ok, tupR_tup, isk_ref, truR_bl, Bool.false_eq_true, if_false, es_skip]
    | 1, _ => simp only [q12, headS, es_ite, ev_bfn, ev_cons, ev_nil, ev_var, List.getElem?_cons_succ, List.getElem?_cons_zero, rdv_ref, bindR_ok, tupR_tup, truR_bl, Bool.false_eq_true, if_false, es_skip, t1]
    | 2, _ => simp only [q12, headS, es_ite, ev_bfn, ev_cons, ev_nil, ev_var, List.getElem?_cons_succ, List.getElem?_cons_zero, rdv_ref, bindR_ok, tupR_tup, truR_bl, Bool.false_eq_true, if_false, es_skip, t2]
  obtain ⟨σ', G', hf, rfl, y, rfl⟩ := forN_inv (.dict b kw) (.nm 2) (fun σ' => evS ⟨callN PP (k + 1)⟩ dictF σ') kw.length (fun i σ G' => G' = G ∧ ∃ y, σ = [.ref a, .ref b, y, .und])
    (fun i σ G' hi ⟨e1, y, e2⟩ => by
      subst e1 e2
      obtain ⟨l, t, o, h1, h2, h3, h4⟩ := tb.dom kw[i] (List.getElem_mem hi)
      have v1 := ta.val l t o h1 h2 h3
      have v2 := tb.val l t o h1 h2 h3
      have hk := keyT_ok l t o
      have hat : Src.at (.dict b kw) i G' = some (some (keyT l t o)) := by
        simp only [Src.at, hb, if_true, List.getElem?_eq_getElem hi, Option.map_some, h4]
      generalize keyT l t o = key at v1 v2 hk hat
      have i0 : bin .notin key (.ref a) G' = .ok (.bl false) G' := by simp only [bin, ha, hk, if_true, v1]; rfl
      have i1 : bin .idx (.ref a) key G' = .ok (.int (val l t o)) G' := by simp only [bin, ha, hk, if_true, v1]
      have i2 : bin .idx (.ref b) key G' = .ok (.int (val l t o)) G' := by simp only [bin, hb, hk, if_true, v2]
      have ik : rdv (some key) G' = .ok key G' := by
        cases key with
        | und => simp [keyOk, D.flat] at hk
        | _ => rfl
      refine ⟨_, [.ref a, .ref b, key, .und], [.ref a, .ref b, key, .und], G', hat, rfl, .inl ?_, rfl, _, rfl⟩
      simp only [dictF, es_ite, ev_or, ev_not, ev_call, ev_cons, ev_nil, ev_bin, ev_var, List.getElem?_cons_succ, List.getElem?_cons_zero, ik, rdv_ref, bindR_ok, i0, i1, i2, tupR_tup, same_int, truR_bl, Bool.not_true, Bool.false_eq_true, if_false, es_skip])
    (fun σ G' h => by rw [h.1]; simp [Src.at, hb]) kw.length 0 [.ref a, .ref b, .und, .und] G (by omega) ⟨rfl, .und, rfl⟩
  have s3 : evS ⟨callN PP (k + 1)⟩ dictB [.ref a, .ref b, .und, .und] G' = .ok (.rt (.bl true), [.ref a, .ref b, y, .und]) G' := by
    have h1 : evS ⟨callN PP (k + 1)⟩ (.ite (.or (.not (.bfn .isDct (.cons (.var 0) .nil))) (.bin .ne (.bfn .len (.cons (.var 0) .nil)) (.bfn .len (.cons (.var 1) .nil)))) (.ret (.con (.bl false))) .skip) [.ref a, .ref b, .und, .und] G' = .ok (.nx, [.ref a, .ref b, .und, .und]) G' := by
      simp only [es_ite, ev_or, ev_not, ev_bfn, ev_bin, ev_cons, ev_nil, ev_var, List.getElem?_cons_succ, List.getElem?_cons_zero, rdv_ref, bindR_ok, tupR_tup, t4, truR_bl, Bool.not_true, Bool.false_eq_true, if_false, n1, n2, bin_ne, decide_true, es_skip]
    have hs : srcOf .seq (.ref b) G' = some (.dict b kw) := by simp [srcOf, hb]
    have hv : evE ⟨callN PP (k + 1)⟩ (.var 1) [.ref a, .ref b, .und, .und] G' = .ok (.ref b) G' := rfl
    rw [dictB, seq_nx h1, es_seq, es_for, hv, bindR_ok, hs, optR_some, bindR_ok, show (Src.dict b kw).n = kw.length from rfl, hf, bindR_ok, contS_nx, es_ret, ev_con, bindR_ok]
  show outF (evS _ (.seq (headS q12.body 0) (.seq (headS q12.body 1) (.seq (headS q12.body 2) (.seq (.ite (.bfn .isDct (.cons (.var 1) .nil)) dictB .skip) (restS q12.body 4))))) [.ref a, .ref b, .und, .und] G') = _
  rw [seq_nx (st 0 (by omega)), seq_nx (st 1 (by omega)), seq_nx (st 2 (by omega)), es_seq]
  have h3 : evS ⟨callN PP (k + 1)⟩ (.ite (.bfn .isDct (.cons (.var 1) .nil)) dictB .skip) [.ref a, .ref b, .und, .und] G' = .ok (.rt (.bl true), [.ref a, .ref b, y, .und]) G' := by
    rw [es_ite]
    simp only [ev_bfn, ev_cons, ev_nil, ev_var, List.getElem?_cons_succ, List.getElem?_cons_zero, rdv_ref, bindR_ok, tupR_tup, t3, truR_bl, if_true, s3]
  rw [h3, bindR_ok, contS_rt, outF_rt]
end Ev

/-! K60h: the different answers. -/
namespace Ev
open PySem
theorem flats_ints : ∀ l : List Int, D.flats (l.map D.int) = true
  | [] => rfl
  | x :: l => by simp [D.flats, D.flat, flats_ints l]
theorem depths_ints : ∀ l : List Int, D.depths (l.map D.int) = 0
  | [] => rfl
  | x :: l => by simp [D.depths, D.depth, depths_ints l]
theorem memD_ints (x : Int) : ∀ l : List Int, memD (.int x) (l.map D.int) = decide (x ∈ l)
  | [] => rfl
  | y :: l => by
    rw [List.map_cons, memD, memD_ints x l]
    simp only [D.eqv, List.mem_cons]
    by_cases h : x = y
    · subst h; simp
    · have h' : ¬ y = x := fun z => h z.symm
      by_cases h2 : x ∈ l <;> simp [h, h', h2]
theorem notin_ints {G : Hh} {a : Nat} {l : List Int} (h : G.get a = some (.lst (l.map D.int))) (x : Int) : bin .notin (.int x) (.ref a) G = .ok (.bl (!decide (x ∈ l))) G := by
  simp only [bin, h, flats_ints, depths_ints, D.flat, D.depth, memD_ints, Bool.and_self, Bool.true_and]
  rfl
theorem isin_ints {G : Hh} {a : Nat} {l : List Int} (h : G.get a = some (.lst (l.map D.int))) (x : Int) : bin .isin (.int x) (.ref a) G = .ok (.bl (decide (x ∈ l))) G := by
  simp only [bin, h, flats_ints, depths_ints, D.flat, D.depth, memD_ints, Bool.and_self, Bool.true_and]
  rfl
theorem append_ok {C : Cl} {i : Nat} {e : E} {σ : List D} {G G1 : Hh} {a : Nat} {xs : List D} {x : D} (hv : rdv σ[i]? G = .ok (.ref a) G) (hg : G.get a = some (.lst xs)) (he : evE C (.cons e .nil) σ G = .ok (.tup [x]) G1) (hg1 : G1.get a = some (.lst xs)) (hl : xs.length < sizeMax) :
    evS C (.expr (.meth .append (.var i) (.cons e .nil))) σ G = .ok (.nx, σ) (G1.set a (.lst (xs ++ [x]))) := by
  have hm : rd (mtK .append (.ref a)) G = .ok () G := by simp [rd, mtK, mtKind, kindN, hg]
  have hb : bfn .append [.ref a, x] G1 = .ok .non (G1.set a (.lst (xs ++ [x]))) := by simp only [bfn, hg1, hl, if_true]
  rw [es_expr, ev_meth, ev_var, hv, bindR_ok, hm, bindR_ok, he, bindR_ok, tupR_tup, bindR_ok, hb, bindR_ok]
/-- each once, in order -/
def once (ws : List Int) : List Int := ws.foldl (fun acc x => if x ∈ acc then acc else acc ++ [x]) []
theorem once_take (ws : List Int) (i : Nat) (h : i < ws.length) : once (ws.take (i + 1)) = if ws[i] ∈ once (ws.take i) then once (ws.take i) else once (ws.take i) ++ [ws[i]] := by
  unfold once
  rw [List.take_succ_eq_append_getElem h, List.foldl_append, List.foldl_cons, List.foldl_nil]
theorem once_len : ∀ (ws acc : List Int), (ws.foldl (fun acc x => if x ∈ acc then acc else acc ++ [x]) acc).length ≤ acc.length + ws.length
  | [], acc => by simp
  | x :: ws, acc => by
    rw [List.foldl_cons]
    refine Nat.le_trans (once_len ws _) ?_
    split
    · simp
    · simp; omega
theorem once_le (ws : List Int) : (once ws).length ≤ ws.length := by
  have := once_len ws []
  simpa [once] using this
def ansB : S := .ite (.bin .notin (.var 2) (.var 1)) (.expr (.meth .append (.var 1) (.cons (.var 2) .nil))) .skip
theorem answers_ok (k : Nat) (ws : List Int) (hw : ws.length ≤ 1000) (G : Hh) : ∃ G', callN PP (k + 1) 1 [Ws ws] G = .ok (.ref G.n) G' ∧ Ext G G' ∧ G'.n = G.n + 1 ∧ G'.get G.n = some (.lst ((once ws).map D.int)) := by
  rw [callN_at k 1 q1 _ _ rfl, runF_eq rfl]
  obtain ⟨σ', G', hf, y, rfl, e1, e2, e3⟩ := forN_inv (.items (ws.map D.int)) (.nm 2) (fun σ' => evS ⟨callN PP k⟩ ansB σ') ws.length
    (fun i σ G' => ∃ y, σ = [Ws ws, .ref G.n, y] ∧ Ext G G' ∧ G'.n = G.n + 1 ∧ G'.get G.n = some (.lst ((once (ws.take i)).map D.int)))
    (fun i σ G' hi ⟨y, e0, e1, e2, e3⟩ => by
      subst e0
      have hat : Src.at (.items (ws.map D.int)) i G' = some (some (.int ws[i])) := by
        rw [items_at (by rw [List.length_map]; exact hi)]; simp
      have hn := notin_ints e3 ws[i]
      have hc : evE ⟨callN PP k⟩ (.bin .notin (.var 2) (.var 1)) [Ws ws, .ref G.n, .int ws[i]] G' = .ok (.bl (!decide (ws[i] ∈ once (ws.take i)))) G' := by
        simp only [ev_bin, ev_var, List.getElem?_cons_succ, List.getElem?_cons_zero, rdv_int, rdv_ref, bindR_ok, hn]
      by_cases hm : ws[i] ∈ once (ws.take i)
      · refine ⟨_, _, [Ws ws, .ref G.n, .int ws[i]], G', hat, rfl, .inl ?_, _, rfl, e1, e2, by rw [once_take ws i hi, if_pos hm]; exact e3⟩
        show evS _ ansB [Ws ws, .ref G.n, .int ws[i]] G' = _
        rw [ansB, es_ite, hc, bindR_ok, truR_bl, bindR_ok, decide_eq_true hm]
        rfl
      · have hlen : ((once (ws.take i)).map D.int).length < sizeMax := by
          rw [List.length_map]
          have := once_le (ws.take i)
          rw [List.length_take] at this
          have : (once (ws.take i)).length ≤ 1000 := by omega
          exact Nat.lt_of_le_of_lt this (by decide)
        refine ⟨_, _, [Ws ws, .ref G.n, .int ws[i]], G'.set G.n (.lst ((once (ws.take i)).map D.int ++ [.int ws[i]])), hat, rfl, .inl ?_, _, rfl, e1.set _ (Nat.le_refl _), e2, ?_⟩
        · show evS _ ansB [Ws ws, .ref G.n, .int ws[i]] G' = _
          rw [ansB, es_ite, hc, bindR_ok, truR_bl, bindR_ok, decide_eq_false hm]
          exact append_ok rfl e3 rfl e3 hlen
        · rw [Hh.get_set_self _ (by omega), once_take ws i hi, if_neg hm, List.map_append]
          rfl)
    (fun σ G' _ => by have := items_end (ws.map D.int) G'; rw [List.length_map] at this; exact this) ws.length 0 [Ws ws, .ref G.n, .und] (G.new (.lst [])) (by omega) ⟨.und, rfl, Ext.new G _, rfl, Hh.get_new_self _⟩
  refine ⟨G', ?_, e1, e2, by rw [List.take_length] at e3; exact e3⟩
  have h1 : evS ⟨callN PP k⟩ (.asg (.nm 1) (.lst .nil)) [Ws ws, .und, .und] G = .ok (.nx, [Ws ws, .ref G.n, .und]) (G.new (.lst [])) := rfl
  have hv : evE ⟨callN PP k⟩ (.var 0) [Ws ws, .ref G.n, .und] (G.new (.lst [])) = .ok (Ws ws) (G.new (.lst [])) := rfl
  show outF (evS _ (.seq (.asg (.nm 1) (.lst .nil)) (.seq (.for .seq (.var 0) (.nm 2) ansB) (.ret (.var 1)))) [Ws ws, .und, .und] G) = _
  rw [seq_nx h1, es_seq, es_for, hv, bindR_ok, show srcOf .seq (Ws ws) (G.new (.lst [])) = some (.items (ws.map D.int)) from rfl, optR_some, bindR_ok, show (Src.items (ws.map D.int)).n = ws.length from List.length_map _, hf, bindR_ok, contS_nx]
  rfl
end Ev

/-! K60i: tables by keys; least costs, two ways. -/
namespace Ev
open PySem
section
variable {α : Type} [DecidableEq α] (f g : α → D)
def kvL (ps : List α) : List (D × D) := ps.map fun x => (f x, g x)
variable (hf : ∀ x y, (f x).eqv (f y) = decide (x = y))
include hf
theorem look_in : ∀ (ps : List α) (k : α), k ∈ ps → look (f k) (kvL f g ps) = some (g k)
  | [], k, h => by simp at h
  | p :: ps, k, h => by
    simp only [kvL, List.map_cons, look, hf]
    by_cases e : p = k
    · subst e; simp
    · simp only [e, decide_false, Bool.false_eq_true, if_false]
      rcases List.mem_cons.mp h with h | h
      · exact absurd h.symm e
      · exact look_in ps k h
theorem look_out : ∀ (ps : List α) (k : α), k ∉ ps → look (f k) (kvL f g ps) = none
  | [], k, h => rfl
  | p :: ps, k, h => by
    simp only [kvL, List.map_cons, look, hf]
    have e : ¬ p = k := fun z => h (by rw [z]; exact List.mem_cons_self)
    simp only [e, decide_false, Bool.false_eq_true, if_false]
    exact look_out ps k fun z => h (List.mem_cons_of_mem _ z)
theorem put_out (ps : List α) (k : α) (h : k ∉ ps) : put (f k) (g k) (kvL f g ps) = kvL f g (ps ++ [k]) := by
  rw [put_new (look_out f g hf ps k h)]
  simp [kvL]
end
theorem optD_eqv (a b : Option Int) : (optD a).eqv (optD b) = decide (a = b) := by
  cases a <;> cases b <;> simp [optD, D.eqv]
  rename_i x y
  by_cases h : x = y <;> simp [h]
theorem keyT_eqv (p q : Nat × Nat × Option Int) : (keyT p.1 p.2.1 p.2.2).eqv (keyT q.1 q.2.1 q.2.2) = decide (p = q) := by
  obtain ⟨l, t, a⟩ := p
  obtain ⟨l', t', a'⟩ := q
  simp only [keyT, D.eqv, D.eqvs, optD_eqv, Bool.and_true]
  by_cases h1 : l = l'
  · by_cases h2 : t = t'
    · by_cases h3 : a = a'
      · subst h1 h2 h3; simp
      · simp [h1, h2, h3]
    · have : ¬ (t : Int) = (t' : Int) := by omega
      simp [h2, this]
  · have : ¬ (l : Int) = (l' : Int) := by omega
    simp [h1, this]
/-! ### the least of a list -/
theorem fold_min_le (P : Int → Nat) : ∀ (ws : List Int) (b : Nat), let r := ws.foldl (fun b x => min b (1 + P x)) b
    r ≤ b ∧ (∀ x ∈ ws, r ≤ 1 + P x) ∧ (r = b ∨ ∃ x ∈ ws, r = 1 + P x)
  | [], b => ⟨Nat.le_refl _, fun x h => by simp at h, .inl rfl⟩
  | x :: ws, b => by
    obtain ⟨h1, h2, h3⟩ := fold_min_le P ws (min b (1 + P x))
    simp only [List.foldl_cons]
    refine ⟨Nat.le_trans h1 (Nat.min_le_left _ _), fun y hy => ?_, ?_⟩
    · rcases List.mem_cons.mp hy with rfl | hy
      · exact Nat.le_trans h1 (Nat.min_le_right _ _)
      · exact h2 y hy
    · rcases h3 with h3 | ⟨y, hy, h3⟩
      · by_cases hm : b ≤ 1 + P x
        · left; rw [h3]; omega
        · right; exact ⟨x, List.mem_cons_self, by rw [h3]; omega⟩
      · exact .inr ⟨y, List.mem_cons_of_mem _ hy, h3⟩
theorem fold_min_eq (P : Int → Nat) (ws names : List Int) (hn : ∀ x, x ∈ names ↔ x ∈ ws) (m : Nat) (h1 : ∀ x ∈ names, m ≤ P x) (h2 : ∃ x ∈ names, m = P x) (b : Nat) : ws.foldl (fun b x => min b (1 + P x)) b = min b (1 + m) := by
  obtain ⟨q1, q2, q3⟩ := fold_min_le P ws b
  obtain ⟨x, hx, rfl⟩ := h2
  have a1 := q2 x ((hn x).mp hx)
  rcases q3 with q3 | ⟨y, hy, q3⟩
  · omega
  · have := h1 y ((hn y).mpr hy)
    omega
theorem once_mem' : ∀ (ws acc : List Int) (x : Int), x ∈ ws.foldl (fun acc x => if x ∈ acc then acc else acc ++ [x]) acc ↔ x ∈ acc ∨ x ∈ ws
  | [], acc, x => by simp
  | y :: ws, acc, x => by
    rw [List.foldl_cons, once_mem' ws]
    split
    · rename_i h
      simp only [List.mem_cons]
      constructor
      · rintro (h' | h')
        · exact .inl h'
        · exact .inr (.inr h')
      · rintro (h' | rfl | h')
        · exact .inl h'
        · exact .inl h
        · exact .inr h'
    · simp only [List.mem_append, List.mem_cons, List.not_mem_nil, or_false]
      constructor
      · rintro ((h' | h') | h')
        · exact .inl h'
        · exact .inr (.inl h')
        · exact .inr (.inr h')
      · rintro (h' | h' | h')
        · exact .inl (.inl h')
        · exact .inl (.inr h')
        · exact .inr h'
theorem once_mem (ws : List Int) (x : Int) : x ∈ once ws ↔ x ∈ ws := by
  rw [once, once_mem']
  simp
theorem once_nodup' : ∀ (ws acc : List Int), acc.Nodup → (ws.foldl (fun acc x => if x ∈ acc then acc else acc ++ [x]) acc).Nodup
  | [], acc, h => h
  | y :: ws, acc, h => by
    rw [List.foldl_cons]
    refine once_nodup' ws _ ?_
    split
    · exact h
    · rename_i hy
      rw [List.nodup_append]
      exact ⟨h, by simp, fun a ha b hb => by
        simp only [List.mem_cons, List.not_mem_nil, or_false] at hb
        subst hb
        exact fun z => hy (z ▸ ha)⟩
theorem once_nodup (ws : List Int) : (once ws).Nodup := once_nodup' ws [] List.nodup_nil
end Ev

/-! K60j: the program's table of costs, its loops. -/
namespace Ev
open PySem
abbrev Key3 := Nat × Nat × Option Int
def key3 (p : Key3) : D := keyT p.1 p.2.1 p.2.2
theorem key3_eqv (p q : Key3) : (key3 p).eqv (key3 q) = decide (p = q) := keyT_eqv p q
def val3 (ws : List Int) (d : Nat) (p : Key3) : Nat := co ws (d - p.1) p.2.1 p.2.2
abbrev kv3 (ws : List Int) (d : Nat) (ps : List Key3) : List (D × D) := kvL key3 (fun p => .int (val3 ws d p)) ps
def above (names : List Int) : List (Option Int) := none :: names.map some
def plainV (ws : List Int) (d l t : Nat) (a : Option Int) : Nat := if l = d then hit ws t a else co ws (d - l - 1) (2 * t) a + co ws (d - l - 1) (2 * t + 1) a
abbrev kvP (ws : List Int) (d l t : Nat) (as : List (Option Int)) : List (D × D) := kvL optD (fun a => .int (plainV ws d l t a)) as
theorem optD_key (a : Option Int) : keyOk (optD a) = true := by cases a <;> rfl
theorem set_dict {G : Hh} {a : Nat} {kvs : List (D × D)} (h : G.get a = some (.dct kvs)) {k v : D} (hk : keyOk k = true) (hl : kvs.length < sizeMax) : setIx (.ref a) k v G = .ok .non (G.set a (.dct (put k v kvs))) := by
  simp only [setIx, h, hk, hl, decide_true, Bool.and_self, if_true]
theorem idx_dict {G : Hh} {a : Nat} {kvs : List (D × D)} (h : G.get a = some (.dct kvs)) {k v : D} (hk : keyOk k = true) (hl : look k kvs = some v) : bin .idx (.ref a) k G = .ok v G := by
  simp only [bin, h, hk, if_true, hl]
theorem kvL_len {α : Type} (f g : α → D) (ps : List α) : (kvL f g ps).length = ps.length := by simp [kvL]
def hitE : E := .ite (.or (.bin .ge (.var 5) (.bfn .len (.cons (.var 0) .nil))) (.bin .eq (.bin .idx (.var 0) (.var 5)) (.var 7))) (.con (.int (0))) (.con (.int (1)))
theorem hit_ev (C : Cl) (ws : List Int) (t : Nat) (a : Option Int) (d1 d2 d3 d4 d6 d8 : D) (G : Hh) : evE C hitE [Ws ws, d1, d2, d3, d4, .int t, d6, optD a, d8] G = .ok (.int (hit ws t a)) G := by
  by_cases hl : t < ws.length
  · have n1 : ¬ ((ws.length : Int) ≤ (t : Int)) := by omega
    by_cases he : some ws[t] = a
    · subst he
      simp [hitE, ws_idx hl, n1, hl, hit]
    · simp [hitE, ws_idx hl, n1, hl, hit, he]
  · have n1 : (ws.length : Int) ≤ (t : Int) := by omega
    have g : ws[t]? = none := List.getElem?_eq_none_iff.mpr (by omega)
    simp [hitE, n1, hit, g]
def sumE (v : Nat) : E := .bin .add (.bin .idx (.var 3) (.tup (.cons (.bin .add (.var 4) (.con (.int (1)))) (.cons (.bin .mul (.con (.int (2))) (.var 5)) (.cons (.var v) .nil))))) (.bin .idx (.var 3) (.tup (.cons (.bin .add (.var 4) (.con (.int (1)))) (.cons (.bin .add (.bin .mul (.con (.int (2))) (.var 5)) (.con (.int (1)))) (.cons (.var v) .nil)))))
theorem sum_ev (C : Cl) (ws : List Int) (d l t tb : Nat) (a : Option Int) (ps : List Key3) (d0 d1 d2 d6 d8 : D) (G : Hh) (hg : G.get tb = some (.dct (kv3 ws d ps))) (h1 : (l + 1, 2 * t, a) ∈ ps) (h2 : (l + 1, 2 * t + 1, a) ∈ ps) (hd : d - l - 1 = d - (l + 1)) :
    evE C (sumE 7) [d0, d1, d2, .ref tb, .int l, .int t, d6, optD a, d8] G = .ok (.int ((co ws (d - l - 1) (2 * t) a + co ws (d - l - 1) (2 * t + 1) a : Nat) : Int)) G := by
  have k1 := look_in key3 (fun p => .int (val3 ws d p)) key3_eqv ps _ h1
  have k2 := look_in key3 (fun p => .int (val3 ws d p)) key3_eqv ps _ h2
  have i1 := idx_dict (k := key3 (l + 1, 2 * t, a)) hg (keyT_ok _ _ _) k1
  have i2 := idx_dict (k := key3 (l + 1, 2 * t + 1, a)) hg (keyT_ok _ _ _) k2
  have e1 : key3 (l + 1, 2 * t, a) = .tup [.int ((l : Int) + 1), .int (2 * (t : Int)), optD a] := by
    simp only [key3, keyT]
    congr 2 <;> simp <;> omega
  have e2 : key3 (l + 1, 2 * t + 1, a) = .tup [.int ((l : Int) + 1), .int (2 * (t : Int) + 1), optD a] := by
    simp only [key3, keyT]
    congr 2 <;> simp <;> omega
  rw [e1] at i1
  rw [e2] at i2
  have sz3 : (3 ≤ sizeMax) = True := eq_true (by decide)
  simp only [sumE, ev_bin, ev_tup, ev_cons, ev_nil, ev_con, ev_var, List.getElem?_cons_succ, List.getElem?_cons_zero, rdv_int, rdv_ref, rdv_opt, bindR_ok, tupR_tup, bin_add, bin_mul2, List.length_cons, List.length_nil, Nat.reduceAdd, sz3, if_true, i1, i2, val3, hd]
  rw [Int.natCast_add]
def plB : S := .ite (.bin .eq (.var 4) (.var 1)) (.setix (.var 6) (.var 7) hitE) (.setix (.var 6) (.var 7) (sumE 7))
/-- one turn of the loop over plain -/
theorem plain_step (C : Cl) (ws : List Int) (d l t tb pl : Nat) (a : Option Int) (as : List (Option Int)) (ps : List Key3) (d2 d8 : D) (G : Hh) (hl : l ≤ d) (hg : G.get tb = some (.dct (kv3 ws d ps))) (hp : G.get pl = some (.dct (kvP ws d l t as))) (ha : a ∉ as) (hs : as.length < 1000)
    (hps : l < d → (l + 1, 2 * t, a) ∈ ps ∧ (l + 1, 2 * t + 1, a) ∈ ps) :
    evS C plB [Ws ws, .int d, d2, .ref tb, .int l, .int t, .ref pl, optD a, d8] G = .ok (.nx, [Ws ws, .int d, d2, .ref tb, .int l, .int t, .ref pl, optD a, d8]) (G.set pl (.dct (kvP ws d l t (as ++ [a])))) := by
  have hlen : (kvP ws d l t as).length < sizeMax := by rw [kvL_len]; exact Nat.lt_trans hs (by decide)
  have hst := set_dict (v := .int (plainV ws d l t a)) hp (optD_key a) hlen
  rw [put_out optD (fun a => .int (plainV ws d l t a)) optD_eqv as a ha] at hst
  by_cases e : l = d
  · have e' : (l : Int) = (d : Int) := by rw [e]
    have hpv : plainV ws d l t a = hit ws t a := by simp only [plainV, e, if_true]
    rw [plB, es_ite]
    simp only [ev_bin, ev_var, List.getElem?_cons_succ, List.getElem?_cons_zero, rdv_int, bindR_ok, bin_eq, decide_eq_true e', truR_bl, if_true, es_setix, hit_ev, rdv_ref, rdv_opt, ← hpv, hst]
  · have e' : ¬ (l : Int) = (d : Int) := by omega
    obtain ⟨p1, p2⟩ := hps (by omega)
    have hs2 := sum_ev C ws d l t tb a ps (Ws ws) (.int d) d2 (.ref pl) d8 G hg p1 p2 (by omega)
    have hpv : plainV ws d l t a = co ws (d - l - 1) (2 * t) a + co ws (d - l - 1) (2 * t + 1) a := by simp only [plainV, e, if_false]
    rw [← hpv] at hs2
    rw [plB, es_ite]
    simp only [ev_bin, ev_var, List.getElem?_cons_succ, List.getElem?_cons_zero, rdv_int, bindR_ok, bin_eq, decide_eq_false e', truR_bl, Bool.false_eq_true, if_false, es_setix]
    rw [hs2]
    simp only [bindR_ok, ev_var, List.getElem?_cons_succ, List.getElem?_cons_zero, rdv_ref, rdv_opt, hst]
end Ev

/-! K60k: a node's costs. -/
namespace Ev
open PySem
theorem above_nodup {names : List Int} (h : names.Nodup) : (above names).Nodup := by
  unfold above
  rw [List.nodup_cons]
  refine ⟨by simp, ?_⟩
  rw [List.nodup_iff_pairwise_ne, List.pairwise_map]
  exact List.Pairwise.imp (fun h z => h (Option.some.inj z)) (List.nodup_iff_pairwise_ne.mp h)
theorem nodup_ix {α : Type} : ∀ {l : List α} {i j : Nat} (h : l.Nodup) (hi : i < l.length) (hj : j < l.length), l[i] = l[j] → i = j
  | [], i, _, _, hi, _, _ => absurd hi (by simp)
  | x :: l, 0, 0, _, _, _, _ => rfl
  | x :: l, 0, j + 1, h, _, hj, e => by
    rw [List.getElem_cons_zero, List.getElem_cons_succ] at e
    exact absurd (e ▸ List.getElem_mem _) (List.nodup_cons.mp h).1
  | x :: l, i + 1, 0, h, hi, _, e => by
    rw [List.getElem_cons_zero, List.getElem_cons_succ] at e
    exact absurd (e ▸ List.getElem_mem _) (List.nodup_cons.mp h).1
  | x :: l, i + 1, j + 1, h, hi, hj, e => by
    rw [List.getElem_cons_succ, List.getElem_cons_succ] at e
    rw [nodup_ix (List.nodup_cons.mp h).2 (Nat.lt_of_succ_lt_succ hi) (Nat.lt_of_succ_lt_succ hj) e]
theorem not_take {α : Type} {l : List α} (h : l.Nodup) {i : Nat} (hi : i < l.length) : l[i] ∉ l.take i := by
  intro z
  obtain ⟨j, hj, e⟩ := List.getElem_of_mem z
  rw [List.length_take] at hj
  rw [List.getElem_take] at e
  have := nodup_ix h (by omega) hi e
  omega
theorem plain_loop (C : Cl) (ws names : List Int) (hn : names.Nodup) (hnl : names.length ≤ 900) (d l t ab tb pl : Nat) (ps : List Key3) (d2' y7 d8 : D) (G : Hh) (hl : l ≤ d) (ha : G.get ab = some (.lst ((above names).map optD))) (hg : G.get tb = some (.dct (kv3 ws d ps))) (hp : G.get pl = some (.dct (kvP ws d l t []))) (n1 : ab ≠ pl) (n2 : tb ≠ pl)
    (hps : l < d → ∀ a ∈ above names, (l + 1, 2 * t, a) ∈ ps ∧ (l + 1, 2 * t + 1, a) ∈ ps) :
    ∃ y7' G', forN (.live ab (above names).length) (.nm 7) (fun σ' => evS C plB σ') (above names).length 0 [Ws ws, .int d, d2', .ref tb, .int l, .int t, .ref pl, y7, d8] G = .ok (.nx, [Ws ws, .int d, d2', .ref tb, .int l, .int t, .ref pl, y7', d8]) G' ∧ But pl G G' ∧ G'.get pl = some (.dct (kvP ws d l t (above names))) := by
  have nd := above_nodup hn
  obtain ⟨σ', G', hf, y, rfl, b, hp'⟩ := forN_inv (.live ab (above names).length) (.nm 7) (fun σ' => evS C plB σ') (above names).length
    (fun i σ G' => ∃ y, σ = [Ws ws, .int d, d2', .ref tb, .int l, .int t, .ref pl, y, d8] ∧ But pl G G' ∧ G'.get pl = some (.dct (kvP ws d l t ((above names).take i))))
    (fun i σ G' hi ⟨y, e0, b, hp'⟩ => by
      subst e0
      have hat : Src.at (.live ab (above names).length) i G' = some (some (optD (above names)[i])) := by
        simp only [Src.at, b.eq ab n1, ha, List.length_map, if_true, List.getElem?_map, List.getElem?_eq_getElem hi, Option.map_some]
      have hs := plain_step C ws d l t tb pl (above names)[i] ((above names).take i) ps d2' d8 G' hl (by rw [b.eq tb n2]; exact hg) hp' (not_take nd hi) (by rw [List.length_take]; simp [above] at hi ⊢; omega) (fun h => hps h _ (List.getElem_mem hi))
      refine ⟨_, [Ws ws, .int d, d2', .ref tb, .int l, .int t, .ref pl, optD (above names)[i], d8], _, _, hat, rfl, .inl hs, _, rfl, b.trans (But.set _), ?_⟩
      rw [Hh.get_set_self _ (Hh.get_lt hp'), List.take_succ_eq_append_getElem hi])
    (fun σ G' ⟨y, _, b, _⟩ => by simp only [Src.at, b.eq ab n1, ha, List.length_map, if_true]; simp) (above names).length 0 [Ws ws, .int d, d2', .ref tb, .int l, .int t, .ref pl, y7, d8] G (by omega) ⟨y7, rfl, But.refl _ _, hp⟩
  exact ⟨y, G', hf, b, by rw [List.take_length] at hp'; exact hp'⟩
/-! ### writing the table -/
def outV (ws : List Int) (d l t m : Nat) (a : Option Int) : Nat := if l < d then min (plainV ws d l t a) (1 + m) else plainV ws d l t a
def tbB : S := .setix (.var 3) (.tup (.cons (.var 4) (.cons (.var 5) (.cons (.var 7) .nil)))) (.ite (.bin .lt (.var 4) (.var 1)) (.bfn .min2 (.cons (.bin .idx (.var 6) (.var 7)) (.cons (.bin .add (.con (.int (1))) (.var 8)) .nil))) (.bin .idx (.var 6) (.var 7)))
theorem tab_step (C : Cl) (ws : List Int) (d l t tb pl m : Nat) (a : Option Int) (as : List (Option Int)) (ps : List Key3) (d2 : D) (G : Hh) (hg : G.get tb = some (.dct (kv3 ws d ps))) (hp : G.get pl = some (.dct (kvP ws d l t as))) (ha : a ∈ as) (hk : (l, t, a) ∉ ps) (hs : ps.length < 10000) (hv : outV ws d l t m a = val3 ws d (l, t, a)) :
    evS C tbB [Ws ws, .int d, d2, .ref tb, .int l, .int t, .ref pl, optD a, .int m] G = .ok (.nx, [Ws ws, .int d, d2, .ref tb, .int l, .int t, .ref pl, optD a, .int m]) (G.set tb (.dct (kv3 ws d (ps ++ [(l, t, a)])))) := by
  have hst := set_dict (k := key3 (l, t, a)) (v := .int (val3 ws d (l, t, a))) hg (keyT_ok _ _ _) (by rw [kvL_len]; exact Nat.lt_trans hs (by decide))
  rw [put_out key3 (fun p => .int (val3 ws d p)) key3_eqv ps (l, t, a) hk] at hst
  have i1 := idx_dict hp (optD_key a) (look_in optD (fun a => .int (plainV ws d l t a)) optD_eqv as a ha)
  have sz3 : (3 ≤ sizeMax) = True := eq_true (by decide)
  have hkey : evE C (.tup (.cons (.var 4) (.cons (.var 5) (.cons (.var 7) .nil)))) [Ws ws, .int d, d2, .ref tb, .int l, .int t, .ref pl, optD a, .int m] G = .ok (key3 (l, t, a)) G := by
    simp only [ev_tup, ev_cons, ev_nil, ev_var, List.getElem?_cons_succ, List.getElem?_cons_zero, rdv_int, rdv_opt, bindR_ok, tupR_tup, List.length_cons, List.length_nil, Nat.reduceAdd, sz3, if_true]
    rfl
  have hval : evE C (.ite (.bin .lt (.var 4) (.var 1)) (.bfn .min2 (.cons (.bin .idx (.var 6) (.var 7)) (.cons (.bin .add (.con (.int (1))) (.var 8)) .nil))) (.bin .idx (.var 6) (.var 7))) [Ws ws, .int d, d2, .ref tb, .int l, .int t, .ref pl, optD a, .int m] G = .ok (.int (val3 ws d (l, t, a))) G := by
    rw [← hv]
    by_cases h : l < d
    · have h' : (l : Int) < (d : Int) := by omega
      have e : (if (1 : Int) + (m : Int) < (plainV ws d l t a : Int) then (1 : Int) + (m : Int) else (plainV ws d l t a : Int)) = ((outV ws d l t m a : Nat) : Int) := by
        simp only [outV, h, if_true]
        split <;> omega
      simp only [ev_ite, ev_bin, ev_bfn, ev_cons, ev_nil, ev_con, ev_var, List.getElem?_cons_succ, List.getElem?_cons_zero, rdv_int, rdv_ref, rdv_opt, bindR_ok, tupR_tup, bin_lt, decide_eq_true h', truR_bl, if_true, i1, bin_add, bfn_min2, e]
    · have h' : ¬ (l : Int) < (d : Int) := by omega
      have e : outV ws d l t m a = plainV ws d l t a := by simp only [outV, h, if_false]
      simp only [ev_ite, ev_bin, ev_var, List.getElem?_cons_succ, List.getElem?_cons_zero, rdv_int, rdv_ref, rdv_opt, bindR_ok, bin_lt, decide_eq_false h', truR_bl, Bool.false_eq_true, if_false, i1, e]
  rw [tbB, es_setix, hval, bindR_ok, ev_var]
  simp only [List.getElem?_cons_succ, List.getElem?_cons_zero, rdv_ref, bindR_ok]
  rw [hkey, bindR_ok, hst, bindR_ok]
end Ev

/-! K60l: the least of the plain costs; the loop that writes the table; a node. -/
namespace Ev
open PySem
theorem tab_loop (C : Cl) (ws names : List Int) (hn : names.Nodup) (hnl : names.length ≤ 900) (d l t ab tb pl m : Nat) (ps : List Key3) (d2' y7 : D) (G : Hh) (ha : G.get ab = some (.lst ((above names).map optD))) (hg : G.get tb = some (.dct (kv3 ws d ps))) (hp : G.get pl = some (.dct (kvP ws d l t (above names)))) (n1 : ab ≠ tb) (n2 : pl ≠ tb)
    (hk : ∀ a, (l, t, a) ∉ ps) (hs : ps.length + names.length + 1 < 10000) (hv : ∀ a ∈ above names, outV ws d l t m a = val3 ws d (l, t, a)) :
    ∃ y7' G', forN (.live ab (above names).length) (.nm 7) (fun σ' => evS C tbB σ') (above names).length 0 [Ws ws, .int d, d2', .ref tb, .int l, .int t, .ref pl, y7, .int m] G = .ok (.nx, [Ws ws, .int d, d2', .ref tb, .int l, .int t, .ref pl, y7', .int m]) G' ∧ But tb G G' ∧ G'.get tb = some (.dct (kv3 ws d (ps ++ (above names).map fun a => (l, t, a)))) := by
  have nd := above_nodup hn
  have al : (above names).length = names.length + 1 := by simp [above]
  obtain ⟨σ', G', hf, y, rfl, b, hp'⟩ := forN_inv (.live ab (above names).length) (.nm 7) (fun σ' => evS C tbB σ') (above names).length
    (fun i σ G' => ∃ y, σ = [Ws ws, .int d, d2', .ref tb, .int l, .int t, .ref pl, y, .int m] ∧ But tb G G' ∧ G'.get tb = some (.dct (kv3 ws d (ps ++ ((above names).take i).map fun a => (l, t, a)))))
    (fun i σ G' hi ⟨y, e0, b, hp'⟩ => by
      subst e0
      have hat : Src.at (.live ab (above names).length) i G' = some (some (optD (above names)[i])) := by
        simp only [Src.at, b.eq ab n1, ha, List.length_map, if_true, List.getElem?_map, List.getElem?_eq_getElem hi, Option.map_some]
      have hnk : (l, t, (above names)[i]) ∉ ps ++ ((above names).take i).map fun a => (l, t, a) := by
        rw [List.mem_append, List.mem_map]
        rintro (z | ⟨a, z1, z2⟩)
        · exact hk _ z
        · have e : a = (above names)[i] := by injection z2 with _ z2; injection z2
          exact not_take nd hi (e ▸ z1)
      have hst := tab_step C ws d l t tb pl m (above names)[i] (above names) (ps ++ ((above names).take i).map fun a => (l, t, a)) d2' G' hp' (by rw [b.eq pl n2]; exact hp) (List.getElem_mem hi) hnk (by rw [List.length_append, List.length_map, List.length_take]; omega) (hv _ (List.getElem_mem hi))
      refine ⟨_, [Ws ws, .int d, d2', .ref tb, .int l, .int t, .ref pl, optD (above names)[i], .int m], _, _, hat, rfl, .inl hst, _, rfl, b.trans (But.set _), ?_⟩
      rw [Hh.get_set_self _ (Hh.get_lt hp'), List.take_succ_eq_append_getElem hi, List.map_append, ← List.append_assoc]
      rfl)
    (fun σ G' ⟨y, _, b, _⟩ => by simp only [Src.at, b.eq ab n1, ha, List.length_map, if_true]; simp) (above names).length 0 [Ws ws, .int d, d2', .ref tb, .int l, .int t, .ref pl, y7, .int m] G (by omega) ⟨y7, rfl, But.refl _ _, by simpa using hg⟩
  exact ⟨y, G', hf, b, by rw [List.take_length] at hp'; exact hp'⟩
theorem comp_ev (C : Cl) (own : List Nat) (k : Ik) (src c e : E) (t : T) (σ : List D) (G : Hh) : evE C (.comp own k src t false c e) σ G = bindR (evE C src σ G) fun x G1 => bindR (optR (srcOf k x G1) G1) fun s G2 => bindR (compN s t (wipeD σ own) (fun σ' acc => M.bind (evE C e σ') fun y => pushM acc y) s.n 0 [] G2) fun ys G3 => .ok (.ref G3.n) (G3.new (.lst ys)) := by
  simp only [evE, bind_eq]
  first
    | rfl
    | (congr 1; done)
    | (congr 1; funext x G1; show bindR (rd (srcOf k x) G1) _ = _; unfold rd; cases srcOf k x G1 <;> rfl)
theorem cut1 (x : D) (xs : List D) : cutL (x :: xs) (some 1) none = xs := by
  unfold cutL
  simp
theorem slice1 (C : Cl) (i : Nat) (σ : List D) (G : Hh) (a : Nat) (x : D) (xs : List D) (hv : rdv σ[i]? G = .ok (.ref a) G) (ha : G.get a = some (.lst (x :: xs))) : evE C (.slice (.var i) true (.con (.int (1))) false (.con (.int (0)))) σ G = .ok (.ref G.n) (G.new (.lst xs)) := by
  have h1 : evE C (.var i) σ G = .ok (.ref a) G := by rw [ev_var, hv]
  simp only [evE] at h1 ⊢
  simp only [M.bind, h1, M.pure, optI, if_true, Bool.false_eq_true, if_false, sliceD, ha, cut1]
theorem minI_nat (f : Int → Nat) (x : Int) (xs : List Int) : ∃ m : Nat, minI (f x : Int) (xs.map fun y => (f y : Int)) = (m : Int) ∧ (∀ y ∈ x :: xs, m ≤ f y) ∧ ∃ y ∈ x :: xs, m = f y := by
  obtain ⟨h1, h2, h3⟩ := minI_le (xs.map fun y => (f y : Int)) (f x : Int)
  have key : ∃ y ∈ x :: xs, minI (f x : Int) (xs.map fun y => (f y : Int)) = (f y : Int) := by
    rcases h2 with h2 | h2
    · exact ⟨x, List.mem_cons_self, h2⟩
    · obtain ⟨y, hy, e⟩ := List.mem_map.mp h2
      exact ⟨y, List.mem_cons_of_mem _ hy, e.symm⟩
  obtain ⟨y, hy, e⟩ := key
  refine ⟨f y, e, fun z hz => ?_, y, hy, rfl⟩
  rw [e] at h1 h3
  rcases List.mem_cons.mp hz with rfl | hz
  · omega
  · have := h3 (f z : Int) (List.mem_map.mpr ⟨z, hz, rfl⟩)
    omega
theorem intsD_of : ∀ l : List Int, intsD (l.map D.int) = some l
  | [] => rfl
  | x :: l => by simp [intsD, intsD_of l]
def lstB : E := .bin .idx (.var 6) (.var 7)
def lstE : E := .bfn .minL (.cons (.comp [7] .seq (.slice (.var 2) true (.con (.int (1))) false (.con (.int (0)))) (.nm 7) false .bad lstB) .nil)
theorem least_ok (C : Cl) (ws names : List Int) (hne : names ≠ []) (hnl : names.length ≤ 900) (d l t ab pl : Nat) (d1 d3 y7 d8 : D) (G : Hh) (ha : G.get ab = some (.lst ((above names).map optD))) (hp : G.get pl = some (.dct (kvP ws d l t (above names)))) :
    ∃ (m : Nat) (G' : Hh), evE C lstE [Ws ws, d1, .ref ab, d3, .int l, .int t, .ref pl, y7, d8] G = .ok (.int m) G' ∧ Ext G G' ∧ (∀ x ∈ names, m ≤ plainV ws d l t (some x)) ∧ ∃ x ∈ names, m = plainV ws d l t (some x) := by
  have hsl := slice1 C 2 [Ws ws, d1, .ref ab, d3, .int l, .int t, .ref pl, y7, d8] G ab .non (names.map D.int) rfl (by rw [ha]; simp [above, optD, Function.comp_def])
  have e1 := Ext.new G (.lst (names.map D.int))
  generalize hG1 : G.new (.lst (names.map D.int)) = G1 at hsl e1
  have g1 : G1.get G.n = some (.lst (names.map D.int)) := by rw [← hG1]; exact Hh.get_new_self _
  have p1 := e1.get hp
  obtain ⟨ys, G2, hc, rfl, rfl⟩ := compN_inv (.live G.n names.length) (.nm 7) [Ws ws, d1, .ref ab, d3, .int l, .int t, .ref pl, .und, d8] (fun σ' acc => M.bind (evE C lstB σ') fun y => pushM acc y) names.length (fun i a G' => a = ((names.take i).map fun x => D.int (plainV ws d l t (some x))) ∧ G' = G1)
    (fun i a G' hi ⟨e1, e2⟩ => by
      subst e1 e2
      have hmem : some names[i] ∈ above names := by simp [above]
      have ix := idx_dict p1 (optD_key (some names[i])) (look_in optD (fun a => .int (plainV ws d l t a)) optD_eqv _ _ hmem)
      refine ⟨.int names[i], [Ws ws, d1, .ref ab, d3, .int l, .int t, .ref pl, .int names[i], d8], _, G', ?_, rfl, ?_, rfl, rfl⟩
      · simp [Src.at, g1, hi]
      · rw [bind_eq]
        have hl : ((names.take i).map fun x => D.int (plainV ws d l t (some x))).length < sizeMax := by
          rw [List.length_map, List.length_take]
          exact Nat.lt_of_le_of_lt (by omega : _ ≤ 900) (by decide)
        have hE : evE C lstB [Ws ws, d1, .ref ab, d3, .int l, .int t, .ref pl, .int names[i], d8] G' = .ok (.int (plainV ws d l t (some names[i]))) G' := by
          simp only [lstB, ev_bin, ev_var, List.getElem?_cons_succ, List.getElem?_cons_zero, rdv_int, rdv_ref, bindR_ok]
          exact ix
        rw [hE, bindR_ok]
        simp only [pushM, hl, if_true, M.pure]
        rw [List.take_succ_eq_append_getElem hi, List.map_append]
        rfl)
    (fun a G' ⟨_, e2⟩ => by subst e2; simp [Src.at, g1]) names.length 0 [] G1 (by omega) ⟨by simp, rfl⟩
  rw [List.take_length] at hc
  have hints : (names.map fun x => D.int (plainV ws d l t (some x))) = (names.map fun x => ((plainV ws d l t (some x) : Nat) : Int)).map D.int := by rw [List.map_map]; rfl
  match names, hne with
  | x :: xs, _ =>
    obtain ⟨m, hm, q1, q2⟩ := minI_nat (fun y => plainV ws d l t (some y)) x xs
    refine ⟨m, _, ?_, e1.trans (Ext.new _ (.lst ((x :: xs).map fun x => D.int (plainV ws d l t (some x))))), q1, q2⟩
    have hsrc : srcOf .seq (.ref G.n) G2 = some (.live G.n (x :: xs).length) := by simp [srcOf, g1]
    have hmin : bfn .minL [.ref G2.n] (G2.new (.lst ((x :: xs).map fun x => D.int (plainV ws d l t (some x))))) = .ok (.int m) (G2.new (.lst ((x :: xs).map fun x => D.int (plainV ws d l t (some x))))) := by
      have hs : seqOf (G2.new (.lst ((x :: xs).map fun x => D.int (plainV ws d l t (some x))))) (.ref G2.n) = some ((x :: xs).map fun x => D.int (plainV ws d l t (some x))) := by simp only [seqOf, Hh.get_new_self]
      simp only [bfn, hs]
      rw [hints, intsD_of]
      simp only [List.map_cons]
      rw [hm]
    rw [lstE, ev_bfn, ev_cons, comp_ev, hsl, bindR_ok, hsrc, optR_some, bindR_ok]
    show bindR (bindR (bindR (compN (.live G.n (x :: xs).length) (.nm 7) [Ws ws, d1, .ref ab, d3, .int l, .int t, .ref pl, .und, d8] _ (x :: xs).length 0 [] G2) _) _) _ = _
    rw [hc, bindR_ok, bindR_ok, ev_nil, bindR_ok, tupR_tup, bindR_ok, bindR_ok, tupR_tup, bindR_ok, hmin]
end Ev

/-! K60m: a node's turn; all nodes. -/
namespace Ev
open PySem
/-- what stood before stands, but p -/
structure ExtB (p : Nat) (G G' : Hh) : Prop where
  le : G.n ≤ G'.n
  eq : ∀ a, a < G.n → a ≠ p → G'.get a = G.get a
theorem ExtB.refl (p : Nat) (G : Hh) : ExtB p G G := ⟨Nat.le_refl _, fun _ _ _ => rfl⟩
theorem ExtB.trans {p : Nat} {G G' G'' : Hh} (a : ExtB p G G') (b : ExtB p G' G'') : ExtB p G G'' := ⟨Nat.le_trans a.le b.le, fun x h n => (b.eq x (Nat.lt_of_lt_of_le h a.le) n).trans (a.eq x h n)⟩
theorem Ext.b {p : Nat} {G G' : Hh} (a : Ext G G') : ExtB p G G' := ⟨a.le, fun x h _ => a.eq x h⟩
theorem But.b {p : Nat} {G G' : Hh} (a : But p G G') : ExtB p G G' := ⟨by rw [a.n]; exact Nat.le_refl _, fun x _ n => a.eq x n⟩
theorem out_val (ws names : List Int) (hm : ∀ x, x ∈ names ↔ x ∈ ws) (d l t m : Nat) (hl : l ≤ d) (h1 : ∀ x ∈ names, m ≤ plainV ws d l t (some x)) (h2 : ∃ x ∈ names, m = plainV ws d l t (some x)) (a : Option Int) : outV ws d l t m a = val3 ws d (l, t, a) := by
  by_cases e : l = d
  · subst e
    simp only [outV, Nat.lt_irrefl, if_false, plainV, if_true, val3, Nat.sub_self, co]
  · have hlt : l < d := by omega
    obtain ⟨r, hr⟩ : ∃ r, d - l = r + 1 := ⟨d - l - 1, by omega⟩
    have hr' : d - l - 1 = r := by omega
    have hp : ∀ b, plainV ws d l t b = co ws r (2 * t) b + co ws r (2 * t + 1) b := fun b => by simp only [plainV, e, if_false, hr']
    simp only [hp] at h1 h2
    simp only [outV, hlt, if_true, hp, val3, hr, co]
    have := fold_min_eq (fun x => co ws r (2 * t) (some x) + co ws r (2 * t + 1) (some x)) ws names hm m h1 h2 (co ws r (2 * t) a + co ws r (2 * t + 1) a)
    rw [← this]
    congr 1
    funext b x
    omega
def nodeB : S := .seq (.asg (.nm 6) .dnew) (.seq (.for .seq (.var 2) (.nm 7) plB) (.seq (.asg (.nm 8) lstE) (.for .seq (.var 2) (.nm 7) tbB)))
theorem node_ok (C : Cl) (ws names : List Int) (hm : ∀ x, x ∈ names ↔ x ∈ ws) (hn : names.Nodup) (hne : names ≠ []) (hnl : names.length ≤ 100) (d l t ab tb : Nat) (hl : l ≤ d) (ps : List Key3) (y6 y7 y8 : D) (G : Hh) (ha : G.get ab = some (.lst ((above names).map optD))) (hg : G.get tb = some (.dct (kv3 ws d ps))) (nab : ab ≠ tb)
    (hps : l < d → ∀ a ∈ above names, (l + 1, 2 * t, a) ∈ ps ∧ (l + 1, 2 * t + 1, a) ∈ ps) (hk : ∀ a, (l, t, a) ∉ ps) (hs : ps.length < 9000) :
    ∃ y6' y7' y8' G', evS C nodeB [Ws ws, .int d, .ref ab, .ref tb, .int l, .int t, y6, y7, y8] G = .ok (.nx, [Ws ws, .int d, .ref ab, .ref tb, .int l, .int t, y6', y7', y8']) G' ∧ ExtB tb G G' ∧ G'.get tb = some (.dct (kv3 ws d (ps ++ (above names).map fun a => (l, t, a)))) := by
  have s0 : evS C (.asg (.nm 6) .dnew) [Ws ws, .int d, .ref ab, .ref tb, .int l, .int t, y6, y7, y8] G = .ok (.nx, [Ws ws, .int d, .ref ab, .ref tb, .int l, .int t, .ref G.n, y7, y8]) (G.new (.dct [])) := rfl
  have e1 := Ext.new G (.dct [])
  have p1 : (G.new (.dct [])).get G.n = some (.dct (kvP ws d l t [])) := Hh.get_new_self _
  generalize G.new (.dct []) = G1 at s0 e1 p1
  have la : ab < G.n := Hh.get_lt ha
  have lt : tb < G.n := Hh.get_lt hg
  have ha1 := e1.get ha
  have hg1 := e1.get hg
  obtain ⟨y7a, G2, f2, b2, p2⟩ := plain_loop C ws names hn (by omega) d l t ab tb G.n ps (.ref ab) y7 y8 G1 hl ha1 hg1 p1 (by omega) (by omega) hps
  have ha2 : G2.get ab = some (.lst ((above names).map optD)) := by rw [b2.eq ab (by omega)]; exact ha1
  have hg2 : G2.get tb = some (.dct (kv3 ws d ps)) := by rw [b2.eq tb (by omega)]; exact hg1
  obtain ⟨m, G3, f3, e3, q1, q2⟩ := least_ok C ws names hne (by omega) d l t ab G.n (.int d) (.ref tb) y7a y8 G2 ha2 p2
  have ha3 := e3.get ha2
  have hg3 := e3.get hg2
  have p3 := e3.get p2
  obtain ⟨y7b, G4, f4, b4, p4⟩ := tab_loop C ws names hn (by omega) d l t ab tb G.n m ps (.ref ab) y7a G3 ha3 hg3 p3 nab (by omega) hk (by omega) (fun a _ => out_val ws names hm d l t m hl q1 q2 a)
  refine ⟨.ref G.n, y7b, .int m, G4, ?_, ?_, p4⟩
  · have l1 : ∀ G : Hh, G.get ab = some (.lst ((above names).map optD)) → srcOf .seq (.ref ab) G = some (.live ab (above names).length) := fun G h => by simp [srcOf, h]
    have hv : ∀ (z6 z7 z8 : D) (G : Hh), evE C (.var 2) [Ws ws, .int d, .ref ab, .ref tb, .int l, .int t, z6, z7, z8] G = .ok (.ref ab) G := fun _ _ _ _ => rfl
    have s2 : evS C (.for .seq (.var 2) (.nm 7) plB) [Ws ws, .int d, .ref ab, .ref tb, .int l, .int t, .ref G.n, y7, y8] G1 = .ok (.nx, [Ws ws, .int d, .ref ab, .ref tb, .int l, .int t, .ref G.n, y7a, y8]) G2 := by
      rw [es_for, hv, bindR_ok, l1 G1 ha1, optR_some, bindR_ok, show (Src.live ab (above names).length).n = (above names).length from rfl, f2]
    have s3 : evS C (.asg (.nm 8) lstE) [Ws ws, .int d, .ref ab, .ref tb, .int l, .int t, .ref G.n, y7a, y8] G2 = .ok (.nx, [Ws ws, .int d, .ref ab, .ref tb, .int l, .int t, .ref G.n, y7a, .int m]) G3 := by
      rw [es_asg, f3, bindR_ok]
      rfl
    have s4 : evS C (.for .seq (.var 2) (.nm 7) tbB) [Ws ws, .int d, .ref ab, .ref tb, .int l, .int t, .ref G.n, y7a, .int m] G3 = .ok (.nx, [Ws ws, .int d, .ref ab, .ref tb, .int l, .int t, .ref G.n, y7b, .int m]) G4 := by
      rw [es_for, hv, bindR_ok, l1 G3 ha3, optR_some, bindR_ok, show (Src.live ab (above names).length).n = (above names).length from rfl, f4]
    rw [nodeB, seq_nx s0, seq_nx s2, seq_nx s3, s4]
  · refine ⟨?_, fun a h1 h2 => ?_⟩
    · have := e1.le; have := e3.le; rw [b4.n]; rw [b2.n] at this; omega
    · rw [b4.eq a h2, e3.eq a (by rw [b2.n]; exact Nat.lt_of_lt_of_le h1 e1.le), b2.eq a (by omega), e1.eq a h1]
end Ev

/-! K60n: all nodes: the program's table of costs. -/
namespace Ev
open PySem
def lvlP (names : List Int) (l j : Nat) : List Key3 := (List.range j).flatMap fun t => (above names).map fun a => (l, t, a)
theorem mem_lvl {names : List Int} {l j : Nat} {p : Key3} : p ∈ lvlP names l j ↔ p.1 = l ∧ p.2.1 < j ∧ p.2.2 ∈ above names := by
  obtain ⟨x, y, z⟩ := p
  simp only [lvlP, List.mem_flatMap, List.mem_range, List.mem_map]
  constructor
  · rintro ⟨t, ht, a, ha, e⟩
    injection e with e1 e2
    injection e2 with e2 e3
    subst e1 e2 e3
    exact ⟨rfl, ht, ha⟩
  · rintro ⟨rfl, h2, h3⟩
    exact ⟨y, h2, z, h3, rfl⟩
theorem lvl_succ (names : List Int) (l j : Nat) : lvlP names l (j + 1) = lvlP names l j ++ (above names).map fun a => (l, j, a) := by
  simp only [lvlP, List.range_succ, List.flatMap_append, List.flatMap_cons, List.flatMap_nil, List.append_nil]
theorem lvl_len (names : List Int) (l j : Nat) : (lvlP names l j).length = j * (names.length + 1) := by
  induction j with
  | zero => simp [lvlP]
  | succ j ih => rw [lvl_succ, List.length_append, ih, List.length_map, Nat.succ_mul]; simp [above]
theorem pow2_le {l : Nat} (h : l ≤ 3) : 2 ^ l ≤ 8 := by
  have : l = 0 ∨ l = 1 ∨ l = 2 ∨ l = 3 := by omega
  rcases this with rfl | rfl | rfl | rfl <;> decide
def levelB : S := .for .range (.cons (.call 3 (.cons (.var 4) .nil)) .nil) (.nm 5) nodeB
theorem level_fin (cf : Nat → List D → M D) (w : D) (d l ab tb MM : Nat) (hM : MM ≤ 8) (y5 y6 y7 y8 : D) (r : Res (Fl × List D)) (G : Hh) (hp : cf 3 [.int (l : Int)] G = .ok (.int (MM : Int)) G)
    (hf : forN (.rng 0 1 MM) (.nm 5) (fun σ' => evS ⟨cf⟩ nodeB σ') MM 0 [w, .int d, .ref ab, .ref tb, .int l, y5, y6, y7, y8] G = r) : evS ⟨cf⟩ levelB [w, .int d, .ref ab, .ref tb, .int l, y5, y6, y7, y8] G = r := by
  have hc : evE ⟨cf⟩ (.cons (.call 3 (.cons (.var 4) .nil)) .nil) [w, .int d, .ref ab, .ref tb, .int l, y5, y6, y7, y8] G = .ok (.tup [.int (MM : Int)]) G := by
    simp only [ev_cons, ev_nil, ev_call, ev_var, List.getElem?_cons_succ, List.getElem?_cons_zero, rdv_int, bindR_ok, tupR_tup, hp]
  have hs2 := src_rngN (n := MM) (by omega) G
  rw [levelB, es_for, hc, bindR_ok, hs2, optR_some, bindR_ok]
  exact hf
theorem level_ok (k : Nat) (ws names : List Int) (hm : ∀ x, x ∈ names ↔ x ∈ ws) (hn : names.Nodup) (hne : names ≠ []) (hnl : names.length ≤ 100) (d l ab tb : Nat) (hd : d ≤ 3) (hl : l ≤ d) (ps : List Key3) (y5 y6 y7 y8 : D) (G : Hh) (ha : G.get ab = some (.lst ((above names).map optD))) (hg : G.get tb = some (.dct (kv3 ws d ps))) (nab : ab ≠ tb)
    (hps : l < d → ∀ t a, t < 2 ^ (l + 1) → a ∈ above names → (l + 1, t, a) ∈ ps) (hk : ∀ p ∈ ps, l < p.1) (hs : ps.length ≤ 5000) :
    ∃ y5' y6' y7' y8' G', evS ⟨callN PP (k + 1)⟩ levelB [Ws ws, .int d, .ref ab, .ref tb, .int l, y5, y6, y7, y8] G = .ok (.nx, [Ws ws, .int d, .ref ab, .ref tb, .int l, y5', y6', y7', y8']) G' ∧ ExtB tb G G' ∧ G'.get tb = some (.dct (kv3 ws d (ps ++ lvlP names l (2 ^ l)))) := by
  have h8 := pow2_le (l := l) (by omega)
  obtain ⟨σ', G', hf, y5', y6', y7', y8', rfl, b, p⟩ := forN_inv (.rng 0 1 (2 ^ l)) (.nm 5) (fun σ' => evS ⟨callN PP (k + 1)⟩ nodeB σ') (2 ^ l)
    (fun j σ G' => ∃ y5 y6 y7 y8, σ = [Ws ws, .int d, .ref ab, .ref tb, .int l, y5, y6, y7, y8] ∧ ExtB tb G G' ∧ G'.get tb = some (.dct (kv3 ws d (ps ++ lvlP names l j))))
    (fun j σ G' hj ⟨y5, y6, y7, y8, e0, b, p⟩ => by
      subst e0
      have e2 : 2 ^ (l + 1) = 2 * 2 ^ l := by rw [Nat.pow_succ]; omega
      have hlen : (ps ++ lvlP names l j).length < 9000 := by
        rw [List.length_append, lvl_len]
        have h1 : j * (names.length + 1) ≤ 8 * 101 := Nat.mul_le_mul (by omega) (by omega)
        omega
      obtain ⟨y6', y7', y8', G2, h1, h2, h3⟩ := node_ok ⟨callN PP (k + 1)⟩ ws names hm hn hne hnl d l j ab tb hl (ps ++ lvlP names l j) y6 y7 y8 G' (by rw [b.eq ab (Hh.get_lt ha) nab]; exact ha) p nab
        (fun h a ham => ⟨List.mem_append_left _ (hps h _ a (by omega) ham), List.mem_append_left _ (hps h _ a (by omega) ham)⟩)
        (fun a z => by
          rcases List.mem_append.mp z with z | z
          · exact absurd (hk _ z) (Nat.lt_irrefl l)
          · exact absurd (mem_lvl.mp z).2.1 (Nat.lt_irrefl j))
        hlen
      refine ⟨_, [Ws ws, .int d, .ref ab, .ref tb, .int l, .int (j : Int), y6, y7, y8], _, G2, rng_at hj G', rfl, .inl h1, _, _, _, _, rfl, b.trans h2, ?_⟩
      rw [lvl_succ, ← List.append_assoc]
      exact h3)
    (fun σ G' _ => rng_end _ G') (2 ^ l) 0 [Ws ws, .int d, .ref ab, .ref tb, .int l, y5, y6, y7, y8] G (by omega) ⟨y5, y6, y7, y8, rfl, ExtB.refl _ _, by simpa [lvlP] using hg⟩
  refine ⟨y5', y6', y7', y8', G', ?_, b, p⟩
  exact level_fin (callN PP (k + 1)) (Ws ws) d l ab tb (2 ^ l) h8 y5 y6 y7 y8 _ G (pow_ok k G l (by omega)) hf
def full (names : List Int) (d i : Nat) : List Key3 := (List.range i).flatMap fun q => lvlP names (d - q) (2 ^ (d - q))
theorem full_succ (names : List Int) (d i : Nat) : full names d (i + 1) = full names d i ++ lvlP names (d - i) (2 ^ (d - i)) := by
  simp only [full, List.range_succ, List.flatMap_append, List.flatMap_cons, List.flatMap_nil, List.append_nil]
theorem mem_full {names : List Int} {d i : Nat} (hi : i ≤ d + 1) {p : Key3} : p ∈ full names d i ↔ d < p.1 + i ∧ p.1 ≤ d ∧ p.2.1 < 2 ^ p.1 ∧ p.2.2 ∈ above names := by
  simp only [full, List.mem_flatMap, List.mem_range, mem_lvl]
  constructor
  · rintro ⟨q, hq, h1, h2, h3⟩
    rw [h1]
    exact ⟨by omega, by omega, h2, h3⟩
  · rintro ⟨h1, h2, h3, h4⟩
    refine ⟨d - p.1, by omega, by omega, ?_, h4⟩
    rw [show d - (d - p.1) = p.1 by omega]
    exact h3
theorem full_len (names : List Int) (d : Nat) (hd : d ≤ 3) (i : Nat) (hi : i ≤ d + 1) : (full names d i).length + (2 ^ (d + 1 - i)) * (names.length + 1) = 2 ^ (d + 1) * (names.length + 1) := by
  induction i with
  | zero => simp [full]
  | succ i ih =>
    have := ih (by omega)
    rw [full_succ, List.length_append, lvl_len]
    have e : d + 1 - i = (d - i) + 1 := by omega
    have e2 : d + 1 - (i + 1) = d - i := by omega
    rw [e, Nat.pow_succ] at this
    rw [e2]
    have : 2 ^ (d - i) * 2 * (names.length + 1) = 2 ^ (d - i) * (names.length + 1) + 2 ^ (d - i) * (names.length + 1) := by rw [Nat.mul_assoc, Nat.mul_comm 2, ← Nat.mul_assoc, Nat.mul_two]
    omega
end Ev

/-! K60o: the program's table of costs. -/
namespace Ev
open PySem
theorem Ans_above {names : List Int} {a : Option Int} : Ans names a ↔ a ∈ above names := by
  unfold Ans above
  simp only [List.mem_cons, List.mem_map]
  constructor
  · rintro (h | ⟨x, h1, h2⟩)
    · exact .inl h
    · exact .inr ⟨x, h1, h2.symm⟩
  · rintro (h | ⟨x, h1, h2⟩)
    · exact .inl h
    · exact .inr ⟨x, h1, h2.symm⟩
theorem tbl_full (ws names : List Int) (d : Nat) (hd : d ≤ 3) : Tbl d names (fun l t a => co ws (d - l) t a) (kv3 ws d (full names d (d + 1))) where
  len := by
    have := full_len names d hd (d + 1) (Nat.le_refl _)
    rw [Nat.sub_self] at this
    rw [kvL_len, Nat.sub_mul]
    simp only [Nat.pow_zero, Nat.one_mul] at this ⊢
    omega
  dom p hp := by
    obtain ⟨q, hq, rfl⟩ := List.mem_map.mp hp
    obtain ⟨h1, h2, h3, h4⟩ := (mem_full (Nat.le_refl _)).mp hq
    exact ⟨q.1, q.2.1, q.2.2, h2, h3, Ans_above.mpr h4, rfl⟩
  val l t a hl ht ha := look_in key3 (fun p => .int (val3 ws d p)) key3_eqv _ (l, t, a) ((mem_full (Nat.le_refl _)).mpr ⟨by simp only; omega, hl, ht, Ans_above.mp ha⟩)
theorem src_down (d : Nat) (hd : d ≤ 3) (G : Hh) : srcOf .range (.tup [.int (d : Int), .int (-1), .int (-1)]) G = some (.rng (d : Int) (-1) (d + 1)) := by
  have h1 : smallI (d : Int) = true := smallI_nat (by omega)
  have h2 : smallI (-1) = true := by decide
  have h3 : ((d : Int) - (-1)).toNat = d + 1 := by omega
  simp only [srcOf, h1, h2, decide_true, Bool.and_self, if_true, h3]
theorem down_at {d i : Nat} (h : i < d + 1) (G : Hh) : Src.at (.rng (d : Int) (-1) (d + 1)) i G = some (some (.int ((d - i : Nat) : Int))) := by
  have e : (d : Int) + (i : Int) * (-1) = ((d - i : Nat) : Int) := by omega
  simp only [Src.at, h, if_true, e]
theorem outer_ok (k : Nat) (ws names : List Int) (hm : ∀ x, x ∈ names ↔ x ∈ ws) (hn : names.Nodup) (hne : names ≠ []) (hnl : names.length ≤ 100) (d ab tb : Nat) (hd : d ≤ 3) (y4 y5 y6 y7 y8 : D) (G : Hh) (ha : G.get ab = some (.lst ((above names).map optD))) (hg : G.get tb = some (.dct [])) (nab : ab ≠ tb) :
    ∃ y4' y5' y6' y7' y8' G', forN (.rng (d : Int) (-1) (d + 1)) (.nm 4) (fun σ' => evS ⟨callN PP (k + 1)⟩ levelB σ') (d + 1) 0 [Ws ws, .int d, .ref ab, .ref tb, y4, y5, y6, y7, y8] G = .ok (.nx, [Ws ws, .int d, .ref ab, .ref tb, y4', y5', y6', y7', y8']) G' ∧ ExtB tb G G' ∧ G'.get tb = some (.dct (kv3 ws d (full names d (d + 1)))) := by
  obtain ⟨σ', G', hf, y4', y5', y6', y7', y8', rfl, b, p⟩ := forN_inv (.rng (d : Int) (-1) (d + 1)) (.nm 4) (fun σ' => evS ⟨callN PP (k + 1)⟩ levelB σ') (d + 1)
    (fun i σ G' => ∃ y4 y5 y6 y7 y8, σ = [Ws ws, .int d, .ref ab, .ref tb, y4, y5, y6, y7, y8] ∧ ExtB tb G G' ∧ G'.get tb = some (.dct (kv3 ws d (full names d i))))
    (fun i σ G' hi ⟨y4, y5, y6, y7, y8, e0, b, p⟩ => by
      subst e0
      have hlen : (full names d i).length ≤ 5000 := by
        have h1 := full_len names d hd i (by omega)
        have h2 : 2 ^ (d + 1) * (names.length + 1) ≤ 16 * 101 := Nat.mul_le_mul (by rw [Nat.pow_succ]; have := pow2_le hd; omega) (by omega)
        omega
      obtain ⟨y5', y6', y7', y8', G2, h1, h2, h3⟩ := level_ok k ws names hm hn hne hnl d (d - i) ab tb hd (Nat.sub_le _ _) (full names d i) y5 y6 y7 y8 G' (by rw [b.eq ab (Hh.get_lt ha) nab]; exact ha) p nab
        (fun h t a ht ham => (mem_full (by omega)).mpr ⟨by simp only; omega, by simp only; omega, ht, ham⟩)
        (fun q hq => by have := (mem_full (by omega)).mp hq; omega) hlen
      refine ⟨_, [Ws ws, .int d, .ref ab, .ref tb, .int ((d - i : Nat) : Int), y5, y6, y7, y8], _, G2, down_at hi G', rfl, .inl h1, _, _, _, _, _, rfl, b.trans h2, ?_⟩
      rw [full_succ]
      exact h3)
    (fun σ G' _ => by simp [Src.at]) (d + 1) 0 [Ws ws, .int d, .ref ab, .ref tb, y4, y5, y6, y7, y8] G (by omega) ⟨y4, y5, y6, y7, y8, rfl, ExtB.refl _ _, hg⟩
  exact ⟨y4', y5', y6', y7', y8', G', hf, b, p⟩
theorem add_lst {G : Hh} {a b : Nat} {xs ys : List D} (h1 : G.get a = some (.lst xs)) (h2 : G.get b = some (.lst ys)) (hl : xs.length + ys.length ≤ sizeMax) : bin .add (.ref a) (.ref b) G = .ok (.ref G.n) (G.new (.lst (xs ++ ys))) := by
  simp only [bin, h1, h2, hl, if_true]
def costS : S := .for .range (.cons (.var 1) (.cons (.neg (.con (.int (1)))) (.cons (.neg (.con (.int (1)))) .nil))) (.nm 4) levelB
theorem cost_fin (C : Cl) (w : D) (d ab tb : Nat) (hd : d ≤ 3) (r : Res (Fl × List D)) (G : Hh) (hf : forN (.rng (d : Int) (-1) (d + 1)) (.nm 4) (fun σ' => evS C levelB σ') (d + 1) 0 [w, .int d, .ref ab, .ref tb, .und, .und, .und, .und, .und] G = r) : evS C costS [w, .int d, .ref ab, .ref tb, .und, .und, .und, .und, .und] G = r := by
  have hc : evE C (.cons (.var 1) (.cons (.neg (.con (.int (1)))) (.cons (.neg (.con (.int (1)))) .nil))) [w, .int d, .ref ab, .ref tb, .und, .und, .und, .und, .und] G = .ok (.tup [.int (d : Int), .int (-1), .int (-1)]) G := by
    simp only [ev_cons, ev_nil, ev_neg, ev_con, ev_var, List.getElem?_cons_succ, List.getElem?_cons_zero, rdv_int, bindR_ok, tupR_tup]
  rw [costS, es_for, hc, bindR_ok, src_down d hd, optR_some, bindR_ok]
  exact hf
theorem cost_ok (k : Nat) (ws : List Int) (h1 : 1 ≤ ws.length) (h8 : ws.length ≤ 8) (G : Hh) : ∃ (r : Nat) (kvs : List (D × D)) (G' : Hh), callN PP (k + 2) 2 [Ws ws] G = .ok (.ref r) G' ∧ Ext G G' ∧ G.n ≤ r ∧ G'.get r = some (.dct kvs) ∧ Tbl (bitsN ws.length) (once ws) (fun l t a => co ws (bitsN ws.length - l) t a) kvs := by
  have hd : bitsN ws.length ≤ 3 := by unfold bitsN; split <;> (try split) <;> (try split) <;> omega
  have hol := once_le ws
  have hne : once ws ≠ [] := fun z => by
    obtain ⟨x, hx⟩ : ∃ x, x ∈ ws := ⟨ws[0], List.getElem_mem _⟩
    have := (once_mem ws x).mpr hx
    rw [z] at this
    simp at this
  have e1 := Ext.new G (.lst [.non])
  have g1 : (G.new (.lst [.non])).get G.n = some (.lst [.non]) := Hh.get_new_self _
  have n1 : (G.new (.lst [.non])).n = G.n + 1 := rfl
  have hb := bits_ok k G ws.length h1 h8
  generalize hG1 : G.new (.lst [.non]) = G1 at e1 g1 n1
  obtain ⟨G2, ha, e2, n2, g2⟩ := answers_ok k ws (by omega) G1
  have hadd := add_lst (e2.get g1) g2 (by rw [List.length_map]; exact Nat.le_trans (by simp; omega : _ ≤ 1000) (by decide))
  have e3 := Ext.new G2 (.lst ([.non] ++ (once ws).map D.int))
  have g3 : (G2.new (.lst ([.non] ++ (once ws).map D.int))).get G2.n = some (.lst ((above (once ws)).map optD)) := by
    rw [Hh.get_new_self]
    simp [above, optD, Function.comp_def]
  have n3 : (G2.new (.lst ([.non] ++ (once ws).map D.int))).n = G2.n + 1 := rfl
  generalize G2.new (.lst ([.non] ++ (once ws).map D.int)) = G3 at hadd e3 g3 n3
  have e4 := Ext.new G3 (.dct [])
  have g4 : (G3.new (.dct [])).get G3.n = some (.dct []) := Hh.get_new_self _
  have hdn : ∀ (C : Cl) (d0 d1 d2 : D), evS C (.asg (.nm 3) .dnew) [d0, d1, d2, .und, .und, .und, .und, .und, .und] G3 = .ok (.nx, [d0, d1, d2, .ref G3.n, .und, .und, .und, .und, .und]) (G3.new (.dct [])) := fun _ _ _ _ => rfl
  generalize G3.new (.dct []) = G4 at e4 g4 hdn
  obtain ⟨y4, y5, y6, y7, y8, G5, hf, b, p⟩ := outer_ok k ws (once ws) (once_mem ws) (once_nodup ws) hne (by omega) (bitsN ws.length) G2.n G3.n hd .und .und .und .und .und G4 (e4.get g3) g4 (by omega)
  refine ⟨G3.n, _, G5, ?_, ?_, ?_, p, tbl_full ws (once ws) _ hd⟩
  · rw [callN_at (k + 1) 2 q2 _ _ rfl, runF_eq rfl]
    have fin := cost_fin ⟨callN PP (k + 1)⟩ (Ws ws) (bitsN ws.length) G2.n G3.n hd _ G4 hf
    generalize callN PP (k + 1) = cf at hb ha fin
    have s0 : evS ⟨cf⟩ (.asg (.nm 1) (.call 0 (.cons (.bfn .len (.cons (.var 0) .nil)) .nil))) [Ws ws, .und, .und, .und, .und, .und, .und, .und, .und] G = .ok (.nx, [Ws ws, .int (bitsN ws.length), .und, .und, .und, .und, .und, .und, .und]) G := by
      simp only [es_asg, ev_call, ev_cons, ev_nil, ev_bfn, ev_var, List.getElem?_cons_zero, rdv_tup, bindR_ok, tupR_tup, bfn_len_tup, List.length_map, hb, asgT, List.length_cons, List.length_nil, Nat.reduceAdd, Nat.reduceLT, if_true, optR_some, List.set_cons_succ, List.set_cons_zero]
    have sz1 : (1 ≤ sizeMax) = True := eq_true (by decide)
    have s1 : evS ⟨cf⟩ (.asg (.nm 2) (.bin .add (.lst (.cons (.con .non) .nil)) (.call 1 (.cons (.var 0) .nil)))) [Ws ws, .int (bitsN ws.length), .und, .und, .und, .und, .und, .und, .und] G = .ok (.nx, [Ws ws, .int (bitsN ws.length), .ref G2.n, .und, .und, .und, .und, .und, .und]) G3 := by
      simp only [es_asg, ev_bin, ev_lst, ev_call, ev_cons, ev_nil, ev_con, ev_var, List.getElem?_cons_zero, rdv_tup, bindR_ok, tupR_tup, List.length_cons, List.length_nil, Nat.reduceAdd, sz1, if_true, hG1, ha]
      rw [hadd]
      rfl
    show outF (evS _ (.seq (.asg (.nm 1) (.call 0 (.cons (.bfn .len (.cons (.var 0) .nil)) .nil))) (.seq (.asg (.nm 2) (.bin .add (.lst (.cons (.con .non) .nil)) (.call 1 (.cons (.var 0) .nil)))) (.seq (.asg (.nm 3) .dnew) (.seq costS (.ret (.var 3)))))) [Ws ws, .und, .und, .und, .und, .und, .und, .und, .und] G) = _
    rw [seq_nx s0, seq_nx s1, seq_nx (hdn _ _ _ _), seq_nx fin]
    rfl
  · refine ⟨Nat.le_trans (e1.trans (e2.trans (e3.trans e4))).le b.le, fun a h => ?_⟩
    have := e1.le; have := e2.le; have := e3.le
    rw [b.eq a (by have := e4.le; omega) (by omega), (e1.trans (e2.trans (e3.trans e4))).eq a h]
  · have := e1.le; have := e2.le; have := e3.le; omega
end Ev

/-! K60p: the heads. -/
namespace Ev
open PySem
def headD (p : Nat × Nat) : D := .tup [.int p.1, .int p.2]
def rowH (l j : Nat) : List (Nat × Nat) := (List.range j).map fun h => (l, h)
def headsL (i : Nat) : List (Nat × Nat) := (List.range i).flatMap fun l => rowH l (2 ^ l)
theorem headsL_succ (i : Nat) : headsL (i + 1) = headsL i ++ rowH i (2 ^ i) := by
  simp only [headsL, List.range_succ, List.flatMap_append, List.flatMap_cons, List.flatMap_nil, List.append_nil]
theorem mem_heads {i : Nat} {p : Nat × Nat} : p ∈ headsL i ↔ p.1 < i ∧ p.2 < 2 ^ p.1 := by
  obtain ⟨l, h⟩ := p
  simp only [headsL, rowH, List.mem_flatMap, List.mem_range, List.mem_map]
  constructor
  · rintro ⟨q, hq, t, ht, e⟩
    injection e with e1 e2
    subst e1 e2
    exact ⟨hq, ht⟩
  · rintro ⟨h1, h2⟩
    exact ⟨l, h1, h, h2, rfl⟩
theorem headsL_len (i : Nat) : (headsL i).length + 1 = 2 ^ i := by
  induction i with
  | zero => rfl
  | succ i ih =>
    rw [headsL_succ, List.length_append, Nat.pow_succ]
    simp only [rowH, List.length_map, List.length_range]
    omega
def rowE : E := .tup (.cons (.var 3) (.cons (.var 4) .nil))
theorem row_comp (C : Cl) (d0 d1 d2 : D) (l mm : Nat) (hM : mm ≤ 1000) (G : Hh) : compN (.rng 0 1 mm) (.nm 4) [d0, d1, d2, .int l, .und] (fun σ' acc => M.bind (evE C rowE σ') fun y => pushM acc y) mm 0 [] G = .ok ((rowH l mm).map headD) G := by
  obtain ⟨ys, G2, hc, rfl, rfl⟩ := compN_inv (.rng 0 1 mm) (.nm 4) [d0, d1, d2, .int l, .und] (fun σ' acc => M.bind (evE C rowE σ') fun y => pushM acc y) mm (fun i a G' => a = (rowH l i).map headD ∧ G' = G)
    (fun i a G' hi ⟨e1, e2⟩ => by
      subst e1 e2
      refine ⟨_, [d0, d1, d2, .int l, .int (i : Int)], _, G', rng_at hi G', rfl, ?_, rfl, rfl⟩
      have hl : ((rowH l i).map headD).length < sizeMax := by
        simp only [rowH, List.length_map, List.length_range]
        exact Nat.lt_of_le_of_lt (by omega : _ ≤ 1000) (by decide)
      have sz2 : (2 ≤ sizeMax) = True := eq_true (by decide)
      have hE : evE C rowE [d0, d1, d2, .int l, .int (i : Int)] G' = .ok (headD (l, i)) G' := by
        simp only [rowE, ev_tup, ev_cons, ev_nil, ev_var, List.getElem?_cons_succ, List.getElem?_cons_zero, rdv_int, bindR_ok, tupR_tup, List.length_cons, List.length_nil, Nat.reduceAdd, sz2, if_true]
        rfl
      rw [bind_eq, hE, bindR_ok]
      simp only [pushM, hl, if_true, M.pure]
      simp only [rowH, List.range_succ, List.map_append, List.map_cons, List.map_nil])
    (fun a G' _ => rng_end mm G') mm 0 [] G (by omega) ⟨rfl, rfl⟩
  exact hc
end Ev

/-! K60q: all heads. -/
namespace Ev
open PySem
def rowC : E := .comp [4] .range (.cons (.var 2) .nil) (.nm 4) false .bad rowE
def headB : S := .seq (.asg (.nm 1) (.bin .add (.var 1) rowC)) (.asg (.nm 2) (.bin .mul (.con (.int (2))) (.var 2)))
theorem rowC_ok (C : Cl) (d0 d1 y4 : D) (l mm : Nat) (hM : mm ≤ 1000) (G : Hh) : evE C rowC [d0, d1, .int mm, .int l, y4] G = .ok (.ref G.n) (G.new (.lst ((rowH l mm).map headD))) := by
  have hsrc : evE C (.cons (.var 2) .nil) [d0, d1, .int mm, .int l, y4] G = .ok (.tup [.int mm]) G := rfl
  have hc := row_comp C d0 d1 (.int mm) l mm hM G
  rw [rowC, comp_ev, hsrc, bindR_ok, src_rngN (n := mm) hM G, optR_some, bindR_ok]
  show bindR (compN (.rng 0 1 mm) (.nm 4) [d0, d1, .int mm, .int l, .und] (fun σ' acc => M.bind (evE C rowE σ') fun y => pushM acc y) mm 0 [] G) _ = _
  rw [hc, bindR_ok]
theorem head_step (C : Cl) (d0 y4 : D) (a l mm : Nat) (hM : mm ≤ 1000) (xs : List D) (hx : xs.length ≤ 1000) (G : Hh) (ha : G.get a = some (.lst xs)) :
    ∃ G', evS C headB [d0, .ref a, .int mm, .int l, y4] G = .ok (.nx, [d0, .ref (G.n + 1), .int ((2 * mm : Nat) : Int), .int l, y4]) G' ∧ Ext G G' ∧ G'.n = G.n + 2 ∧ G'.get (G.n + 1) = some (.lst (xs ++ (rowH l mm).map headD)) := by
  have hr := rowC_ok C d0 (.ref a) y4 l mm hM G
  have e1 := Ext.new G (.lst ((rowH l mm).map headD))
  have g1 : (G.new (.lst ((rowH l mm).map headD))).get G.n = some (.lst ((rowH l mm).map headD)) := Hh.get_new_self _
  have n1 : (G.new (.lst ((rowH l mm).map headD))).n = G.n + 1 := rfl
  generalize G.new (.lst ((rowH l mm).map headD)) = G1 at hr e1 g1 n1
  have hl : xs.length + ((rowH l mm).map headD).length ≤ sizeMax := by
    simp only [rowH, List.length_map, List.length_range]
    exact Nat.le_trans (by omega : _ ≤ 2000) (by decide)
  have hadd := add_lst (e1.get ha) g1 hl
  rw [n1] at hadd
  refine ⟨_, ?_, e1.trans (Ext.new G1 (.lst (xs ++ (rowH l mm).map headD))), by rw [Hh.n_new, n1], by rw [← n1]; exact Hh.get_new_self _⟩
  have h1 : evS C (.asg (.nm 1) (.bin .add (.var 1) rowC)) [d0, .ref a, .int mm, .int l, y4] G = .ok (.nx, [d0, .ref (G.n + 1), .int mm, .int l, y4]) (G1.new (.lst (xs ++ (rowH l mm).map headD))) := by
    have hv : evE C (.var 1) [d0, .ref a, .int mm, .int l, y4] G = .ok (.ref a) G := rfl
    rw [es_asg, ev_bin, hv, bindR_ok, hr, bindR_ok, hadd, bindR_ok]
    rfl
  rw [headB, seq_nx h1, es_asg]
  have e2 : ((2 * mm : Nat) : Int) = 2 * (mm : Int) := by omega
  rw [e2]
  simp only [ev_bin, ev_con, ev_var, List.getElem?_cons_succ, List.getElem?_cons_zero, rdv_int, bindR_ok, bin_mul2, asgT, List.length_cons, List.length_nil, Nat.reduceAdd, Nat.reduceLT, if_true, optR_some, List.set_cons_succ, List.set_cons_zero]
theorem head_loop (C : Cl) (d0 y3 y4 : D) (a n : Nat) (hn : n ≤ 4) (G : Hh) (ha : G.get a = some (.lst [])) :
    ∃ a' m' y3' y4' G', forN (.rng 0 1 n) (.nm 3) (fun σ' => evS C headB σ') n 0 [d0, .ref a, .int 1, y3, y4] G = .ok (.nx, [d0, .ref a', m', y3', y4']) G' ∧ ExtB a G G' ∧ (a' = a ∨ G.n ≤ a') ∧ G'.get a' = some (.lst ((headsL n).map headD)) := by
  obtain ⟨σ', G', hf, a', y3', y4', rfl, b, q, p⟩ := forN_inv (.rng 0 1 n) (.nm 3) (fun σ' => evS C headB σ') n
    (fun i σ G' => ∃ a' y3 y4, σ = [d0, .ref a', .int ((2 ^ i : Nat) : Int), y3, y4] ∧ Ext G G' ∧ (a' = a ∨ G.n ≤ a') ∧ G'.get a' = some (.lst ((headsL i).map headD)))
    (fun i σ G' hi ⟨a', y3, y4, e0, b, q, p⟩ => by
      subst e0
      have h8 := pow2_le (l := i) (by omega)
      have hlen : ((headsL i).map headD).length ≤ 1000 := by
        rw [List.length_map]
        have := headsL_len i
        omega
      obtain ⟨G2, h1, h2, h3, h4⟩ := head_step C d0 y4 a' i (2 ^ i) (by omega) _ hlen G' p
      have e2 : 2 ^ (i + 1) = 2 * 2 ^ i := by rw [Nat.pow_succ]; omega
      refine ⟨_, [d0, .ref a', .int ((2 ^ i : Nat) : Int), .int (i : Int), y4], _, G2, rng_at hi G', rfl, .inl h1, _, _, _, by rw [e2], b.trans h2, .inr (by have := b.le; omega), ?_⟩
      rw [headsL_succ, List.map_append]
      exact h4)
    (fun σ G' _ => rng_end n G') n 0 [d0, .ref a, .int 1, y3, y4] G (by omega) ⟨a, y3, y4, rfl, Ext.refl _, .inl rfl, ha⟩
  exact ⟨a', _, y3', y4', G', hf, b.b, q, p⟩
theorem head_fin (C : Cl) (d a : Nat) (hd : d ≤ 3) (r : Res (Fl × List D)) (G : Hh) (hf : forN (.rng 0 1 (d + 1)) (.nm 3) (fun σ' => evS C headB σ') (d + 1) 0 [.int d, .ref a, .int 1, .und, .und] G = r) :
    evS C (.for .range (.cons (.bin .add (.var 0) (.con (.int (1)))) .nil) (.nm 3) headB) [.int d, .ref a, .int 1, .und, .und] G = r := by
  have hc : evE C (.cons (.bin .add (.var 0) (.con (.int (1)))) .nil) [.int d, .ref a, .int 1, .und, .und] G = .ok (.tup [.int ((d + 1 : Nat) : Int)]) G := by
    have e : ((d + 1 : Nat) : Int) = (d : Int) + 1 := by omega
    rw [e]
    simp only [ev_cons, ev_nil, ev_bin, ev_con, ev_var, List.getElem?_cons_zero, rdv_int, bindR_ok, bin_add, tupR_tup]
  rw [es_for, hc, bindR_ok, src_rngN (n := d + 1) (by omega) G, optR_some, bindR_ok]
  exact hf
theorem heads_ok (k d : Nat) (hd : d ≤ 3) (G : Hh) : ∃ a G', callN PP (k + 1) 15 [.int d] G = .ok (.ref a) G' ∧ Ext G G' ∧ G.n ≤ a ∧ G'.get a = some (.lst ((headsL (d + 1)).map headD)) := by
  have e1 := Ext.new G (.lst [])
  have g1 : (G.new (.lst [])).get G.n = some (.lst []) := Hh.get_new_self _
  have s0 : ∀ C : Cl, evS C (.asg (.nm 1) (.lst .nil)) [.int d, .und, .und, .und, .und] G = .ok (.nx, [.int d, .ref G.n, .und, .und, .und]) (G.new (.lst [])) := fun _ => rfl
  generalize G.new (.lst []) = G1 at e1 g1 s0
  have s1 : ∀ C : Cl, evS C (.asg (.nm 2) (.con (.int (1)))) [.int d, .ref G.n, .und, .und, .und] G1 = .ok (.nx, [.int d, .ref G.n, .int 1, .und, .und]) G1 := fun _ => rfl
  obtain ⟨a', m', y3, y4, G2, hf, b, q, p⟩ := head_loop ⟨callN PP k⟩ (.int d) .und .und G.n (d + 1) (by omega) G1 g1
  have fin := head_fin ⟨callN PP k⟩ d G.n hd _ G1 hf
  refine ⟨a', G2, ?_, ⟨Nat.le_trans e1.le b.le, fun x h => ?_⟩, ?_, p⟩
  · rw [callN_at k 15 q15 _ _ rfl, runF_eq rfl]
    show outF (evS _ (.seq (.asg (.nm 1) (.lst .nil)) (.seq (.asg (.nm 2) (.con (.int (1)))) (.seq (.for .range (.cons (.bin .add (.var 0) (.con (.int (1)))) .nil) (.nm 3) headB) (.ret (.var 1))))) [.int d, .und, .und, .und, .und] G) = _
    rw [seq_nx (s0 _), seq_nx (s1 _), seq_nx fin]
    rfl
  · rw [b.eq x (Nat.lt_of_lt_of_le h e1.le) (by omega), e1.eq x h]
  · have := e1.le; omega
end Ev

/-! K60r: the pool's start, a pick. -/
namespace Ev
open PySem
theorem pool_ok (k : Nat) (ns : List Int) : ∃ G', callN PP (k + 3) 8 [.ref 0] (Hh.empty.new (.frz (ns.map D.int))) = .ok (.ref 1) G' ∧ Pool 1 G' := by
  have g0 : (Hh.empty.new (.frz (ns.map D.int))).get 0 = some (.frz (ns.map D.int)) := rfl
  have hn : (Hh.empty.new (.frz (ns.map D.int))).n = 1 := rfl
  generalize Hh.empty.new (.frz (ns.map D.int)) = G at g0 hn
  obtain ⟨r, hr⟩ := rest_ok k 0 0 (Int.le_refl 0) ns G g0
  have e := Ext.new G (plO 0 r 0)
  have g1 : (G.new (plO 0 r 0)).get G.n = some (plO 0 r 0) := Hh.get_new_self _
  rw [hn] at g1
  refine ⟨G.new (plO 0 r 0), ?_, by decide, ⟨ns, e.get g0⟩, 0, r, 0, Int.le_refl 0, g1⟩
  rw [callN_at (k + 2) 8 q8 _ _ rfl, runF_eq rfl]
  generalize callN PP (k + 2) = cf at hr
  have sz4 : (4 ≤ sizeMax) = True := eq_true (by decide)
  show outF (evS ⟨cf⟩ q8.body [.ref 0] G) = _
  simp only [q8, es_ret, ev_lst, ev_call, ev_cons, ev_nil, ev_con, ev_var, List.getElem?_cons_zero, rdv_ref, bindR_ok, tupR_tup, hr, List.length_cons, List.length_nil, Nat.reduceAdd, sz4, if_true, outF_rt, hn, plO]
theorem pick_ok (k q a : Nat) (xs : List D) (h0 : xs ≠ []) (h1 : xs.length < 1073741824) (G : Hh) (hP : Pool q G) (ha : G.get a = some (.lst xs)) (hqa : q ≠ a) :
    ∃ (j : Nat) (hj : j < xs.length) (G' : Hh), callN PP (k + 4) 11 [.ref q, .ref a] G = .ok xs[j] G' ∧ But q G G' ∧ Pool q G' := by
  have lp : 0 < xs.length := by cases xs with | nil => exact absurd rfl h0 | cons x r => simp
  obtain ⟨v, G', v0, v1, hd, b, p⟩ := draw_ok k q (xs.length : Int) ⟨by omega, by omega⟩ G hP
  obtain ⟨j, rfl⟩ : ∃ j : Nat, v = j := ⟨v.toNat, by omega⟩
  have hj : j < xs.length := by omega
  have ha' : G'.get a = some (.lst xs) := by rw [b.eq a (Ne.symm hqa)]; exact ha
  have hx := idx_lst ha' hj
  have hl := len_lst ha
  refine ⟨j, hj, G', ?_, b, p⟩
  rw [callN_at (k + 3) 11 q11 _ _ rfl, runF_eq rfl]
  generalize callN PP (k + 3) = cf at hd
  show outF (evS ⟨cf⟩ q11.body [.ref q, .ref a] G) = _
  simp only [q11, es_ret, ev_bin, ev_call, ev_bfn, ev_cons, ev_nil, ev_var, List.getElem?_cons_succ, List.getElem?_cons_zero, rdv_ref, bindR_ok, tupR_tup, hl, hd, hx, outF_rt]
end Ev

/-! K60s: the rows, as mathematics. -/
namespace Ev
open PySem
/-- the sum of both halves' costs -/
def both (ws : List Int) (r t : Nat) (a : Option Int) : Nat := co ws r (2 * t) a + co ws r (2 * t + 1) a
/-- the first place of the least -/
def argm (P : Int → Nat) : List Int → Int → Int
  | [], b => b
  | x :: xs, b => argm P xs (if P x < P b then x else b)
theorem argm_spec (P : Int → Nat) : ∀ (xs : List Int) (b : Int), P (argm P xs b) ≤ P b ∧ (∀ x ∈ xs, P (argm P xs b) ≤ P x) ∧ (argm P xs b = b ∨ argm P xs b ∈ xs)
  | [], b => ⟨Nat.le_refl _, fun x h => by simp at h, .inl rfl⟩
  | y :: xs, b => by
    obtain ⟨h1, h2, h3⟩ := argm_spec P xs (if P y < P b then y else b)
    simp only [argm]
    by_cases h : P y < P b
    · rw [if_pos h] at h1 h2 h3 ⊢
      refine ⟨by omega, fun x hx => ?_, ?_⟩
      · rcases List.mem_cons.mp hx with rfl | hx
        · exact h1
        · exact h2 x hx
      · rcases h3 with h3 | h3
        · right; rw [h3]; exact List.mem_cons_self
        · right; exact List.mem_cons_of_mem _ h3
    · rw [if_neg h] at h1 h2 h3 ⊢
      refine ⟨h1, fun x hx => ?_, ?_⟩
      · rcases List.mem_cons.mp hx with rfl | hx
        · omega
        · exact h2 x hx
      · rcases h3 with h3 | h3
        · exact .inl h3
        · right; exact List.mem_cons_of_mem _ h3
def least (P : Int → Nat) (names : List Int) : Int := match names with
  | [] => 0
  | x :: xs => argm P xs x
theorem least_spec (P : Int → Nat) (names : List Int) (hne : names ≠ []) : least P names ∈ names ∧ ∀ x ∈ names, P (least P names) ≤ P x := by
  match names, hne with
  | x :: xs, _ =>
    obtain ⟨h1, h2, h3⟩ := argm_spec P xs x
    refine ⟨?_, fun y hy => ?_⟩
    · rcases h3 with h3 | h3
      · show argm P xs x ∈ _
        rw [h3]; exact List.mem_cons_self
      · exact List.mem_cons_of_mem _ h3
    · rcases List.mem_cons.mp hy with rfl | hy
      · exact h1
      · exact h2 y hy
theorem co_succ (ws names : List Int) (hm : ∀ x, x ∈ names ↔ x ∈ ws) (hne : names ≠ []) (r t : Nat) (a : Option Int) : co ws (r + 1) t a = min (both ws r t a) (1 + both ws r t (some (least (fun x => both ws r t (some x)) names))) := by
  obtain ⟨h1, h2⟩ := least_spec (fun x => both ws r t (some x)) names hne
  have := fold_min_eq (fun x => both ws r t (some x)) ws names hm _ h2 ⟨_, h1, rfl⟩ (both ws r t a)
  rw [← this, co]
  congr 1
  funext b x
  simp only [both]
  omega
/-- the rows below a node, as they are met -/
def rowsOf (ws names : List Int) (d : Nat) : Nat → Nat → Option Int → List Row
  | 0, t, a => if hit ws t a = 0 then [] else [(d, t, ws.getD t 0)]
  | r + 1, t, a =>
    if co ws (r + 1) t a < both ws r t a then
      let b := least (fun x => both ws r t (some x)) names
      (d - (r + 1), t, b) :: (rowsOf ws names d r (2 * t + 1) (some b) ++ rowsOf ws names d r (2 * t) (some b))
    else rowsOf ws names d r (2 * t + 1) a ++ rowsOf ws names d r (2 * t) a
theorem rows_len (ws names : List Int) (hm : ∀ x, x ∈ names ↔ x ∈ ws) (hne : names ≠ []) (d : Nat) : ∀ (r t : Nat) (a : Option Int), (rowsOf ws names d r t a).length = co ws r t a
  | 0, t, a => by
    have := hit_le ws t a
    simp only [rowsOf, co]
    split
    · rename_i h; rw [h]; rfl
    · simp; omega
  | r + 1, t, a => by
    have hc := co_succ ws names hm hne r t a
    simp only [rowsOf]
    split
    · rename_i h
      simp only [List.length_cons, List.length_append, rows_len ws names hm hne d r]
      have : co ws (r + 1) t a = 1 + both ws r t (some (least (fun x => both ws r t (some x)) names)) := by omega
      rw [this]
      simp only [both]
      omega
    · rename_i h
      simp only [List.length_append, rows_len ws names hm hne d r]
      have : co ws (r + 1) t a = both ws r t a := by omega
      rw [this]
      simp only [both]
      omega
/-- a row is for a value -/
def Hits (d v : Nat) (x : Row) : Prop := v / 2 ^ (d - x.1) = x.2.1
theorem rows_in (ws names : List Int) (d : Nat) : ∀ (r t : Nat) (a : Option Int), r ≤ d → ∀ x ∈ rowsOf ws names d r t a, d - r ≤ x.1 ∧ x.1 ≤ d ∧ x.2.1 / 2 ^ (x.1 - (d - r)) = t
  | 0, t, a, hr, x, hx => by
    simp only [rowsOf] at hx
    split at hx
    · simp at hx
    · simp only [List.mem_cons, List.not_mem_nil, or_false] at hx
      subst hx
      simp
  | r + 1, t, a, hr, x, hx => by
    have below : ∀ (t' : Nat) (b : Option Int), (t' = 2 * t ∨ t' = 2 * t + 1) → x ∈ rowsOf ws names d r t' b → d - (r + 1) ≤ x.1 ∧ x.1 ≤ d ∧ x.2.1 / 2 ^ (x.1 - (d - (r + 1))) = t := fun t' b ht hx => by
      obtain ⟨h1, h2, h3⟩ := rows_in ws names d r t' b (by omega) x hx
      refine ⟨by omega, h2, ?_⟩
      have e : x.1 - (d - (r + 1)) = (x.1 - (d - r)) + 1 := by omega
      rw [e, Nat.pow_succ, ← Nat.div_div_eq_div_mul, h3]
      rcases ht with rfl | rfl <;> omega
    simp only [rowsOf] at hx
    split at hx
    · rcases List.mem_cons.mp hx with rfl | hx
      · exact ⟨Nat.le_refl _, Nat.sub_le _ _, by simp⟩
      · rcases List.mem_append.mp hx with hx | hx
        · exact below _ _ (.inr rfl) hx
        · exact below _ _ (.inl rfl) hx
    · rcases List.mem_append.mp hx with hx | hx
      · exact below _ _ (.inr rfl) hx
      · exact below _ _ (.inl rfl) hx
end Ev

/-! K60t: the rows tell what is wished. -/
namespace Ev
open PySem
def BestIs (d v : Nat) (L : List Row) : Option (Nat × Int) → Prop
  | none => ∀ x ∈ L, ¬ Hits d v x
  | some c => (∃ x ∈ L, Hits d v x ∧ x.1 = c.1 ∧ x.2.2 = c.2) ∧ ∀ x ∈ L, Hits d v x → x.1 ≤ c.1
theorem best_fold (d v : Nat) : ∀ (rows L : List Row) (o : Option (Nat × Int)), BestIs d v L o → BestIs d v (L ++ rows) (rows.foldl (stepR d v) o)
  | [], L, o, h => by rw [List.append_nil]; exact h
  | x :: rows, L, o, h => by
    have e : L ++ x :: rows = (L ++ [x]) ++ rows := by simp
    rw [e, List.foldl_cons]
    refine best_fold d v rows (L ++ [x]) _ ?_
    unfold stepR
    by_cases hx : v / 2 ^ (d - x.1) = x.2.1
    · rw [decide_eq_true hx, Bool.true_and]
      cases o with
      | none =>
        refine ⟨⟨x, by simp, hx, rfl, rfl⟩, fun y hy hh => ?_⟩
        rcases List.mem_append.mp hy with hy | hy
        · exact absurd hh (h y hy)
        · simp only [List.mem_cons, List.not_mem_nil, or_false] at hy
          subst hy
          exact Nat.le_refl _
      | some c =>
        obtain ⟨⟨y, hy, q1, q2, q3⟩, q4⟩ := h
        by_cases hl : c.1 < x.1
        · simp only [decide_eq_true hl, if_true]
          refine ⟨⟨x, by simp, hx, rfl, rfl⟩, fun z hz hh => ?_⟩
          rcases List.mem_append.mp hz with hz | hz
          · have := q4 z hz hh
            show z.1 ≤ x.1
            omega
          · simp only [List.mem_cons, List.not_mem_nil, or_false] at hz
            subst hz
            exact Nat.le_refl _
        · simp only [decide_eq_false hl, Bool.false_eq_true, if_false]
          refine ⟨⟨y, List.mem_append_left _ hy, q1, q2, q3⟩, fun z hz hh => ?_⟩
          rcases List.mem_append.mp hz with hz | hz
          · exact q4 z hz hh
          · simp only [List.mem_cons, List.not_mem_nil, or_false] at hz
            subst hz
            omega
    · rw [decide_eq_false hx, Bool.false_and, if_neg Bool.false_ne_true]
      cases o with
      | none =>
        intro y hy
        rcases List.mem_append.mp hy with hy | hy
        · exact h y hy
        · simp only [List.mem_cons, List.not_mem_nil, or_false] at hy
          subst hy
          exact hx
      | some c =>
        obtain ⟨⟨y, hy, q1, q2, q3⟩, q4⟩ := h
        refine ⟨⟨y, List.mem_append_left _ hy, q1, q2, q3⟩, fun z hz hh => ?_⟩
        rcases List.mem_append.mp hz with hz | hz
        · exact q4 z hz hh
        · simp only [List.mem_cons, List.not_mem_nil, or_false] at hz
          subst hz
          exact absurd hh hx
theorem bestR_is (d v : Nat) (rows : List Row) : BestIs d v rows (bestR d v rows) := by
  have := best_fold d v rows [] none (fun x hx => by simp at hx)
  rw [List.nil_append] at this
  exact this
theorem BestIs.mem {d v : Nat} {L L' : List Row} {o : Option (Nat × Int)} (h : BestIs d v L o) (e : ∀ x, Hits d v x → (x ∈ L ↔ x ∈ L')) : BestIs d v L' o := by
  cases o with
  | none => exact fun x hx hh => h x ((e x hh).mpr hx) hh
  | some c =>
    obtain ⟨⟨y, hy, q1, q2, q3⟩, q4⟩ := h
    exact ⟨⟨y, (e y q1).mp hy, q1, q2, q3⟩, fun z hz hh => q4 z ((e z hh).mpr hz) hh⟩
/-- what is told of a value below a node -/
def ToldAs (a : Option Int) (w : Int) : Option (Nat × Int) → Prop
  | none => a = some w
  | some c => c.2 = w
theorem hits_child {ws names : List Int} {d r t v : Nat} {a : Option Int} (hr : r ≤ d) {x : Row} (hx : x ∈ rowsOf ws names d r t a) (hh : Hits d v x) : v / 2 ^ r = t := by
  obtain ⟨h1, h2, h3⟩ := rows_in ws names d r t a hr x hx
  have hh' : v / 2 ^ (d - x.1) = x.2.1 := hh
  rw [← h3, ← hh', Nat.div_div_eq_div_mul, ← Nat.pow_add]
  congr 2
  omega
theorem rows_tell (ws names : List Int) (d : Nat) : ∀ (r t : Nat) (a : Option Int) (v : Nat) (hv : v < ws.length), r ≤ d → v / 2 ^ r = t → ∀ o, BestIs d v (rowsOf ws names d r t a) o → ToldAs a ws[v] o
  | 0, t, a, v, hv, hr, ht, o, h => by
    simp only [Nat.pow_zero, Nat.div_one] at ht
    subst ht
    simp only [rowsOf] at h
    have g : ws[v]? = some ws[v] := List.getElem?_eq_getElem hv
    by_cases e : hit ws v a = 0
    · rw [if_pos e] at h
      cases o with
      | none =>
        simp only [hit, g] at e
        split at e
        · rename_i q; exact q.symm
        · omega
      | some c => obtain ⟨⟨x, hx, _⟩, _⟩ := h; simp at hx
    · rw [if_neg e] at h
      have hh : Hits d v (d, v, ws.getD v 0) := by simp [Hits]
      cases o with
      | none => exact absurd hh (h _ List.mem_cons_self)
      | some c =>
        obtain ⟨⟨x, hx, q1, q2, q3⟩, q4⟩ := h
        simp only [List.mem_cons, List.not_mem_nil, or_false] at hx
        subst hx
        show c.2 = ws[v]
        rw [← q3]
        simp [List.getD_eq_getElem?_getD, g]
  | r + 1, t, a, v, hv, hr, ht, o, h => by
    have hc : v / 2 ^ r = 2 * t ∨ v / 2 ^ r = 2 * t + 1 := by
      rw [Nat.pow_succ, ← Nat.div_div_eq_div_mul] at ht
      omega
    have only : ∀ (b : Option Int) (x : Row), Hits d v x → (x ∈ rowsOf ws names d r (2 * t + 1) b ++ rowsOf ws names d r (2 * t) b ↔ x ∈ rowsOf ws names d r (v / 2 ^ r) b) := fun b x hh => by
      rw [List.mem_append]
      constructor
      · rintro (hx | hx)
        · rw [hits_child (by omega) hx hh]; exact hx
        · rw [hits_child (by omega) hx hh]; exact hx
      · intro hx
        rcases hc with e | e
        · rw [e] at hx; exact .inr hx
        · rw [e] at hx; exact .inl hx
    simp only [rowsOf] at h
    split at h
    · generalize least (fun x => both ws r t (some x)) names = b at h
      have hh0 : Hits d v (d - (r + 1), t, b) := by
        show v / 2 ^ (d - (d - (r + 1))) = t
        rw [show d - (d - (r + 1)) = r + 1 by omega]
        exact ht
      have ih := rows_tell ws names d r (v / 2 ^ r) (some b) v hv (by omega) rfl
      have lev : ∀ x ∈ rowsOf ws names d r (v / 2 ^ r) (some b), d - r ≤ x.1 := fun x hx => (rows_in ws names d r _ _ (by omega) x hx).1
      cases o with
      | none => exact absurd hh0 (h _ List.mem_cons_self)
      | some c =>
        obtain ⟨⟨x, hx, q1, q2, q3⟩, q4⟩ := h
        by_cases hex : ∃ y ∈ rowsOf ws names d r (v / 2 ^ r) (some b), Hits d v y
        · obtain ⟨y, hy, hyh⟩ := hex
          have hy' := q4 y (List.mem_cons_of_mem _ ((only (some b) y hyh).mpr hy)) hyh
          have hyl := lev y hy
          refine ih (some c) ⟨⟨x, ?_, q1, q2, q3⟩, fun z hz hh => q4 z (List.mem_cons_of_mem _ ((only (some b) z hh).mpr hz)) hh⟩
          rcases List.mem_cons.mp hx with rfl | hx
          · simp only at q2
            omega
          · exact (only (some b) x q1).mp hx
        · have hb : some b = some ws[v] := ih none (fun y hy hh => hex ⟨y, hy, hh⟩)
          show c.2 = ws[v]
          rcases List.mem_cons.mp hx with rfl | hx
          · rw [← q3]; exact Option.some.inj hb
          · exact absurd ⟨x, (only (some b) x q1).mp hx, q1⟩ hex
    · exact rows_tell ws names d r (v / 2 ^ r) a v hv (by omega) rfl o (h.mem (only a))
end Ev

/-! K60u: no table of fewer rows tells what is wished. -/
namespace Ev
open PySem
def under (d r t : Nat) (x : Row) : Bool := decide (d - r ≤ x.1) && decide (x.1 ≤ d) && decide (x.2.1 / 2 ^ (x.1 - (d - r)) = t)
def below (d r t : Nat) (L : List Row) : List Row := L.filter (under d r t)
theorem mem_below {d r t : Nat} {L : List Row} {x : Row} : x ∈ below d r t L ↔ x ∈ L ∧ d - r ≤ x.1 ∧ x.1 ≤ d ∧ x.2.1 / 2 ^ (x.1 - (d - r)) = t := by
  simp only [below, under, List.mem_filter, Bool.and_eq_true, decide_eq_true_eq, and_assoc]
def bn (b : Bool) : Nat := if b then 1 else 0
theorem flen (p : Row → Bool) (x : Row) (L : List Row) : ((x :: L).filter p).length = bn (p x) + (L.filter p).length := by
  rw [List.filter_cons]
  unfold bn
  split <;> simp <;> omega
theorem filter_sum (p q1 q2 q3 : Row → Bool) : ∀ L : List Row, (∀ x ∈ L, bn (q1 x) + bn (q2 x) + bn (q3 x) ≤ bn (p x)) → (L.filter q1).length + (L.filter q2).length + (L.filter q3).length ≤ (L.filter p).length
  | [], _ => by simp
  | x :: L, h => by
    have h1 := h x List.mem_cons_self
    have h2 := filter_sum p q1 q2 q3 L fun y hy => h y (List.mem_cons_of_mem _ hy)
    rw [flen, flen, flen, flen]
    omega
theorem under_iff {d r t : Nat} {x : Row} : under d r t x = true ↔ d - r ≤ x.1 ∧ x.1 ≤ d ∧ x.2.1 / 2 ^ (x.1 - (d - r)) = t := by
  simp only [under, Bool.and_eq_true, decide_eq_true_eq, and_assoc]
theorem under_hits {d r t v : Nat} (hr : r ≤ d) {x : Row} (hx : d - r ≤ x.1 ∧ x.1 ≤ d ∧ x.2.1 / 2 ^ (x.1 - (d - r)) = t) (hh : Hits d v x) : v / 2 ^ r = t := by
  obtain ⟨h1, h2, h3⟩ := hx
  have hh' : v / 2 ^ (d - x.1) = x.2.1 := hh
  rw [← h3, ← hh', Nat.div_div_eq_div_mul, ← Nat.pow_add]
  congr 2
  omega
theorem half {d r t : Nat} (hr : r + 1 ≤ d) {x : Row} (h1 : d - r ≤ x.1) : x.2.1 / 2 ^ (x.1 - (d - (r + 1))) = x.2.1 / 2 ^ (x.1 - (d - r)) / 2 := by
  have e : x.1 - (d - (r + 1)) = (x.1 - (d - r)) + 1 := by omega
  rw [e, Nat.pow_succ, ← Nat.div_div_eq_div_mul]
theorem lower (ws names : List Int) (hm : ∀ x, x ∈ names ↔ x ∈ ws) (hne : names ≠ []) (d : Nat) (T : List Row) (hT : ∀ x ∈ T, x.2.2 ∈ names) : ∀ (r t : Nat) (a : Option Int), r ≤ d →
    (∀ (v : Nat) (hv : v < ws.length), v / 2 ^ r = t → ∀ o, BestIs d v (below d r t T) o → ToldAs a ws[v] o) → co ws r t a ≤ (below d r t T).length
  | 0, t, a, hr, h => by
    have h1 := hit_le ws t a
    simp only [co]
    by_cases e : hit ws t a = 0
    · rw [e]; exact Nat.zero_le _
    · have hl : t < ws.length := by
        by_cases hl : t < ws.length
        · exact hl
        · have : ws[t]? = none := List.getElem?_eq_none_iff.mpr (by omega)
          simp [hit, this] at e
      have ne : below d 0 t T ≠ [] := fun z => by
        have := h t hl (by simp) none (by rw [z]; exact fun x hx => by simp at hx)
        have ha : a = some ws[t] := this
        subst ha
        simp [hit, hl] at e
      have : 0 < (below d 0 t T).length := by
        cases hb : below d 0 t T with
        | nil => exact absurd hb ne
        | cons x r => simp
      omega
  | r + 1, t, a, hr, h => by
    have hc := co_succ ws names hm hne r t a
    have node : ∀ x : Row, (d - (r + 1) ≤ x.1 ∧ x.1 ≤ d ∧ x.2.1 / 2 ^ (x.1 - (d - (r + 1))) = t) → x.1 = d - (r + 1) ∨ ((d - r ≤ x.1 ∧ x.1 ≤ d ∧ x.2.1 / 2 ^ (x.1 - (d - r)) = 2 * t) ∨ (d - r ≤ x.1 ∧ x.1 ≤ d ∧ x.2.1 / 2 ^ (x.1 - (d - r)) = 2 * t + 1)) := fun x ⟨q1, q2, q3⟩ => by
      by_cases e : x.1 = d - (r + 1)
      · exact .inl e
      · rw [half (t := t) hr (by omega)] at q3
        right
        have : x.2.1 / 2 ^ (x.1 - (d - r)) = 2 * t ∨ x.2.1 / 2 ^ (x.1 - (d - r)) = 2 * t + 1 := by omega
        rcases this with e2 | e2
        · exact .inl ⟨by omega, q2, e2⟩
        · exact .inr ⟨by omega, q2, e2⟩
    have up : ∀ (x : Row) (c : Nat), (c = 2 * t ∨ c = 2 * t + 1) → (d - r ≤ x.1 ∧ x.1 ≤ d ∧ x.2.1 / 2 ^ (x.1 - (d - r)) = c) → (d - (r + 1) ≤ x.1 ∧ x.1 ≤ d ∧ x.2.1 / 2 ^ (x.1 - (d - (r + 1))) = t) := fun x c hc' ⟨q1, q2, q3⟩ => by
      refine ⟨by omega, q2, ?_⟩
      rw [half (t := t) hr q1, q3]
      omega
    have down : ∀ (v c : Nat), (c = 2 * t ∨ c = 2 * t + 1) → v / 2 ^ r = c → v / 2 ^ (r + 1) = t := fun v c hc' e => by
      rw [Nat.pow_succ, ← Nat.div_div_eq_div_mul, e]
      omega
    have s := filter_sum (under d (r + 1) t) (under d r (2 * t)) (under d r (2 * t + 1)) (fun x => decide (x.1 = d - (r + 1)) && decide (x.2.1 = t)) T fun x _ => by
      have a1 : under d r (2 * t) x = true → under d (r + 1) t x = true ∧ ¬ under d r (2 * t + 1) x = true ∧ ¬ (decide (x.1 = d - (r + 1)) && decide (x.2.1 = t)) = true := fun z => by
        have z' := under_iff.mp z
        refine ⟨under_iff.mpr (up x _ (.inl rfl) z'), fun w => ?_, fun w => ?_⟩
        · have := (under_iff.mp w).2.2; omega
        · simp only [Bool.and_eq_true, decide_eq_true_eq] at w; omega
      have a2 : under d r (2 * t + 1) x = true → under d (r + 1) t x = true ∧ ¬ (decide (x.1 = d - (r + 1)) && decide (x.2.1 = t)) = true := fun z => by
        have z' := under_iff.mp z
        refine ⟨under_iff.mpr (up x _ (.inr rfl) z'), fun w => ?_⟩
        simp only [Bool.and_eq_true, decide_eq_true_eq] at w; omega
      have a3 : (decide (x.1 = d - (r + 1)) && decide (x.2.1 = t)) = true → under d (r + 1) t x = true := fun z => by
        simp only [Bool.and_eq_true, decide_eq_true_eq] at z
        refine under_iff.mpr ⟨by omega, by omega, ?_⟩
        rw [z.1, Nat.sub_self, Nat.pow_zero, Nat.div_one, z.2]
      show bn (under d r (2 * t) x) + bn (under d r (2 * t + 1) x) + bn (decide (x.1 = d - (r + 1)) && decide (x.2.1 = t)) ≤ bn (under d (r + 1) t x)
      generalize under d (r + 1) t x = b0 at a1 a2 a3 ⊢
      generalize under d r (2 * t) x = b1 at a1 a2 ⊢
      generalize under d r (2 * t + 1) x = b2 at a1 a2 ⊢
      generalize (decide (x.1 = d - (r + 1)) && decide (x.2.1 = t)) = b3 at a1 a2 a3 ⊢
      cases b0 <;> cases b1 <;> cases b2 <;> cases b3 <;> simp [bn] at a1 a2 a3 ⊢
    obtain ⟨l1, l2⟩ := least_spec (fun x => both ws r t (some x)) names hne
    by_cases hx : ∃ x ∈ T, x.1 = d - (r + 1) ∧ x.2.1 = t
    · obtain ⟨x0, hx0, e1, e2⟩ := hx
      have hb := hT x0 hx0
      have child : ∀ c, (c = 2 * t ∨ c = 2 * t + 1) → co ws r c (some x0.2.2) ≤ (below d r c T).length := fun c hc' => by
        refine lower ws names hm hne d T hT r c (some x0.2.2) (by omega) fun v hv hvc o ho => ?_
        have hvt := down v c hc' hvc
        have hit0 : Hits d v x0 := by
          show v / 2 ^ (d - x0.1) = x0.2.1
          rw [e1, e2, show d - (d - (r + 1)) = r + 1 by omega]
          exact hvt
        have inb : ∀ x, x ∈ below d (r + 1) t T → Hits d v x → x.1 = d - (r + 1) ∨ x ∈ below d r c T := fun x hx hh => by
          rw [mem_below] at hx
          rcases node x hx.2 with e | e | e
          · exact .inl e
          · have := under_hits (by omega) e hh
            rw [mem_below]
            exact .inr ⟨hx.1, by rw [← hvc, this]; exact e⟩
          · have := under_hits (by omega) e hh
            rw [mem_below]
            exact .inr ⟨hx.1, by rw [← hvc, this]; exact e⟩
        cases o with
        | some c' =>
          obtain ⟨⟨y, hy, q1, q2, q3⟩, q4⟩ := ho
          rw [mem_below] at hy
          refine h v hv hvt (some c') ⟨⟨y, mem_below.mpr ⟨hy.1, up y c hc' hy.2⟩, q1, q2, q3⟩, fun z hz hh => ?_⟩
          rcases inb z hz hh with e | e
          · have := hy.2.1; omega
          · exact q4 z e hh
        | none =>
          have := h v hv hvt (some (x0.1, x0.2.2)) ⟨⟨x0, mem_below.mpr ⟨hx0, by omega, by omega, by rw [e1, Nat.sub_self, Nat.pow_zero, Nat.div_one, e2]⟩, hit0, rfl, rfl⟩, fun z hz hh => by
            rcases inb z hz hh with e | e
            · show z.1 ≤ x0.1; omega
            · exact absurd hh (ho z e)⟩
          exact congrArg some this
      have c1 := child (2 * t) (.inl rfl)
      have c2 := child (2 * t + 1) (.inr rfl)
      have c3 : both ws r t (some (least (fun x => both ws r t (some x)) names)) ≤ both ws r t (some x0.2.2) := l2 x0.2.2 hb
      have c4 : 0 < (T.filter fun x => decide (x.1 = d - (r + 1)) && decide (x.2.1 = t)).length := by
        have : x0 ∈ T.filter fun x => decide (x.1 = d - (r + 1)) && decide (x.2.1 = t) := by
          rw [List.mem_filter]
          exact ⟨hx0, by simp [e1, e2]⟩
        exact List.length_pos_of_mem this
      have c5 : both ws r t (some x0.2.2) = co ws r (2 * t) (some x0.2.2) + co ws r (2 * t + 1) (some x0.2.2) := rfl
      simp only [below] at c1 c2 ⊢
      omega
    · have child : ∀ c, (c = 2 * t ∨ c = 2 * t + 1) → co ws r c a ≤ (below d r c T).length := fun c hc' => by
        refine lower ws names hm hne d T hT r c a (by omega) fun v hv hvc o ho => ?_
        have hvt := down v c hc' hvc
        refine h v hv hvt o (ho.mem fun x hh => ?_)
        rw [mem_below, mem_below]
        constructor
        · rintro ⟨q1, q2⟩
          exact ⟨q1, up x c hc' q2⟩
        · rintro ⟨q1, q2⟩
          refine ⟨q1, ?_⟩
          rcases node x q2 with e | e | e
          · exfalso
            refine hx ⟨x, q1, e, ?_⟩
            have := q2.2.2
            rw [e, Nat.sub_self, Nat.pow_zero, Nat.div_one] at this
            exact this
          · have := under_hits (by omega) e hh
            rw [← hvc, this]; exact e
          · have := under_hits (by omega) e hh
            rw [← hvc, this]; exact e
      have c1 := child (2 * t) (.inl rfl)
      have c2 := child (2 * t + 1) (.inr rfl)
      have c5 : both ws r t a = co ws r (2 * t) a + co ws r (2 * t + 1) a := rfl
      simp only [below] at c1 c2 ⊢
      omega
end Ev

/-! K60v: the place of the least; rows in order. -/
namespace Ev
open PySem
theorem argm_find' (P : Int → Nat) : ∀ (xs : List Int) (b g : Int), argm P xs b = g → (b :: xs).find? (fun z => decide (P z = P g)) = some g
  | [], b, g, hg => by
    have : b = g := hg
    subst this
    simp
  | x :: xs, b, g, hg => by
    have hg' : argm P xs (if P x < P b then x else b) = g := hg
    have ih := argm_find' P xs _ g hg'
    obtain ⟨h1, h2, h3⟩ := argm_spec P xs (if P x < P b then x else b)
    rw [hg'] at h1 h2 h3
    by_cases h : P x < P b
    · rw [if_pos h] at ih h1
      rw [List.find?_cons, decide_eq_false (by omega)]
      exact ih
    · rw [if_neg h] at ih h1
      by_cases e : P b = P g
      · rw [List.find?_cons, decide_eq_true e] at ih ⊢
        exact ih
      · rw [List.find?_cons, decide_eq_false e] at ih ⊢
        simp only at ih ⊢
        rw [List.find?_cons, decide_eq_false (by omega)]
        exact ih
theorem argm_find (P : Int → Nat) (xs : List Int) (b : Int) : (b :: xs).find? (fun z => decide (P z = P (argm P xs b))) = some (argm P xs b) := argm_find' P xs b _ rfl
theorem find_place (P : Int → Nat) (m : Nat) (g : Int) : ∀ (l : List Int) (k : Nat), l.find? (fun z => decide (P z = m)) = some g → ∃ (j : Nat) (hj : j < l.length), l[j] = g ∧ findD (.int m) (l.map fun y => D.int (P y)) k = some (k + j)
  | [], k, h => by simp at h
  | y :: l, k, h => by
    rw [List.find?_cons] at h
    by_cases e : P y = m
    · rw [decide_eq_true e] at h
      refine ⟨0, by simp, Option.some.inj h, ?_⟩
      have e' : (D.int (P y)).eqv (.int m) = true := by simp [D.eqv, e]
      simp only [List.map_cons, findD, e', if_true, Nat.add_zero]
    · rw [decide_eq_false e] at h
      obtain ⟨j, hj, h1, h2⟩ := find_place P m g l (k + 1) h
      have e' : (D.int (P y)).eqv (.int m) = false := by
        have : ¬ (P y : Int) = (m : Int) := by omega
        simp [D.eqv, this]
      refine ⟨j + 1, by simp; exact hj, h1, ?_⟩
      simp only [List.map_cons, findD, e', Bool.false_eq_true, if_false, h2]
      congr 1
      omega
theorem minI_argm (P : Int → Nat) (xs : List Int) (b : Int) : minI (P b : Int) (xs.map fun y => (P y : Int)) = (P (argm P xs b) : Int) := by
  obtain ⟨m, hm, q1, y, hy, q2⟩ := minI_nat P b xs
  obtain ⟨h1, h2, h3⟩ := argm_spec P xs b
  rw [hm]
  have a1 : m ≤ P (argm P xs b) := by
    rcases h3 with h3 | h3
    · rw [h3]; exact q1 b List.mem_cons_self
    · exact q1 _ (List.mem_cons_of_mem _ h3)
  have a2 : P (argm P xs b) ≤ m := by
    rw [q2]
    rcases List.mem_cons.mp hy with rfl | hy
    · exact h1
    · exact h2 y hy
  congr 1
  omega
theorem least_place (P : Int → Nat) (names : List Int) (hne : names ≠ []) : ∃ (m j : Nat) (hj : j < names.length), (∀ x xs, names = x :: xs → minI (P x : Int) (xs.map fun y => (P y : Int)) = (m : Int)) ∧ names[j] = least P names ∧ findD (.int m) (names.map fun y => D.int (P y)) 0 = some j := by
  match names, hne with
  | x :: xs, _ =>
    obtain ⟨j, hj, h1, h2⟩ := find_place P _ _ (x :: xs) 0 (argm_find P xs x)
    refine ⟨_, j, hj, fun y ys e => ?_, h1, by rw [h2, Nat.zero_add]⟩
    injection e with e1 e2
    subst e1 e2
    exact minI_argm P xs x
theorem co_le (ws : List Int) : ∀ (r t : Nat) (a : Option Int), co ws r t a ≤ 2 ^ r
  | 0, t, a => hit_le ws t a
  | r + 1, t, a => by
    have h1 := co_le ws r (2 * t) a
    have h2 := co_le ws r (2 * t + 1) a
    obtain ⟨q, _⟩ := fold_min_le (fun x => co ws r (2 * t) (some x) + co ws r (2 * t + 1) (some x)) ws (co ws r (2 * t) a + co ws r (2 * t + 1) a)
    rw [Nat.pow_succ]
    have e : co ws (r + 1) t a = ws.foldl (fun b x => min b (1 + (co ws r (2 * t) (some x) + co ws r (2 * t + 1) (some x)))) (co ws r (2 * t) a + co ws r (2 * t + 1) a) := by
      rw [co]
      congr 1
      funext b x
      omega
    rw [e]
    omega
/-! ### rows in order -/
def tri (x : Row) : Int × Int × Int := (x.1, x.2.1, x.2.2)
def SmR (x : Row) : Prop := x.1 < 64 ∧ x.2.1 < 64 ∧ 0 ≤ x.2.2 ∧ x.2.2 < 64
def unTri (t : Int × Int × Int) : Row := (t.1.toNat, t.2.1.toNat, t.2.2)
theorem un_tri (x : Row) : unTri (tri x) = x := by
  obtain ⟨a, b, c⟩ := x
  simp [unTri, tri]
theorem tripD_tri (x : Row) : tripD (tri x) = rowD x := rfl
theorem trips_rows : ∀ (L : List Row), (∀ x ∈ L, SmR x) → tripsD (L.map rowD) = some (L.map tri)
  | [], _ => rfl
  | x :: L, h => by
    obtain ⟨h1, h2, h3, h4⟩ := h x List.mem_cons_self
    have ih := trips_rows L fun y hy => h y (List.mem_cons_of_mem _ hy)
    have s1 : small (x.1 : Int) = true := by simp [small]; omega
    have s2 : small (x.2.1 : Int) = true := by simp [small]; omega
    have s3 : small x.2.2 = true := by simp [small]; omega
    simp only [List.map_cons, rowD, tripsD, s1, s2, s3, Bool.and_self, if_true]
    rw [show tripsD (List.map rowD L) = some (L.map tri) from ih]
    rfl
/-- in order -/
def srt (L : List Row) : List Row := (sortT (L.map tri)).map unTri
theorem srt_tri (L : List Row) : (sortT (L.map tri)) = (srt L).map tri := by
  simp only [srt, List.map_map]
  have : ∀ t ∈ sortT (L.map tri), (tri ∘ unTri) t = t := fun t ht => by
    have := (sortT_perm (L.map tri)).mem_iff.mp ht
    obtain ⟨x, _, rfl⟩ := List.mem_map.mp this
    simp [un_tri]
  exact ((List.map_congr_left this).trans (List.map_id _)).symm
theorem srt_perm (L : List Row) : (srt L).Perm L := by
  have h := (sortT_perm (L.map tri)).map unTri
  rw [List.map_map] at h
  have e : L.map (unTri ∘ tri) = L := by
    have : ∀ x ∈ L, (unTri ∘ tri) x = x := fun x _ => un_tri x
    exact (List.map_congr_left this).trans (List.map_id _)
  rw [e] at h
  exact h
theorem insT_low (x : Int × Int × Int) : ∀ (l : List (Int × Int × Int)), (∀ y ∈ l, codeT x ≤ codeT y) → (∀ y ∈ l, codeT y = codeT x → y = x) → insT x l = x :: l
  | [], _, _ => rfl
  | y :: l, h, e => by
    simp only [insT]
    by_cases c : codeT x < codeT y
    · rw [if_pos c]
    · rw [if_neg c]
      have h0 := h y List.mem_cons_self
      have e0 := e y List.mem_cons_self (by omega)
      subst e0
      rw [insT_low y l (fun z hz => h z (List.mem_cons_of_mem _ hz)) (fun z hz => e z (List.mem_cons_of_mem _ hz))]
theorem sortT_id : ∀ (l : List (Int × Int × Int)), l.Pairwise (fun a b => codeT a ≤ codeT b) → (∀ x ∈ l, ∀ y ∈ l, codeT y = codeT x → y = x) → sortT l = l
  | [], _, _ => rfl
  | x :: l, h, e => by
    rw [List.pairwise_cons] at h
    rw [sortT, sortT_id l h.2 (fun a ha b hb => e a (List.mem_cons_of_mem _ ha) b (List.mem_cons_of_mem _ hb))]
    exact insT_low x l h.1 fun y hy => e x List.mem_cons_self y (List.mem_cons_of_mem _ hy)
theorem code_inj {x y : Row} (hx : SmR x) (hy : SmR y) (e : codeT (tri x) = codeT (tri y)) : x = y := by
  obtain ⟨a, b, c⟩ := x
  obtain ⟨a', b', c'⟩ := y
  simp only [codeT, tri, SmR] at *
  have e1 : a = a' := by omega
  have e2 : b = b' := by omega
  have e3 : c = c' := by omega
  rw [e1, e2, e3]
theorem srt_srt (L : List Row) (h : ∀ x ∈ L, SmR x) : srt (srt L) = srt L := by
  have hs := sortT_sorted (L.map tri)
  have e : sortT ((srt L).map tri) = (srt L).map tri := by
    refine sortT_id _ (by rw [← srt_tri]; exact hs) fun x hx y hy q => ?_
    obtain ⟨a, ha, rfl⟩ := List.mem_map.mp hx
    obtain ⟨b, hb, rfl⟩ := List.mem_map.mp hy
    have h1 := h a ((srt_perm L).mem_iff.mp ha)
    have h2 := h b ((srt_perm L).mem_iff.mp hb)
    rw [code_inj h2 h1 q]
  have : srt (srt L) = (sortT ((srt L).map tri)).map unTri := rfl
  rw [this, e, List.map_map]
  have : ∀ x ∈ srt L, (unTri ∘ tri) x = x := fun x _ => un_tri x
  exact (List.map_congr_left this).trans (List.map_id _)
theorem sorted_ok (L : List Row) (h : ∀ x ∈ L, SmR x) (hl : L.length < 64) (x : D) (G : Hh) (hs : seqOf G x = some (L.map rowD)) : bfn .sorted [x] G = .ok (.ref G.n) (G.new (.lst ((srt L).map rowD))) := by
  have e : (srt L).map rowD = ((srt L).map tri).map tripD := by rw [List.map_map]; rfl
  simp only [bfn, hs, trips_rows L h, List.length_map, hl, if_true, srt_tri, e]
end Ev

/-! K60w: the program's rows: the steps of its walk. -/
namespace Ev
open PySem
structure Ext2 (p q : Nat) (G G' : Hh) : Prop where
  le : G.n ≤ G'.n
  eq : ∀ a, a < G.n → a ≠ p → a ≠ q → G'.get a = G.get a
theorem Ext2.refl (p q : Nat) (G : Hh) : Ext2 p q G G := ⟨Nat.le_refl _, fun _ _ _ _ => rfl⟩
theorem Ext2.trans {p q : Nat} {G G' G'' : Hh} (a : Ext2 p q G G') (b : Ext2 p q G' G'') : Ext2 p q G G'' := ⟨Nat.le_trans a.le b.le, fun x h n m => (b.eq x (Nat.lt_of_lt_of_le h a.le) n m).trans (a.eq x h n m)⟩
theorem Ext.e2 {p q : Nat} {G G' : Hh} (a : Ext G G') : Ext2 p q G G' := ⟨a.le, fun x h _ _ => a.eq x h⟩
theorem Ext2.set1 {p q : Nat} {G : Hh} (o : O) : Ext2 p q G (G.set p o) := ⟨Nat.le_refl _, fun x _ h _ => Hh.get_set_ne o h⟩
theorem Ext2.set2 {p q : Nat} {G : Hh} (o : O) : Ext2 p q G (G.set q o) := ⟨Nat.le_refl _, fun x _ _ h => Hh.get_set_ne o h⟩
abbrev Sg (ws : List Int) (d tb nb rw st : Nat) (y6 y7 y8 y9 y10 y11 : D) : List D := [Ws ws, .int d, .ref tb, .ref nb, .ref rw, .ref st, y6, y7, y8, y9, y10, y11]
structure StW (names : List Int) (kvs : List (D × D)) (tb nb rw st : Nat) (S : List Key3) (R : List Row) (G : Hh) : Prop where
  gt : G.get tb = some (.dct kvs)
  gn : G.get nb = some (.lst (names.map D.int))
  gr : G.get rw = some (.lst (R.map rowD))
  gs : G.get st = some (.lst (S.map key3))
structure NeW (tb nb rw st : Nat) : Prop where
  h1 : rw ≠ st
  h2 : tb ≠ rw
  h3 : tb ≠ st
  h4 : nb ≠ rw
  h5 : nb ≠ st
theorem StW.ext {names : List Int} {kvs : List (D × D)} {tb nb rw st : Nat} {S : List Key3} {R : List Row} {G G' : Hh} (h : StW names kvs tb nb rw st S R G) (e : Ext G G') : StW names kvs tb nb rw st S R G' := ⟨e.get h.gt, e.get h.gn, e.get h.gr, e.get h.gs⟩
theorem StW.setS {names : List Int} {kvs : List (D × D)} {tb nb rw st : Nat} {S S' : List Key3} {R : List Row} {G : Hh} (h : StW names kvs tb nb rw st S R G) (n : NeW tb nb rw st) : StW names kvs tb nb rw st S' R (G.set st (.lst (S'.map key3))) :=
  ⟨by rw [Hh.get_set_ne _ n.h3]; exact h.gt, by rw [Hh.get_set_ne _ n.h5]; exact h.gn, by rw [Hh.get_set_ne _ n.h1]; exact h.gr, Hh.get_set_self _ (Hh.get_lt h.gs)⟩
theorem StW.setR {names : List Int} {kvs : List (D × D)} {tb nb rw st : Nat} {S : List Key3} {R R' : List Row} {G : Hh} (h : StW names kvs tb nb rw st S R G) (n : NeW tb nb rw st) : StW names kvs tb nb rw st S R' (G.set rw (.lst (R'.map rowD))) :=
  ⟨by rw [Hh.get_set_ne _ n.h2]; exact h.gt, by rw [Hh.get_set_ne _ n.h4]; exact h.gn, Hh.get_set_self _ (Hh.get_lt h.gr), by rw [Hh.get_set_ne _ (Ne.symm n.h1)]; exact h.gs⟩
/-! ### pop -/
def popS : S := .asg (.tup (.cons (.nm 6) (.cons (.nm 7) (.cons (.nm 8) .nil)))) (.meth .pop (.var 5) .nil)
theorem pop_ok (C : Cl) (ws : List Int) (names : List Int) (kvs : List (D × D)) (d tb nb rw st : Nat) (n : NeW tb nb rw st) (y6 y7 y8 y9 y10 y11 : D) (S : List Key3) (R : List Row) (l t : Nat) (a : Option Int) (G : Hh) (h : StW names kvs tb nb rw st (S ++ [(l, t, a)]) R G) :
    ∃ G', evS C popS (Sg ws d tb nb rw st y6 y7 y8 y9 y10 y11) G = .ok (.nx, Sg ws d tb nb rw st (.int l) (.int t) (optD a) y9 y10 y11) G' ∧ Ext2 rw st G G' ∧ StW names kvs tb nb rw st S R G' := by
  have hm : rd (mtK .pop (.ref st)) G = .ok () G := by simp [rd, mtK, mtKind, kindN, h.gs]
  have hb : bfn .pop [.ref st] G = .ok (.tup [.int l, .int t, optD a]) (G.set st (.lst (S.map key3))) := by
    have e1 : ((S ++ [(l, t, a)]).map key3)[((S ++ [(l, t, a)]).map key3).length - 1]? = some (key3 (l, t, a)) := by simp
    have e2 : ((S ++ [(l, t, a)]).map key3).dropLast = S.map key3 := by simp
    simp only [bfn, h.gs, e1, e2]
    rfl
  refine ⟨_, ?_, Ext2.set2 _, h.setS n⟩
  rw [popS, es_asg, ev_meth]
  simp only [ev_var, List.getElem?_cons_succ, List.getElem?_cons_zero, rdv_ref, bindR_ok, hm, ev_nil, tupR_tup, hb]
  rfl
/-! ### a leaf -/
theorem ne_opt (G : Hh) (i : Int) (a : Option Int) : bin .ne (.int i) (optD a) G = .ok (.bl (!decide (some i = a))) G := by simp only [bin, eq_opt]
def leafB : S := .seq (.ite (.and (.bin .lt (.var 7) (.bfn .len (.cons (.var 0) .nil))) (.bin .ne (.bin .idx (.var 0) (.var 7)) (.var 8))) (.expr (.meth .append (.var 4) (.cons (.tup (.cons (.var 6) (.cons (.var 7) (.cons (.bin .idx (.var 0) (.var 7)) .nil)))) .nil))) .skip) .cnt
def leafS : S := .ite (.bin .eq (.var 6) (.var 1)) leafB .skip
theorem app_row {C : Cl} {e : E} {ws names : List Int} {kvs : List (D × D)} {d tb nb rw st : Nat} (n : NeW tb nb rw st) {y6 y7 y8 y9 y10 y11 : D} {S : List Key3} {R : List Row} {x : Row} {G : Hh} (h : StW names kvs tb nb rw st S R G) (hl : R.length < 1000) (he : evE C e (Sg ws d tb nb rw st y6 y7 y8 y9 y10 y11) G = .ok (rowD x) G) :
    ∃ G', evS C (.expr (.meth .append (.var 4) (.cons e .nil))) (Sg ws d tb nb rw st y6 y7 y8 y9 y10 y11) G = .ok (.nx, Sg ws d tb nb rw st y6 y7 y8 y9 y10 y11) G' ∧ Ext2 rw st G G' ∧ StW names kvs tb nb rw st S (R ++ [x]) G' := by
  have hc : evE C (.cons e .nil) (Sg ws d tb nb rw st y6 y7 y8 y9 y10 y11) G = .ok (.tup [rowD x]) G := by
    rw [ev_cons, he, bindR_ok, ev_nil, bindR_ok, tupR_tup, bindR_ok]
  have ha := append_ok (C := C) (i := 4) (σ := Sg ws d tb nb rw st y6 y7 y8 y9 y10 y11) rfl h.gr hc h.gr (by rw [List.length_map]; exact Nat.lt_trans hl (by decide))
  have e1 : R.map rowD ++ [rowD x] = (R ++ [x]).map rowD := by simp
  rw [e1] at ha
  exact ⟨_, ha, Ext2.set1 _, h.setR n⟩
theorem leaf_ok (C : Cl) (ws names : List Int) (kvs : List (D × D)) (d tb nb rw st : Nat) (n : NeW tb nb rw st) (y9 y10 y11 : D) (S : List Key3) (R : List Row) (hR : R.length < 1000) (t : Nat) (a : Option Int) (G : Hh) (h : StW names kvs tb nb rw st S R G) :
    ∃ G', evS C leafS (Sg ws d tb nb rw st (.int d) (.int t) (optD a) y9 y10 y11) G = .ok (.ct, Sg ws d tb nb rw st (.int d) (.int t) (optD a) y9 y10 y11) G' ∧ Ext2 rw st G G' ∧ StW names kvs tb nb rw st S (R ++ rowsOf ws names d 0 t a) G' := by
  have sz3 : (3 ≤ sizeMax) = True := eq_true (by decide)
  have hq : evS C leafS (Sg ws d tb nb rw st (.int d) (.int t) (optD a) y9 y10 y11) G = evS C leafB (Sg ws d tb nb rw st (.int d) (.int t) (optD a) y9 y10 y11) G := by
    simp only [leafS, es_ite, ev_bin, ev_var, List.getElem?_cons_succ, List.getElem?_cons_zero, rdv_int, bindR_ok, bin_eq, decide_true, truR_bl, if_true]
  rw [hq, leafB, es_seq, es_ite]
  by_cases hl : t < ws.length
  · have n1 : (t : Int) < (ws.length : Int) := by omega
    have hi := ws_idx hl G
    have hc : evE C (.and (.bin .lt (.var 7) (.bfn .len (.cons (.var 0) .nil))) (.bin .ne (.bin .idx (.var 0) (.var 7)) (.var 8))) (Sg ws d tb nb rw st (.int d) (.int t) (optD a) y9 y10 y11) G = .ok (.bl (!decide (some ws[t] = a))) G := by
      simp only [ev_and, ev_bin, ev_bfn, ev_cons, ev_nil, ev_var, List.getElem?_cons_succ, List.getElem?_cons_zero, rdv_int, rdv_tup, rdv_opt, bindR_ok, tupR_tup, bfn_len_tup, List.length_map, bin_lt, n1, decide_true, truR_bl, if_true, hi, ne_opt]
    rw [hc, bindR_ok, truR_bl, bindR_ok]
    by_cases he : some ws[t] = a
    · refine ⟨G, ?_, Ext2.refl _ _ _, ?_⟩
      · rw [decide_eq_true he]
        simp only [Bool.not_true, Bool.false_eq_true, if_false, es_skip, bindR_ok, contS_nx, es_cnt]
      · have : rowsOf ws names d 0 t a = [] := by rw [← he]; simp [rowsOf, hit, hl]
        rw [this, List.append_nil]
        exact h
    · have hx : evE C (.tup (.cons (.var 6) (.cons (.var 7) (.cons (.bin .idx (.var 0) (.var 7)) .nil)))) (Sg ws d tb nb rw st (.int d) (.int t) (optD a) y9 y10 y11) G = .ok (rowD (d, t, ws[t])) G := by
        simp only [ev_tup, ev_cons, ev_nil, ev_bin, ev_var, List.getElem?_cons_succ, List.getElem?_cons_zero, rdv_int, rdv_tup, bindR_ok, tupR_tup, hi, List.length_cons, List.length_nil, Nat.reduceAdd, sz3, if_true]
        rfl
      obtain ⟨G', h1, h2, h3⟩ := app_row n h hR hx
      refine ⟨G', ?_, h2, ?_⟩
      · rw [decide_eq_false he, Bool.not_false, if_pos rfl, h1, bindR_ok, contS_nx, es_cnt]
      · have : rowsOf ws names d 0 t a = [(d, t, ws[t])] := by simp [rowsOf, hit, hl, he]
        rw [this]
        exact h3
  · have n1 : ¬ (t : Int) < (ws.length : Int) := by omega
    have hc : evE C (.and (.bin .lt (.var 7) (.bfn .len (.cons (.var 0) .nil))) (.bin .ne (.bin .idx (.var 0) (.var 7)) (.var 8))) (Sg ws d tb nb rw st (.int d) (.int t) (optD a) y9 y10 y11) G = .ok (.bl false) G := by
      simp only [ev_and, ev_bin, ev_bfn, ev_cons, ev_nil, ev_var, List.getElem?_cons_succ, List.getElem?_cons_zero, rdv_int, rdv_tup, rdv_opt, bindR_ok, tupR_tup, bfn_len_tup, List.length_map, bin_lt, n1, decide_false, truR_bl, Bool.false_eq_true, if_false]
    refine ⟨G, ?_, Ext2.refl _ _ _, ?_⟩
    · rw [hc, bindR_ok, truR_bl, bindR_ok]
      simp only [Bool.false_eq_true, if_false, es_skip, bindR_ok, contS_nx, es_cnt]
    · have : rowsOf ws names d 0 t a = [] := by simp [rowsOf, hit, List.getElem?_eq_none_iff.mpr (by omega : ws.length ≤ t)]
      rw [this, List.append_nil]
      exact h
theorem noleaf_ok (C : Cl) (ws : List Int) (d tb nb rw st l t : Nat) (hl : l ≠ d) (a : Option Int) (y9 y10 y11 : D) (G : Hh) :
    evS C leafS (Sg ws d tb nb rw st (.int l) (.int t) (optD a) y9 y10 y11) G = .ok (.nx, Sg ws d tb nb rw st (.int l) (.int t) (optD a) y9 y10 y11) G := by
  have n1 : ¬ (l : Int) = (d : Int) := by omega
  simp only [leafS, es_ite, ev_bin, ev_var, List.getElem?_cons_succ, List.getElem?_cons_zero, rdv_int, bindR_ok, bin_eq, n1, decide_false, truR_bl, Bool.false_eq_true, if_false, es_skip]
end Ev

/-! K60xa: the program's rows: a node that is no leaf. -/
namespace Ev
open PySem
/-- the sum of both halves, as the program asks its table -/
def sumW (v : Nat) : E := .bin .add (.bin .idx (.var 2) (.tup (.cons (.bin .add (.var 6) (.con (.int (1)))) (.cons (.bin .mul (.con (.int (2))) (.var 7)) (.cons (.var v) .nil))))) (.bin .idx (.var 2) (.tup (.cons (.bin .add (.var 6) (.con (.int (1)))) (.cons (.bin .add (.bin .mul (.con (.int (2))) (.var 7)) (.con (.int (1)))) (.cons (.var v) .nil)))))
theorem sumW_ok (C : Cl) (v : Nat) (σ : List D) (ws names : List Int) (kvs : List (D × D)) (d tb l t : Nat) (a : Option Int) (G : Hh) (T : Tbl d names (fun l t a => co ws (d - l) t a) kvs) (hl : l + 1 ≤ d) (ht : t < 2 ^ l) (ha : Ans names a) (hg : G.get tb = some (.dct kvs))
    (h2 : rdv σ[2]? G = .ok (.ref tb) G) (h6 : rdv σ[6]? G = .ok (.int l) G) (h7 : rdv σ[7]? G = .ok (.int t) G) (hv : rdv σ[v]? G = .ok (optD a) G) : evE C (sumW v) σ G = .ok (.int (both ws (d - (l + 1)) t a)) G := by
  have ht2 : 2 ^ (l + 1) = 2 * 2 ^ l := by rw [Nat.pow_succ]; omega
  have i1 := idx_dict (k := keyT (l + 1) (2 * t) a) hg (keyT_ok _ _ _) (T.val (l + 1) (2 * t) a hl (by omega) ha)
  have i2 := idx_dict (k := keyT (l + 1) (2 * t + 1) a) hg (keyT_ok _ _ _) (T.val (l + 1) (2 * t + 1) a hl (by omega) ha)
  have e1 : keyT (l + 1) (2 * t) a = .tup [.int ((l : Int) + 1), .int (2 * (t : Int)), optD a] := by
    simp only [keyT]
    congr 2 <;> simp <;> omega
  have e2 : keyT (l + 1) (2 * t + 1) a = .tup [.int ((l : Int) + 1), .int (2 * (t : Int) + 1), optD a] := by
    simp only [keyT]
    congr 2 <;> simp <;> omega
  rw [e1] at i1
  rw [e2] at i2
  have sz3 : (3 ≤ sizeMax) = True := eq_true (by decide)
  simp only [sumW, ev_bin, ev_tup, ev_cons, ev_nil, ev_con, ev_var, h2, h6, h7, hv, bindR_ok, tupR_tup, bin_add, bin_mul2, List.length_cons, List.length_nil, Nat.reduceAdd, sz3, if_true, i1, i2, both]
  rw [Int.natCast_add]
def keptS : S := .asg (.nm 9) (sumW 8)
theorem kept_ok (C : Cl) (ws names : List Int) (kvs : List (D × D)) (d tb nb rw st l t : Nat) (a : Option Int) (y9 y10 y11 : D) (S : List Key3) (R : List Row) (G : Hh) (h : StW names kvs tb nb rw st S R G) (T : Tbl d names (fun l t a => co ws (d - l) t a) kvs) (hl : l + 1 ≤ d) (ht : t < 2 ^ l) (ha : Ans names a) :
    evS C keptS (Sg ws d tb nb rw st (.int l) (.int t) (optD a) y9 y10 y11) G = .ok (.nx, Sg ws d tb nb rw st (.int l) (.int t) (optD a) (.int (both ws (d - (l + 1)) t a)) y10 y11) G := by
  have hs := sumW_ok C 8 (Sg ws d tb nb rw st (.int l) (.int t) (optD a) y9 y10 y11) ws names kvs d tb l t a G T hl ht ha h.gt rfl rfl rfl (rdv_opt a G)
  rw [keptS, es_asg, hs, bindR_ok]
  rfl
def costE : E := .bin .idx (.var 2) (.tup (.cons (.var 6) (.cons (.var 7) (.cons (.var 8) .nil))))
theorem costE_ok (C : Cl) (ws names : List Int) (kvs : List (D × D)) (d tb nb rw st l t : Nat) (a : Option Int) (y9 y10 y11 : D) (S : List Key3) (R : List Row) (G : Hh) (h : StW names kvs tb nb rw st S R G) (T : Tbl d names (fun l t a => co ws (d - l) t a) kvs) (hl : l ≤ d) (ht : t < 2 ^ l) (ha : Ans names a) :
    evE C costE (Sg ws d tb nb rw st (.int l) (.int t) (optD a) y9 y10 y11) G = .ok (.int (co ws (d - l) t a)) G := by
  have i1 := idx_dict (k := keyT l t a) h.gt (keyT_ok _ _ _) (T.val l t a hl ht ha)
  simp only [keyT] at i1
  have sz3 : (3 ≤ sizeMax) = True := eq_true (by decide)
  simp only [costE, ev_bin, ev_tup, ev_cons, ev_nil, ev_var, List.getElem?_cons_succ, List.getElem?_cons_zero, rdv_int, rdv_ref, rdv_opt, bindR_ok, tupR_tup, List.length_cons, List.length_nil, Nat.reduceAdd, sz3, if_true, i1]
/-! ### the sums of all answers -/
def sumsE : E := .comp [11] .seq (.var 3) (.nm 11) false .bad (sumW 11)
theorem sums_ok (C : Cl) (ws names : List Int) (hnl : names.length ≤ 900) (kvs : List (D × D)) (d tb nb rw st l t : Nat) (y8 y9 y10 y11 : D) (S : List Key3) (R : List Row) (G : Hh) (h : StW names kvs tb nb rw st S R G) (T : Tbl d names (fun l t a => co ws (d - l) t a) kvs) (hl : l + 1 ≤ d) (ht : t < 2 ^ l) :
    evE C sumsE (Sg ws d tb nb rw st (.int l) (.int t) y8 y9 y10 y11) G = .ok (.ref G.n) (G.new (.lst (names.map fun x => D.int (both ws (d - (l + 1)) t (some x))))) := by
  obtain ⟨ys, G2, hc, rfl, rfl⟩ := compN_inv (.live nb names.length) (.nm 11) (Sg ws d tb nb rw st (.int l) (.int t) y8 y9 y10 .und) (fun σ' acc => M.bind (evE C (sumW 11) σ') fun y => pushM acc y) names.length (fun i a G' => a = ((names.take i).map fun x => D.int (both ws (d - (l + 1)) t (some x))) ∧ G' = G)
    (fun i a G' hi ⟨e1, e2⟩ => by
      subst e1 e2
      have hs := sumW_ok C 11 (Sg ws d tb nb rw st (.int l) (.int t) y8 y9 y10 (.int names[i])) ws names kvs d tb l t (some names[i]) G' T hl ht (.inr ⟨_, List.getElem_mem hi, rfl⟩) h.gt rfl rfl rfl rfl
      refine ⟨.int names[i], Sg ws d tb nb rw st (.int l) (.int t) y8 y9 y10 (.int names[i]), _, G', ?_, rfl, ?_, rfl, rfl⟩
      · simp [Src.at, h.gn, hi]
      · rw [bind_eq, hs, bindR_ok]
        have hl : ((names.take i).map fun x => D.int (both ws (d - (l + 1)) t (some x))).length < sizeMax := by
          rw [List.length_map, List.length_take]
          exact Nat.lt_of_le_of_lt (by omega : _ ≤ 900) (by decide)
        simp only [pushM, hl, if_true, M.pure]
        rw [List.take_succ_eq_append_getElem hi, List.map_append]
        rfl)
    (fun a G' ⟨_, e2⟩ => by subst e2; simp [Src.at, h.gn]) names.length 0 [] G (by omega) ⟨by simp, rfl⟩
  rw [List.take_length] at hc
  have hsrc : srcOf .seq (.ref nb) G2 = some (.live nb names.length) := by simp [srcOf, h.gn]
  have hv : evE C (.var 3) (Sg ws d tb nb rw st (.int l) (.int t) y8 y9 y10 y11) G2 = .ok (.ref nb) G2 := rfl
  rw [sumsE, comp_ev, hv, bindR_ok, hsrc, optR_some, bindR_ok]
  show bindR (compN (.live nb names.length) (.nm 11) (Sg ws d tb nb rw st (.int l) (.int t) y8 y9 y10 .und) _ names.length 0 [] G2) _ = _
  rw [hc, bindR_ok]
theorem flats_ints' {α : Type} (f : α → Int) : ∀ l : List α, D.flats (l.map fun x => D.int (f x)) = true
  | [] => rfl
  | x :: l => by simp [D.flats, D.flat, flats_ints' f l]
theorem depths_ints' {α : Type} (f : α → Int) : ∀ l : List α, D.depths (l.map fun x => D.int (f x)) = 0
  | [] => rfl
  | x :: l => by simp [D.depths, D.depth, depths_ints' f l]
def bestS : S := .asg (.nm 8) (.bin .idx (.var 3) (.meth .index (.var 10) (.cons (.bfn .minL (.cons (.var 10) .nil)) .nil)))
theorem best_ok (C : Cl) (ws names : List Int) (hne : names ≠ []) (P : Int → Nat) (kvs : List (D × D)) (d tb nb rw st sm : Nat) (y6 y7 y8 y9 y11 : D) (S : List Key3) (R : List Row) (G : Hh) (h : StW names kvs tb nb rw st S R G) (hs : G.get sm = some (.lst (names.map fun x => D.int (P x)))) :
    evS C bestS (Sg ws d tb nb rw st y6 y7 y8 y9 (.ref sm) y11) G = .ok (.nx, Sg ws d tb nb rw st y6 y7 (.int (least P names)) y9 (.ref sm) y11) G := by
  obtain ⟨m, j, hj, q1, q2, q3⟩ := least_place P names hne
  have hmin : bfn .minL [.ref sm] G = .ok (.int m) G := by
    have hs' : seqOf G (.ref sm) = some (names.map fun x => D.int (P x)) := by simp only [seqOf, hs]
    have hints : (names.map fun x => D.int (P x)) = (names.map fun x => ((P x : Nat) : Int)).map D.int := by rw [List.map_map]; rfl
    simp only [bfn, hs']
    rw [hints, intsD_of]
    match names, q1 with
    | x :: xs, q1 => simp only [List.map_cons, q1 x xs rfl]
    | [], _ => exact absurd rfl hne
  have hm : rd (mtK .index (.ref sm)) G = .ok () G := by simp [rd, mtK, mtKind, kindN, hs]
  have hix : bfn .index [.ref sm, .int m] G = .ok (.int j) G := by
    have f1 := flats_ints' (fun x : Int => ((P x : Nat) : Int)) names
    have f2 := depths_ints' (fun x : Int => ((P x : Nat) : Int)) names
    simp only [bfn, hs, D.flat, D.depth, f1, f2, q3]
    rfl
  have hget := idx_lst (i := j) h.gn (by rw [List.length_map]; exact hj)
  rw [List.getElem_map, q2] at hget
  rw [bestS, es_asg, ev_bin]
  simp only [ev_meth, ev_var, List.getElem?_cons_succ, List.getElem?_cons_zero, rdv_ref, bindR_ok, hm, ev_cons, ev_nil, ev_bfn, tupR_tup, hmin, hix, hget]
  rfl
end Ev

/-! K60xb: the program's rows: a node's turn, a tree. -/
namespace Ev
open PySem
def rowE4 : E := .tup (.cons (.var 6) (.cons (.var 7) (.cons (.var 8) .nil)))
def pickS : S := .ite (.bin .gt (.var 9) costE) (.seq (.asg (.nm 10) sumsE) (.seq bestS (.expr (.meth .append (.var 4) (.cons rowE4 .nil))))) .skip
def preR (ws names : List Int) (d l t : Nat) (a : Option Int) : List Row := if co ws (d - l) t a < both ws (d - (l + 1)) t a then [(l, t, least (fun x => both ws (d - (l + 1)) t (some x)) names)] else []
def ansA (ws names : List Int) (d l t : Nat) (a : Option Int) : Option Int := if co ws (d - l) t a < both ws (d - (l + 1)) t a then some (least (fun x => both ws (d - (l + 1)) t (some x)) names) else a
theorem pickS_ok (C : Cl) (ws names : List Int) (hne : names ≠ []) (hnl : names.length ≤ 900) (kvs : List (D × D)) (d tb nb rw st l t : Nat) (n : NeW tb nb rw st) (a : Option Int) (y10 y11 : D) (S : List Key3) (R : List Row) (hR : R.length < 1000) (G : Hh) (h : StW names kvs tb nb rw st S R G) (T : Tbl d names (fun l t a => co ws (d - l) t a) kvs) (hl : l + 1 ≤ d) (ht : t < 2 ^ l) (ha : Ans names a) :
    ∃ y10' G', evS C pickS (Sg ws d tb nb rw st (.int l) (.int t) (optD a) (.int (both ws (d - (l + 1)) t a)) y10 y11) G = .ok (.nx, Sg ws d tb nb rw st (.int l) (.int t) (optD (ansA ws names d l t a)) (.int (both ws (d - (l + 1)) t a)) y10' y11) G' ∧ Ext2 rw st G G' ∧ StW names kvs tb nb rw st S (R ++ preR ws names d l t a) G' := by
  have hc := costE_ok C ws names kvs d tb nb rw st l t a (.int (both ws (d - (l + 1)) t a)) y10 y11 S R G h T (by omega) ht ha
  have hcond : evE C (.bin .gt (.var 9) costE) (Sg ws d tb nb rw st (.int l) (.int t) (optD a) (.int (both ws (d - (l + 1)) t a)) y10 y11) G = .ok (.bl (decide (co ws (d - l) t a < both ws (d - (l + 1)) t a))) G := by
    rw [ev_bin]
    simp only [ev_var, List.getElem?_cons_succ, List.getElem?_cons_zero, rdv_int, bindR_ok, hc, bin_gt]
    congr 3
    exact propext ⟨fun _ => by omega, fun _ => by omega⟩
  rw [pickS, es_ite, hcond, bindR_ok, truR_bl, bindR_ok]
  by_cases q : co ws (d - l) t a < both ws (d - (l + 1)) t a
  · simp only [preR, ansA, if_pos q, decide_eq_true q, if_true]
    have hs := sums_ok C ws names hnl kvs d tb nb rw st l t (optD a) (.int (both ws (d - (l + 1)) t a)) y10 y11 S R G h T hl ht
    have e1 := Ext.new G (.lst (names.map fun x => D.int (both ws (d - (l + 1)) t (some x))))
    have g1 : (G.new (.lst (names.map fun x => D.int (both ws (d - (l + 1)) t (some x))))).get G.n = some (.lst (names.map fun x => D.int (both ws (d - (l + 1)) t (some x)))) := Hh.get_new_self _
    generalize G.new (.lst (names.map fun x => D.int (both ws (d - (l + 1)) t (some x)))) = G1 at hs e1 g1
    have h1 := h.ext e1
    have s1 : evS C (.asg (.nm 10) sumsE) (Sg ws d tb nb rw st (.int l) (.int t) (optD a) (.int (both ws (d - (l + 1)) t a)) y10 y11) G = .ok (.nx, Sg ws d tb nb rw st (.int l) (.int t) (optD a) (.int (both ws (d - (l + 1)) t a)) (.ref G.n) y11) G1 := by
      rw [es_asg, hs, bindR_ok]
      rfl
    have s2 := best_ok C ws names hne (fun x => both ws (d - (l + 1)) t (some x)) kvs d tb nb rw st G.n (.int l) (.int t) (optD a) (.int (both ws (d - (l + 1)) t a)) y11 S R G1 h1 g1
    generalize least (fun x => both ws (d - (l + 1)) t (some x)) names = b at s2
    have sz3 : (3 ≤ sizeMax) = True := eq_true (by decide)
    have hx : evE C rowE4 (Sg ws d tb nb rw st (.int l) (.int t) (.int b) (.int (both ws (d - (l + 1)) t a)) (.ref G.n) y11) G1 = .ok (rowD (l, t, b)) G1 := by
      simp only [rowE4, ev_tup, ev_cons, ev_nil, ev_var, List.getElem?_cons_succ, List.getElem?_cons_zero, rdv_int, bindR_ok, tupR_tup, List.length_cons, List.length_nil, Nat.reduceAdd, sz3, if_true]
      rfl
    obtain ⟨G2, s3, e2, h2⟩ := app_row n h1 hR hx
    refine ⟨.ref G.n, G2, ?_, e1.e2.trans e2, h2⟩
    rw [seq_nx s1, seq_nx s2, s3]
    rfl
  · simp only [preR, ansA, if_neg q, decide_eq_false q, Bool.false_eq_true, if_false, List.append_nil]
    exact ⟨y10, G, rfl, Ext2.refl _ _ _, h⟩
def extS : S := .expr (.meth .extend (.var 5) (.cons (.lst (.cons (.tup (.cons (.bin .add (.var 6) (.con (.int (1)))) (.cons (.bin .mul (.con (.int (2))) (.var 7)) (.cons (.var 8) .nil)))) (.cons (.tup (.cons (.bin .add (.var 6) (.con (.int (1)))) (.cons (.bin .add (.bin .mul (.con (.int (2))) (.var 7)) (.con (.int (1)))) (.cons (.var 8) .nil)))) .nil))) .nil))
theorem ext_ok (C : Cl) (ws names : List Int) (kvs : List (D × D)) (d tb nb rw st l t : Nat) (n : NeW tb nb rw st) (a : Option Int) (y9 y10 y11 : D) (S : List Key3) (hS : S.length < 1000) (R : List Row) (G : Hh) (h : StW names kvs tb nb rw st S R G) :
    ∃ G', evS C extS (Sg ws d tb nb rw st (.int l) (.int t) (optD a) y9 y10 y11) G = .ok (.nx, Sg ws d tb nb rw st (.int l) (.int t) (optD a) y9 y10 y11) G' ∧ Ext2 rw st G G' ∧ StW names kvs tb nb rw st (S ++ [(l + 1, 2 * t, a), (l + 1, 2 * t + 1, a)]) R G' := by
  have sz3 : (3 ≤ sizeMax) = True := eq_true (by decide)
  have sz2 : (2 ≤ sizeMax) = True := eq_true (by decide)
  have e1 : key3 (l + 1, 2 * t, a) = .tup [.int ((l : Int) + 1), .int (2 * (t : Int)), optD a] := by
    simp only [key3, keyT]
    congr 2 <;> simp <;> omega
  have e2 : key3 (l + 1, 2 * t + 1, a) = .tup [.int ((l : Int) + 1), .int (2 * (t : Int) + 1), optD a] := by
    simp only [key3, keyT]
    congr 2 <;> simp <;> omega
  have hm : rd (mtK .extend (.ref st)) G = .ok () G := by simp [rd, mtK, mtKind, kindN, h.gs]
  have x1 := Ext.new G (.lst [key3 (l + 1, 2 * t, a), key3 (l + 1, 2 * t + 1, a)])
  have g1 : (G.new (.lst [key3 (l + 1, 2 * t, a), key3 (l + 1, 2 * t + 1, a)])).get G.n = some (.lst [key3 (l + 1, 2 * t, a), key3 (l + 1, 2 * t + 1, a)]) := Hh.get_new_self _
  have ha : evE C (.cons (.lst (.cons (.tup (.cons (.bin .add (.var 6) (.con (.int (1)))) (.cons (.bin .mul (.con (.int (2))) (.var 7)) (.cons (.var 8) .nil)))) (.cons (.tup (.cons (.bin .add (.var 6) (.con (.int (1)))) (.cons (.bin .add (.bin .mul (.con (.int (2))) (.var 7)) (.con (.int (1)))) (.cons (.var 8) .nil)))) .nil))) .nil) (Sg ws d tb nb rw st (.int l) (.int t) (optD a) y9 y10 y11) G = .ok (.tup [.ref G.n]) (G.new (.lst [key3 (l + 1, 2 * t, a), key3 (l + 1, 2 * t + 1, a)])) := by
    rw [e1, e2]
    simp only [ev_lst, ev_tup, ev_cons, ev_nil, ev_bin, ev_con, ev_var, List.getElem?_cons_succ, List.getElem?_cons_zero, rdv_int, rdv_opt, bindR_ok, tupR_tup, bin_add, bin_mul2, List.length_cons, List.length_nil, Nat.reduceAdd, sz3, sz2, if_true]
  generalize hG1 : G.new (.lst [key3 (l + 1, 2 * t, a), key3 (l + 1, 2 * t + 1, a)]) = G1 at x1 g1 ha
  have h1 := h.ext x1
  have hb : bfn .extend [.ref st, .ref G.n] G1 = .ok .non (G1.set st (.lst ((S ++ [(l + 1, 2 * t, a), (l + 1, 2 * t + 1, a)]).map key3))) := by
    have hl : (S.map key3).length + [key3 (l + 1, 2 * t, a), key3 (l + 1, 2 * t + 1, a)].length ≤ sizeMax := by
      rw [List.length_map]
      exact Nat.le_trans (by simp; omega : _ ≤ 1002) (by decide)
    simp only [bfn, h1.gs, g1, hl, if_true, List.map_append, List.map_cons, List.map_nil]
  refine ⟨_, ?_, x1.e2.trans (Ext2.set2 _), h1.setS n⟩
  rw [extS, es_expr, ev_meth]
  rw [show evE C (.var 5) (Sg ws d tb nb rw st (.int l) (.int t) (optD a) y9 y10 y11) G = .ok (.ref st) G from rfl, bindR_ok, hm, bindR_ok, ha, bindR_ok, tupR_tup, bindR_ok, hb, bindR_ok]
def whB : S := .seq popS (.seq leafS (.seq keptS (.seq pickS extS)))
theorem turn_ok (C : Cl) (ws names : List Int) (hne : names ≠ []) (hnl : names.length ≤ 900) (kvs : List (D × D)) (d tb nb rw st l t : Nat) (n : NeW tb nb rw st) (a : Option Int) (y6 y7 y8 y9 y10 y11 : D) (S : List Key3) (hS : S.length < 1000) (R : List Row) (hR : R.length < 1000) (G : Hh) (h : StW names kvs tb nb rw st (S ++ [(l, t, a)]) R G) (T : Tbl d names (fun l t a => co ws (d - l) t a) kvs) (hl : l + 1 ≤ d) (ht : t < 2 ^ l) (ha : Ans names a) :
    ∃ y6' y7' y8' y9' y10' G', evS C whB (Sg ws d tb nb rw st y6 y7 y8 y9 y10 y11) G = .ok (.nx, Sg ws d tb nb rw st y6' y7' y8' y9' y10' y11) G' ∧ Ext2 rw st G G' ∧ StW names kvs tb nb rw st (S ++ [(l + 1, 2 * t, ansA ws names d l t a), (l + 1, 2 * t + 1, ansA ws names d l t a)]) (R ++ preR ws names d l t a) G' := by
  obtain ⟨G1, s1, e1, h1⟩ := pop_ok C ws names kvs d tb nb rw st n y6 y7 y8 y9 y10 y11 S R l t a G h
  have s2 := noleaf_ok C ws d tb nb rw st l t (by omega) a y9 y10 y11 G1
  have s3 := kept_ok C ws names kvs d tb nb rw st l t a y9 y10 y11 S R G1 h1 T hl ht ha
  obtain ⟨y10', G2, s4, e2, h2⟩ := pickS_ok C ws names hne hnl kvs d tb nb rw st l t n a y10 y11 S R hR G1 h1 T hl ht ha
  obtain ⟨G3, s5, e3, h3⟩ := ext_ok C ws names kvs d tb nb rw st l t n (ansA ws names d l t a) (.int (both ws (d - (l + 1)) t a)) y10' y11 S hS _ G2 h2
  refine ⟨.int l, .int t, optD (ansA ws names d l t a), .int (both ws (d - (l + 1)) t a), y10', G3, ?_, e1.trans (e2.trans e3), h3⟩
  rw [whB, seq_nx s1, seq_nx s2, seq_nx s3, seq_nx s4, s5]
theorem turn_leaf (C : Cl) (ws names : List Int) (kvs : List (D × D)) (d tb nb rw st t : Nat) (n : NeW tb nb rw st) (a : Option Int) (y6 y7 y8 y9 y10 y11 : D) (S : List Key3) (R : List Row) (hR : R.length < 1000) (G : Hh) (h : StW names kvs tb nb rw st (S ++ [(d, t, a)]) R G) :
    ∃ y6' y7' y8' G', evS C whB (Sg ws d tb nb rw st y6 y7 y8 y9 y10 y11) G = .ok (.ct, Sg ws d tb nb rw st y6' y7' y8' y9 y10 y11) G' ∧ Ext2 rw st G G' ∧ StW names kvs tb nb rw st S (R ++ rowsOf ws names d 0 t a) G' := by
  obtain ⟨G1, s1, e1, h1⟩ := pop_ok C ws names kvs d tb nb rw st n y6 y7 y8 y9 y10 y11 S R d t a G h
  obtain ⟨G2, s2, e2, h2⟩ := leaf_ok C ws names kvs d tb nb rw st n y9 y10 y11 S R hR t a G1 h1
  refine ⟨.int d, .int t, optD a, G2, ?_, e1.trans e2, h2⟩
  rw [whB, seq_nx s1, es_seq, s2, bindR_ok, contS_ct]
theorem rows_zero (ws names : List Int) (d : Nat) : True := trivial
theorem pre_ans (ws names : List Int) (d l t r : Nat) (hr : l + (r + 1) = d) (a : Option Int) : rowsOf ws names d (r + 1) t a = preR ws names d l t a ++ (rowsOf ws names d r (2 * t + 1) (ansA ws names d l t a) ++ rowsOf ws names d r (2 * t) (ansA ws names d l t a)) := by
  have e1 : d - l = r + 1 := by omega
  have e2 : d - (l + 1) = r := by omega
  have e3 : d - (r + 1) = l := by omega
  simp only [rowsOf, preR, ansA, e1, e2, e3]
  split <;> rfl
theorem ans_ans {ws names : List Int} (hne : names ≠ []) {d l t : Nat} {a : Option Int} (ha : Ans names a) : Ans names (ansA ws names d l t a) := by
  unfold ansA
  split
  · exact .inr ⟨_, (least_spec _ names hne).1, rfl⟩
  · exact ha
theorem pre_len (ws names : List Int) (d l t : Nat) (a : Option Int) : (preR ws names d l t a).length ≤ 1 := by
  unfold preR
  split <;> simp
end Ev

/-! K60xc: the program's rows: the tree; least_prefixes. -/
namespace Ev
open PySem
theorem while_go (c : List D → M Bool) (f : List D → M (Fl × List D)) (m : Nat) (σ σ2 : List D) (G G' : Hh) (hc : c σ G = .ok true G) (hf : f σ G = .ok (.nx, σ2) G' ∨ f σ G = .ok (.ct, σ2) G') : whileN c f (m + 1) σ G = whileN c f m σ2 G' := by
  rcases hf with hf | hf <;> simp only [whileN, hc, hf]
theorem while_end (c : List D → M Bool) (f : List D → M (Fl × List D)) (m : Nat) (σ : List D) (G : Hh) (hc : c σ G = .ok false G) : whileN c f (m + 1) σ G = .ok (.nx, σ) G := by
  simp only [whileN, hc]
def stepsN : Nat → Nat
  | 0 => 1
  | r + 1 => stepsN r + stepsN r + 1
def wcd (C : Cl) (σ : List D) : M Bool := M.bind (evE C (.var 5) σ) truthM
theorem cond_ok (C : Cl) (ws names : List Int) (kvs : List (D × D)) (d tb nb rw st : Nat) (y6 y7 y8 y9 y10 y11 : D) (S : List Key3) (R : List Row) (G : Hh) (h : StW names kvs tb nb rw st S R G) : wcd C (Sg ws d tb nb rw st y6 y7 y8 y9 y10 y11) G = .ok (!S.isEmpty) G := by
  have hv : evE C (.var 5) (Sg ws d tb nb rw st y6 y7 y8 y9 y10 y11) G = .ok (.ref st) G := rfl
  rw [wcd, bind_eq, hv, bindR_ok]
  have : truth G (.ref st) = some (!S.isEmpty) := by
    simp only [truth, h.gs]
    cases S <;> rfl
  simp only [truthM, this]
theorem tree_ok (C : Cl) (ws names : List Int) (hm : ∀ x, x ∈ names ↔ x ∈ ws) (hne : names ≠ []) (hnl : names.length ≤ 900) (kvs : List (D × D)) (d tb nb rw st : Nat) (n : NeW tb nb rw st) (T : Tbl d names (fun l t a => co ws (d - l) t a) kvs) : ∀ (r l t : Nat) (a : Option Int) (y6 y7 y8 y9 y10 y11 : D) (S : List Key3) (R : List Row) (G : Hh) (m : Nat),
    l + r = d → t < 2 ^ l → Ans names a → S.length + r < 900 → R.length + 2 ^ (r + 1) ≤ 900 → StW names kvs tb nb rw st (S ++ [(l, t, a)]) R G →
    ∃ y6' y7' y8' y9' y10' G', whileN (wcd C) (fun σ' => evS C whB σ') (m + stepsN r) (Sg ws d tb nb rw st y6 y7 y8 y9 y10 y11) G = whileN (wcd C) (fun σ' => evS C whB σ') m (Sg ws d tb nb rw st y6' y7' y8' y9' y10' y11) G' ∧ Ext2 rw st G G' ∧ StW names kvs tb nb rw st S (R ++ rowsOf ws names d r t a) G'
  | 0, l, t, a, y6, y7, y8, y9, y10, y11, S, R, G, m, hr, ht, ha, hS, hR, h => by
    have e : l = d := by omega
    subst e
    have hc := cond_ok C ws names kvs l tb nb rw st y6 y7 y8 y9 y10 y11 _ R G h
    obtain ⟨y6', y7', y8', G1, s1, e1, h1⟩ := turn_leaf C ws names kvs l tb nb rw st t n a y6 y7 y8 y9 y10 y11 S R (by omega) G h
    refine ⟨y6', y7', y8', y9, y10, G1, ?_, e1, h1⟩
    exact while_go _ _ m _ _ G G1 (by rw [hc]; cases S <;> rfl) (.inr s1)
  | r + 1, l, t, a, y6, y7, y8, y9, y10, y11, S, R, G, m, hr, ht, ha, hS, hR, h => by
    have hc := cond_ok C ws names kvs d tb nb rw st y6 y7 y8 y9 y10 y11 _ R G h
    have p1 : 1 ≤ 2 ^ r := Nat.one_le_two_pow
    have p2 : 2 ^ (r + 1) = 2 * 2 ^ r := by rw [Nat.pow_succ]; omega
    have p3 : 2 ^ (r + 1 + 1) = 2 * 2 ^ (r + 1) := by rw [Nat.pow_succ]; omega
    have p4 : 2 ^ (l + 1) = 2 * 2 ^ l := by rw [Nat.pow_succ]; omega
    have pl := pre_len ws names d l t a
    have aa := ans_ans (ws := ws) hne (d := d) (l := l) (t := t) ha
    obtain ⟨z6, z7, z8, z9, z10, G1, s1, e1, h1⟩ := turn_ok C ws names hne hnl kvs d tb nb rw st l t n a y6 y7 y8 y9 y10 y11 S (by omega) R (by omega) G h T (by omega) ht ha
    have h1' : StW names kvs tb nb rw st ((S ++ [(l + 1, 2 * t, ansA ws names d l t a)]) ++ [(l + 1, 2 * t + 1, ansA ws names d l t a)]) (R ++ preR ws names d l t a) G1 := by
      rw [List.append_assoc]
      exact h1
    have g1 := while_go (wcd C) (fun σ' => evS C whB σ') (m + stepsN r + stepsN r) _ _ G G1 (by rw [hc]; cases S <;> rfl) (.inl s1)
    obtain ⟨u6, u7, u8, u9, u10, G2, g2, e2, h2⟩ := tree_ok C ws names hm hne hnl kvs d tb nb rw st n T r (l + 1) (2 * t + 1) (ansA ws names d l t a) z6 z7 z8 z9 z10 y11 (S ++ [(l + 1, 2 * t, ansA ws names d l t a)]) (R ++ preR ws names d l t a) G1 (m + stepsN r) (by omega) (by omega) aa (by simp; omega) (by rw [List.length_append]; omega) h1'
    have rl := rows_len ws names hm hne d r (2 * t + 1) (ansA ws names d l t a)
    have cl := co_le ws r (2 * t + 1) (ansA ws names d l t a)
    obtain ⟨v6, v7, v8, v9, v10, G3, g3, e3, h3⟩ := tree_ok C ws names hm hne hnl kvs d tb nb rw st n T r (l + 1) (2 * t) (ansA ws names d l t a) u6 u7 u8 u9 u10 y11 S _ G2 m (by omega) (by omega) aa (by omega) (by rw [List.length_append, List.length_append, rl]; omega) h2
    refine ⟨v6, v7, v8, v9, v10, G3, ?_, e1.trans (e2.trans e3), ?_⟩
    · rw [← g3, ← g2, ← g1]
      congr 1
      simp only [stepsN]
      omega
    · rw [pre_ans ws names d l t r hr]
      simp only [List.append_assoc] at h3 ⊢
      exact h3
theorem whl_eq (C : Cl) (σ : List D) (G : Hh) : evS C (.whl (.var 5) whB) σ G = whileN (wcd C) (fun σ' => evS C whB σ') whileFuel σ G := rfl
theorem loop4_ok (C : Cl) (ws names : List Int) (hm : ∀ x, x ∈ names ↔ x ∈ ws) (hne : names ≠ []) (hnl : names.length ≤ 900) (kvs : List (D × D)) (d tb nb rw st : Nat) (hd : d ≤ 3) (n : NeW tb nb rw st) (T : Tbl d names (fun l t a => co ws (d - l) t a) kvs) (y6 y7 y8 y9 y10 y11 : D) (G : Hh) (h : StW names kvs tb nb rw st [(0, 0, none)] [] G) :
    ∃ y6' y7' y8' y9' y10' G', evS C (.whl (.var 5) whB) (Sg ws d tb nb rw st y6 y7 y8 y9 y10 y11) G = .ok (.nx, Sg ws d tb nb rw st y6' y7' y8' y9' y10' y11) G' ∧ Ext2 rw st G G' ∧ StW names kvs tb nb rw st [] (rowsOf ws names d d 0 none) G' := by
  have hs : stepsN d ≤ 15 := by
    have : d = 0 ∨ d = 1 ∨ d = 2 ∨ d = 3 := by omega
    rcases this with rfl | rfl | rfl | rfl <;> decide
  obtain ⟨m, hf⟩ : ∃ m, whileFuel = (m + 1) + stepsN d := ⟨whileFuel - stepsN d - 1, by
    have : 16 ≤ whileFuel := by decide
    omega⟩
  have hp : 2 ^ (d + 1) ≤ 16 := by
    have := pow2_le hd
    rw [Nat.pow_succ]
    omega
  obtain ⟨v6, v7, v8, v9, v10, G1, g1, e1, h1⟩ := tree_ok C ws names hm hne hnl kvs d tb nb rw st n T d 0 0 none y6 y7 y8 y9 y10 y11 [] [] G (m + 1) (by omega) (by decide) (.inl rfl) (by simp; omega) (by simp; omega) h
  refine ⟨v6, v7, v8, v9, v10, G1, ?_, e1, h1⟩
  rw [whl_eq, hf, g1]
  exact while_end _ _ _ _ _ (by rw [cond_ok C ws names kvs d tb nb rw st v6 v7 v8 v9 v10 y11 _ _ G1 h1]; rfl)
theorem seqOf_lst {G : Hh} {a : Nat} {l : List D} (h : G.get a = some (.lst l)) : seqOf G (.ref a) = some l := by simp only [seqOf, h]
def ret4 : S := .ret (.tup (.cons (.bfn .tuple (.cons (.bfn .sorted (.cons (.var 4) .nil)) .nil)) (.cons (.var 2) .nil)))
theorem ret4_ok (C : Cl) (ws names : List Int) (kvs : List (D × D)) (d tb nb rw st : Nat) (y6 y7 y8 y9 y10 y11 : D) (S : List Key3) (R : List Row) (hR : ∀ x ∈ R, SmR x) (hl : R.length < 64) (G : Hh) (h : StW names kvs tb nb rw st S R G) :
    ∃ G', evS C ret4 (Sg ws d tb nb rw st y6 y7 y8 y9 y10 y11) G = .ok (.rt (.tup [.tup ((srt R).map rowD), .ref tb]), Sg ws d tb nb rw st y6 y7 y8 y9 y10 y11) G' ∧ Ext G G' := by
  have hs := sorted_ok R hR hl (.ref rw) G (seqOf_lst h.gr)
  have e1 := Ext.new G (.lst ((srt R).map rowD))
  have g1 : (G.new (.lst ((srt R).map rowD))).get G.n = some (.lst ((srt R).map rowD)) := Hh.get_new_self _
  generalize G.new (.lst ((srt R).map rowD)) = G1 at hs e1 g1
  have ht : bfn .tuple [.ref G.n] G1 = .ok (.tup ((srt R).map rowD)) G1 := by simp only [bfn, seqOf_lst g1]
  have sz2 : (2 ≤ sizeMax) = True := eq_true (by decide)
  refine ⟨G1, ?_, e1⟩
  simp only [ret4, es_ret, ev_tup, ev_cons, ev_nil, ev_bfn, ev_var, List.getElem?_cons_succ, List.getElem?_cons_zero, rdv_ref, bindR_ok, tupR_tup, hs, ht, List.length_cons, List.length_nil, Nat.reduceAdd, sz2, if_true]
theorem rows_names (ws names : List Int) (hm : ∀ x, x ∈ names ↔ x ∈ ws) (hne : names ≠ []) (d : Nat) : ∀ (r t : Nat) (a : Option Int), ∀ x ∈ rowsOf ws names d r t a, x.2.2 ∈ names
  | 0, t, a, x, hx => by
    simp only [rowsOf] at hx
    split at hx
    · simp at hx
    · rename_i h
      simp only [List.mem_cons, List.not_mem_nil, or_false] at hx
      subst hx
      show ws.getD t 0 ∈ names
      by_cases hl : t < ws.length
      · rw [hm, List.getD_eq_getElem?_getD, List.getElem?_eq_getElem hl]
        exact List.getElem_mem hl
      · exfalso
        apply h
        simp [hit, List.getElem?_eq_none_iff.mpr (by omega : ws.length ≤ t)]
  | r + 1, t, a, x, hx => by
    simp only [rowsOf] at hx
    split at hx
    · rcases List.mem_cons.mp hx with rfl | hx
      · exact (least_spec _ names hne).1
      · rcases List.mem_append.mp hx with hx | hx
        · exact rows_names ws names hm hne d r _ _ x hx
        · exact rows_names ws names hm hne d r _ _ x hx
    · rcases List.mem_append.mp hx with hx | hx
      · exact rows_names ws names hm hne d r _ _ x hx
      · exact rows_names ws names hm hne d r _ _ x hx
end Ev

/-! K60xd: least_prefixes. -/
namespace Ev
open PySem
/-- the program's rows, as they are met -/
def rowsW (ws : List Int) : List Row := rowsOf ws (once ws) (bitsN ws.length) (bitsN ws.length) 0 none
theorem bitsN_le (n : Nat) : bitsN n ≤ 3 := by unfold bitsN; split <;> (try split) <;> (try split) <;> omega
theorem once_ne {ws : List Int} (h : 1 ≤ ws.length) : once ws ≠ [] := fun z => by
  obtain ⟨x, hx⟩ : ∃ x, x ∈ ws := ⟨ws[0], List.getElem_mem _⟩
  have := (once_mem ws x).mpr hx
  rw [z] at this
  simp at this
theorem rowsW_in {ws : List Int} (h : 1 ≤ ws.length) : ∀ x ∈ rowsW ws, x.1 ≤ bitsN ws.length ∧ x.2.1 < 2 ^ x.1 ∧ x.2.2 ∈ ws := fun x hx => by
  obtain ⟨_, h2, h3⟩ := rows_in ws (once ws) (bitsN ws.length) (bitsN ws.length) 0 none (Nat.le_refl _) x hx
  refine ⟨h2, ?_, (once_mem ws _).mp (rows_names ws (once ws) (once_mem ws) (once_ne h) _ _ _ _ x hx)⟩
  rw [Nat.sub_self, Nat.sub_zero] at h3
  exact Nat.lt_of_div_eq_zero Nat.one_le_two_pow h3
theorem rowsW_sm {ws : List Int} (h : 1 ≤ ws.length) (hv : ∀ x ∈ ws, 0 ≤ x ∧ x < 64) : ∀ x ∈ rowsW ws, SmR x := fun x hx => by
  obtain ⟨h1, h2, h3⟩ := rowsW_in h x hx
  have hd := bitsN_le ws.length
  have := pow2_le (l := x.1) (by omega)
  obtain ⟨h4, h5⟩ := hv _ h3
  exact ⟨by omega, by omega, h4, h5⟩
theorem rowsW_len {ws : List Int} (h : 1 ≤ ws.length) : (rowsW ws).length = co ws (bitsN ws.length) 0 none := rows_len ws (once ws) (once_mem ws) (once_ne h) _ _ _ _
theorem rowsW_le {ws : List Int} (h : 1 ≤ ws.length) : (rowsW ws).length ≤ 8 := by
  rw [rowsW_len h]
  exact Nat.le_trans (co_le ws _ _ _) (pow2_le (bitsN_le _))
theorem Ext.ext2 {p q : Nat} {G G1 G2 : Hh} (a : Ext G G1) (b : Ext2 p q G1 G2) (hp : G.n ≤ p) (hq : G.n ≤ q) : Ext G G2 :=
  ⟨Nat.le_trans a.le b.le, fun x h => by rw [b.eq x (Nat.lt_of_lt_of_le h a.le) (by omega) (by omega), a.eq x h]⟩
def startE : E := .lst (.cons (.tup (.cons (.con (.int (0))) (.cons (.con (.int (0))) (.cons (.con .non) .nil)))) .nil)
theorem start_ok (C : Cl) (σ : List D) (G : Hh) : evE C startE σ G = .ok (.ref G.n) (G.new (.lst ([((0, 0, none) : Key3)].map key3))) := by
  have sz3 : (3 ≤ sizeMax) = True := eq_true (by decide)
  have sz1 : (1 ≤ sizeMax) = True := eq_true (by decide)
  simp only [startE, ev_lst, ev_tup, ev_cons, ev_nil, ev_con, bindR_ok, tupR_tup, List.length_cons, List.length_nil, Nat.reduceAdd, sz3, sz1, if_true]
  rfl
theorem prefix_ok (k : Nat) (ws : List Int) (h1 : 1 ≤ ws.length) (h8 : ws.length ≤ 8) (hv : ∀ x ∈ ws, 0 ≤ x ∧ x < 64) (G : Hh) :
    ∃ (tb : Nat) (kvs : List (D × D)) (G' : Hh), callN PP (k + 3) 4 [Ws ws] G = .ok (.tup [.tup ((srt (rowsW ws)).map rowD), .ref tb]) G' ∧ Ext G G' ∧ G'.get tb = some (.dct kvs) ∧ Tbl (bitsN ws.length) (once ws) (fun l t a => co ws (bitsN ws.length - l) t a) kvs := by
  have hd := bitsN_le ws.length
  have hol := once_le ws
  have hb := bits_ok (k + 1) G ws.length h1 h8
  obtain ⟨tb, kvs, G1, hc, e1, tn, g1, T⟩ := cost_ok k ws h1 h8 G
  obtain ⟨G2, ha, e2, n2, g2⟩ := answers_ok (k + 1) ws (by omega) G1
  have e3 := Ext.new G2 (.lst [])
  have g3 : (G2.new (.lst [])).get G2.n = some (.lst []) := Hh.get_new_self _
  have n3 : (G2.new (.lst [])).n = G2.n + 1 := rfl
  have s3 : ∀ (C : Cl) (d0 d1 d2 d3 : D), evS C (.asg (.nm 4) (.lst .nil)) [d0, d1, d2, d3, .und, .und, .und, .und, .und, .und, .und, .und] G2 = .ok (.nx, [d0, d1, d2, d3, .ref G2.n, .und, .und, .und, .und, .und, .und, .und]) (G2.new (.lst [])) := fun _ _ _ _ _ => rfl
  generalize G2.new (.lst []) = G3 at e3 g3 n3 s3
  have e4 := Ext.new G3 (.lst ([((0, 0, none) : Key3)].map key3))
  have g4 : (G3.new (.lst ([((0, 0, none) : Key3)].map key3))).get G3.n = some (.lst ([((0, 0, none) : Key3)].map key3)) := Hh.get_new_self _
  have s4 : ∀ (C : Cl) (d0 d1 d2 d3 d4 : D), evS C (.asg (.nm 5) startE) [d0, d1, d2, d3, d4, .und, .und, .und, .und, .und, .und, .und] G3 = .ok (.nx, [d0, d1, d2, d3, d4, .ref G3.n, .und, .und, .und, .und, .und, .und]) (G3.new (.lst ([((0, 0, none) : Key3)].map key3))) := fun C d0 d1 d2 d3 d4 => by
    rw [es_asg, start_ok, bindR_ok]
    rfl
  generalize G3.new (.lst ([((0, 0, none) : Key3)].map key3)) = G4 at e4 g4 s4
  have q1 := Hh.get_lt g1
  have q2 := e1.le
  have q3 := e2.le
  have st : StW (once ws) kvs tb G1.n G2.n G3.n [(0, 0, none)] [] G4 := ⟨e4.get (e3.get (e2.get g1)), e4.get (e3.get g2), e4.get g3, g4⟩
  obtain ⟨y6, y7, y8, y9, y10, G5, hl, e5, h5⟩ := loop4_ok ⟨callN PP (k + 2)⟩ ws (once ws) (once_mem ws) (once_ne h1) (by omega) kvs (bitsN ws.length) tb G1.n G2.n G3.n hd ⟨by omega, by omega, by omega, by omega, by omega⟩ T .und .und .und .und .und .und G4 st
  obtain ⟨G6, hr, e6⟩ := ret4_ok ⟨callN PP (k + 2)⟩ ws (once ws) kvs (bitsN ws.length) tb G1.n G2.n G3.n y6 y7 y8 y9 y10 .und [] (rowsW ws) (rowsW_sm h1 hv) (by have := rowsW_le h1; omega) G5 h5
  have eA : Ext G G4 := e1.trans (e2.trans (e3.trans e4))
  refine ⟨tb, kvs, G6, ?_, (eA.ext2 e5 (by omega) (by omega)).trans e6, e6.get h5.gt, T⟩
  rw [callN_at (k + 2) 4 q4 _ _ rfl, runF_eq rfl]
  generalize callN PP (k + 2) = cf at hb hc ha hl hr
  have s0 : evS ⟨cf⟩ (.asg (.nm 1) (.call 0 (.cons (.bfn .len (.cons (.var 0) .nil)) .nil))) [Ws ws, .und, .und, .und, .und, .und, .und, .und, .und, .und, .und, .und] G = .ok (.nx, [Ws ws, .int (bitsN ws.length), .und, .und, .und, .und, .und, .und, .und, .und, .und, .und]) G := by
    simp only [es_asg, ev_call, ev_cons, ev_nil, ev_bfn, ev_var, List.getElem?_cons_zero, rdv_tup, bindR_ok, tupR_tup, bfn_len_tup, List.length_map, hb, asgT, List.length_cons, List.length_nil, Nat.reduceAdd, Nat.reduceLT, if_true, optR_some, List.set_cons_succ, List.set_cons_zero]
  have s1 : evS ⟨cf⟩ (.asg (.nm 2) (.call 2 (.cons (.var 0) .nil))) [Ws ws, .int (bitsN ws.length), .und, .und, .und, .und, .und, .und, .und, .und, .und, .und] G = .ok (.nx, [Ws ws, .int (bitsN ws.length), .ref tb, .und, .und, .und, .und, .und, .und, .und, .und, .und]) G1 := by
    simp only [es_asg, ev_call, ev_cons, ev_nil, ev_var, List.getElem?_cons_zero, rdv_tup, bindR_ok, tupR_tup, hc]
    rfl
  have s2 : evS ⟨cf⟩ (.asg (.nm 3) (.call 1 (.cons (.var 0) .nil))) [Ws ws, .int (bitsN ws.length), .ref tb, .und, .und, .und, .und, .und, .und, .und, .und, .und] G1 = .ok (.nx, [Ws ws, .int (bitsN ws.length), .ref tb, .ref G1.n, .und, .und, .und, .und, .und, .und, .und, .und]) G2 := by
    simp only [es_asg, ev_call, ev_cons, ev_nil, ev_var, List.getElem?_cons_zero, rdv_tup, bindR_ok, tupR_tup, ha]
    rfl
  show outF (evS _ (.seq (.asg (.nm 1) (.call 0 (.cons (.bfn .len (.cons (.var 0) .nil)) .nil))) (.seq (.asg (.nm 2) (.call 2 (.cons (.var 0) .nil))) (.seq (.asg (.nm 3) (.call 1 (.cons (.var 0) .nil))) (.seq (.asg (.nm 4) (.lst .nil)) (.seq (.asg (.nm 5) startE) (.seq (.whl (.var 5) whB) ret4)))))) [Ws ws, .und, .und, .und, .und, .und, .und, .und, .und, .und, .und, .und] G) = _
  rw [seq_nx s0, seq_nx s1, seq_nx s2, seq_nx (s3 _ _ _ _ _), seq_nx (s4 _ _ _ _ _ _), seq_nx hl, hr, outF_rt]
end Ev

/-! K60ya: the law's tables: one more row. -/
namespace Ev
open PySem
def lexlt (x y : Row) : Prop := x.1 < y.1 ∨ (x.1 = y.1 ∧ x.2.1 < y.2.1)
theorem lexlt.trans {x y z : Row} (a : lexlt x y) (b : lexlt y z) : lexlt x z := by
  unfold lexlt at *
  omega
/-- a table of at most n rows, in order -/
structure GoodT (d : Nat) (names : List Int) (n : Nat) (rows : List Row) : Prop where
  len : rows.length ≤ n
  ord : rows.Pairwise lexlt
  mem : ∀ x ∈ rows, x.1 ≤ d ∧ x.2.1 < 2 ^ x.1 ∧ x.2.2 ∈ names
def TabAt (d : Nat) (names : List Int) (n : Nat) (G : Hh) (x : Nat) : Prop := ∃ rows, G.get x = some (.lst (rows.map rowD)) ∧ GoodT d names n rows
theorem TabAt.ext {d : Nat} {names : List Int} {n : Nat} {G G' : Hh} {x : Nat} (h : TabAt d names n G x) (e : Ext G G') : TabAt d names n G' x := by
  obtain ⟨rows, h1, h2⟩ := h
  exact ⟨rows, e.get h1, h2⟩
theorem TabAt.mono {d : Nat} {names : List Int} {n n' : Nat} {G : Hh} {x : Nat} (h : TabAt d names n G x) (e : n ≤ n') : TabAt d names n' G x := by
  obtain ⟨rows, h1, h2⟩ := h
  exact ⟨rows, h1, ⟨Nat.le_trans h2.len e, h2.ord, h2.mem⟩⟩
theorem last_le : ∀ (rows : List Row), rows.Pairwise lexlt → ∀ y, rows.getLast? = some y → ∀ z ∈ rows, z = y ∨ lexlt z y
  | [], _, y, h, z, hz => by simp at hz
  | [x], _, y, h, z, hz => by
    simp only [List.getLast?_singleton, Option.some.injEq] at h
    simp only [List.mem_cons, List.not_mem_nil, or_false] at hz
    exact .inl (hz.trans h)
  | x :: x' :: rows, hp, y, h, z, hz => by
    rw [List.pairwise_cons] at hp
    rw [List.getLast?_cons_cons] at h
    rcases List.mem_cons.mp hz with rfl | hz
    · exact .inr (hp.1 y (List.mem_of_getLast? h))
    · exact last_le (x' :: rows) hp.2 y h z hz
theorem GoodT.snoc {d : Nat} {names : List Int} {n : Nat} {rows : List Row} (h : GoodT d names n rows) (x : Row) (hx : x.1 ≤ d ∧ x.2.1 < 2 ^ x.1 ∧ x.2.2 ∈ names) (hl : ∀ y, rows.getLast? = some y → lexlt y x) : GoodT d names (n + 1) (rows ++ [x]) where
  len := by
    have := h.len
    simp
    omega
  ord := by
    rw [List.pairwise_append]
    refine ⟨h.ord, by simp, fun a ha b hb => ?_⟩
    simp only [List.mem_cons, List.not_mem_nil, or_false] at hb
    subst hb
    cases hg : rows.getLast? with
    | none =>
      rw [List.getLast?_eq_none_iff] at hg
      subst hg
      simp at ha
    | some y =>
      rcases last_le rows h.ord y hg a ha with rfl | q
      · exact hl _ hg
      · exact q.trans (hl y hg)
  mem := fun y hy => by
    rcases List.mem_append.mp hy with hy | hy
    · exact h.mem y hy
    · simp only [List.mem_cons, List.not_mem_nil, or_false] at hy
      subst hy
      exact hx
/-! ### one more row, each answer -/
def tqE : E := .bin .add (.var 7) (.lst (.cons (.tup (.cons (.var 8) (.cons (.var 9) (.cons (.var 10) .nil)))) .nil))
def tqC : E := .comp [10] .seq (.var 1) (.nm 10) false .bad tqE
theorem tqE_ok (C : Cl) (d0 d1 d2 d3 d4 d5 d6 : D) (x l h : Nat) (a : Int) (rows : List Row) (hr : rows.length ≤ 100) (G : Hh) (gx : G.get x = some (.lst (rows.map rowD))) :
    ∃ y G', evE C tqE [d0, d1, d2, d3, d4, d5, d6, .ref x, .int l, .int h, .int a] G = .ok (.ref y) G' ∧ Ext G G' ∧ G'.get y = some (.lst ((rows ++ [(l, h, a)]).map rowD)) := by
  have sz3 : (3 ≤ sizeMax) = True := eq_true (by decide)
  have sz1 : (1 ≤ sizeMax) = True := eq_true (by decide)
  have h2 : evE C (.lst (.cons (.tup (.cons (.var 8) (.cons (.var 9) (.cons (.var 10) .nil)))) .nil)) [d0, d1, d2, d3, d4, d5, d6, .ref x, .int l, .int h, .int a] G = .ok (.ref G.n) (G.new (.lst [rowD (l, h, a)])) := by
    simp only [ev_lst, ev_tup, ev_cons, ev_nil, ev_var, List.getElem?_cons_succ, List.getElem?_cons_zero, rdv_int, bindR_ok, tupR_tup, List.length_cons, List.length_nil, Nat.reduceAdd, sz3, sz1, if_true]
    rfl
  have e1 := Ext.new G (.lst [rowD (l, h, a)])
  have g1 : (G.new (.lst [rowD (l, h, a)])).get G.n = some (.lst [rowD (l, h, a)]) := Hh.get_new_self _
  generalize G.new (.lst [rowD (l, h, a)]) = G1 at h2 e1 g1
  have hadd := add_lst (e1.get gx) g1 (by rw [List.length_map]; exact Nat.le_trans (by simp; omega : _ ≤ 101) (by decide))
  have hv : evE C (.var 7) [d0, d1, d2, d3, d4, d5, d6, .ref x, .int l, .int h, .int a] G = .ok (.ref x) G := rfl
  refine ⟨G1.n, _, ?_, e1.trans (Ext.new G1 (.lst (rows.map rowD ++ [rowD (l, h, a)]))), ?_⟩
  · rw [tqE, ev_bin, hv, bindR_ok, h2, bindR_ok, hadd]
  · rw [Hh.get_new_self]
    simp
theorem tq_ok (C : Cl) (d : Nat) (names : List Int) (hnl : names.length ≤ 8) (nb x l h n : Nat) (rows : List Row) (hn : n ≤ 5) (hl : l ≤ d) (hh : h < 2 ^ l) (d0 d2 d3 d4 d5 d6 y10 : D) (G : Hh) (gn : G.get nb = some (.lst (names.map D.int))) (gx : G.get x = some (.lst (rows.map rowD))) (T : GoodT d names n rows) (hlast : ∀ y, rows.getLast? = some y → y.1 < l ∨ (y.1 = l ∧ y.2.1 < h)) :
    ∃ (a : Nat) (xs : List Nat) (G' : Hh), evE C tqC [d0, .ref nb, d2, d3, d4, d5, d6, .ref x, .int l, .int h, y10] G = .ok (.ref a) G' ∧ Ext G G' ∧ G'.get a = some (.lst (xs.map D.ref)) ∧ xs.length = names.length ∧ ∀ y ∈ xs, TabAt d names (n + 1) G' y := by
  obtain ⟨ys, G2, hc, xs, rfl, hxl, e, hx⟩ := compN_inv (.live nb names.length) (.nm 10) [d0, .ref nb, d2, d3, d4, d5, d6, .ref x, .int l, .int h, .und] (fun σ' acc => M.bind (evE C tqE σ') fun y => pushM acc y) names.length
    (fun i acc G' => ∃ xs : List Nat, acc = xs.map D.ref ∧ xs.length = i ∧ Ext G G' ∧ ∀ y ∈ xs, TabAt d names (n + 1) G' y)
    (fun i acc G' hi ⟨xs, e0, e1, e2, e3⟩ => by
      subst e0
      obtain ⟨y, G1, q1, q2, q3⟩ := tqE_ok C d0 (.ref nb) d2 d3 d4 d5 d6 x l h names[i] rows (by have := T.len; omega) G' (e2.get gx)
      refine ⟨.int names[i], [d0, .ref nb, d2, d3, d4, d5, d6, .ref x, .int l, .int h, .int names[i]], (xs ++ [y]).map D.ref, G1, ?_, rfl, ?_, xs ++ [y], rfl, by simp [e1], e2.trans q2, fun z hz => ?_⟩
      · simp [Src.at, e2.get gn, hi]
      · rw [bind_eq, q1, bindR_ok]
        have hl : (xs.map D.ref).length < sizeMax := by
          rw [List.length_map]
          exact Nat.lt_of_le_of_lt (by omega : _ ≤ 8) (by decide)
        simp only [pushM, hl, if_true, M.pure, List.map_append, List.map_cons, List.map_nil]
      · rcases List.mem_append.mp hz with hz | hz
        · exact (e3 z hz).ext q2
        · simp only [List.mem_cons, List.not_mem_nil, or_false] at hz
          subst hz
          exact ⟨_, q3, T.snoc _ ⟨hl, hh, List.getElem_mem hi⟩ hlast⟩)
    (fun a G' ⟨_, _, _, e2, _⟩ => by simp [Src.at, e2.get gn]) names.length 0 [] G (by omega) ⟨[], rfl, rfl, Ext.refl G, fun y hy => by simp at hy⟩
  have e2 := Ext.new G2 (.lst (xs.map D.ref))
  refine ⟨G2.n, xs, G2.new (.lst (xs.map D.ref)), ?_, e.trans e2, Hh.get_new_self _, hxl, fun y hy => (hx y hy).ext e2⟩
  have hsrc : srcOf .seq (.ref nb) G = some (.live nb names.length) := by simp [srcOf, gn]
  have hv : evE C (.var 1) [d0, .ref nb, d2, d3, d4, d5, d6, .ref x, .int l, .int h, y10] G = .ok (.ref nb) G := rfl
  rw [tqC, comp_ev, hv, bindR_ok, hsrc, optR_some, bindR_ok]
  show bindR (compN (.live nb names.length) (.nm 10) [d0, .ref nb, d2, d3, d4, d5, d6, .ref x, .int l, .int h, .und] _ names.length 0 [] G) _ = _
  rw [hc, bindR_ok]
end Ev

/-! K60yb: the law's tables: a head's turn, all heads of a table. -/
namespace Ev
open PySem
def thO : E := .bin .gt (.tup (.cons (.var 8) (.cons (.var 9) .nil))) (.slice (.bin .idx (.var 7) (.neg (.con (.int (1))))) false (.con (.int (0))) true (.con (.int (2))))
def thC : E := .or (.bin .eq (.bfn .len (.cons (.var 7) .nil)) (.con (.int (0)))) thO
def thB : S := .ite thC (.asg (.nm 6) (.bin .add (.var 6) tqC)) .skip
theorem cut2 (a b c : D) : cutL [a, b, c] none (some 2) = [a, b] := by
  unfold cutL
  simp
theorem ix_last {n : Nat} (h : 0 < n) : ixN n (-1) = some (n - 1) := by
  unfold ixN
  rw [if_neg (by decide), if_pos (by omega)]
  congr 1
  omega
theorem lts2 (a b c d : Int) : D.lts [.int a, .int b] [.int c, .int d] = some (decide (a < c ∨ (a = c ∧ b < d))) := by
  by_cases h : a = c
  · subst h
    by_cases h2 : b = d
    · subst h2
      simp [D.lts, D.lt, D.eqv]
    · simp [D.lts, D.lt, D.eqv, h2]
  · simp [D.lts, D.lt, D.eqv, h]
theorem lex_pair (l h l' h' : Nat) (G : Hh) : bin .gt (.tup [.int (l : Int), .int (h : Int)]) (.tup [.int (l' : Int), .int (h' : Int)]) G = .ok (.bl (decide (l' < l ∨ (l' = l ∧ h' < h)))) G := by
  have e : ltD (.tup [.int (l' : Int), .int (h' : Int)]) (.tup [.int (l : Int), .int (h : Int)]) = some (decide (l' < l ∨ (l' = l ∧ h' < h))) := by
    have d2 : ∀ a b : Int, (D.tup [.int a, .int b]).depth = 1 := fun a b => by simp [D.depth, D.depths]
    have f2 : ∀ a b : Int, (D.tup [.int a, .int b]).flat = true := fun a b => by simp [D.flat, D.flats]
    have q := lts2 (l' : Int) (h' : Int) (l : Int) (h : Int)
    have e3 : (decide ((l' : Int) < (l : Int) ∨ ((l' : Int) = (l : Int) ∧ (h' : Int) < (h : Int)))) = decide (l' < l ∨ (l' = l ∧ h' < h)) := by
      congr 1
      simp only [eq_iff_iff]
      omega
    simp only [ltD, d2, f2, D.lt, q, e3]
    rfl
  simp only [bin, e]
theorem thC_ok (C : Cl) (x l h : Nat) (rows : List Row) (d0 d1 d2 d3 d4 d5 d6 y10 : D) (G : Hh) (gx : G.get x = some (.lst (rows.map rowD))) :
    ∃ b : Bool, evE C thC [d0, d1, d2, d3, d4, d5, d6, .ref x, .int l, .int h, y10] G = .ok (.bl b) G ∧ (b = true → ∀ y, rows.getLast? = some y → y.1 < l ∨ (y.1 = l ∧ y.2.1 < h)) := by
  have hl := len_lst gx
  rw [List.length_map] at hl
  have h1 : evE C (.bin .eq (.bfn .len (.cons (.var 7) .nil)) (.con (.int (0)))) [d0, d1, d2, d3, d4, d5, d6, .ref x, .int l, .int h, y10] G = .ok (.bl (decide ((rows.length : Int) = 0))) G := by
    simp only [ev_bin, ev_bfn, ev_cons, ev_nil, ev_con, ev_var, List.getElem?_cons_succ, List.getElem?_cons_zero, rdv_ref, bindR_ok, tupR_tup, hl, bin_eq]
  by_cases hr : rows = []
  · subst hr
    refine ⟨true, ?_, fun _ y hy => by simp at hy⟩
    rw [thC, ev_or, h1, bindR_ok, truR_bl, bindR_ok]
    rfl
  · have hp : 0 < rows.length := by cases rows with | nil => exact absurd rfl hr | cons a b => simp
    have hn : ¬ ((rows.length : Int) = 0) := by omega
    obtain ⟨y, hy⟩ : ∃ y, rows.getLast? = some y := by
      cases hg : rows.getLast? with
      | none => exact absurd (List.getLast?_eq_none_iff.mp hg) hr
      | some y => exact ⟨y, rfl⟩
    have hi : bin .idx (.ref x) (.int (-1)) G = .ok (rowD y) G := by
      have : (rows.map rowD)[rows.length - 1]? = some (rowD y) := by
        rw [List.getLast?_eq_getElem?] at hy
        rw [List.getElem?_map, hy]
        rfl
      simp only [bin, gx, itemG, List.length_map, ix_last hp, this]
    obtain ⟨l', h', a'⟩ := y
    have hs : evE C (.slice (.bin .idx (.var 7) (.neg (.con (.int (1))))) false (.con (.int (0))) true (.con (.int (2)))) [d0, d1, d2, d3, d4, d5, d6, .ref x, .int l, .int h, y10] G = .ok (.tup [.int l', .int h']) G := by
      have h2 : evE C (.bin .idx (.var 7) (.neg (.con (.int (1))))) [d0, d1, d2, d3, d4, d5, d6, .ref x, .int l, .int h, y10] G = .ok (rowD (l', h', a')) G := by
        simp only [ev_bin, ev_neg, ev_con, ev_var, List.getElem?_cons_succ, List.getElem?_cons_zero, rdv_ref, bindR_ok]
        exact hi
      have c2 := cut2 (.int l') (.int h') (.int a')
      simp only [evE] at h2 ⊢
      simp only [M.bind] at h2 ⊢
      rw [h2]
      simp only [M.pure, optI, if_true, Bool.false_eq_true, if_false, sliceD, rowD, c2]
    refine ⟨decide (l' < l ∨ (l' = l ∧ h' < h)), ?_, fun q z hz => ?_⟩
    · have sz2 : (2 ≤ sizeMax) = True := eq_true (by decide)
      rw [thC, ev_or, h1, bindR_ok, truR_bl, bindR_ok, decide_eq_false hn]
      simp only [Bool.false_eq_true, if_false, thO]
      rw [ev_bin]
      simp only [ev_tup, ev_cons, ev_nil, ev_var, List.getElem?_cons_succ, List.getElem?_cons_zero, rdv_int, bindR_ok, tupR_tup, List.length_cons, List.length_nil, Nat.reduceAdd, sz2, if_true]
      rw [hs, bindR_ok, lex_pair]
    · rw [hy] at hz
      have := Option.some.inj hz
      subst this
      exact of_decide_eq_true q
theorem th_ok (C : Cl) (d : Nat) (names : List Int) (hnl : names.length ≤ 8) (nb x l h n x6 : Nat) (xs : List Nat) (hxs : xs.length ≤ 100000) (hn : n ≤ 5) (hl : l ≤ d) (hh : h < 2 ^ l) (d0 d2 d3 d4 d5 y10 : D) (G : Hh) (gn : G.get nb = some (.lst (names.map D.int))) (gx : TabAt d names n G x) (g6 : G.get x6 = some (.lst (xs.map D.ref))) (hx : ∀ y ∈ xs, TabAt d names (n + 1) G y) :
    ∃ (a : Nat) (xs' : List Nat) (G' : Hh), evS C thB [d0, .ref nb, d2, d3, d4, d5, .ref x6, .ref x, .int l, .int h, y10] G = .ok (.nx, [d0, .ref nb, d2, d3, d4, d5, .ref a, .ref x, .int l, .int h, y10]) G' ∧ Ext G G' ∧ G'.get a = some (.lst (xs'.map D.ref)) ∧ xs'.length ≤ xs.length + 8 ∧ ∀ y ∈ xs', TabAt d names (n + 1) G' y := by
  obtain ⟨rows, g, T⟩ := gx
  obtain ⟨b, hb, hq⟩ := thC_ok C x l h rows d0 (.ref nb) d2 d3 d4 d5 (.ref x6) y10 G g
  cases b with
  | false =>
    refine ⟨x6, xs, G, ?_, Ext.refl G, g6, by omega, hx⟩
    rw [thB, es_ite, hb, bindR_ok, truR_bl, bindR_ok]
    rfl
  | true =>
    obtain ⟨a, ys, G1, q1, q2, q3, q4, q5⟩ := tq_ok C d names hnl nb x l h n rows hn hl hh d0 d2 d3 d4 d5 (.ref x6) y10 G gn g T (hq rfl)
    have hadd := add_lst (q2.get g6) q3 (by rw [List.length_map, List.length_map]; exact Nat.le_trans (by omega : _ ≤ 100008) (by decide))
    have e2 := Ext.new G1 (.lst (xs.map D.ref ++ ys.map D.ref))
    refine ⟨G1.n, xs ++ ys, G1.new (.lst (xs.map D.ref ++ ys.map D.ref)), ?_, q2.trans e2, ?_, by rw [List.length_append]; omega, fun y hy => ?_⟩
    · have hv : evE C (.var 6) [d0, .ref nb, d2, d3, d4, d5, .ref x6, .ref x, .int l, .int h, y10] G = .ok (.ref x6) G := rfl
      rw [thB, es_ite, hb, bindR_ok, truR_bl, bindR_ok, if_pos rfl, es_asg, ev_bin, hv, bindR_ok, q1, bindR_ok, hadd, bindR_ok]
      rfl
    · rw [Hh.get_new_self, List.map_append]
    · rcases List.mem_append.mp hy with hy | hy
      · exact (hx y hy).ext (q2.trans e2)
      · exact (q5 y hy).ext e2
def trB : S := .for .seq (.call 15 (.cons (.var 0) .nil)) (.tup (.cons (.nm 8) (.cons (.nm 9) .nil))) thB
theorem tr_fin (cf : Nat → List D → M D) (d n hb : Nat) (d1 d2 d3 d4 d5 d6 d7 y8 y9 y10 : D) (r : Res (Fl × List D)) (G G1 : Hh) (hc : cf 15 [.int d] G = .ok (.ref hb) G1) (hs : srcOf .seq (.ref hb) G1 = some (.live hb n)) (hf : forN (.live hb n) (.tup (.cons (.nm 8) (.cons (.nm 9) .nil))) (fun σ' => evS ⟨cf⟩ thB σ') n 0 [.int d, d1, d2, d3, d4, d5, d6, d7, y8, y9, y10] G1 = r) :
    evS ⟨cf⟩ trB [.int d, d1, d2, d3, d4, d5, d6, d7, y8, y9, y10] G = r := by
  have he : evE ⟨cf⟩ (.call 15 (.cons (.var 0) .nil)) [.int d, d1, d2, d3, d4, d5, d6, d7, y8, y9, y10] G = .ok (.ref hb) G1 := by
    simp only [ev_call, ev_cons, ev_nil, ev_var, List.getElem?_cons_zero, rdv_int, bindR_ok, tupR_tup, hc]
  rw [trB, es_for, he, bindR_ok, hs, optR_some, bindR_ok]
  exact hf
theorem tr_ok (k d : Nat) (hd : d ≤ 3) (names : List Int) (hnl : names.length ≤ 8) (nb x n x6 : Nat) (xs : List Nat) (hxs : xs.length ≤ 50000) (hn : n ≤ 5) (d2 d3 d4 d5 y8 y9 y10 : D) (G : Hh) (gn : G.get nb = some (.lst (names.map D.int))) (gx : TabAt d names n G x) (g6 : G.get x6 = some (.lst (xs.map D.ref))) (hx : ∀ y ∈ xs, TabAt d names (n + 1) G y) :
    ∃ (a : Nat) (xs' : List Nat) (y8' y9' y10' : D) (G' : Hh), evS ⟨callN PP (k + 1)⟩ trB [.int d, .ref nb, d2, d3, d4, d5, .ref x6, .ref x, y8, y9, y10] G = .ok (.nx, [.int d, .ref nb, d2, d3, d4, d5, .ref a, .ref x, y8', y9', y10']) G' ∧ Ext G G' ∧ G'.get a = some (.lst (xs'.map D.ref)) ∧ xs'.length ≤ xs.length + 120 ∧ ∀ y ∈ xs', TabAt d names (n + 1) G' y := by
  obtain ⟨hb, G1, hc, e1, _, gh⟩ := heads_ok k d hd G
  have hlen := headsL_len (d + 1)
  have h16 : 2 ^ (d + 1) ≤ 16 := by
    have := pow2_le hd
    rw [Nat.pow_succ]
    omega
  have hs : srcOf .seq (.ref hb) G1 = some (.live hb (headsL (d + 1)).length) := by simp [srcOf, gh]
  obtain ⟨σ', G', hf, a, xs', y8', y9', y10', rfl, q1, q2, q3, q4⟩ := forN_inv (.live hb (headsL (d + 1)).length) (.tup (.cons (.nm 8) (.cons (.nm 9) .nil))) (fun σ' => evS ⟨callN PP (k + 1)⟩ thB σ') (headsL (d + 1)).length
    (fun i σ G' => ∃ (a : Nat) (xs' : List Nat) (y8 y9 y10 : D), σ = [.int d, .ref nb, d2, d3, d4, d5, .ref a, .ref x, y8, y9, y10] ∧ Ext G1 G' ∧ G'.get a = some (.lst (xs'.map D.ref)) ∧ xs'.length ≤ xs.length + 8 * i ∧ ∀ y ∈ xs', TabAt d names (n + 1) G' y)
    (fun i σ G' hi ⟨a, xs', y8, y9, y10, e0, q1, q2, q3, q4⟩ => by
      subst e0
      have hm := mem_heads.mp (List.getElem_mem hi)
      have hat : Src.at (.live hb (headsL (d + 1)).length) i G' = some (some (headD (headsL (d + 1))[i])) := by
        simp [Src.at, q1.get gh, hi]
      generalize (headsL (d + 1))[i] = p at hm hat
      obtain ⟨l, h⟩ := p
      obtain ⟨a', xs2, G2, r1, r2, r3, r4, r5⟩ := th_ok ⟨callN PP (k + 1)⟩ d names hnl nb x l h n a xs' (by omega) hn (by have := hm.1; simp only at this; omega) hm.2 (.int d) d2 d3 d4 d5 y10 G' (q1.get (e1.get gn)) (gx.ext (e1.trans q1)) q2 q4
      exact ⟨_, [.int d, .ref nb, d2, d3, d4, d5, .ref a, .ref x, .int l, .int h, y10], _, G2, hat, rfl, .inl r1, a', xs2, _, _, _, rfl, q1.trans r2, r3, by omega, r5⟩)
    (fun σ G' ⟨_, _, _, _, _, _, q1, _⟩ => by simp [Src.at, q1.get gh]) (headsL (d + 1)).length 0 [.int d, .ref nb, d2, d3, d4, d5, .ref x6, .ref x, y8, y9, y10] G1 (by omega) ⟨x6, xs, y8, y9, y10, rfl, Ext.refl _, e1.get g6, by omega, fun y hy => (hx y hy).ext e1⟩
  refine ⟨a, xs', y8', y9', y10', G', ?_, e1.trans q1, q2, by omega, q4⟩
  exact tr_fin (callN PP (k + 1)) d _ hb (.ref nb) d2 d3 d4 d5 (.ref x6) (.ref x) y8 y9 y10 _ G G1 hc hs hf
end Ev

/-! K60yc: the law's tables. -/
namespace Ev
open PySem
theorem tl_ok (k d : Nat) (hd : d ≤ 3) (names : List Int) (hnl : names.length ≤ 8) (nb n x6 lv : Nat) (ls : List Nat) (hls : ls.length ≤ 120) (hn : n ≤ 5) (d2 d3 d5 y7 y8 y9 y10 : D) (G : Hh) (gn : G.get nb = some (.lst (names.map D.int))) (gl : G.get lv = some (.lst (ls.map D.ref))) (hl : ∀ y ∈ ls, TabAt d names n G y) (g6 : G.get x6 = some (.lst [])) :
    ∃ (a : Nat) (xs : List Nat) (y7' y8' y9' y10' : D) (G' : Hh), evS ⟨callN PP (k + 1)⟩ (.for .seq (.var 4) (.nm 7) trB) [.int d, .ref nb, d2, d3, .ref lv, d5, .ref x6, y7, y8, y9, y10] G = .ok (.nx, [.int d, .ref nb, d2, d3, .ref lv, d5, .ref a, y7', y8', y9', y10']) G' ∧ Ext G G' ∧ G'.get a = some (.lst (xs.map D.ref)) ∧ xs.length ≤ 120 * ls.length ∧ ∀ y ∈ xs, TabAt d names (n + 1) G' y := by
  obtain ⟨σ', G', hf, a, xs, y7', y8', y9', y10', rfl, q1, q2, q3, q4⟩ := forN_inv (.live lv ls.length) (.nm 7) (fun σ' => evS ⟨callN PP (k + 1)⟩ trB σ') ls.length
    (fun i σ G' => ∃ (a : Nat) (xs : List Nat) (y7 y8 y9 y10 : D), σ = [.int d, .ref nb, d2, d3, .ref lv, d5, .ref a, y7, y8, y9, y10] ∧ Ext G G' ∧ G'.get a = some (.lst (xs.map D.ref)) ∧ xs.length ≤ 120 * i ∧ ∀ y ∈ xs, TabAt d names (n + 1) G' y)
    (fun i σ G' hi ⟨a, xs, y7, y8, y9, y10, e0, q1, q2, q3, q4⟩ => by
      subst e0
      have hat : Src.at (.live lv ls.length) i G' = some (some (.ref ls[i])) := by
        simp [Src.at, q1.get gl, hi]
      have hx := (hl _ (List.getElem_mem hi)).ext q1
      generalize ls[i] = x at hat hx
      obtain ⟨a', xs2, y8', y9', y10', G2, r1, r2, r3, r4, r5⟩ := tr_ok k d hd names hnl nb x n a xs (by omega) hn d2 d3 (.ref lv) d5 y8 y9 y10 G' (q1.get gn) hx q2 q4
      exact ⟨_, [.int d, .ref nb, d2, d3, .ref lv, d5, .ref a, .ref x, y8, y9, y10], _, G2, hat, rfl, .inl r1, a', xs2, _, _, _, _, rfl, q1.trans r2, r3, by omega, r5⟩)
    (fun σ G' ⟨_, _, _, _, _, _, _, q1, _⟩ => by simp [Src.at, q1.get gl]) ls.length 0 [.int d, .ref nb, d2, d3, .ref lv, d5, .ref x6, y7, y8, y9, y10] G (by omega) ⟨x6, [], y7, y8, y9, y10, rfl, Ext.refl _, g6, by simp, fun y hy => by simp at hy⟩
  refine ⟨a, xs, y7', y8', y9', y10', G', ?_, q1, q2, q3, q4⟩
  have hs : srcOf .seq (.ref lv) G = some (.live lv ls.length) := by simp [srcOf, gl]
  have hv : evE ⟨callN PP (k + 1)⟩ (.var 4) [.int d, .ref nb, d2, d3, .ref lv, d5, .ref x6, y7, y8, y9, y10] G = .ok (.ref lv) G := rfl
  rw [es_for, hv, bindR_ok, hs, optR_some, bindR_ok]
  exact hf
def tcB : S := .seq (.asg (.nm 6) (.lst .nil)) (.seq (.for .seq (.var 4) (.nm 7) trB) (.seq (.asg (.nm 4) (.var 6)) (.asg (.nm 3) (.bin .add (.var 3) (.var 6)))))
theorem tc_ok (k d : Nat) (hd : d ≤ 3) (names : List Int) (hnl : names.length ≤ 8) (nb n f lv : Nat) (fs ls : List Nat) (hfs : fs.length ≤ 100000) (hls : ls.length ≤ 120) (hn : n ≤ 5) (d2 d5 y6 y7 y8 y9 y10 : D) (G : Hh) (gn : G.get nb = some (.lst (names.map D.int))) (gf : G.get f = some (.lst (fs.map D.ref))) (gl : G.get lv = some (.lst (ls.map D.ref))) (hl : ∀ y ∈ ls, TabAt d names n G y) (hf : ∀ y ∈ fs, TabAt d names n G y) :
    ∃ (f' lv' : Nat) (ls' : List Nat) (y6' y7' y8' y9' y10' : D) (G' : Hh), evS ⟨callN PP (k + 1)⟩ tcB [.int d, .ref nb, d2, .ref f, .ref lv, d5, y6, y7, y8, y9, y10] G = .ok (.nx, [.int d, .ref nb, d2, .ref f', .ref lv', d5, y6', y7', y8', y9', y10']) G' ∧ Ext G G' ∧ G'.get f' = some (.lst ((fs ++ ls').map D.ref)) ∧ G'.get lv' = some (.lst (ls'.map D.ref)) ∧ ls'.length ≤ 120 * ls.length ∧ (∀ y ∈ ls', TabAt d names (n + 1) G' y) ∧ ∀ y ∈ fs ++ ls', TabAt d names (n + 1) G' y := by
  have e1 := Ext.new G (.lst [])
  have g1 : (G.new (.lst [])).get G.n = some (.lst []) := Hh.get_new_self _
  have s1 : ∀ C : Cl, evS C (.asg (.nm 6) (.lst .nil)) [.int d, .ref nb, d2, .ref f, .ref lv, d5, y6, y7, y8, y9, y10] G = .ok (.nx, [.int d, .ref nb, d2, .ref f, .ref lv, d5, .ref G.n, y7, y8, y9, y10]) (G.new (.lst [])) := fun _ => rfl
  generalize G.new (.lst []) = G1 at e1 g1 s1
  obtain ⟨a, xs, y7', y8', y9', y10', G2, r1, r2, r3, r4, r5⟩ := tl_ok k d hd names hnl nb n G.n lv ls hls hn d2 (.ref f) d5 y7 y8 y9 y10 G1 (e1.get gn) (e1.get gl) (fun y hy => (hl y hy).ext e1) g1
  have gf2 := r2.get (e1.get gf)
  have hadd := add_lst gf2 r3 (by rw [List.length_map, List.length_map]; exact Nat.le_trans (by omega : _ ≤ 120000) (by decide))
  have e3 := Ext.new G2 (.lst (fs.map D.ref ++ xs.map D.ref))
  refine ⟨G2.n, a, xs, .ref a, y7', y8', y9', y10', G2.new (.lst (fs.map D.ref ++ xs.map D.ref)), ?_, e1.trans (r2.trans e3), by rw [Hh.get_new_self, List.map_append], e3.get r3, r4, fun y hy => (r5 y hy).ext e3, fun y hy => ?_⟩
  · have s3 : evS ⟨callN PP (k + 1)⟩ (.asg (.nm 4) (.var 6)) [.int d, .ref nb, d2, .ref f, .ref lv, d5, .ref a, y7', y8', y9', y10'] G2 = .ok (.nx, [.int d, .ref nb, d2, .ref f, .ref a, d5, .ref a, y7', y8', y9', y10']) G2 := rfl
    have s4 : evS ⟨callN PP (k + 1)⟩ (.asg (.nm 3) (.bin .add (.var 3) (.var 6))) [.int d, .ref nb, d2, .ref f, .ref a, d5, .ref a, y7', y8', y9', y10'] G2 = .ok (.nx, [.int d, .ref nb, d2, .ref G2.n, .ref a, d5, .ref a, y7', y8', y9', y10']) (G2.new (.lst (fs.map D.ref ++ xs.map D.ref))) := by
      have v1 : evE ⟨callN PP (k + 1)⟩ (.var 3) [.int d, .ref nb, d2, .ref f, .ref a, d5, .ref a, y7', y8', y9', y10'] G2 = .ok (.ref f) G2 := rfl
      have v2 : evE ⟨callN PP (k + 1)⟩ (.var 6) [.int d, .ref nb, d2, .ref f, .ref a, d5, .ref a, y7', y8', y9', y10'] G2 = .ok (.ref a) G2 := rfl
      rw [es_asg, ev_bin, v1, bindR_ok, v2, bindR_ok, hadd, bindR_ok]
      rfl
    rw [tcB, seq_nx (s1 _), seq_nx r1, seq_nx s3, s4]
  · rcases List.mem_append.mp hy with hy | hy
    · exact ((hf y hy).ext (e1.trans (r2.trans e3))).mono (Nat.le_succ _)
    · exact (r5 y hy).ext e3
theorem src_rngI {m : Int} (h : -5 ≤ m ∧ m ≤ 1000) (G : Hh) : srcOf .range (.tup [.int m]) G = some (.rng 0 1 m.toNat) := by
  have : smallI m = true := by
    unfold smallI
    rw [decide_eq_true (by omega), decide_eq_true (by omega)]
    rfl
  simp only [srcOf, this, if_true]
theorem pow120 {c : Nat} (h : c ≤ 2) : 120 ^ c ≤ 14400 := by
  have : c = 0 ∨ c = 1 ∨ c = 2 := by omega
  rcases this with rfl | rfl | rfl <;> decide
theorem tables_fin (C : Cl) (d0 d1 : D) (m : Int) (hm : -5 ≤ m ∧ m ≤ 1000) (d3 d4 y5 y6 y7 y8 y9 y10 : D) (r : Res (Fl × List D)) (G : Hh) (hf : forN (.rng 0 1 m.toNat) (.nm 5) (fun σ' => evS C tcB σ') m.toNat 0 [d0, d1, .int m, d3, d4, y5, y6, y7, y8, y9, y10] G = r) :
    evS C (.for .range (.cons (.var 2) .nil) (.nm 5) tcB) [d0, d1, .int m, d3, d4, y5, y6, y7, y8, y9, y10] G = r := by
  have hc : evE C (.cons (.var 2) .nil) [d0, d1, .int m, d3, d4, y5, y6, y7, y8, y9, y10] G = .ok (.tup [.int m]) G := rfl
  rw [es_for, hc, bindR_ok, src_rngI hm G, optR_some, bindR_ok]
  exact hf
theorem tables_ok (k d : Nat) (hd : d ≤ 3) (names : List Int) (hnl : names.length ≤ 8) (nb : Nat) (m : Int) (hm : -5 ≤ m ∧ m ≤ 2) (G : Hh) (gn : G.get nb = some (.lst (names.map D.int))) :
    ∃ (a : Nat) (xs : List Nat) (G' : Hh), callN PP (k + 2) 16 [.int d, .ref nb, .int m] G = .ok (.ref a) G' ∧ Ext G G' ∧ G'.get a = some (.lst (xs.map D.ref)) ∧ xs ≠ [] ∧ xs.length ≤ 50000 ∧ ∀ y ∈ xs, TabAt d names m.toNat G' y := by
  have two : ∀ G : Hh, ∃ G', (∀ C σ, evE C (.lst (.cons (.lst .nil) .nil)) σ G = .ok (.ref (G.n + 1)) G') ∧ Ext G G' ∧ G'.n = G.n + 2 ∧ G'.get (G.n + 1) = some (.lst ([G.n].map D.ref)) ∧ TabAt d names 0 G' G.n := fun G => by
    have e1 := Ext.new G (.lst [])
    have g1 : (G.new (.lst [])).get G.n = some (.lst []) := Hh.get_new_self _
    have n1 : (G.new (.lst [])).n = G.n + 1 := rfl
    have s1 : ∀ C σ, evE C (.lst .nil) σ G = .ok (.ref G.n) (G.new (.lst [])) := fun _ _ => rfl
    generalize G.new (.lst []) = G1 at e1 g1 n1 s1
    have e2 := Ext.new G1 (.lst ([G.n].map D.ref))
    have g2 : (G1.new (.lst ([G.n].map D.ref))).get G1.n = some (.lst ([G.n].map D.ref)) := Hh.get_new_self _
    refine ⟨G1.new (.lst ([G.n].map D.ref)), fun C σ => ?_, e1.trans e2, by rw [Hh.n_new, n1], by rw [← n1]; exact g2, [], e2.get g1, ⟨Nat.le_refl _, List.Pairwise.nil, fun x hx => by simp at hx⟩⟩
    have sz1 : (1 ≤ sizeMax) = True := eq_true (by decide)
    rw [ev_lst, ev_cons, s1, bindR_ok, ev_nil, bindR_ok, tupR_tup, bindR_ok, bindR_ok, tupR_tup, bindR_ok]
    simp only [List.length_cons, List.length_nil, Nat.reduceAdd, sz1, if_true, n1]
    rfl
  obtain ⟨G1, t1, e1, n1, g1, a1⟩ := two G
  obtain ⟨G2, t2, e2, n2, g2, a2⟩ := two G1
  obtain ⟨σ', G', hf, f, lv, fs, ls, y5, y6, y7, y8, y9, y10, rfl, q1, q3, q4, q5, q6, q7, q8, q9⟩ := forN_inv (.rng 0 1 m.toNat) (.nm 5) (fun σ' => evS ⟨callN PP (k + 1)⟩ tcB σ') m.toNat
    (fun i σ G' => ∃ (f lv : Nat) (fs ls : List Nat) (y5 y6 y7 y8 y9 y10 : D), σ = [.int d, .ref nb, .int m, .ref f, .ref lv, y5, y6, y7, y8, y9, y10] ∧ Ext G2 G' ∧ G'.get f = some (.lst (fs.map D.ref)) ∧ G'.get lv = some (.lst (ls.map D.ref)) ∧ fs ≠ [] ∧ fs.length ≤ 1 + i * 14400 ∧ ls.length ≤ 120 ^ i ∧ (∀ y ∈ ls, TabAt d names i G' y) ∧ ∀ y ∈ fs, TabAt d names i G' y)
    (fun i σ G' hi ⟨f, lv, fs, ls, y5, y6, y7, y8, y9, y10, e0, q1, q3, q4, q5, q6, q7, q8, q9⟩ => by
      subst e0
      have hi2 : i < 2 := by omega
      have h120 : ls.length ≤ 120 := by
        have : i = 0 ∨ i = 1 := by omega
        rcases this with rfl | rfl
        · exact Nat.le_trans q7 (by decide)
        · exact q7
      obtain ⟨f', lv', ls', y6', y7', y8', y9', y10', G3, r1, r2, r3, r4, r5, r6, r7⟩ := tc_ok k d hd names hnl nb i f lv fs ls (by omega) h120 (by omega) (.int m) (.int (i : Int)) y6 y7 y8 y9 y10 G' (q1.get (e2.get (e1.get gn))) q3 q4 q8 q9
      have hle : ls'.length ≤ 120 ^ (i + 1) := by
        rw [Nat.pow_succ, Nat.mul_comm]
        exact Nat.le_trans r5 (Nat.mul_le_mul_left _ q7)
      have := pow120 (c := i + 1) (by omega)
      refine ⟨_, [.int d, .ref nb, .int m, .ref f, .ref lv, .int (i : Int), y6, y7, y8, y9, y10], _, G3, rng_at hi G', rfl, .inl r1, f', lv', fs ++ ls', ls', .int (i : Int), y6', y7', y8', y9', y10', rfl, q1.trans r2, r3, r4, by simp [q5], by rw [List.length_append]; omega, hle, r6, r7⟩)
    (fun σ G' _ => rng_end _ G') m.toNat 0 [.int d, .ref nb, .int m, .ref (G.n + 1), .ref (G1.n + 1), .und, .und, .und, .und, .und, .und] G2 (by omega) ⟨G.n + 1, G1.n + 1, [G.n], [G1.n], .und, .und, .und, .und, .und, .und, rfl, Ext.refl _, e2.get g1, g2, by simp, by simp, by simp, fun y hy => by simp only [List.mem_cons, List.not_mem_nil, or_false] at hy; subst hy; exact a2, fun y hy => by simp only [List.mem_cons, List.not_mem_nil, or_false] at hy; subst hy; exact a1.ext e2⟩
  refine ⟨f, fs, G', ?_, e1.trans (e2.trans q1), q3, q5, by omega, q9⟩
  have fin := tables_fin ⟨callN PP (k + 1)⟩ (.int d) (.ref nb) m (by omega) (.ref (G.n + 1)) (.ref (G1.n + 1)) .und .und .und .und .und .und _ G2 hf
  rw [callN_at (k + 1) 16 q16 _ _ rfl, runF_eq rfl]
  generalize callN PP (k + 1) = cf at fin
  have s0 : evS ⟨cf⟩ (.asg (.nm 3) (.lst (.cons (.lst .nil) .nil))) [.int d, .ref nb, .int m, .und, .und, .und, .und, .und, .und, .und, .und] G = .ok (.nx, [.int d, .ref nb, .int m, .ref (G.n + 1), .und, .und, .und, .und, .und, .und, .und]) G1 := by
    rw [es_asg, t1, bindR_ok]
    rfl
  have s1 : evS ⟨cf⟩ (.asg (.nm 4) (.lst (.cons (.lst .nil) .nil))) [.int d, .ref nb, .int m, .ref (G.n + 1), .und, .und, .und, .und, .und, .und, .und] G1 = .ok (.nx, [.int d, .ref nb, .int m, .ref (G.n + 1), .ref (G1.n + 1), .und, .und, .und, .und, .und, .und]) G2 := by
    rw [es_asg, t2, bindR_ok]
    rfl
  show outF (evS _ (.seq (.asg (.nm 3) (.lst (.cons (.lst .nil) .nil))) (.seq (.asg (.nm 4) (.lst (.cons (.lst .nil) .nil))) (.seq (.for .range (.cons (.var 2) .nil) (.nm 5) tcB) (.ret (.var 3))))) [.int d, .ref nb, .int m, .und, .und, .und, .und, .und, .und, .und, .und] G) = _
  rw [seq_nx s0, seq_nx s1, seq_nx fin]
  rfl
end Ev

/-! K60yd: the law's turn: what is wished. -/
namespace Ev
open PySem
abbrev Lw (y2 y3 y4 y5 y6 y7 y8 y9 y10 y11 y12 y13 y14 y15 y16 y17 y18 : D) : List D := [.ref 0, .ref 1, y2, y3, y4, y5, y6, y7, y8, y9, y10, y11, y12, y13, y14, y15, y16, y17, y18]
structure Go (G G' : Hh) : Prop where
  b : ExtB 1 G G'
  p : Pool 1 G'
theorem Go.trans {G G' G'' : Hh} (a : Go G G') (b : Go G' G'') : Go G G'' := ⟨a.b.trans b.b, b.p⟩
theorem Go.refl {G : Hh} (h : Pool 1 G) : Go G G := ⟨ExtB.refl _ _, h⟩
theorem Go.ext {G G' : Hh} (h : Pool 1 G) (e : Ext G G') : Go G G' := ⟨e.b, h.ext e⟩
theorem Go.but {G G' : Hh} (b : But 1 G G') (p : Pool 1 G') : Go G G' := ⟨b.b, p⟩
theorem Go.get {G G' : Hh} (g : Go G G') {a : Nat} {o : O} (h : G.get a = some o) (n : a ≠ 1) : G'.get a = some o := by
  rw [g.b.eq a (Hh.get_lt h) n]
  exact h
theorem Pool.lt {G : Hh} (h : Pool 1 G) : 1 < G.n := by
  obtain ⟨_, _, p, r, f, _, h2⟩ := h
  exact Hh.get_lt h2
/-! ### the first steps -/
def L1 : S := .expr (.call 9 (.cons (.var 1) .nil))
def L2 : S := .asg (.nm 3) (.bin .add (.con (.int (1))) (.call 10 (.cons (.var 1) (.cons (.con (.int (3))) .nil))))
theorem L1_ok (k : Nat) (y2 y3 y4 y5 y6 y7 y8 y9 y10 y11 y12 y13 y14 y15 y16 y17 y18 : D) (G : Hh) (hP : Pool 1 G) : ∃ G', evS ⟨callN PP (k + 10)⟩ L1 (Lw y2 y3 y4 y5 y6 y7 y8 y9 y10 y11 y12 y13 y14 y15 y16 y17 y18) G = .ok (.nx, Lw y2 y3 y4 y5 y6 y7 y8 y9 y10 y11 y12 y13 y14 y15 y16 y17 y18) G' ∧ Go G G' := by
  obtain ⟨G', h, b, p⟩ := next_ok (k + 7) 1 G hP
  refine ⟨G', ?_, Go.but b p⟩
  have hv : ∀ cf, evE ⟨cf⟩ (.cons (.var 1) .nil) (Lw y2 y3 y4 y5 y6 y7 y8 y9 y10 y11 y12 y13 y14 y15 y16 y17 y18) G = .ok (.tup [.ref 1]) G := fun _ => rfl
  rw [L1, es_expr, ev_call, hv, bindR_ok, tupR_tup, bindR_ok]
  show bindR (callN PP (k + 10) 9 [.ref 1] G) _ = _
  rw [h, bindR_ok]
theorem L2_ok (k : Nat) (y2 y3 y4 y5 y6 y7 y8 y9 y10 y11 y12 y13 y14 y15 y16 y17 y18 : D) (G : Hh) (hP : Pool 1 G) : ∃ (m : Nat) (G' : Hh), 1 ≤ m ∧ m ≤ 3 ∧ evS ⟨callN PP (k + 10)⟩ L2 (Lw y2 y3 y4 y5 y6 y7 y8 y9 y10 y11 y12 y13 y14 y15 y16 y17 y18) G = .ok (.nx, Lw y2 (.int m) y4 y5 y6 y7 y8 y9 y10 y11 y12 y13 y14 y15 y16 y17 y18) G' ∧ Go G G' := by
  obtain ⟨v, G', v0, v1, h, b, p⟩ := draw_ok (k + 7) 1 3 (by decide) G hP
  obtain ⟨j, rfl⟩ : ∃ j : Nat, v = j := ⟨v.toNat, by omega⟩
  refine ⟨1 + j, G', by omega, by omega, ?_, Go.but b p⟩
  have hv : ∀ cf, evE ⟨cf⟩ (.cons (.var 1) (.cons (.con (.int (3))) .nil)) (Lw y2 y3 y4 y5 y6 y7 y8 y9 y10 y11 y12 y13 y14 y15 y16 y17 y18) G = .ok (.tup [.ref 1, .int 3]) G := fun _ => rfl
  have e : ((1 + j : Nat) : Int) = 1 + (j : Int) := by omega
  rw [L2, es_asg, ev_bin, ev_con, bindR_ok, ev_call, hv, bindR_ok, tupR_tup, bindR_ok]
  show bindR (bindR (callN PP (k + 10) 10 [.ref 1, .int 3] G) _) _ = _
  rw [h, bindR_ok, bin_add, bindR_ok, e]
  rfl
def wishE : E := .bin .add (.con (.int (5))) (.call 10 (.cons (.var 1) (.cons (.var 3) .nil)))
def wishC : E := .comp [7] .range (.cons (.bin .add (.con (.int (1))) (.call 10 (.cons (.var 1) (.cons (.con (.int (8))) .nil)))) .nil) (.nm 7) false .bad wishE
def L3 : S := .asg (.nm 4) (.bfn .tuple (.cons wishC .nil))
theorem L3_ok (k m : Nat) (hm : 1 ≤ m ∧ m ≤ 3) (y2 y4 y5 y6 y7 y8 y9 y10 y11 y12 y13 y14 y15 y16 y17 y18 : D) (G : Hh) (hP : Pool 1 G) : ∃ (ws : List Int) (G' : Hh), 1 ≤ ws.length ∧ ws.length ≤ 8 ∧ (∀ x ∈ ws, 5 ≤ x ∧ x ≤ 7) ∧ evS ⟨callN PP (k + 10)⟩ L3 (Lw y2 (.int m) y4 y5 y6 y7 y8 y9 y10 y11 y12 y13 y14 y15 y16 y17 y18) G = .ok (.nx, Lw y2 (.int m) (Ws ws) y5 y6 y7 y8 y9 y10 y11 y12 y13 y14 y15 y16 y17 y18) G' ∧ Go G G' := by
  obtain ⟨v, G1, v0, v1, h, b, p⟩ := draw_ok (k + 7) 1 8 (by decide) G hP
  have hsrc : evE ⟨callN PP (k + 10)⟩ (.cons (.bin .add (.con (.int (1))) (.call 10 (.cons (.var 1) (.cons (.con (.int (8))) .nil)))) .nil) (Lw y2 (.int m) y4 y5 y6 y7 y8 y9 y10 y11 y12 y13 y14 y15 y16 y17 y18) G = .ok (.tup [.int (1 + v)]) G1 := by
    have hv : ∀ cf, evE ⟨cf⟩ (.cons (.var 1) (.cons (.con (.int (8))) .nil)) (Lw y2 (.int m) y4 y5 y6 y7 y8 y9 y10 y11 y12 y13 y14 y15 y16 y17 y18) G = .ok (.tup [.ref 1, .int 8]) G := fun _ => rfl
    rw [ev_cons, ev_bin, ev_con, bindR_ok, ev_call, hv, bindR_ok, tupR_tup, bindR_ok]
    show bindR (bindR (callN PP (k + 10) 10 [.ref 1, .int 8] G) _) _ = _
    rw [h, bindR_ok, bin_add, bindR_ok, ev_nil, bindR_ok, tupR_tup, bindR_ok]
  have hn : (1 + v).toNat ≤ 8 := by omega
  have hn1 : 1 ≤ (1 + v).toNat := by omega
  have hr := src_rngI (m := 1 + v) (by omega) G1
  generalize (1 + v).toNat = n at hn hn1 hr
  obtain ⟨acc, G2, hc, ws, rfl, w1, w2, b2⟩ := compN_inv (.rng 0 1 n) (.nm 7) (Lw y2 (.int m) y4 y5 y6 .und y8 y9 y10 y11 y12 y13 y14 y15 y16 y17 y18) (fun σ' acc => M.bind (evE ⟨callN PP (k + 10)⟩ wishE σ') fun y => pushM acc y) n
    (fun i acc G' => ∃ ws : List Int, acc = ws.map D.int ∧ ws.length = i ∧ (∀ x ∈ ws, 5 ≤ x ∧ x ≤ 7) ∧ Go G1 G')
    (fun i acc G' hi ⟨ws, e0, w1, w2, g⟩ => by
      subst e0
      obtain ⟨u, G3, u0, u1, h, b, p⟩ := draw_ok (k + 7) 1 (m : Int) ⟨by omega, by omega⟩ G' g.p
      have hE : evE ⟨callN PP (k + 10)⟩ wishE (Lw y2 (.int m) y4 y5 y6 (.int (i : Int)) y8 y9 y10 y11 y12 y13 y14 y15 y16 y17 y18) G' = .ok (.int (5 + u)) G3 := by
        have hv : ∀ cf, evE ⟨cf⟩ (.cons (.var 1) (.cons (.var 3) .nil)) (Lw y2 (.int m) y4 y5 y6 (.int (i : Int)) y8 y9 y10 y11 y12 y13 y14 y15 y16 y17 y18) G' = .ok (.tup [.ref 1, .int m]) G' := fun _ => rfl
        rw [wishE, ev_bin, ev_con, bindR_ok, ev_call, hv, bindR_ok, tupR_tup, bindR_ok]
        show bindR (callN PP (k + 10) 10 [.ref 1, .int m] G') _ = _
        rw [h, bindR_ok, bin_add]
      refine ⟨.int (i : Int), Lw y2 (.int m) y4 y5 y6 (.int (i : Int)) y8 y9 y10 y11 y12 y13 y14 y15 y16 y17 y18, (ws ++ [5 + u]).map D.int, G3, rng_at hi G', rfl, ?_, ws ++ [5 + u], rfl, by simp [w1], fun x hx => ?_, g.trans (Go.but b p)⟩
      · have hl : (ws.map D.int).length < sizeMax := by
          rw [List.length_map]
          exact Nat.lt_of_le_of_lt (by omega : _ ≤ 8) (by decide)
        rw [bind_eq, hE, bindR_ok]
        simp only [pushM, hl, if_true, M.pure, List.map_append, List.map_cons, List.map_nil]
      · rcases List.mem_append.mp hx with hx | hx
        · exact w2 x hx
        · simp only [List.mem_cons, List.not_mem_nil, or_false] at hx
          omega)
    (fun a G' _ => rng_end n G') n 0 [] G1 (by omega) ⟨[], rfl, rfl, fun x hx => by simp at hx, Go.refl p⟩
  have e2 := Ext.new G2 (.lst (ws.map D.int))
  have g2 : (G2.new (.lst (ws.map D.int))).get G2.n = some (.lst (ws.map D.int)) := Hh.get_new_self _
  have hC : evE ⟨callN PP (k + 10)⟩ wishC (Lw y2 (.int m) y4 y5 y6 y7 y8 y9 y10 y11 y12 y13 y14 y15 y16 y17 y18) G = .ok (.ref G2.n) (G2.new (.lst (ws.map D.int))) := by
    rw [wishC, comp_ev, hsrc, bindR_ok, hr, optR_some, bindR_ok]
    show bindR (compN (.rng 0 1 n) (.nm 7) (Lw y2 (.int m) y4 y5 y6 .und y8 y9 y10 y11 y12 y13 y14 y15 y16 y17 y18) _ n 0 [] G1) _ = _
    rw [hc, bindR_ok]
  generalize G2.new (.lst (ws.map D.int)) = G3 at e2 g2 hC
  refine ⟨ws, G3, by omega, by omega, w2, ?_, ((Go.but b p).trans b2).trans (Go.ext b2.p e2)⟩
  have ht : bfn .tuple [.ref G2.n] G3 = .ok (.tup (ws.map D.int)) G3 := by simp only [bfn, seqOf_lst g2]
  rw [L3, es_asg, ev_bfn, ev_cons, hC, bindR_ok, ev_nil, bindR_ok, tupR_tup, bindR_ok, bindR_ok, tupR_tup, bindR_ok, ht, bindR_ok]
  rfl
/-! ### how deep -/
def stD (n : Nat) : Nat → Nat × Nat
  | 0 => (0, 1)
  | i + 1 => if (stD n i).2 < n then ((stD n i).1 + 1, 2 * (stD n i).2) else stD n i
theorem stD_end : ∀ n : Nat, 1 ≤ n → n ≤ 8 → stD n 4 = (bitsN n, 2 ^ bitsN n)
  | 1, _, _ => rfl
  | 2, _, _ => rfl
  | 3, _, _ => rfl
  | 4, _, _ => rfl
  | 5, _, _ => rfl
  | 6, _, _ => rfl
  | 7, _, _ => rfl
  | 8, _, _ => rfl
def L4 : S := .asg (.nm 5) (.con (.int (0)))
def L5 : S := .asg (.nm 6) (.con (.int (1)))
def depB : S := .ite (.bin .lt (.var 6) (.bfn .len (.cons (.var 4) .nil))) (.seq (.asg (.nm 5) (.bin .add (.var 5) (.con (.int (1))))) (.asg (.nm 6) (.bin .mul (.con (.int (2))) (.var 6)))) .skip
def L6 : S := .for .range (.cons (.con (.int (4))) .nil) (.nm 7) depB
theorem dep_step (C : Cl) (n i : Nat) (ws : List Int) (hn : ws.length = n) (y2 y3 y7 y8 y9 y10 y11 y12 y13 y14 y15 y16 y17 y18 : D) (G : Hh) :
    evS C depB (Lw y2 y3 (Ws ws) (.int (stD n i).1) (.int (stD n i).2) y7 y8 y9 y10 y11 y12 y13 y14 y15 y16 y17 y18) G = .ok (.nx, Lw y2 y3 (Ws ws) (.int (stD n (i + 1)).1) (.int (stD n (i + 1)).2) y7 y8 y9 y10 y11 y12 y13 y14 y15 y16 y17 y18) G := by
  simp only [stD]
  generalize stD n i = s
  obtain ⟨a, b⟩ := s
  have hc : evE C (.bin .lt (.var 6) (.bfn .len (.cons (.var 4) .nil))) (Lw y2 y3 (Ws ws) (.int (a : Int)) (.int (b : Int)) y7 y8 y9 y10 y11 y12 y13 y14 y15 y16 y17 y18) G = .ok (.bl (decide ((b : Int) < (n : Int)))) G := by
    simp only [ev_bin, ev_bfn, ev_cons, ev_nil, ev_var, List.getElem?_cons_succ, List.getElem?_cons_zero, rdv_int, rdv_tup, bindR_ok, tupR_tup, bfn_len_tup, List.length_map, hn, bin_lt]
  rw [depB, es_ite, hc, bindR_ok, truR_bl, bindR_ok]
  by_cases h : b < n
  · have h' : (b : Int) < (n : Int) := by omega
    have e1 : ((a + 1 : Nat) : Int) = (a : Int) + 1 := by omega
    have e2 : ((2 * b : Nat) : Int) = 2 * (b : Int) := by omega
    rw [decide_eq_true h', if_pos rfl, if_pos h, e1, e2]
    simp only [es_seq, es_asg, ev_bin, ev_con, ev_var, List.getElem?_cons_succ, List.getElem?_cons_zero, rdv_int, bindR_ok, bin_add, bin_mul2, asgT, List.length_cons, List.length_nil, Nat.reduceAdd, Nat.reduceLT, if_true, optR_some, List.set_cons_succ, List.set_cons_zero, contS_nx]
  · have h' : ¬ (b : Int) < (n : Int) := by omega
    rw [decide_eq_false h', if_neg Bool.false_ne_true, if_neg h]
    rfl
theorem L6_ok (C : Cl) (ws : List Int) (h1 : 1 ≤ ws.length) (h8 : ws.length ≤ 8) (y2 y3 y7 y8 y9 y10 y11 y12 y13 y14 y15 y16 y17 y18 : D) (G : Hh) :
    ∃ y7', evS C L6 (Lw y2 y3 (Ws ws) (.int 0) (.int 1) y7 y8 y9 y10 y11 y12 y13 y14 y15 y16 y17 y18) G = .ok (.nx, Lw y2 y3 (Ws ws) (.int (bitsN ws.length)) (.int ((2 ^ bitsN ws.length : Nat) : Int)) y7' y8 y9 y10 y11 y12 y13 y14 y15 y16 y17 y18) G := by
  obtain ⟨σ', G', hf, rfl, y7', rfl⟩ := forN_inv (.rng 0 1 4) (.nm 7) (fun σ' => evS C depB σ') 4 (fun i σ G' => G' = G ∧ ∃ y7, σ = Lw y2 y3 (Ws ws) (.int (stD ws.length i).1) (.int (stD ws.length i).2) y7 y8 y9 y10 y11 y12 y13 y14 y15 y16 y17 y18)
    (fun i σ G' hi ⟨e1, y7, e2⟩ => by
      subst e1 e2
      exact ⟨_, Lw y2 y3 (Ws ws) (.int (stD ws.length i).1) (.int (stD ws.length i).2) (.int (i : Int)) y8 y9 y10 y11 y12 y13 y14 y15 y16 y17 y18, _, G', rng_at hi G', rfl, .inl (dep_step C ws.length i ws rfl y2 y3 (.int (i : Int)) y8 y9 y10 y11 y12 y13 y14 y15 y16 y17 y18 G'), rfl, _, rfl⟩)
    (fun σ G' _ => rng_end 4 G') 4 0 (Lw y2 y3 (Ws ws) (.int 0) (.int 1) y7 y8 y9 y10 y11 y12 y13 y14 y15 y16 y17 y18) G (by omega) ⟨rfl, y7, rfl⟩
  refine ⟨y7', ?_⟩
  rw [stD_end ws.length h1 h8] at hf
  have hc : evE C (.cons (.con (.int (4))) .nil) (Lw y2 y3 (Ws ws) (.int 0) (.int 1) y7 y8 y9 y10 y11 y12 y13 y14 y15 y16 y17 y18) G' = .ok (.tup [.int 4]) G' := rfl
  rw [L6, es_for, hc, bindR_ok, show srcOf .range (.tup [.int 4]) G' = some (.rng 0 1 4) from rfl, optR_some, bindR_ok]
  exact hf
end Ev

/-! K60ye: the law's turn: names, rows. -/
namespace Ev
open PySem
def badS : S := .ret (.con (.bl false))
def L7 : S := .ite (.not (.call 12 (.cons (.lst (.cons (.call 0 (.cons (.bfn .len (.cons (.var 4) .nil)) .nil)) (.cons (.call 3 (.cons (.var 5) .nil)) .nil))) (.cons (.lst (.cons (.var 5) (.cons (.var 6) .nil))) .nil)))) badS .skip
theorem L7_fin (cf : Nat → List D → M D) (ws : List Int) (b p : Int) (y2 y3 y7 y8 y9 y10 y11 y12 y13 y14 y15 y16 y17 y18 : D) (G : Hh) (hb : cf 0 [.int ws.length] G = .ok (.int b) G) (hp : cf 3 [.int b] G = .ok (.int p) G) (hsm : ∀ (x y : Nat) (l : List Int) (hl : l.length ≤ 1000) (G : Hh), G.get x = some (.lst (l.map D.int)) → G.get y = some (.lst (l.map D.int)) → cf 12 [.ref x, .ref y] G = .ok (.bl true) G) :
    ∃ G', evS ⟨cf⟩ L7 (Lw y2 y3 (Ws ws) (.int b) (.int p) y7 y8 y9 y10 y11 y12 y13 y14 y15 y16 y17 y18) G = .ok (.nx, Lw y2 y3 (Ws ws) (.int b) (.int p) y7 y8 y9 y10 y11 y12 y13 y14 y15 y16 y17 y18) G' ∧ Ext G G' := by
  have e1 := Ext.new G (.lst ([b, p].map D.int))
  have g1 : (G.new (.lst ([b, p].map D.int))).get G.n = some (.lst ([b, p].map D.int)) := Hh.get_new_self _
  have sz2 : (2 ≤ sizeMax) = True := eq_true (by decide)
  have v1 : evE ⟨cf⟩ (.lst (.cons (.call 0 (.cons (.bfn .len (.cons (.var 4) .nil)) .nil)) (.cons (.call 3 (.cons (.var 5) .nil)) .nil))) (Lw y2 y3 (Ws ws) (.int b) (.int p) y7 y8 y9 y10 y11 y12 y13 y14 y15 y16 y17 y18) G = .ok (.ref G.n) (G.new (.lst ([b, p].map D.int))) := by
    simp only [ev_lst, ev_call, ev_bfn, ev_cons, ev_nil, ev_var, List.getElem?_cons_succ, List.getElem?_cons_zero, rdv_int, rdv_tup, bindR_ok, tupR_tup, bfn_len_tup, List.length_map, hb, hp, List.length_cons, List.length_nil, Nat.reduceAdd, sz2, if_true, List.map_cons, List.map_nil]
  generalize G.new (.lst ([b, p].map D.int)) = G1 at e1 g1 v1
  have e2 := Ext.new G1 (.lst ([b, p].map D.int))
  have g2 : (G1.new (.lst ([b, p].map D.int))).get G1.n = some (.lst ([b, p].map D.int)) := Hh.get_new_self _
  have v2 : evE ⟨cf⟩ (.lst (.cons (.var 5) (.cons (.var 6) .nil))) (Lw y2 y3 (Ws ws) (.int b) (.int p) y7 y8 y9 y10 y11 y12 y13 y14 y15 y16 y17 y18) G1 = .ok (.ref G1.n) (G1.new (.lst ([b, p].map D.int))) := by
    simp only [ev_lst, ev_cons, ev_nil, ev_var, List.getElem?_cons_succ, List.getElem?_cons_zero, rdv_int, bindR_ok, tupR_tup, List.length_cons, List.length_nil, Nat.reduceAdd, sz2, if_true, List.map_cons, List.map_nil]
  generalize G1.new (.lst ([b, p].map D.int)) = G2 at e2 g2 v2
  have hs := hsm G.n G1.n [b, p] (by simp) G2 (e2.get g1) g2
  refine ⟨G2, ?_, e1.trans e2⟩
  rw [L7, es_ite, ev_not, ev_call, ev_cons, v1, bindR_ok, ev_cons, v2, bindR_ok, ev_nil, bindR_ok, tupR_tup, bindR_ok, bindR_ok, tupR_tup, bindR_ok, bindR_ok, tupR_tup, bindR_ok]
  show bindR (bindR (cf 12 [.ref G.n, .ref G1.n] G2) _) _ = _
  rw [hs, bindR_ok, truR_bl, bindR_ok, bindR_ok, truR_bl, bindR_ok]
  rfl
theorem L7_ok (k : Nat) (ws : List Int) (h1 : 1 ≤ ws.length) (h8 : ws.length ≤ 8) (y2 y3 y7 y8 y9 y10 y11 y12 y13 y14 y15 y16 y17 y18 : D) (G : Hh) :
    ∃ G', evS ⟨callN PP (k + 10)⟩ L7 (Lw y2 y3 (Ws ws) (.int (bitsN ws.length)) (.int ((2 ^ bitsN ws.length : Nat) : Int)) y7 y8 y9 y10 y11 y12 y13 y14 y15 y16 y17 y18) G = .ok (.nx, Lw y2 y3 (Ws ws) (.int (bitsN ws.length)) (.int ((2 ^ bitsN ws.length : Nat) : Int)) y7 y8 y9 y10 y11 y12 y13 y14 y15 y16 y17 y18) G' ∧ Ext G G' :=
  L7_fin (callN PP (k + 10)) ws _ _ y2 y3 y7 y8 y9 y10 y11 y12 y13 y14 y15 y16 y17 y18 G (bits_ok (k + 9) G ws.length h1 h8) (pow_ok (k + 9) G (bitsN ws.length) (bitsN_le _)) (fun x y l hl G h1 h2 => same_list (k + 8) x y l hl G h1 h2)
/-! ### the names -/
def L8 : S := .asg (.nm 8) (.lst .nil)
def namB : S := .asg (.nm 8) (.ite (.bin .isin (.var 9) (.var 8)) (.var 8) (.bin .add (.var 8) (.lst (.cons (.var 9) .nil))))
def L9 : S := .for .seq (.var 4) (.nm 9) namB
theorem nam_step (C : Cl) (a : Nat) (l : List Int) (hl : l.length ≤ 100) (x : Int) (y2 y3 y4 y5 y6 y7 y10 y11 y12 y13 y14 y15 y16 y17 y18 : D) (G : Hh) (ga : G.get a = some (.lst (l.map D.int))) :
    ∃ a' G', evS C namB (Lw y2 y3 y4 y5 y6 y7 (.ref a) (.int x) y10 y11 y12 y13 y14 y15 y16 y17 y18) G = .ok (.nx, Lw y2 y3 y4 y5 y6 y7 (.ref a') (.int x) y10 y11 y12 y13 y14 y15 y16 y17 y18) G' ∧ Ext G G' ∧ G'.get a' = some (.lst ((if x ∈ l then l else l ++ [x]).map D.int)) := by
  have hc : evE C (.bin .isin (.var 9) (.var 8)) (Lw y2 y3 y4 y5 y6 y7 (.ref a) (.int x) y10 y11 y12 y13 y14 y15 y16 y17 y18) G = .ok (.bl (decide (x ∈ l))) G := by
    simp only [ev_bin, ev_var, List.getElem?_cons_succ, List.getElem?_cons_zero, rdv_int, rdv_ref, bindR_ok, isin_ints ga]
  by_cases h : x ∈ l
  · refine ⟨a, G, ?_, Ext.refl G, by rw [if_pos h]; exact ga⟩
    rw [namB, es_asg, ev_ite, hc, bindR_ok, truR_bl, bindR_ok, decide_eq_true h]
    rfl
  · have e1 := Ext.new G (.lst [.int x])
    have g1 : (G.new (.lst [.int x])).get G.n = some (.lst [.int x]) := Hh.get_new_self _
    have sz1 : (1 ≤ sizeMax) = True := eq_true (by decide)
    have v1 : evE C (.lst (.cons (.var 9) .nil)) (Lw y2 y3 y4 y5 y6 y7 (.ref a) (.int x) y10 y11 y12 y13 y14 y15 y16 y17 y18) G = .ok (.ref G.n) (G.new (.lst [.int x])) := by
      simp only [ev_lst, ev_cons, ev_nil, ev_var, List.getElem?_cons_succ, List.getElem?_cons_zero, rdv_int, bindR_ok, tupR_tup, List.length_cons, List.length_nil, Nat.reduceAdd, sz1, if_true]
    generalize G.new (.lst [.int x]) = G1 at e1 g1 v1
    have hadd := add_lst (e1.get ga) g1 (by rw [List.length_map]; exact Nat.le_trans (by simp; omega : _ ≤ 101) (by decide))
    refine ⟨G1.n, G1.new (.lst (l.map D.int ++ [.int x])), ?_, e1.trans (Ext.new _ _), by rw [Hh.get_new_self, if_neg h, List.map_append]; rfl⟩
    have v0 : evE C (.var 8) (Lw y2 y3 y4 y5 y6 y7 (.ref a) (.int x) y10 y11 y12 y13 y14 y15 y16 y17 y18) G = .ok (.ref a) G := rfl
    rw [namB, es_asg, ev_ite, hc, bindR_ok, truR_bl, bindR_ok, decide_eq_false h, if_neg Bool.false_ne_true, ev_bin, v0, bindR_ok, v1, bindR_ok, hadd, bindR_ok]
    rfl
theorem L9_ok (C : Cl) (ws : List Int) (h8 : ws.length ≤ 8) (a : Nat) (y2 y3 y5 y6 y7 y9 y10 y11 y12 y13 y14 y15 y16 y17 y18 : D) (G : Hh) (ga : G.get a = some (.lst [])) :
    ∃ a' y9' G', evS C L9 (Lw y2 y3 (Ws ws) y5 y6 y7 (.ref a) y9 y10 y11 y12 y13 y14 y15 y16 y17 y18) G = .ok (.nx, Lw y2 y3 (Ws ws) y5 y6 y7 (.ref a') y9' y10 y11 y12 y13 y14 y15 y16 y17 y18) G' ∧ Ext G G' ∧ G'.get a' = some (.lst ((once ws).map D.int)) := by
  obtain ⟨σ', G', hf, a', y9', rfl, e1, e2⟩ := forN_inv (.items (ws.map D.int)) (.nm 9) (fun σ' => evS C namB σ') ws.length
    (fun i σ G' => ∃ a' y9, σ = Lw y2 y3 (Ws ws) y5 y6 y7 (.ref a') y9 y10 y11 y12 y13 y14 y15 y16 y17 y18 ∧ Ext G G' ∧ G'.get a' = some (.lst ((once (ws.take i)).map D.int)))
    (fun i σ G' hi ⟨a', y9, e0, e1, e2⟩ => by
      subst e0
      have hat : Src.at (.items (ws.map D.int)) i G' = some (some (.int ws[i])) := by
        rw [items_at (by rw [List.length_map]; exact hi)]; simp
      have hlen : (once (ws.take i)).length ≤ 100 := by
        have := once_le (ws.take i)
        rw [List.length_take] at this
        omega
      obtain ⟨a2, G2, r1, r2, r3⟩ := nam_step C a' _ hlen ws[i] y2 y3 (Ws ws) y5 y6 y7 y10 y11 y12 y13 y14 y15 y16 y17 y18 G' e2
      exact ⟨_, Lw y2 y3 (Ws ws) y5 y6 y7 (.ref a') (.int ws[i]) y10 y11 y12 y13 y14 y15 y16 y17 y18, _, G2, hat, rfl, .inl r1, a2, _, rfl, e1.trans r2, by rw [once_take ws i hi]; exact r3⟩)
    (fun σ G' _ => by have := items_end (ws.map D.int) G'; rw [List.length_map] at this; exact this) ws.length 0 (Lw y2 y3 (Ws ws) y5 y6 y7 (.ref a) y9 y10 y11 y12 y13 y14 y15 y16 y17 y18) G (by omega) ⟨a, y9, rfl, Ext.refl G, ga⟩
  rw [List.take_length] at e2
  refine ⟨a', y9', G', ?_, e1, e2⟩
  have hv : evE C (.var 4) (Lw y2 y3 (Ws ws) y5 y6 y7 (.ref a) y9 y10 y11 y12 y13 y14 y15 y16 y17 y18) G = .ok (Ws ws) G := rfl
  rw [L9, es_for, hv, bindR_ok, show srcOf .seq (Ws ws) G = some (.items (ws.map D.int)) from rfl, optR_some, bindR_ok, show (Src.items (ws.map D.int)).n = ws.length from List.length_map _]
  exact hf
/-! ### the rows, in order -/
theorem flats_rows : ∀ L : List Row, D.flats (L.map rowD) = true
  | [] => rfl
  | x :: L => by simp [D.flats, D.flat, rowD, flats_rows L]
theorem depths_rows : ∀ L : List Row, D.depths (L.map rowD) ≤ 1
  | [] => by simp [D.depths]
  | x :: L => by
    have := depths_rows L
    simp [D.depths, D.depth, rowD]
    omega
theorem eqvs_rows : ∀ L : List Row, D.eqvs (L.map rowD) (L.map rowD) = true
  | [] => rfl
  | x :: L => by simp [D.eqvs, D.eqv, rowD, eqvs_rows L]
def L10 : S := .asg (.tup (.cons (.nm 10) (.cons (.nm 11) .nil))) (.call 4 (.cons (.var 4) .nil))
def L11 : S := .ite (.or (.not (.call 12 (.cons (.call 1 (.cons (.var 4) .nil)) (.cons (.var 8) .nil)))) (.bin .ne (.bfn .list (.cons (.var 10) .nil)) (.bfn .sorted (.cons (.var 10) .nil)))) badS .skip
theorem L10_ok (k : Nat) (ws : List Int) (tb : Nat) (T : List D) (y2 y3 y5 y6 y7 y8 y9 y10 y11 y12 y13 y14 y15 y16 y17 y18 : D) (G G' : Hh) (h : callN PP (k + 10) 4 [Ws ws] G = .ok (.tup [.tup T, .ref tb]) G') :
    evS ⟨callN PP (k + 10)⟩ L10 (Lw y2 y3 (Ws ws) y5 y6 y7 y8 y9 y10 y11 y12 y13 y14 y15 y16 y17 y18) G = .ok (.nx, Lw y2 y3 (Ws ws) y5 y6 y7 y8 y9 (.tup T) (.ref tb) y12 y13 y14 y15 y16 y17 y18) G' := by
  have hv : ∀ cf, evE ⟨cf⟩ (.cons (.var 4) .nil) (Lw y2 y3 (Ws ws) y5 y6 y7 y8 y9 y10 y11 y12 y13 y14 y15 y16 y17 y18) G = .ok (.tup [Ws ws]) G := fun _ => rfl
  rw [L10, es_asg, ev_call, hv, bindR_ok, tupR_tup, bindR_ok]
  show bindR (callN PP (k + 10) 4 [Ws ws] G) _ = _
  rw [h, bindR_ok]
  rfl
theorem L11_ok (k : Nat) (ws : List Int) (h8 : ws.length ≤ 8) (nb : Nat) (R : List Row) (hR : ∀ x ∈ R, SmR x) (hl : R.length < 64) (y2 y3 y5 y6 y7 y9 y11 y12 y13 y14 y15 y16 y17 y18 : D) (G : Hh) (gn : G.get nb = some (.lst ((once ws).map D.int))) :
    ∃ G', evS ⟨callN PP (k + 10)⟩ L11 (Lw y2 y3 (Ws ws) y5 y6 y7 (.ref nb) y9 (.tup ((srt R).map rowD)) y11 y12 y13 y14 y15 y16 y17 y18) G = .ok (.nx, Lw y2 y3 (Ws ws) y5 y6 y7 (.ref nb) y9 (.tup ((srt R).map rowD)) y11 y12 y13 y14 y15 y16 y17 y18) G' ∧ Ext G G' := by
  obtain ⟨G1, ha, e1, n1, g1⟩ := answers_ok (k + 9) ws (by omega) G
  have hol := once_le ws
  have hs := same_list (k + 8) G.n nb (once ws) (by omega) G1 g1 (e1.get gn)
  have hS : ∀ x ∈ srt R, SmR x := fun x hx => hR x ((srt_perm R).mem_iff.mp hx)
  have hSl : (srt R).length < 64 := by rw [(srt_perm R).length_eq]; exact hl
  have e2 := Ext.new G1 (.lst ((srt R).map rowD))
  have g2 : (G1.new (.lst ((srt R).map rowD))).get G1.n = some (.lst ((srt R).map rowD)) := Hh.get_new_self _
  have v1 : bfn .list [.tup ((srt R).map rowD)] G1 = .ok (.ref G1.n) (G1.new (.lst ((srt R).map rowD))) := by simp only [bfn, seqOf]
  generalize G1.new (.lst ((srt R).map rowD)) = G2 at e2 g2 v1
  have e3 := Ext.new G2 (.lst ((srt R).map rowD))
  have g3 : (G2.new (.lst ((srt R).map rowD))).get G2.n = some (.lst ((srt R).map rowD)) := Hh.get_new_self _
  have v2 := sorted_ok (srt R) hS hSl (.tup ((srt R).map rowD)) G2 rfl
  rw [srt_srt R hR] at v2
  generalize G2.new (.lst ((srt R).map rowD)) = G3 at e3 g3 v2
  have hne : bin .ne (.ref G1.n) (.ref G2.n) G3 = .ok (.bl false) G3 := by
    have d1 := depths_rows (srt R)
    have d2 : D.depths ((srt R).map rowD) ≤ 40 := by omega
    have : eqD G3 (.ref G1.n) (.ref G2.n) = some true := by
      simp only [eqD, seqOf_lst (e3.get g2), seqOf_lst g3, flats_rows, eqvs_rows, d2, decide_true, Bool.and_self, if_true]
    simp only [bin, this]
    rfl
  refine ⟨G3, ?_, e1.trans (e2.trans e3)⟩
  generalize hT : (srt R).map rowD = T at v1 v2
  have a1 : ∀ (cf : Nat → List D → M D) (G : Hh), evE ⟨cf⟩ (.cons (.var 4) .nil) (Lw y2 y3 (Ws ws) y5 y6 y7 (.ref nb) y9 (.tup T) y11 y12 y13 y14 y15 y16 y17 y18) G = .ok (.tup [Ws ws]) G := fun _ _ => rfl
  have a2 : ∀ (cf : Nat → List D → M D) (G : Hh), evE ⟨cf⟩ (.cons (.var 8) .nil) (Lw y2 y3 (Ws ws) y5 y6 y7 (.ref nb) y9 (.tup T) y11 y12 y13 y14 y15 y16 y17 y18) G = .ok (.tup [.ref nb]) G := fun _ _ => rfl
  have a3 : ∀ (cf : Nat → List D → M D) (G : Hh), evE ⟨cf⟩ (.cons (.var 10) .nil) (Lw y2 y3 (Ws ws) y5 y6 y7 (.ref nb) y9 (.tup T) y11 y12 y13 y14 y15 y16 y17 y18) G = .ok (.tup [.tup T]) G := fun _ _ => rfl
  have c1 : evE ⟨callN PP (k + 10)⟩ (.call 1 (.cons (.var 4) .nil)) (Lw y2 y3 (Ws ws) y5 y6 y7 (.ref nb) y9 (.tup T) y11 y12 y13 y14 y15 y16 y17 y18) G = .ok (.ref G.n) G1 := by
    rw [ev_call, a1, bindR_ok, tupR_tup, bindR_ok]
    exact ha
  have c2 : evE ⟨callN PP (k + 10)⟩ (.call 12 (.cons (.call 1 (.cons (.var 4) .nil)) (.cons (.var 8) .nil))) (Lw y2 y3 (Ws ws) y5 y6 y7 (.ref nb) y9 (.tup T) y11 y12 y13 y14 y15 y16 y17 y18) G = .ok (.bl true) G1 := by
    rw [ev_call, ev_cons, c1, bindR_ok, a2, bindR_ok, tupR_tup, bindR_ok, bindR_ok, tupR_tup, bindR_ok]
    exact hs
  have c3 : evE ⟨callN PP (k + 10)⟩ (.bfn .list (.cons (.var 10) .nil)) (Lw y2 y3 (Ws ws) y5 y6 y7 (.ref nb) y9 (.tup T) y11 y12 y13 y14 y15 y16 y17 y18) G1 = .ok (.ref G1.n) G2 := by
    rw [ev_bfn, a3, bindR_ok, tupR_tup, bindR_ok, v1]
  have c4 : evE ⟨callN PP (k + 10)⟩ (.bfn .sorted (.cons (.var 10) .nil)) (Lw y2 y3 (Ws ws) y5 y6 y7 (.ref nb) y9 (.tup T) y11 y12 y13 y14 y15 y16 y17 y18) G2 = .ok (.ref G2.n) G3 := by
    rw [ev_bfn, a3, bindR_ok, tupR_tup, bindR_ok, v2]
  rw [L11, es_ite, ev_or, ev_not, c2, bindR_ok, truR_bl, bindR_ok, bindR_ok, truR_bl, bindR_ok]
  rw [Bool.not_true, if_neg Bool.false_ne_true, ev_bin, c3, bindR_ok, c4, bindR_ok, hne, bindR_ok, truR_bl, bindR_ok]
  rfl
end Ev

/-! K60yf: the law's own table of costs. -/
namespace Ev
open PySem
def doneP (names : List Int) (hs : List (Nat × Nat)) : List Key3 := hs.flatMap fun p => (above names).map fun a => (p.1, p.2, a)
theorem mem_done {names : List Int} {hs : List (Nat × Nat)} {p : Key3} : p ∈ doneP names hs ↔ (p.1, p.2.1) ∈ hs ∧ p.2.2 ∈ above names := by
  obtain ⟨x, y, z⟩ := p
  simp only [doneP, List.mem_flatMap, List.mem_map]
  constructor
  · rintro ⟨⟨l, h⟩, hp, a, ha, e⟩
    injection e with e1 e2
    injection e2 with e2 e3
    subst e1 e2 e3
    exact ⟨hp, ha⟩
  · rintro ⟨h1, h2⟩
    exact ⟨(x, y), h1, z, h2, rfl⟩
theorem done_len (names : List Int) (hs : List (Nat × Nat)) : (doneP names hs).length = hs.length * (names.length + 1) := by
  induction hs with
  | nil => simp [doneP]
  | cons p hs ih =>
    have : doneP names (p :: hs) = ((above names).map fun a => (p.1, p.2, a)) ++ doneP names hs := by simp [doneP]
    rw [this, List.length_append, ih, List.length_map, List.length_cons, Nat.succ_mul]
    simp [above]
    omega
theorem done_snoc (names : List Int) (hs : List (Nat × Nat)) (p : Nat × Nat) : doneP names (hs ++ [p]) = doneP names hs ++ (above names).map fun a => (p.1, p.2, a) := by
  simp [doneP]
theorem nodup_range : ∀ n : Nat, (List.range n).Nodup
  | 0 => by simp
  | n + 1 => by
    rw [List.range_succ, List.nodup_append]
    refine ⟨nodup_range n, by simp, fun a ha b hb => ?_⟩
    simp only [List.mem_cons, List.not_mem_nil, or_false] at hb
    subst hb
    have := List.mem_range.mp ha
    omega
theorem rowH_nodup (l j : Nat) : (rowH l j).Nodup := by
  unfold rowH
  rw [List.nodup_iff_pairwise_ne, List.pairwise_map]
  exact List.Pairwise.imp (fun h z => h (by injection z)) (List.nodup_iff_pairwise_ne.mp (nodup_range j))
theorem heads_nodup : ∀ i : Nat, (headsL i).Nodup
  | 0 => by simp [headsL]
  | i + 1 => by
    rw [headsL_succ, List.nodup_append]
    refine ⟨heads_nodup i, rowH_nodup _ _, fun a ha b hb => ?_⟩
    have h1 := (mem_heads.mp ha).1
    obtain ⟨h, _, e⟩ := List.mem_map.mp hb
    intro z
    rw [z, ← e] at h1
    simp only at h1
    omega
/-! ### one entry -/
def dueK : E := .tup (.cons (.var 13) (.cons (.var 14) (.cons (.var 15) .nil)))
def dueV : E := .call 14 (.cons (.var 4) (.cons (.var 5) (.cons (.var 13) (.cons (.var 14) (.cons (.var 15) .nil)))))
def dueB : S := .setix (.var 12) dueK dueV
theorem due_step (k : Nat) (ws : List Int) (d l h du : Nat) (hd : d ≤ 3) (hl : l ≤ d) (a : Option Int) (ps : List Key3) (hk : (l, h, a) ∉ ps) (hs : ps.length < 10000) (y2 y3 y6 y7 y8 y9 y10 y11 y16 y17 y18 : D) (G : Hh) (hg : G.get du = some (.dct (kv3 ws d ps))) :
    evS ⟨callN PP (k + 10)⟩ dueB (Lw y2 y3 (Ws ws) (.int d) y6 y7 y8 y9 y10 y11 (.ref du) (.int l) (.int h) (optD a) y16 y17 y18) G = .ok (.nx, Lw y2 y3 (Ws ws) (.int d) y6 y7 y8 y9 y10 y11 (.ref du) (.int l) (.int h) (optD a) y16 y17 y18) (G.set du (.dct (kv3 ws d (ps ++ [(l, h, a)])))) := by
  have hst := set_dict (k := key3 (l, h, a)) (v := .int (val3 ws d (l, h, a))) hg (keyT_ok _ _ _) (by rw [kvL_len]; exact Nat.lt_trans hs (by decide))
  rw [put_out key3 (fun p => .int (val3 ws d p)) key3_eqv ps (l, h, a) hk] at hst
  have sz3 : (3 ≤ sizeMax) = True := eq_true (by decide)
  have hkey : ∀ C : Cl, evE C dueK (Lw y2 y3 (Ws ws) (.int d) y6 y7 y8 y9 y10 y11 (.ref du) (.int l) (.int h) (optD a) y16 y17 y18) G = .ok (key3 (l, h, a)) G := fun C => by
    simp only [dueK, ev_tup, ev_cons, ev_nil, ev_var, List.getElem?_cons_succ, List.getElem?_cons_zero, rdv_int, rdv_opt, bindR_ok, tupR_tup, List.length_cons, List.length_nil, Nat.reduceAdd, sz3, if_true]
    rfl
  have hco := co_ok ws (d - l) l h a (k + 9 - (d - l)) G
  have e1 : l + (d - l) = d := by omega
  have e2 : k + 9 - (d - l) + (d - l) + 1 = k + 10 := by omega
  rw [e1, e2] at hco
  have hval : evE ⟨callN PP (k + 10)⟩ dueV (Lw y2 y3 (Ws ws) (.int d) y6 y7 y8 y9 y10 y11 (.ref du) (.int l) (.int h) (optD a) y16 y17 y18) G = .ok (.int (val3 ws d (l, h, a))) G := by
    have hv : ∀ cf, evE ⟨cf⟩ (.cons (.var 4) (.cons (.var 5) (.cons (.var 13) (.cons (.var 14) (.cons (.var 15) .nil))))) (Lw y2 y3 (Ws ws) (.int d) y6 y7 y8 y9 y10 y11 (.ref du) (.int l) (.int h) (optD a) y16 y17 y18) G = .ok (.tup [Ws ws, .int d, .int l, .int h, optD a]) G := fun cf => by
      simp only [ev_cons, ev_nil, ev_var, List.getElem?_cons_succ, List.getElem?_cons_zero, rdv_int, rdv_tup, rdv_opt, bindR_ok, tupR_tup]
    rw [dueV, ev_call, hv, bindR_ok, tupR_tup, bindR_ok]
    exact hco
  rw [dueB, es_setix, hval, bindR_ok, ev_var]
  simp only [List.getElem?_cons_succ, List.getElem?_cons_zero, rdv_ref, bindR_ok]
  rw [hkey, bindR_ok, hst, bindR_ok]
/-! ### a head's entries -/
def aboveE : E := .bin .add (.lst (.cons (.con .non) .nil)) (.var 8)
def dueA : S := .for .seq aboveE (.nm 15) dueB
theorem dueA_ok (k : Nat) (ws names : List Int) (hn : names.Nodup) (hnl : names.length ≤ 100) (d l h du nb : Nat) (hd : d ≤ 3) (hl : l ≤ d) (ps : List Key3) (hk : ∀ a, (l, h, a) ∉ ps) (hs : ps.length < 9000) (y2 y3 y6 y7 y9 y10 y11 y15 y16 y17 y18 : D) (G : Hh) (hg : G.get du = some (.dct (kv3 ws d ps))) (gn : G.get nb = some (.lst (names.map D.int))) :
    ∃ y15' G', evS ⟨callN PP (k + 10)⟩ dueA (Lw y2 y3 (Ws ws) (.int d) y6 y7 (.ref nb) y9 y10 y11 (.ref du) (.int l) (.int h) y15 y16 y17 y18) G = .ok (.nx, Lw y2 y3 (Ws ws) (.int d) y6 y7 (.ref nb) y9 y10 y11 (.ref du) (.int l) (.int h) y15' y16 y17 y18) G' ∧ ExtB du G G' ∧ G'.get du = some (.dct (kv3 ws d (ps ++ (above names).map fun a => (l, h, a)))) := by
  have ldu := Hh.get_lt hg
  have al : (above names).length = names.length + 1 := by simp [above]
  have e1 := Ext.new G (.lst [.non])
  have g1 : (G.new (.lst [.non])).get G.n = some (.lst [.non]) := Hh.get_new_self _
  have n1 : (G.new (.lst [.non])).n = G.n + 1 := rfl
  have sz1 : (1 ≤ sizeMax) = True := eq_true (by decide)
  have v1 : ∀ C σ, evE C (.lst (.cons (.con .non) .nil)) σ G = .ok (.ref G.n) (G.new (.lst [.non])) := fun C σ => by
    simp only [ev_lst, ev_cons, ev_nil, ev_con, bindR_ok, tupR_tup, List.length_cons, List.length_nil, Nat.reduceAdd, sz1, if_true]
  generalize G.new (.lst [.non]) = G1 at e1 g1 n1 v1
  have hadd := add_lst g1 (e1.get gn) (by rw [List.length_map]; exact Nat.le_trans (by simp; omega : _ ≤ 1000) (by decide))
  have e2 := Ext.new G1 (.lst ([.non] ++ names.map D.int))
  have g2 : (G1.new (.lst ([.non] ++ names.map D.int))).get G1.n = some (.lst ((above names).map optD)) := by
    rw [Hh.get_new_self]
    simp [above, optD, Function.comp_def]
  generalize G1.new (.lst ([.non] ++ names.map D.int)) = G2 at hadd e2 g2
  have nd := above_nodup hn
  have hne : G1.n ≠ du := by omega
  obtain ⟨σ', G', hf, y, rfl, b, hp'⟩ := forN_inv (.live G1.n (above names).length) (.nm 15) (fun σ' => evS ⟨callN PP (k + 10)⟩ dueB σ') (above names).length
    (fun i σ G' => ∃ y, σ = Lw y2 y3 (Ws ws) (.int d) y6 y7 (.ref nb) y9 y10 y11 (.ref du) (.int l) (.int h) y y16 y17 y18 ∧ But du G2 G' ∧ G'.get du = some (.dct (kv3 ws d (ps ++ ((above names).take i).map fun a => (l, h, a)))))
    (fun i σ G' hi ⟨y, e0, b, hp'⟩ => by
      subst e0
      have hat : Src.at (.live G1.n (above names).length) i G' = some (some (optD (above names)[i])) := by
        simp only [Src.at, b.eq G1.n hne, g2, List.length_map, if_true, List.getElem?_map, List.getElem?_eq_getElem hi, Option.map_some]
      have hnk : (l, h, (above names)[i]) ∉ ps ++ ((above names).take i).map fun a => (l, h, a) := by
        rw [List.mem_append, List.mem_map]
        rintro (z | ⟨a, z1, z2⟩)
        · exact hk _ z
        · have e : a = (above names)[i] := by injection z2 with _ z2; injection z2
          rw [e] at z1
          exact not_take nd hi z1
      have hst := due_step k ws d l h du hd hl (above names)[i] (ps ++ ((above names).take i).map fun a => (l, h, a)) hnk (by rw [List.length_append, List.length_map, List.length_take]; omega) y2 y3 y6 y7 (.ref nb) y9 y10 y11 y16 y17 y18 G' hp'
      refine ⟨_, Lw y2 y3 (Ws ws) (.int d) y6 y7 (.ref nb) y9 y10 y11 (.ref du) (.int l) (.int h) (optD (above names)[i]) y16 y17 y18, _, _, hat, rfl, .inl hst, _, rfl, b.trans (But.set _), ?_⟩
      rw [Hh.get_set_self _ (Hh.get_lt hp'), List.take_succ_eq_append_getElem hi, List.map_append, ← List.append_assoc]
      rfl)
    (fun σ G' ⟨y, _, b, _⟩ => by simp only [Src.at, b.eq G1.n hne, g2, List.length_map, if_true]; simp) (above names).length 0 (Lw y2 y3 (Ws ws) (.int d) y6 y7 (.ref nb) y9 y10 y11 (.ref du) (.int l) (.int h) y15 y16 y17 y18) G2 (by omega) ⟨y15, rfl, But.refl _ _, by simpa using e2.get (e1.get hg)⟩
  rw [List.take_length] at hp'
  refine ⟨y, G', ?_, (e1.trans e2).b.trans b.b, hp'⟩
  have he : evE ⟨callN PP (k + 10)⟩ aboveE (Lw y2 y3 (Ws ws) (.int d) y6 y7 (.ref nb) y9 y10 y11 (.ref du) (.int l) (.int h) y15 y16 y17 y18) G = .ok (.ref G1.n) G2 := by
    have hv : ∀ cf, evE ⟨cf⟩ (.var 8) (Lw y2 y3 (Ws ws) (.int d) y6 y7 (.ref nb) y9 y10 y11 (.ref du) (.int l) (.int h) y15 y16 y17 y18) G1 = .ok (.ref nb) G1 := fun _ => rfl
    rw [aboveE, ev_bin, v1, bindR_ok, hv, bindR_ok, hadd]
  have hs : srcOf .seq (.ref G1.n) G2 = some (.live G1.n (above names).length) := by simp [srcOf, g2]
  rw [dueA, es_for, he, bindR_ok, hs, optR_some, bindR_ok]
  exact hf
/-! ### all entries -/
def L12 : S := .asg (.nm 12) .dnew
def L13 : S := .for .seq (.call 15 (.cons (.var 5) .nil)) (.tup (.cons (.nm 13) (.cons (.nm 14) .nil))) dueA
theorem L13_fin (cf : Nat → List D → M D) (d n hb : Nat) (y2 y3 y4 y6 y7 y8 y9 y10 y11 y12 y13 y14 y15 y16 y17 y18 : D) (r : Res (Fl × List D)) (G G1 : Hh) (hc : cf 15 [.int d] G = .ok (.ref hb) G1) (hs : srcOf .seq (.ref hb) G1 = some (.live hb n)) (hf : forN (.live hb n) (.tup (.cons (.nm 13) (.cons (.nm 14) .nil))) (fun σ' => evS ⟨cf⟩ dueA σ') n 0 (Lw y2 y3 y4 (.int d) y6 y7 y8 y9 y10 y11 y12 y13 y14 y15 y16 y17 y18) G1 = r) :
    evS ⟨cf⟩ L13 (Lw y2 y3 y4 (.int d) y6 y7 y8 y9 y10 y11 y12 y13 y14 y15 y16 y17 y18) G = r := by
  have he : evE ⟨cf⟩ (.call 15 (.cons (.var 5) .nil)) (Lw y2 y3 y4 (.int d) y6 y7 y8 y9 y10 y11 y12 y13 y14 y15 y16 y17 y18) G = .ok (.ref hb) G1 := by
    simp only [ev_call, ev_cons, ev_nil, ev_var, List.getElem?_cons_succ, List.getElem?_cons_zero, rdv_int, bindR_ok, tupR_tup, hc]
  rw [L13, es_for, he, bindR_ok, hs, optR_some, bindR_ok]
  exact hf
theorem tbl_done (ws names : List Int) (d : Nat) : Tbl d names (fun l t a => co ws (d - l) t a) (kv3 ws d (doneP names (headsL (d + 1)))) where
  len := by
    have := headsL_len (d + 1)
    rw [kvL_len, done_len]
    congr 1
    omega
  dom p hp := by
    obtain ⟨q, hq, rfl⟩ := List.mem_map.mp hp
    obtain ⟨h1, h2⟩ := mem_done.mp hq
    obtain ⟨h3, h4⟩ := mem_heads.mp h1
    exact ⟨q.1, q.2.1, q.2.2, by simp only at h3; omega, h4, Ans_above.mpr h2, rfl⟩
  val l t a hl ht ha := look_in key3 (fun p => .int (val3 ws d p)) key3_eqv _ (l, t, a) (mem_done.mpr ⟨mem_heads.mpr ⟨by simp only; omega, ht⟩, Ans_above.mp ha⟩)
theorem L13_ok (k : Nat) (ws names : List Int) (hn : names.Nodup) (hnl : names.length ≤ 100) (d du nb : Nat) (hd : d ≤ 3) (y2 y3 y6 y7 y9 y10 y11 y13 y14 y15 y16 y17 y18 : D) (G : Hh) (hg : G.get du = some (.dct [])) (gn : G.get nb = some (.lst (names.map D.int))) :
    ∃ y13' y14' y15' kvs G', evS ⟨callN PP (k + 10)⟩ L13 (Lw y2 y3 (Ws ws) (.int d) y6 y7 (.ref nb) y9 y10 y11 (.ref du) y13 y14 y15 y16 y17 y18) G = .ok (.nx, Lw y2 y3 (Ws ws) (.int d) y6 y7 (.ref nb) y9 y10 y11 (.ref du) y13' y14' y15' y16 y17 y18) G' ∧ ExtB du G G' ∧ G'.get du = some (.dct kvs) ∧ Tbl d names (fun l t a => co ws (d - l) t a) kvs := by
  have ldu := Hh.get_lt hg
  obtain ⟨hb, G1, hc, e1, hbn, gh⟩ := heads_ok (k + 9) d hd G
  have hlen := headsL_len (d + 1)
  have h16 : 2 ^ (d + 1) ≤ 16 := by
    have := pow2_le hd
    rw [Nat.pow_succ]
    omega
  have hs : srcOf .seq (.ref hb) G1 = some (.live hb (headsL (d + 1)).length) := by simp [srcOf, gh]
  have hbd : hb ≠ du := by omega
  have nbd : nb ≠ du := fun z => by rw [z, hg] at gn; simp at gn
  obtain ⟨σ', G', hf, y13', y14', y15', rfl, b, p⟩ := forN_inv (.live hb (headsL (d + 1)).length) (.tup (.cons (.nm 13) (.cons (.nm 14) .nil))) (fun σ' => evS ⟨callN PP (k + 10)⟩ dueA σ') (headsL (d + 1)).length
    (fun i σ G' => ∃ y13 y14 y15, σ = Lw y2 y3 (Ws ws) (.int d) y6 y7 (.ref nb) y9 y10 y11 (.ref du) y13 y14 y15 y16 y17 y18 ∧ ExtB du G1 G' ∧ G'.get du = some (.dct (kv3 ws d (doneP names ((headsL (d + 1)).take i)))))
    (fun i σ G' hi ⟨y13, y14, y15, e0, b, p⟩ => by
      subst e0
      have hm := mem_heads.mp (List.getElem_mem hi)
      have hat : Src.at (.live hb (headsL (d + 1)).length) i G' = some (some (headD (headsL (d + 1))[i])) := by
        simp [Src.at, b.eq hb (Hh.get_lt gh) hbd, gh, hi]
      have hnt := not_take (heads_nodup (d + 1)) hi
      have hts := List.take_succ_eq_append_getElem hi
      generalize (headsL (d + 1))[i] = q at hm hat hnt hts
      obtain ⟨l, h⟩ := q
      have hdl : (doneP names ((headsL (d + 1)).take i)).length < 9000 := by
        rw [done_len, List.length_take]
        have : min i (headsL (d + 1)).length * (names.length + 1) ≤ 16 * 101 := Nat.mul_le_mul (by omega) (by omega)
        omega
      obtain ⟨y15', G2, r1, r2, r3⟩ := dueA_ok k ws names hn hnl d l h du nb hd (by have := hm.1; simp only at this; omega) _ (fun a z => hnt (mem_done.mp z).1) hdl y2 y3 y6 y7 y9 y10 y11 y15 y16 y17 y18 G' p (by rw [b.eq nb (Nat.lt_of_lt_of_le (Hh.get_lt gn) e1.le) nbd]; exact e1.get gn)
      refine ⟨_, Lw y2 y3 (Ws ws) (.int d) y6 y7 (.ref nb) y9 y10 y11 (.ref du) (.int l) (.int h) y15 y16 y17 y18, _, G2, hat, rfl, .inl r1, _, _, _, rfl, b.trans r2, ?_⟩
      rw [hts, done_snoc]
      exact r3)
    (fun σ G' ⟨_, _, _, _, b, _⟩ => by simp [Src.at, b.eq hb (Hh.get_lt gh) hbd, gh]) (headsL (d + 1)).length 0 (Lw y2 y3 (Ws ws) (.int d) y6 y7 (.ref nb) y9 y10 y11 (.ref du) y13 y14 y15 y16 y17 y18) G1 (by omega) ⟨y13, y14, y15, rfl, ExtB.refl _ _, e1.get hg⟩
  rw [List.take_length] at p
  refine ⟨y13', y14', y15', _, G', ?_, e1.b.trans b, p, tbl_done ws names d⟩
  exact L13_fin (callN PP (k + 10)) d _ hb y2 y3 (Ws ws) y6 y7 (.ref nb) y9 y10 y11 (.ref du) y13 y14 y15 y16 y17 y18 _ G G1 hc hs hf
end Ev

/-! K60yg: what the rows tell; no fewer rows. -/
namespace Ev
open PySem
theorem bits_big : ∀ n : Nat, 1 ≤ n → n ≤ 8 → n ≤ 2 ^ bitsN n
  | 1, _, _ => by decide
  | 2, _, _ => by decide
  | 3, _, _ => by decide
  | 4, _, _ => by decide
  | 5, _, _ => by decide
  | 6, _, _ => by decide
  | 7, _, _ => by decide
  | 8, _, _ => by decide
theorem fits_all {ws : List Int} (h1 : 1 ≤ ws.length) (h8 : ws.length ≤ 8) {v : Nat} (hv : v < ws.length) : fitR (bitsN ws.length) v (srt (rowsW ws)) = some ws[v] := by
  have hb := bestR_is (bitsN ws.length) v (srt (rowsW ws))
  have hb2 := hb.mem (L' := rowsW ws) fun x _ => (srt_perm (rowsW ws)).mem_iff
  have hv0 : v / 2 ^ bitsN ws.length = 0 := by
    have := bits_big ws.length h1 h8
    exact Nat.div_eq_of_lt (by omega)
  have ht := rows_tell ws (once ws) (bitsN ws.length) (bitsN ws.length) 0 none v hv (Nat.le_refl _) hv0 _ hb2
  unfold fitR
  generalize bestR (bitsN ws.length) v (srt (rowsW ws)) = o at ht
  cases o with
  | none => exact absurd ht (by simp [ToldAs])
  | some c =>
    have : c.2 = ws[v] := ht
    simp [this]
theorem keys_one : ∀ {T : List Row}, T.Pairwise lexlt → ∀ {x y : Row}, x ∈ T → y ∈ T → x.1 = y.1 → x.2.1 = y.2.1 → x = y
  | [], _, x, y, hx, _, _, _ => by simp at hx
  | z :: T, hp, x, y, hx, hy, e1, e2 => by
    rw [List.pairwise_cons] at hp
    rcases List.mem_cons.mp hx with hx1 | hx1
    · rcases List.mem_cons.mp hy with hy1 | hy1
      · rw [hx1, hy1]
      · have := hp.1 y hy1
        rw [← hx1] at this
        unfold lexlt at this
        omega
    · rcases List.mem_cons.mp hy with hy1 | hy1
      · have := hp.1 x hx1
        rw [← hy1] at this
        unfold lexlt at this
        omega
      · exact keys_one hp.2 hx1 hy1 e1 e2
theorem no_fewer {ws : List Int} (h1 : 1 ≤ ws.length) {n : Nat} {T : List Row} (hT : GoodT (bitsN ws.length) (once ws) n T) (h : ∀ (v : Nat) (hv : v < ws.length), fitR (bitsN ws.length) v T = some ws[v]) : (rowsW ws).length ≤ n := by
  rw [rowsW_len h1]
  generalize bitsN ws.length = d at hT h
  have hb : ∀ x, x ∈ below d d 0 T ↔ x ∈ T := fun x => by
    rw [mem_below]
    constructor
    · exact fun q => q.1
    · intro q
      obtain ⟨q1, q2, q3⟩ := hT.mem x q
      refine ⟨q, by omega, q1, ?_⟩
      rw [Nat.sub_self, Nat.sub_zero]
      exact Nat.div_eq_of_lt q2
  have hl := lower ws (once ws) (once_mem ws) (once_ne h1) d T (fun x hx => (hT.mem x hx).2.2) d 0 none (Nat.le_refl _) fun v hv _ o ho => by
    have ho2 := ho.mem (L' := T) fun x _ => hb x
    have hf := h v hv
    have hbr := bestR_is d v T
    unfold fitR at hf
    generalize bestR d v T = o' at hf hbr
    cases o' with
    | none => simp at hf
    | some c' =>
      simp only [Option.map_some, Option.some.injEq] at hf
      obtain ⟨⟨y, hy, r1, r2, r3⟩, r4⟩ := hbr
      cases o with
      | none => exact absurd r1 (ho2 y hy)
      | some c =>
        obtain ⟨⟨x, hx, q1, q2, q3⟩, q4⟩ := ho2
        have a1 := q4 y hy r1
        have a2 := r4 x hx q1
        have e1 : x.1 = y.1 := by omega
        have e2 : x.2.1 = y.2.1 := by
          have p1 : v / 2 ^ (d - x.1) = x.2.1 := q1
          have p2 : v / 2 ^ (d - y.1) = y.2.1 := r1
          rw [← p1, ← p2, e1]
        have e := keys_one hT.ord hx hy e1 e2
        show c.2 = ws[v]
        rw [← q3, e, r3, hf]
  have h2 : (below d d 0 T).length ≤ T.length := List.length_filter_le _ _
  have := hT.len
  omega
theorem eq_opt2 (G : Hh) (i : Int) (a : Option Int) : eqD G (optD a) (.int i) = some (decide (a = some i)) := by
  cases a with
  | none => simp [eqD, D.flat, D.depth, D.eqv, optD]
  | some j =>
    simp only [optD, eq_int]
    by_cases h : j = i <;> simp [h]
theorem ne_opt2 (G : Hh) (i : Int) (a : Option Int) : bin .ne (optD a) (.int i) G = .ok (.bl (!decide (a = some i))) G := by simp only [bin, eq_opt2]
end Ev

/-! K60yh: the law's turn: costs, fits, a table picked. -/
namespace Ev
open PySem
theorem Pool.extB {du : Nat} {G G' : Hh} (h : Pool 1 G) (b : ExtB du G G') (n0 : du ≠ 0) (n1 : du ≠ 1) : Pool 1 G' := by
  obtain ⟨h0, ⟨ns, h1⟩, p, r, f, hp, h2⟩ := h
  exact ⟨h0, ⟨ns, by rw [b.eq 0 (Hh.get_lt h1) (Ne.symm n0)]; exact h1⟩, p, r, f, hp, by rw [b.eq 1 (Hh.get_lt h2) (Ne.symm n1)]; exact h2⟩
/-! ### the costs -/
def keyE0 : E := .tup (.cons (.con (.int (0))) (.cons (.con (.int (0))) (.cons (.con .non) .nil)))
def L14c : E := .bin .ne (.bfn .len (.cons (.var 10) .nil)) (.bin .idx (.var 12) keyE0)
def L14 : S := .ite (.or (.not (.call 12 (.cons (.var 11) (.cons (.var 12) .nil)))) (.or (.not (.call 12 (.cons (.call 2 (.cons (.var 4) .nil)) (.cons (.var 12) .nil)))) L14c)) badS .skip
theorem L14_ok (k : Nat) (ws : List Int) (h1 : 1 ≤ ws.length) (h8 : ws.length ≤ 8) (cs du : Nat) (kc kd : List (D × D)) (T : List D) (hT : T.length = co ws (bitsN ws.length) 0 none) (y2 y3 y5 y6 y7 y8 y9 y13 y14 y15 y16 y17 y18 : D) (G : Hh) (gc : G.get cs = some (.dct kc)) (gd : G.get du = some (.dct kd)) (tc : Tbl (bitsN ws.length) (once ws) (fun l t a => co ws (bitsN ws.length - l) t a) kc) (td : Tbl (bitsN ws.length) (once ws) (fun l t a => co ws (bitsN ws.length - l) t a) kd) :
    ∃ G', evS ⟨callN PP (k + 10)⟩ L14 (Lw y2 y3 (Ws ws) y5 y6 y7 y8 y9 (.tup T) (.ref cs) (.ref du) y13 y14 y15 y16 y17 y18) G = .ok (.nx, Lw y2 y3 (Ws ws) y5 y6 y7 y8 y9 (.tup T) (.ref cs) (.ref du) y13 y14 y15 y16 y17 y18) G' ∧ Ext G G' := by
  have s1 := same_dict (k + 8) cs du (bitsN ws.length) (once ws) _ kc kd G gc gd tc td
  obtain ⟨r, kr, G1, hc, e1, _, g1, tr⟩ := cost_ok (k + 8) ws h1 h8 G
  have s2 := same_dict (k + 8) r du (bitsN ws.length) (once ws) _ kr kd G1 g1 (e1.get gd) tr td
  have i1 := idx_dict (k := keyT 0 0 none) (e1.get gd) (keyT_ok _ _ _) (td.val 0 0 none (Nat.zero_le _) (by decide) (.inl rfl))
  rw [Nat.sub_zero, ← hT] at i1
  refine ⟨G1, ?_, e1⟩
  have a1 : ∀ (cf : Nat → List D → M D) (G : Hh), evE ⟨cf⟩ (.cons (.var 11) (.cons (.var 12) .nil)) (Lw y2 y3 (Ws ws) y5 y6 y7 y8 y9 (.tup T) (.ref cs) (.ref du) y13 y14 y15 y16 y17 y18) G = .ok (.tup [.ref cs, .ref du]) G := fun _ _ => rfl
  have a2 : ∀ (cf : Nat → List D → M D) (G : Hh), evE ⟨cf⟩ (.cons (.var 12) .nil) (Lw y2 y3 (Ws ws) y5 y6 y7 y8 y9 (.tup T) (.ref cs) (.ref du) y13 y14 y15 y16 y17 y18) G = .ok (.tup [.ref du]) G := fun _ _ => rfl
  have a3 : ∀ (cf : Nat → List D → M D) (G : Hh), evE ⟨cf⟩ (.cons (.var 4) .nil) (Lw y2 y3 (Ws ws) y5 y6 y7 y8 y9 (.tup T) (.ref cs) (.ref du) y13 y14 y15 y16 y17 y18) G = .ok (.tup [Ws ws]) G := fun _ _ => rfl
  have a4 : ∀ (cf : Nat → List D → M D) (G : Hh), evE ⟨cf⟩ (.cons (.var 10) .nil) (Lw y2 y3 (Ws ws) y5 y6 y7 y8 y9 (.tup T) (.ref cs) (.ref du) y13 y14 y15 y16 y17 y18) G = .ok (.tup [.tup T]) G := fun _ _ => rfl
  have c1 : evE ⟨callN PP (k + 10)⟩ (.call 12 (.cons (.var 11) (.cons (.var 12) .nil))) (Lw y2 y3 (Ws ws) y5 y6 y7 y8 y9 (.tup T) (.ref cs) (.ref du) y13 y14 y15 y16 y17 y18) G = .ok (.bl true) G := by
    rw [ev_call, a1, bindR_ok, tupR_tup, bindR_ok]
    exact s1
  have c2 : evE ⟨callN PP (k + 10)⟩ (.call 2 (.cons (.var 4) .nil)) (Lw y2 y3 (Ws ws) y5 y6 y7 y8 y9 (.tup T) (.ref cs) (.ref du) y13 y14 y15 y16 y17 y18) G = .ok (.ref r) G1 := by
    rw [ev_call, a3, bindR_ok, tupR_tup, bindR_ok]
    exact hc
  have c3 : evE ⟨callN PP (k + 10)⟩ (.call 12 (.cons (.call 2 (.cons (.var 4) .nil)) (.cons (.var 12) .nil))) (Lw y2 y3 (Ws ws) y5 y6 y7 y8 y9 (.tup T) (.ref cs) (.ref du) y13 y14 y15 y16 y17 y18) G = .ok (.bl true) G1 := by
    rw [ev_call, ev_cons, c2, bindR_ok, a2, bindR_ok, tupR_tup, bindR_ok, bindR_ok, tupR_tup, bindR_ok]
    exact s2
  have sz3 : (3 ≤ sizeMax) = True := eq_true (by decide)
  have c4 : ∀ C σ, evE C keyE0 σ G1 = .ok (keyT 0 0 none) G1 := fun C σ => by
    simp only [keyE0, ev_tup, ev_cons, ev_nil, ev_con, bindR_ok, tupR_tup, List.length_cons, List.length_nil, Nat.reduceAdd, sz3, if_true]
    rfl
  have a5 : ∀ (cf : Nat → List D → M D) (G : Hh), evE ⟨cf⟩ (.var 12) (Lw y2 y3 (Ws ws) y5 y6 y7 y8 y9 (.tup T) (.ref cs) (.ref du) y13 y14 y15 y16 y17 y18) G = .ok (.ref du) G := fun _ _ => rfl
  have c5 : evE ⟨callN PP (k + 10)⟩ L14c (Lw y2 y3 (Ws ws) y5 y6 y7 y8 y9 (.tup T) (.ref cs) (.ref du) y13 y14 y15 y16 y17 y18) G1 = .ok (.bl false) G1 := by
    rw [L14c, ev_bin, ev_bfn, a4, bindR_ok, tupR_tup, bindR_ok, bfn_len_tup, bindR_ok, ev_bin, a5, bindR_ok, c4, bindR_ok, i1, bindR_ok, bin_ne]
    simp
  rw [L14, es_ite, ev_or, ev_not, c1, bindR_ok, truR_bl, bindR_ok, bindR_ok, truR_bl, bindR_ok]
  rw [Bool.not_true, if_neg Bool.false_ne_true, ev_or, ev_not, c3, bindR_ok, truR_bl, bindR_ok, bindR_ok, truR_bl, bindR_ok]
  rw [Bool.not_true, if_neg Bool.false_ne_true, c5, bindR_ok, truR_bl, bindR_ok]
  rfl
/-! ### each value -/
def fit13 (r v : Nat) : E := .call 13 (.cons (.var r) (.cons (.var 5) (.cons (.var v) .nil)))
def fit5 : E := .call 5 (.cons (.var 10) (.cons (.var 5) (.cons (.var 16) .nil)))
def fitsB : S := .ite (.or (.bin .ne (fit13 10 16) (.bin .idx (.var 4) (.var 16))) (.not (.call 12 (.cons fit5 (.cons (.bin .idx (.var 4) (.var 16)) .nil))))) badS .skip
def L15 : S := .for .range (.cons (.bfn .len (.cons (.var 4) .nil)) .nil) (.nm 16) fitsB
theorem fits_step (k d v : Nat) (hd : d ≤ 3) (ws : List Int) (hv : v < ws.length) (rows : List Row) (hr : ∀ r ∈ rows, r.1 ≤ d) (hf : fitR d v rows = some ws[v]) (y2 y3 y6 y7 y8 y9 y11 y12 y13 y14 y15 y17 y18 : D) (G : Hh) :
    evS ⟨callN PP (k + 10)⟩ fitsB (Lw y2 y3 (Ws ws) (.int d) y6 y7 y8 y9 (.tup (rows.map rowD)) y11 y12 y13 y14 y15 (.int v) y17 y18) G = .ok (.nx, Lw y2 y3 (Ws ws) (.int d) y6 y7 y8 y9 (.tup (rows.map rowD)) y11 y12 y13 y14 y15 (.int v) y17 y18) G := by
  have q1 := lawfit_ok (k + 9) d v hd rows hr (.tup (rows.map rowD)) _ G (walked_tup _ G)
  have q2 := fitting_ok (k + 8) d v hd rows hr (.tup (rows.map rowD)) _ G (walked_tup _ G)
  rw [hf] at q1 q2
  have q3 := same_int (k + 9) ws[v] G
  have hi := ws_idx hv G
  generalize hT : rows.map rowD = T at q1 q2
  have a1 : ∀ (cf : Nat → List D → M D), evE ⟨cf⟩ (.cons (.var 10) (.cons (.var 5) (.cons (.var 16) .nil))) (Lw y2 y3 (Ws ws) (.int d) y6 y7 y8 y9 (.tup T) y11 y12 y13 y14 y15 (.int v) y17 y18) G = .ok (.tup [.tup T, .int d, .int v]) G := fun _ => rfl
  have a2 : ∀ (cf : Nat → List D → M D), evE ⟨cf⟩ (.bin .idx (.var 4) (.var 16)) (Lw y2 y3 (Ws ws) (.int d) y6 y7 y8 y9 (.tup T) y11 y12 y13 y14 y15 (.int v) y17 y18) G = .ok (.int ws[v]) G := fun _ => by
    simp only [ev_bin, ev_var, List.getElem?_cons_succ, List.getElem?_cons_zero, rdv_int, rdv_tup, bindR_ok, hi]
  have c1 : evE ⟨callN PP (k + 10)⟩ (fit13 10 16) (Lw y2 y3 (Ws ws) (.int d) y6 y7 y8 y9 (.tup T) y11 y12 y13 y14 y15 (.int v) y17 y18) G = .ok (.int ws[v]) G := by
    rw [fit13, ev_call, a1, bindR_ok, tupR_tup, bindR_ok]
    exact q1
  have c2 : evE ⟨callN PP (k + 10)⟩ fit5 (Lw y2 y3 (Ws ws) (.int d) y6 y7 y8 y9 (.tup T) y11 y12 y13 y14 y15 (.int v) y17 y18) G = .ok (.int ws[v]) G := by
    rw [fit5, ev_call, a1, bindR_ok, tupR_tup, bindR_ok]
    exact q2
  have c3 : evE ⟨callN PP (k + 10)⟩ (.call 12 (.cons fit5 (.cons (.bin .idx (.var 4) (.var 16)) .nil))) (Lw y2 y3 (Ws ws) (.int d) y6 y7 y8 y9 (.tup T) y11 y12 y13 y14 y15 (.int v) y17 y18) G = .ok (.bl true) G := by
    rw [ev_call, ev_cons, c2, bindR_ok, ev_cons, a2, bindR_ok, ev_nil, bindR_ok, tupR_tup, bindR_ok, bindR_ok, tupR_tup, bindR_ok, bindR_ok, tupR_tup, bindR_ok]
    exact q3
  rw [fitsB, es_ite, ev_or, ev_bin, c1, bindR_ok, a2, bindR_ok, bin_ne, bindR_ok, truR_bl, bindR_ok]
  rw [decide_eq_true rfl, Bool.not_true, if_neg Bool.false_ne_true, ev_not, c3, bindR_ok, truR_bl, bindR_ok, bindR_ok, truR_bl, bindR_ok]
  rfl
theorem L15_ok (k d : Nat) (hd : d ≤ 3) (ws : List Int) (h8 : ws.length ≤ 8) (rows : List Row) (hr : ∀ r ∈ rows, r.1 ≤ d) (hf : ∀ (v : Nat) (hv : v < ws.length), fitR d v rows = some ws[v]) (y2 y3 y6 y7 y8 y9 y11 y12 y13 y14 y15 y16 y17 y18 : D) (G : Hh) :
    ∃ y16', evS ⟨callN PP (k + 10)⟩ L15 (Lw y2 y3 (Ws ws) (.int d) y6 y7 y8 y9 (.tup (rows.map rowD)) y11 y12 y13 y14 y15 y16 y17 y18) G = .ok (.nx, Lw y2 y3 (Ws ws) (.int d) y6 y7 y8 y9 (.tup (rows.map rowD)) y11 y12 y13 y14 y15 y16' y17 y18) G := by
  obtain ⟨σ', G', hq, rfl, y16', rfl⟩ := forN_inv (.rng 0 1 ws.length) (.nm 16) (fun σ' => evS ⟨callN PP (k + 10)⟩ fitsB σ') ws.length (fun i σ G' => G' = G ∧ ∃ y16, σ = Lw y2 y3 (Ws ws) (.int d) y6 y7 y8 y9 (.tup (rows.map rowD)) y11 y12 y13 y14 y15 y16 y17 y18)
    (fun i σ G' hi ⟨e1, y16, e2⟩ => by
      subst e1 e2
      exact ⟨_, Lw y2 y3 (Ws ws) (.int d) y6 y7 y8 y9 (.tup (rows.map rowD)) y11 y12 y13 y14 y15 (.int (i : Int)) y17 y18, _, G', rng_at hi G', rfl, .inl (fits_step k d i hd ws hi rows hr (hf i hi) y2 y3 y6 y7 y8 y9 y11 y12 y13 y14 y15 y17 y18 G'), rfl, _, rfl⟩)
    (fun σ G' _ => rng_end _ G') ws.length 0 (Lw y2 y3 (Ws ws) (.int d) y6 y7 y8 y9 (.tup (rows.map rowD)) y11 y12 y13 y14 y15 y16 y17 y18) G (by omega) ⟨rfl, y16, rfl⟩
  refine ⟨y16', ?_⟩
  generalize rows.map rowD = T at hq
  have hc : evE ⟨callN PP (k + 10)⟩ (.cons (.bfn .len (.cons (.var 4) .nil)) .nil) (Lw y2 y3 (Ws ws) (.int d) y6 y7 y8 y9 (.tup T) y11 y12 y13 y14 y15 y16 y17 y18) G' = .ok (.tup [.int (ws.length : Int)]) G' := by
    simp only [ev_bfn, ev_cons, ev_nil, ev_var, List.getElem?_cons_succ, List.getElem?_cons_zero, rdv_tup, bindR_ok, tupR_tup, bfn_len_tup, List.length_map]
  rw [L15, es_for, hc, bindR_ok, src_rngN (n := ws.length) (by omega) G', optR_some, bindR_ok]
  exact hq
/-! ### a table picked -/
def L16 : S := .asg (.nm 17) (.call 11 (.cons (.var 1) (.cons (.call 16 (.cons (.bfn .min2 (.cons (.var 5) (.cons (.con (.int (2))) .nil))) (.cons (.var 8) (.cons (.con (.int (2))) .nil)))) .nil)))
def L17 : S := .asg (.nm 16) (.call 10 (.cons (.var 1) (.cons (.var 6) .nil)))
def L18 : S := .ite (.not (.call 12 (.cons (.call 5 (.cons (.bfn .tuple (.cons (.var 17) .nil)) (.cons (.var 5) (.cons (.var 16) .nil)))) (.cons (fit13 17 16) .nil)))) badS .skip
theorem pool_not {G : Hh} (h : Pool 1 G) {l : List D} (g : G.get 1 = some (.lst l)) : ∃ p r f : Int, l = [.ref 0, .int p, .int r, .int f] := by
  obtain ⟨_, _, p, r, f, _, h2⟩ := h
  rw [h2] at g
  injection g with g
  unfold plO at g
  injection g with g
  exact ⟨p, r, f, g.symm⟩
theorem L16_ok (k d nb : Nat) (hd : d ≤ 3) (names : List Int) (hnl : names.length ≤ 8) (y2 y3 y4 y6 y7 y9 y10 y11 y12 y13 y14 y15 y16 y17 y18 : D) (G : Hh) (hP : Pool 1 G) (gn : G.get nb = some (.lst (names.map D.int))) :
    ∃ (x : Nat) (rows : List Row) (G' : Hh), evS ⟨callN PP (k + 10)⟩ L16 (Lw y2 y3 y4 (.int d) y6 y7 (.ref nb) y9 y10 y11 y12 y13 y14 y15 y16 y17 y18) G = .ok (.nx, Lw y2 y3 y4 (.int d) y6 y7 (.ref nb) y9 y10 y11 y12 y13 y14 y15 y16 (.ref x) y18) G' ∧ Go G G' ∧ G'.get x = some (.lst (rows.map rowD)) ∧ x ≠ 1 ∧ ∀ r ∈ rows, r.1 ≤ d := by
  obtain ⟨a, xs, G1, ht, e1, g1, hne, hlen, hx⟩ := tables_ok (k + 8) (min d 2) (by omega) names hnl nb 2 (by decide) G gn
  have hP1 := hP.ext e1
  have ha : (1 : Nat) ≠ a := fun z => by
    obtain ⟨p, r, f, e⟩ := pool_not hP1 (z ▸ g1)
    match xs, e with
    | [], e => simp at e
    | [_], e => simp at e
    | _ :: _ :: _, e => simp at e
  obtain ⟨j, hj, G2, hp, b, p⟩ := pick_ok (k + 6) 1 a (xs.map D.ref) (by simpa using hne) (by rw [List.length_map]; omega) G1 hP1 g1 ha
  rw [List.length_map] at hj
  rw [List.getElem_map] at hp
  obtain ⟨rows, gr, T⟩ := hx xs[j] (List.getElem_mem hj)
  generalize xs[j] = x at hp gr
  have hx1 : x ≠ 1 := fun z => by
    obtain ⟨p, r, f, e⟩ := pool_not hP1 (z ▸ gr)
    match rows, e with
    | [], e => simp at e
    | _ :: _, e => simp [rowD] at e
  refine ⟨x, rows, G2, ?_, (Go.ext hP e1).trans (Go.but b p), by rw [b.eq x hx1]; exact gr, hx1, fun r hr => by have := (T.mem r hr).1; omega⟩
  have hm : (if (2 : Int) < (d : Int) then (2 : Int) else (d : Int)) = ((min d 2 : Nat) : Int) := by
    split <;> omega
  have a1 : evE ⟨callN PP (k + 10)⟩ (.cons (.bfn .min2 (.cons (.var 5) (.cons (.con (.int (2))) .nil))) (.cons (.var 8) (.cons (.con (.int (2))) .nil))) (Lw y2 y3 y4 (.int d) y6 y7 (.ref nb) y9 y10 y11 y12 y13 y14 y15 y16 y17 y18) G = .ok (.tup [.int ((min d 2 : Nat) : Int), .ref nb, .int 2]) G := by
    simp only [ev_bfn, ev_cons, ev_nil, ev_con, ev_var, List.getElem?_cons_succ, List.getElem?_cons_zero, rdv_int, rdv_ref, bindR_ok, tupR_tup, bfn_min2, hm]
  have c1 : evE ⟨callN PP (k + 10)⟩ (.call 16 (.cons (.bfn .min2 (.cons (.var 5) (.cons (.con (.int (2))) .nil))) (.cons (.var 8) (.cons (.con (.int (2))) .nil)))) (Lw y2 y3 y4 (.int d) y6 y7 (.ref nb) y9 y10 y11 y12 y13 y14 y15 y16 y17 y18) G = .ok (.ref a) G1 := by
    rw [ev_call, a1, bindR_ok, tupR_tup, bindR_ok]
    exact ht
  have a2 : ∀ cf : Nat → List D → M D, evE ⟨cf⟩ (.var 1) (Lw y2 y3 y4 (.int d) y6 y7 (.ref nb) y9 y10 y11 y12 y13 y14 y15 y16 y17 y18) G = .ok (.ref 1) G := fun _ => rfl
  rw [L16, es_asg, ev_call, ev_cons, a2, bindR_ok, ev_cons, c1, bindR_ok, ev_nil, bindR_ok, tupR_tup, bindR_ok, bindR_ok, tupR_tup, bindR_ok, bindR_ok, tupR_tup, bindR_ok]
  show bindR (callN PP (k + 10) 11 [.ref 1, .ref a] G1) _ = _
  rw [hp, bindR_ok]
  rfl
theorem L17_ok (k w : Nat) (hw : 0 < w ∧ w < 1000) (y2 y3 y4 y5 y7 y8 y9 y10 y11 y12 y13 y14 y15 y16 y17 y18 : D) (G : Hh) (hP : Pool 1 G) :
    ∃ (v : Nat) (G' : Hh), evS ⟨callN PP (k + 10)⟩ L17 (Lw y2 y3 y4 y5 (.int w) y7 y8 y9 y10 y11 y12 y13 y14 y15 y16 y17 y18) G = .ok (.nx, Lw y2 y3 y4 y5 (.int w) y7 y8 y9 y10 y11 y12 y13 y14 y15 (.int v) y17 y18) G' ∧ Go G G' := by
  obtain ⟨v, G', v0, v1, h, b, p⟩ := draw_ok (k + 7) 1 (w : Int) ⟨by omega, by omega⟩ G hP
  obtain ⟨j, rfl⟩ : ∃ j : Nat, v = j := ⟨v.toNat, by omega⟩
  refine ⟨j, G', ?_, Go.but b p⟩
  have hv : ∀ cf, evE ⟨cf⟩ (.cons (.var 1) (.cons (.var 6) .nil)) (Lw y2 y3 y4 y5 (.int w) y7 y8 y9 y10 y11 y12 y13 y14 y15 y16 y17 y18) G = .ok (.tup [.ref 1, .int w]) G := fun _ => rfl
  rw [L17, es_asg, ev_call, hv, bindR_ok, tupR_tup, bindR_ok]
  show bindR (callN PP (k + 10) 10 [.ref 1, .int w] G) _ = _
  rw [h, bindR_ok]
  rfl
theorem L18_ok (k d v x : Nat) (hd : d ≤ 3) (rows : List Row) (hr : ∀ r ∈ rows, r.1 ≤ d) (y2 y3 y4 y6 y7 y8 y9 y10 y11 y12 y13 y14 y15 y18 : D) (G : Hh) (gx : G.get x = some (.lst (rows.map rowD))) :
    evS ⟨callN PP (k + 10)⟩ L18 (Lw y2 y3 y4 (.int d) y6 y7 y8 y9 y10 y11 y12 y13 y14 y15 (.int v) (.ref x) y18) G = .ok (.nx, Lw y2 y3 y4 (.int d) y6 y7 y8 y9 y10 y11 y12 y13 y14 y15 (.int v) (.ref x) y18) G := by
  have q1 := lawfit_ok (k + 9) d v hd rows hr (.ref x) _ G (walked_lst gx)
  have q2 := fitting_ok (k + 8) d v hd rows hr (.tup (rows.map rowD)) _ G (walked_tup _ G)
  have q3 := same_opt (k + 9) (fitR d v rows) G
  generalize fitR d v rows = o at q1 q2 q3
  have ht : bfn .tuple [.ref x] G = .ok (.tup (rows.map rowD)) G := by simp only [bfn, seqOf_lst gx]
  generalize rows.map rowD = T at q2 ht
  have a1 : ∀ (cf : Nat → List D → M D), evE ⟨cf⟩ (.cons (.var 17) (.cons (.var 5) (.cons (.var 16) .nil))) (Lw y2 y3 y4 (.int d) y6 y7 y8 y9 y10 y11 y12 y13 y14 y15 (.int v) (.ref x) y18) G = .ok (.tup [.ref x, .int d, .int v]) G := fun _ => rfl
  have a2 : ∀ (cf : Nat → List D → M D), evE ⟨cf⟩ (.cons (.bfn .tuple (.cons (.var 17) .nil)) (.cons (.var 5) (.cons (.var 16) .nil))) (Lw y2 y3 y4 (.int d) y6 y7 y8 y9 y10 y11 y12 y13 y14 y15 (.int v) (.ref x) y18) G = .ok (.tup [.tup T, .int d, .int v]) G := fun _ => by
    simp only [ev_bfn, ev_cons, ev_nil, ev_var, List.getElem?_cons_succ, List.getElem?_cons_zero, rdv_int, rdv_ref, bindR_ok, tupR_tup, ht]
  have c1 : evE ⟨callN PP (k + 10)⟩ (fit13 17 16) (Lw y2 y3 y4 (.int d) y6 y7 y8 y9 y10 y11 y12 y13 y14 y15 (.int v) (.ref x) y18) G = .ok (optD o) G := by
    rw [fit13, ev_call, a1, bindR_ok, tupR_tup, bindR_ok]
    exact q1
  have c2 : evE ⟨callN PP (k + 10)⟩ (.call 5 (.cons (.bfn .tuple (.cons (.var 17) .nil)) (.cons (.var 5) (.cons (.var 16) .nil)))) (Lw y2 y3 y4 (.int d) y6 y7 y8 y9 y10 y11 y12 y13 y14 y15 (.int v) (.ref x) y18) G = .ok (optD o) G := by
    rw [ev_call, a2, bindR_ok, tupR_tup, bindR_ok]
    exact q2
  rw [L18, es_ite, ev_not, ev_call, ev_cons, c2, bindR_ok, ev_cons, c1, bindR_ok, ev_nil, bindR_ok, tupR_tup, bindR_ok, bindR_ok, tupR_tup, bindR_ok, bindR_ok, tupR_tup, bindR_ok]
  show bindR (bindR (callN PP (k + 10) 12 [optD o, optD o] G) _) _ = _
  rw [q3, bindR_ok, truR_bl, bindR_ok, bindR_ok, truR_bl, bindR_ok]
  rfl
end Ev

/-! K60yi: the law's turn: all tables of fewer rows. -/
namespace Ev
open PySem
theorem rowsW_pos {ws : List Int} (h1 : 1 ≤ ws.length) (h8 : ws.length ≤ 8) : 1 ≤ (rowsW ws).length := by
  have h := fits_all h1 h8 (v := 0) (by omega)
  rcases Nat.eq_zero_or_pos (rowsW ws).length with e | e
  · have : rowsW ws = [] := List.length_eq_zero_iff.mp e
    rw [this] at h
    have : srt ([] : List Row) = [] := rfl
    rw [this] at h
    simp [fitR, bestR] at h
  · exact e
theorem comp_evc (C : Cl) (own : List Nat) (k : Ik) (src c e : E) (t : T) (σ : List D) (G : Hh) : evE C (.comp own k src t true c e) σ G = bindR (evE C src σ G) fun x G1 => bindR (optR (srcOf k x G1) G1) fun s G2 => bindR (compN s t (wipeD σ own) (fun σ' acc => M.bind (M.bind (evE C c σ') truthM) fun b => if b = true then M.bind (evE C e σ') fun y => pushM acc y else M.pure acc) s.n 0 [] G2) fun ys G3 => .ok (.ref G3.n) (G3.new (.lst ys)) := by
  simp only [evE, bind_eq]
  first
    | rfl
    | (congr 1; done)
    | (congr 1; funext x G1; show bindR (rd (srcOf k x) G1) _ = _; unfold rd; cases srcOf k x G1 <;> rfl)
def othQ : E := .bin .ne (fit13 18 7) (.bin .idx (.var 4) (.var 7))
def othC : E := .comp [7] .range (.cons (.bfn .len (.cons (.var 4) .nil)) .nil) (.nm 7) true othQ (.var 7)
theorem othQ_ok (k d v x : Nat) (hd : d ≤ 3) (ws : List Int) (hv : v < ws.length) (rows : List Row) (hr : ∀ r ∈ rows, r.1 ≤ d) (y2 y3 y6 y8 y9 y10 y11 y12 y13 y14 y15 y16 y17 : D) (G : Hh) (gx : G.get x = some (.lst (rows.map rowD))) :
    evE ⟨callN PP (k + 10)⟩ othQ (Lw y2 y3 (Ws ws) (.int d) y6 (.int v) y8 y9 y10 y11 y12 y13 y14 y15 y16 y17 (.ref x)) G = .ok (.bl (!decide (fitR d v rows = some ws[v]))) G := by
  have q1 := lawfit_ok (k + 9) d v hd rows hr (.ref x) _ G (walked_lst gx)
  generalize fitR d v rows = o at q1
  have hi := ws_idx hv G
  have a1 : ∀ (cf : Nat → List D → M D), evE ⟨cf⟩ (.cons (.var 18) (.cons (.var 5) (.cons (.var 7) .nil))) (Lw y2 y3 (Ws ws) (.int d) y6 (.int v) y8 y9 y10 y11 y12 y13 y14 y15 y16 y17 (.ref x)) G = .ok (.tup [.ref x, .int d, .int v]) G := fun _ => rfl
  have a2 : ∀ (cf : Nat → List D → M D), evE ⟨cf⟩ (.bin .idx (.var 4) (.var 7)) (Lw y2 y3 (Ws ws) (.int d) y6 (.int v) y8 y9 y10 y11 y12 y13 y14 y15 y16 y17 (.ref x)) G = .ok (.int ws[v]) G := fun _ => by
    simp only [ev_bin, ev_var, List.getElem?_cons_succ, List.getElem?_cons_zero, rdv_int, rdv_tup, bindR_ok, hi]
  have c1 : evE ⟨callN PP (k + 10)⟩ (fit13 18 7) (Lw y2 y3 (Ws ws) (.int d) y6 (.int v) y8 y9 y10 y11 y12 y13 y14 y15 y16 y17 (.ref x)) G = .ok (optD o) G := by
    rw [fit13, ev_call, a1, bindR_ok, tupR_tup, bindR_ok]
    exact q1
  rw [othQ, ev_bin, c1, bindR_ok, a2, bindR_ok, ne_opt2]
theorem truthM_bl (b : Bool) (G : Hh) : truthM (.bl b) G = .ok b G := rfl
theorem othC_ok (k d x : Nat) (hd : d ≤ 3) (ws : List Int) (h8 : ws.length ≤ 8) (rows : List Row) (hr : ∀ r ∈ rows, r.1 ≤ d) (y2 y3 y6 y7 y8 y9 y10 y11 y12 y13 y14 y15 y16 y17 : D) (G : Hh) (gx : G.get x = some (.lst (rows.map rowD))) :
    ∃ acc : List D, evE ⟨callN PP (k + 10)⟩ othC (Lw y2 y3 (Ws ws) (.int d) y6 y7 y8 y9 y10 y11 y12 y13 y14 y15 y16 y17 (.ref x)) G = .ok (.ref G.n) (G.new (.lst acc)) ∧ (acc = [] → ∀ (v : Nat) (hv : v < ws.length), fitR d v rows = some ws[v]) := by
  obtain ⟨acc, G2, hc, rfl, e1, e2⟩ := compN_inv (.rng 0 1 ws.length) (.nm 7) (Lw y2 y3 (Ws ws) (.int d) y6 .und y8 y9 y10 y11 y12 y13 y14 y15 y16 y17 (.ref x)) (fun σ' acc => M.bind (M.bind (evE ⟨callN PP (k + 10)⟩ othQ σ') truthM) fun b => if b = true then M.bind (evE ⟨callN PP (k + 10)⟩ (.var 7) σ') fun y => pushM acc y else M.pure acc) ws.length
    (fun i acc G' => G' = G ∧ acc.length ≤ i ∧ (acc = [] → ∀ (v : Nat) (hv : v < ws.length), v < i → fitR d v rows = some ws[v]))
    (fun i acc G' hi ⟨e0, e1, e2⟩ => by
      subst e0
      have hq := othQ_ok k d i x hd ws hi rows hr y2 y3 y6 y8 y9 y10 y11 y12 y13 y14 y15 y16 y17 G' gx
      by_cases h : fitR d i rows = some ws[i]
      · refine ⟨.int (i : Int), Lw y2 y3 (Ws ws) (.int d) y6 (.int (i : Int)) y8 y9 y10 y11 y12 y13 y14 y15 y16 y17 (.ref x), acc, G', rng_at hi G', rfl, ?_, rfl, by omega, fun ha v hv hvi => ?_⟩
        · rw [bind_eq, bind_eq, hq, bindR_ok, truthM_bl, bindR_ok, decide_eq_true h]
          rfl
        · by_cases ev : v = i
          · subst ev
            exact h
          · exact e2 ha v hv (by omega)
      · refine ⟨.int (i : Int), Lw y2 y3 (Ws ws) (.int d) y6 (.int (i : Int)) y8 y9 y10 y11 y12 y13 y14 y15 y16 y17 (.ref x), acc ++ [.int (i : Int)], G', rng_at hi G', rfl, ?_, rfl, by simp; omega, fun ha => by simp at ha⟩
        rw [bind_eq, bind_eq, hq, bindR_ok, truthM_bl, bindR_ok, decide_eq_false h]
        have hl : acc.length < sizeMax := Nat.lt_of_le_of_lt (by omega : _ ≤ 8) (by decide)
        have hv : ∀ cf, evE ⟨cf⟩ (.var 7) (Lw y2 y3 (Ws ws) (.int d) y6 (.int (i : Int)) y8 y9 y10 y11 y12 y13 y14 y15 y16 y17 (.ref x)) G' = .ok (.int (i : Int)) G' := fun _ => rfl
        rw [Bool.not_false, if_pos rfl, bind_eq, hv, bindR_ok]
        simp only [pushM, hl, if_true, M.pure])
    (fun a G' _ => rng_end _ G') ws.length 0 [] G (by omega) ⟨rfl, by simp, fun _ v _ hv => absurd hv (by omega)⟩
  refine ⟨acc, ?_, fun ha v hv => e2 ha v hv hv⟩
  have hs : evE ⟨callN PP (k + 10)⟩ (.cons (.bfn .len (.cons (.var 4) .nil)) .nil) (Lw y2 y3 (Ws ws) (.int d) y6 y7 y8 y9 y10 y11 y12 y13 y14 y15 y16 y17 (.ref x)) G2 = .ok (.tup [.int (ws.length : Int)]) G2 := by
    simp only [ev_bfn, ev_cons, ev_nil, ev_var, List.getElem?_cons_succ, List.getElem?_cons_zero, rdv_tup, bindR_ok, tupR_tup, bfn_len_tup, List.length_map]
  rw [othC, comp_evc, hs, bindR_ok, src_rngN (n := ws.length) (by omega) G2, optR_some, bindR_ok]
  show bindR (compN (.rng 0 1 ws.length) (.nm 7) (Lw y2 y3 (Ws ws) (.int d) y6 .und y8 y9 y10 y11 y12 y13 y14 y15 y16 y17 (.ref x)) _ ws.length 0 [] G2) _ = _
  rw [hc, bindR_ok]
def othB : S := .ite (.bin .eq (.bfn .len (.cons othC .nil)) (.con (.int (0)))) badS .skip
theorem othB_ok (k d x : Nat) (hd : d ≤ 3) (ws : List Int) (h8 : ws.length ≤ 8) (rows : List Row) (hr : ∀ r ∈ rows, r.1 ≤ d) (hno : ¬ ∀ (v : Nat) (hv : v < ws.length), fitR d v rows = some ws[v]) (y2 y3 y6 y7 y8 y9 y10 y11 y12 y13 y14 y15 y16 y17 : D) (G : Hh) (gx : G.get x = some (.lst (rows.map rowD))) :
    ∃ G', evS ⟨callN PP (k + 10)⟩ othB (Lw y2 y3 (Ws ws) (.int d) y6 y7 y8 y9 y10 y11 y12 y13 y14 y15 y16 y17 (.ref x)) G = .ok (.nx, Lw y2 y3 (Ws ws) (.int d) y6 y7 y8 y9 y10 y11 y12 y13 y14 y15 y16 y17 (.ref x)) G' ∧ Ext G G' := by
  obtain ⟨acc, hc, hq⟩ := othC_ok k d x hd ws h8 rows hr y2 y3 y6 y7 y8 y9 y10 y11 y12 y13 y14 y15 y16 y17 G gx
  have e1 := Ext.new G (.lst acc)
  have g1 : (G.new (.lst acc)).get G.n = some (.lst acc) := Hh.get_new_self _
  generalize G.new (.lst acc) = G1 at hc e1 g1
  have hl := len_lst g1
  have hne : ¬ ((acc.length : Int) = 0) := fun z => hno (hq (List.length_eq_zero_iff.mp (by omega)))
  refine ⟨G1, ?_, e1⟩
  rw [othB, es_ite, ev_bin, ev_bfn, ev_cons, hc, bindR_ok, ev_nil, bindR_ok, tupR_tup, bindR_ok, bindR_ok, tupR_tup, bindR_ok, hl, bindR_ok, ev_con, bindR_ok, bin_eq, bindR_ok, truR_bl, bindR_ok, decide_eq_false hne]
  rfl
def L19q : E := .and (.bin .lt (.var 5) (.con (.int (3)))) (.bin .lt (.bfn .len (.cons (.var 10) .nil)) (.con (.int (4))))
def L19s : E := .call 16 (.cons (.var 5) (.cons (.var 8) (.cons (.bin .sub (.bfn .len (.cons (.var 10) .nil)) (.con (.int (1)))) .nil)))
def L19 : S := .ite L19q (.for .seq L19s (.nm 18) othB) .skip
theorem L19_ok (k nb : Nat) (ws : List Int) (h1 : 1 ≤ ws.length) (h8 : ws.length ≤ 8) (T : List D) (hT : T.length = (rowsW ws).length) (y2 y3 y6 y7 y9 y11 y12 y13 y14 y15 y16 y17 y18 : D) (G : Hh) (gn : G.get nb = some (.lst ((once ws).map D.int))) :
    ∃ y18' G', evS ⟨callN PP (k + 10)⟩ L19 (Lw y2 y3 (Ws ws) (.int (bitsN ws.length)) y6 y7 (.ref nb) y9 (.tup T) y11 y12 y13 y14 y15 y16 y17 y18) G = .ok (.nx, Lw y2 y3 (Ws ws) (.int (bitsN ws.length)) y6 y7 (.ref nb) y9 (.tup T) y11 y12 y13 y14 y15 y16 y17 y18') G' ∧ Ext G G' := by
  have hd := bitsN_le ws.length
  have hpos := rowsW_pos h1 h8
  have hol := once_le ws
  have hfew := fun n rows (g : GoodT (bitsN ws.length) (once ws) n rows) => no_fewer h1 g
  generalize bitsN ws.length = d at hd hfew
  have hcond : ∀ C, evE C L19q (Lw y2 y3 (Ws ws) (.int d) y6 y7 (.ref nb) y9 (.tup T) y11 y12 y13 y14 y15 y16 y17 y18) G = .ok (.bl (decide ((d : Int) < 3) && decide ((T.length : Int) < 4))) G := fun C => by
    simp only [L19q, ev_and, ev_bin, ev_bfn, ev_cons, ev_nil, ev_con, ev_var, List.getElem?_cons_succ, List.getElem?_cons_zero, rdv_int, rdv_tup, bindR_ok, tupR_tup, bfn_len_tup, bin_lt, truR_bl]
    by_cases h : (d : Int) < 3
    · rw [decide_eq_true h, if_pos rfl, Bool.true_and]
    · rw [decide_eq_false h, if_neg Bool.false_ne_true, Bool.false_and]
  by_cases hc : (d : Int) < 3 ∧ (T.length : Int) < 4
  · obtain ⟨a, xs, G1, ht, e1, g1, hne, hlen, hx⟩ := tables_ok (k + 8) d hd (once ws) (by omega) nb ((T.length : Int) - 1) (by omega) G gn
    obtain ⟨σ', G', hf, y18', rfl, e2⟩ := forN_inv (.live a xs.length) (.nm 18) (fun σ' => evS ⟨callN PP (k + 10)⟩ othB σ') xs.length
      (fun i σ G' => ∃ y18, σ = Lw y2 y3 (Ws ws) (.int d) y6 y7 (.ref nb) y9 (.tup T) y11 y12 y13 y14 y15 y16 y17 y18 ∧ Ext G1 G')
      (fun i σ G' hi ⟨y18, e0, e2⟩ => by
        subst e0
        have hat : Src.at (.live a xs.length) i G' = some (some (.ref xs[i])) := by
          simp [Src.at, e2.get g1, hi]
        obtain ⟨rows, gr, T2⟩ := (hx _ (List.getElem_mem hi)).ext e2
        generalize xs[i] = x at hat gr
        obtain ⟨G2, r1, r2⟩ := othB_ok k d x hd ws h8 rows (fun r hr => (T2.mem r hr).1) (fun z => by have := hfew _ rows T2 z; omega) y2 y3 y6 y7 (.ref nb) y9 (.tup T) y11 y12 y13 y14 y15 y16 y17 G' gr
        exact ⟨_, Lw y2 y3 (Ws ws) (.int d) y6 y7 (.ref nb) y9 (.tup T) y11 y12 y13 y14 y15 y16 y17 (.ref x), _, G2, hat, rfl, .inl r1, _, rfl, e2.trans r2⟩)
      (fun σ G' ⟨_, _, e2⟩ => by simp [Src.at, e2.get g1]) xs.length 0 (Lw y2 y3 (Ws ws) (.int d) y6 y7 (.ref nb) y9 (.tup T) y11 y12 y13 y14 y15 y16 y17 y18) G1 (by omega) ⟨y18, rfl, Ext.refl _⟩
    refine ⟨y18', G', ?_, e1.trans e2⟩
    have hs : srcOf .seq (.ref a) G1 = some (.live a xs.length) := by simp [srcOf, g1]
    have he : evE ⟨callN PP (k + 10)⟩ L19s (Lw y2 y3 (Ws ws) (.int d) y6 y7 (.ref nb) y9 (.tup T) y11 y12 y13 y14 y15 y16 y17 y18) G = .ok (.ref a) G1 := by
      have hv : ∀ cf, evE ⟨cf⟩ (.cons (.var 5) (.cons (.var 8) (.cons (.bin .sub (.bfn .len (.cons (.var 10) .nil)) (.con (.int (1)))) .nil))) (Lw y2 y3 (Ws ws) (.int d) y6 y7 (.ref nb) y9 (.tup T) y11 y12 y13 y14 y15 y16 y17 y18) G = .ok (.tup [.int d, .ref nb, .int ((T.length : Int) - 1)]) G := fun cf => by
        simp only [ev_bin, ev_bfn, ev_cons, ev_nil, ev_con, ev_var, List.getElem?_cons_succ, List.getElem?_cons_zero, rdv_int, rdv_ref, rdv_tup, bindR_ok, tupR_tup, bfn_len_tup, bin_sub]
      rw [L19s, ev_call, hv, bindR_ok, tupR_tup, bindR_ok]
      exact ht
    rw [L19, es_ite, hcond, bindR_ok, truR_bl, bindR_ok, decide_eq_true hc.1, decide_eq_true hc.2, Bool.and_self, if_pos rfl, es_for, he, bindR_ok, hs, optR_some, bindR_ok]
    exact hf
  · refine ⟨y18, G, ?_, Ext.refl G⟩
    have : (decide ((d : Int) < 3) && decide ((T.length : Int) < 4)) = false := by
      rw [← Bool.not_eq_true, Bool.and_eq_true, decide_eq_true_eq, decide_eq_true_eq]
      exact hc
    rw [L19, es_ite, hcond, bindR_ok, truR_bl, bindR_ok, this]
    rfl
end Ev

/-! K60yj: the law. -/
namespace Ev
open PySem
def IsLw (σ : List D) : Prop := ∃ y2 y3 y4 y5 y6 y7 y8 y9 y10 y11 y12 y13 y14 y15 y16 y17 y18, σ = Lw y2 y3 y4 y5 y6 y7 y8 y9 y10 y11 y12 y13 y14 y15 y16 y17 y18
theorem isLw {y2 y3 y4 y5 y6 y7 y8 y9 y10 y11 y12 y13 y14 y15 y16 y17 y18 : D} : IsLw (Lw y2 y3 y4 y5 y6 y7 y8 y9 y10 y11 y12 y13 y14 y15 y16 y17 y18) := ⟨y2, y3, y4, y5, y6, y7, y8, y9, y10, y11, y12, y13, y14, y15, y16, y17, y18, rfl⟩
def turnB : S := .seq L1 (.seq L2 (.seq L3 (.seq L4 (.seq L5 (.seq L6 (.seq L7 (.seq L8 (.seq L9 (.seq L10 (.seq L11 (.seq L12 (.seq L13 (.seq L14 (.seq L15 (.seq L16 (.seq L17 (.seq L18 L19)))))))))))))))))
theorem turnB_ok (k : Nat) (y2 y3 y4 y5 y6 y7 y8 y9 y10 y11 y12 y13 y14 y15 y16 y17 y18 : D) (G : Hh) (hP : Pool 1 G) :
    ∃ σ' G', evS ⟨callN PP (k + 10)⟩ turnB (Lw y2 y3 y4 y5 y6 y7 y8 y9 y10 y11 y12 y13 y14 y15 y16 y17 y18) G = .ok (.nx, σ') G' ∧ IsLw σ' ∧ Pool 1 G' := by
  obtain ⟨G1, s1, g1⟩ := L1_ok k y2 y3 y4 y5 y6 y7 y8 y9 y10 y11 y12 y13 y14 y15 y16 y17 y18 G hP
  obtain ⟨m, G2, m1, m3, s2, g2⟩ := L2_ok k y2 y3 y4 y5 y6 y7 y8 y9 y10 y11 y12 y13 y14 y15 y16 y17 y18 G1 g1.p
  obtain ⟨ws, G3, h1, h8, hv, s3, g3⟩ := L3_ok k m ⟨m1, m3⟩ y2 y4 y5 y6 y7 y8 y9 y10 y11 y12 y13 y14 y15 y16 y17 y18 G2 g2.p
  have s4 : ∀ C, evS C L4 (Lw y2 (.int m) (Ws ws) y5 y6 y7 y8 y9 y10 y11 y12 y13 y14 y15 y16 y17 y18) G3 = .ok (.nx, Lw y2 (.int m) (Ws ws) (.int 0) y6 y7 y8 y9 y10 y11 y12 y13 y14 y15 y16 y17 y18) G3 := fun _ => rfl
  have s5 : ∀ C, evS C L5 (Lw y2 (.int m) (Ws ws) (.int 0) y6 y7 y8 y9 y10 y11 y12 y13 y14 y15 y16 y17 y18) G3 = .ok (.nx, Lw y2 (.int m) (Ws ws) (.int 0) (.int 1) y7 y8 y9 y10 y11 y12 y13 y14 y15 y16 y17 y18) G3 := fun _ => rfl
  obtain ⟨z7, s6⟩ := L6_ok ⟨callN PP (k + 10)⟩ ws h1 h8 y2 (.int m) y7 y8 y9 y10 y11 y12 y13 y14 y15 y16 y17 y18 G3
  obtain ⟨G7, s7, e7⟩ := L7_ok k ws h1 h8 y2 (.int m) z7 y8 y9 y10 y11 y12 y13 y14 y15 y16 y17 y18 G3
  have hd := bitsN_le ws.length
  have hp7 := g3.p.ext e7
  -- names
  have s8 : ∀ (C : Cl) (d w : D), evS C L8 (Lw y2 (.int m) (Ws ws) d w z7 y8 y9 y10 y11 y12 y13 y14 y15 y16 y17 y18) G7 = .ok (.nx, Lw y2 (.int m) (Ws ws) d w z7 (.ref G7.n) y9 y10 y11 y12 y13 y14 y15 y16 y17 y18) (G7.new (.lst [])) := fun _ _ _ => rfl
  have e8 := Ext.new G7 (.lst [])
  have g8 : (G7.new (.lst [])).get G7.n = some (.lst []) := Hh.get_new_self _
  generalize G7.new (.lst []) = G8 at s8 e8 g8
  obtain ⟨nb, z9, G9, s9, e9, g9⟩ := L9_ok ⟨callN PP (k + 10)⟩ ws h8 G7.n y2 (.int m) (.int (bitsN ws.length)) (.int ((2 ^ bitsN ws.length : Nat) : Int)) z7 y9 y10 y11 y12 y13 y14 y15 y16 y17 y18 G8 g8
  have hp9 := (hp7.ext e8).ext e9
  -- rows, costs
  obtain ⟨tb, kc, G10, q10, e10, g10, tc⟩ := prefix_ok (k + 7) ws h1 h8 (fun x hx => by have := hv x hx; omega) G9
  have s10 := L10_ok k ws tb ((srt (rowsW ws)).map rowD) y2 (.int m) (.int (bitsN ws.length)) (.int ((2 ^ bitsN ws.length : Nat) : Int)) z7 (.ref nb) z9 y10 y11 y12 y13 y14 y15 y16 y17 y18 G9 G10 q10
  have hp10 := hp9.ext e10
  have n10 := e10.get g9
  have hrl := rowsW_le h1
  obtain ⟨G11, s11, e11⟩ := L11_ok k ws h8 nb (rowsW ws) (rowsW_sm h1 (fun x hx => by have := hv x hx; omega)) (by omega) y2 (.int m) (.int (bitsN ws.length)) (.int ((2 ^ bitsN ws.length : Nat) : Int)) z7 z9 (.ref tb) y12 y13 y14 y15 y16 y17 y18 G10 n10
  have hp11 := hp10.ext e11
  have n11 := e11.get n10
  have c11 := e11.get g10
  have hTl : ((srt (rowsW ws)).map rowD).length = (rowsW ws).length := by rw [List.length_map, (srt_perm (rowsW ws)).length_eq]
  have hS : ∀ r ∈ srt (rowsW ws), r.1 ≤ bitsN ws.length := fun r hr => (rowsW_in h1 r ((srt_perm _).mem_iff.mp hr)).1
  -- the law's own costs
  have s12 : ∀ (C : Cl) (d w T : D), evS C L12 (Lw y2 (.int m) (Ws ws) d w z7 (.ref nb) z9 T (.ref tb) y12 y13 y14 y15 y16 y17 y18) G11 = .ok (.nx, Lw y2 (.int m) (Ws ws) d w z7 (.ref nb) z9 T (.ref tb) (.ref G11.n) y13 y14 y15 y16 y17 y18) (G11.new (.dct [])) := fun _ _ _ _ => rfl
  have e12 := Ext.new G11 (.dct [])
  have g12 : (G11.new (.dct [])).get G11.n = some (.dct []) := Hh.get_new_self _
  generalize G11.new (.dct []) = G12 at s12 e12 g12
  have l11 := hp11.lt
  have lnb := Hh.get_lt n11
  have ltb := Hh.get_lt c11
  have hp12 := hp11.ext e12
  have hol := once_le ws
  obtain ⟨z13, z14, z15, kd, G13, s13, b13, g13, td⟩ := L13_ok k ws (once ws) (once_nodup ws) (by omega) (bitsN ws.length) G11.n nb hd y2 (.int m) (.int ((2 ^ bitsN ws.length : Nat) : Int)) z7 z9 (.tup ((srt (rowsW ws)).map rowD)) (.ref tb) y13 y14 y15 y16 y17 y18 G12 g12 (e12.get n11)
  have hp13 := hp12.extB b13 (by omega) (by omega)
  have c13 : G13.get tb = some (.dct kc) := by rw [b13.eq tb (Nat.lt_of_lt_of_le ltb e12.le) (by omega)]; exact e12.get c11
  have n13 : G13.get nb = some (.lst ((once ws).map D.int)) := by rw [b13.eq nb (Nat.lt_of_lt_of_le lnb e12.le) (by omega)]; exact e12.get n11
  obtain ⟨G14, s14, e14⟩ := L14_ok k ws h1 h8 tb G11.n kc kd ((srt (rowsW ws)).map rowD) (by rw [hTl, rowsW_len h1]) y2 (.int m) (.int (bitsN ws.length)) (.int ((2 ^ bitsN ws.length : Nat) : Int)) z7 (.ref nb) z9 z13 z14 z15 y16 y17 y18 G13 c13 g13 tc td
  have hp14 := hp13.ext e14
  have n14 := e14.get n13
  obtain ⟨z16, s15⟩ := L15_ok k (bitsN ws.length) hd ws h8 (srt (rowsW ws)) hS (fun v hv => fits_all h1 h8 hv) y2 (.int m) (.int ((2 ^ bitsN ws.length : Nat) : Int)) z7 (.ref nb) z9 (.ref tb) (.ref G11.n) z13 z14 z15 y16 y17 y18 G14
  -- a table
  obtain ⟨x, rows, G16, s16, g16, gx, hx1, hr⟩ := L16_ok k (bitsN ws.length) nb hd (once ws) (by omega) y2 (.int m) (Ws ws) (.int ((2 ^ bitsN ws.length : Nat) : Int)) z7 z9 (.tup ((srt (rowsW ws)).map rowD)) (.ref tb) (.ref G11.n) z13 z14 z15 z16 y17 y18 G14 hp14 n14
  have nb1 : nb ≠ 1 := fun z => by
    obtain ⟨p, r, f, e⟩ := pool_not hp14 (z ▸ n14)
    match once ws, e with
    | [], e => simp at e
    | _ :: _, e => simp at e
  have n16 := g16.get n14 nb1
  have h2p := pow2_le hd
  have h1p : 1 ≤ 2 ^ bitsN ws.length := Nat.one_le_two_pow
  obtain ⟨v, G17, s17, g17⟩ := L17_ok k (2 ^ bitsN ws.length) ⟨by omega, by omega⟩ y2 (.int m) (Ws ws) (.int (bitsN ws.length)) z7 (.ref nb) z9 (.tup ((srt (rowsW ws)).map rowD)) (.ref tb) (.ref G11.n) z13 z14 z15 z16 (.ref x) y18 G16 g16.p
  have s18 := L18_ok k (bitsN ws.length) v x hd rows hr y2 (.int m) (Ws ws) (.int ((2 ^ bitsN ws.length : Nat) : Int)) z7 (.ref nb) z9 (.tup ((srt (rowsW ws)).map rowD)) (.ref tb) (.ref G11.n) z13 z14 z15 y18 G17 (g17.get gx hx1)
  obtain ⟨z18, G19, s19, e19⟩ := L19_ok k nb ws h1 h8 ((srt (rowsW ws)).map rowD) hTl y2 (.int m) (.int ((2 ^ bitsN ws.length : Nat) : Int)) z7 z9 (.ref tb) (.ref G11.n) z13 z14 z15 (.int v) (.ref x) y18 G17 (g17.get n16 nb1)
  refine ⟨Lw y2 (.int m) (Ws ws) (.int (bitsN ws.length)) (.int ((2 ^ bitsN ws.length : Nat) : Int)) z7 (.ref nb) z9 (.tup ((srt (rowsW ws)).map rowD)) (.ref tb) (.ref G11.n) z13 z14 z15 (.int v) (.ref x) z18, G19, ?_, isLw, g17.p.ext e19⟩
  rw [turnB, seq_nx s1, seq_nx s2, seq_nx s3, seq_nx (s4 _), seq_nx (s5 _), seq_nx s6, seq_nx s7, seq_nx (s8 _ _ _), seq_nx s9, seq_nx s10, seq_nx s11, seq_nx (s12 _ _ _ _), seq_nx s13, seq_nx s14, seq_nx s15, seq_nx s16, seq_nx s17, seq_nx s18, s19]
theorem turns_ok (k : Nat) (σ : List D) (hσ : IsLw σ) (G : Hh) (hP : Pool 1 G) :
    ∃ σ' G', evS ⟨callN PP (k + 10)⟩ (.for .range (.cons (.con (.int (3))) .nil) (.nm 2) turnB) σ G = .ok (.nx, σ') G' := by
  obtain ⟨σ', G', hf, _, _⟩ := forN_inv (.rng 0 1 3) (.nm 2) (fun σ' => evS ⟨callN PP (k + 10)⟩ turnB σ') 3 (fun i σ G' => IsLw σ ∧ Pool 1 G')
    (fun i σ G' hi ⟨hσ, hP⟩ => by
      obtain ⟨y2, y3, y4, y5, y6, y7, y8, y9, y10, y11, y12, y13, y14, y15, y16, y17, y18, rfl⟩ := hσ
      obtain ⟨σ2, G2, h1, h2, h3⟩ := turnB_ok k (.int (i : Int)) y3 y4 y5 y6 y7 y8 y9 y10 y11 y12 y13 y14 y15 y16 y17 y18 G' hP
      exact ⟨_, Lw (.int (i : Int)) y3 y4 y5 y6 y7 y8 y9 y10 y11 y12 y13 y14 y15 y16 y17 y18, _, G2, rng_at hi G', rfl, .inl h1, h2, h3⟩)
    (fun σ G' _ => rng_end 3 G') 3 0 σ G (by omega) ⟨hσ, hP⟩
  refine ⟨σ', G', ?_⟩
  have hc : evE ⟨callN PP (k + 10)⟩ (.cons (.con (.int (3))) .nil) σ G = .ok (.tup [.int 3]) G := rfl
  rw [es_for, hc, bindR_ok, show srcOf .range (.tup [.int 3]) G = some (.rng 0 1 3) from rfl, optR_some, bindR_ok]
  exact hf
theorem law_ok (ns : List Int) : ∃ G', callN PP 60 17 [.ref 0] (Hh.empty.new (.frz (ns.map D.int))) = .ok (.bl true) G' := by
  obtain ⟨G1, hp, p1⟩ := pool_ok 56 ns
  obtain ⟨σ', G2, hf⟩ := turns_ok 49 (Lw .und .und .und .und .und .und .und .und .und .und .und .und .und .und .und .und .und) isLw G1 p1
  refine ⟨G2, ?_⟩
  generalize Hh.empty.new (.frz (ns.map D.int)) = G at hp
  rw [callN_at 59 17 q17 _ _ rfl, runF_eq rfl]
  have hp' : callN PP 59 8 [.ref 0] G = .ok (.ref 1) G1 := hp
  have hf' : evS ⟨callN PP 59⟩ (.for .range (.cons (.con (.int (3))) .nil) (.nm 2) turnB) (Lw .und .und .und .und .und .und .und .und .und .und .und .und .und .und .und .und .und) G1 = .ok (.nx, σ') G2 := hf
  generalize callN PP 59 = cf at hp' hf'
  have s0 : evS ⟨cf⟩ (.asg (.nm 1) (.call 8 (.cons (.var 0) .nil))) [.ref 0, .und, .und, .und, .und, .und, .und, .und, .und, .und, .und, .und, .und, .und, .und, .und, .und, .und, .und] G = .ok (.nx, Lw .und .und .und .und .und .und .und .und .und .und .und .und .und .und .und .und .und) G1 := by
    have hv : evE ⟨cf⟩ (.cons (.var 0) .nil) [.ref 0, .und, .und, .und, .und, .und, .und, .und, .und, .und, .und, .und, .und, .und, .und, .und, .und, .und, .und] G = .ok (.tup [.ref 0]) G := rfl
    rw [es_asg, ev_call, hv, bindR_ok, tupR_tup, bindR_ok]
    show bindR (cf 8 [.ref 0] G) _ = _
    rw [hp', bindR_ok]
    rfl
  show outF (evS _ (.seq (.asg (.nm 1) (.call 8 (.cons (.var 0) .nil))) (.seq (.for .range (.cons (.con (.int (3))) .nil) (.nm 2) turnB) (.ret (.con (.bl true))))) [.ref 0, .und, .und, .und, .und, .und, .und, .und, .und, .und, .und, .und, .und, .und, .und, .und, .und, .und, .und] G) = _
  rw [seq_nx s0, seq_nx hf']
  rfl
end Ev

namespace Ev
open PySem PySem.Spec
open PyProof.Rows hiding St
open L2
open Sem (wp)
abbrev KsOk (K : PySem.W.Frag) (mg : Str → Option Value) (x : Str) (d : D) : Prop := ∃ v u, mg x = some u ∧ RelV v u ∧ ∀ ρ m H, RV K ρ m H d v
abbrev KdOk (K : PySem.W.Frag) (w : World) (mg : Str → Option Value) (g k : Str) (d : D) : Prop := ∃ (p : Addr) (v : V), (g == ("__debug__" : Str)) = false ∧ mg g = some (.ref p) ∧ KDct K w p k v ∧ ∀ ρ m H, RV K ρ m H d v
theorem KdOk.mk' {K : PySem.W.Frag} {w : World} {mg : Str → Option Value} {h : Heap} (X : K.In h) (G : h.Ns mainGlobals mg) {g k : Str} {i : Int} {p : Addr} {es : Array DictEntry} {n : Nat} {u : Value}
    (a : PySem.W.nsIn K mainGlobals g = some (some (.ref p))) (l : K.lookup p = some ⟨.type "dict", none, .dict es n, #[]⟩) (q : PySem.W.KeysLit w.params es.toList) (e : PySem.W.nsIn K p k = some (some u)) (r : ∃ t, u = .int i t) (gd : (g == ("__debug__" : Str)) = false) : KdOk K w mg g k (.int i) :=
  ⟨p, .int i, gd, PySem.W.mg_of X G a, ⟨es, n, _, l, q, e, r⟩, fun _ _ _ => rfl⟩
theorem KsOk.int {K : PySem.W.Frag} {mg : Str → Option Value} {h : Heap} (X : K.In h) (G : h.Ns mainGlobals mg) {x : Str} {i : Int} {u : Value} (a : PySem.W.nsIn K mainGlobals x = some (some u)) (r : ∃ t, u = .int i t) : KsOk K mg x (.int i) :=
  ⟨.int i, _, PySem.W.mg_of X G a, r, fun _ _ _ => rfl⟩
theorem KsOk.str {K : PySem.W.Frag} {mg : Str → Option Value} {h : Heap} (X : K.In h) (G : h.Ns mainGlobals mg) {x : Str} {i : Str} {u : Value} (a : PySem.W.nsIn K mainGlobals x = some (some u)) (r : ∃ t, u = .str i t) : KsOk K mg x (.str i) :=
  ⟨.str i, _, PySem.W.mg_of X G a, r, fun _ _ _ => rfl⟩
/-- a tuple of texts that the top has made -/
theorem KsOk.tup {K : PySem.W.Frag} {mg : Str → Option Value} {h : Heap} (X : K.In h) (G : h.Ns mainGlobals mg) {x : Str} {ss : List Str} {a : Addr} {its : Array Value} {n : Nat} {sl : Array (Option Value)}
    (e : PySem.W.nsIn K mainGlobals x = some (some (.ref a))) (l : K.lookup a = some ⟨.type "tuple", none, .seq its n, sl⟩) (hn : its.size ≤ 63) (hv : Vals (ss.map V.str) its.toList) : KsOk K mg x (.tup (ss.map D.str)) := by
  refine ⟨.ref a, _, PySem.W.mg_of X G e, rfl, fun ρ m H => ⟨a, ss.map V.str, rfl, ⟨.inr ⟨_, its, n, l, rfl, rfl, Nat.le_trans hn (by decide), hv⟩, .inr ⟨_, l, rfl⟩⟩, ?_⟩⟩
  clear l hv e
  induction ss with
  | nil => rfl
  | cons s r ih => exact ⟨_, _, rfl, rfl, ih⟩
theorem mdl_of {fs : List (Str × Nat)} {ks : List (Str × D)} {kd : List ((Str × Str) × D)} {P : List Fn} {prog : Program} {w : World} {K : PySem.W.Frag} {mg : Str → Option Value} {base h : Heap} (X : K.In h) (G : h.Ns mainGlobals mg)
    (hd : ∀ p ∈ fs, ∃ (st : Stmt) (f : Addr) (fd : FuncData) (N ps : List Str), Fun K p.1 p.1 st f fd ∧ mg p.1 = some (.ref f) ∧ Binds K fd ps [] ∧ FnScope N ps (defScope st) ∧ P[p.2]? = some ⟨ps.length, N.length, cSs ⟨N, fs, ks, kd⟩ (defScope st) 60 (defBody st)⟩)
    (hb : ∀ g ∈ builtinsUsed, PySem.W.nsIn K mainGlobals g = some none) (hk : ∀ p ∈ ks, KsOk K mg p.1 p.2) (hkd : ∀ p ∈ kd, KdOk K w mg p.1.1 p.1.2 p.2) : Mdl fs ks kd P prog w K mg base where
  df x i e := hd (x, i) (lookup_mem e)
  blt g e := PySem.W.mg_none_of X G (hb g e)
  cst N Y h1 h2 h3 h4 h5 h6 := {
    ks := fun x d e => by
      have q := hk (x, d) (lookup_mem e)
      rw [h3, h4]
      exact q
    kd := fun g k d e => by
      obtain ⟨p, v, q0, q1, q2, q3⟩ := hkd ((g, k), d) (lookup_mem e)
      refine ⟨v, by rw [h3]; exact q3, fun Z z1 z2 z3 z4 z5 z6 z7 gl a j b c => ?_⟩
      have m : Z.mg g = some (.ref p) := by rw [z4, h4]; exact q1
      have kz : KDct Z.K Z.w p k v := by rw [z3, z2, h3, h2]; exact q2
      exact PE.weak (pe_ix ix_kdict (pe_glob gl m (v := .ref p) rfl q0) pe_str (fun _ _ => rfl)) fun σ H Q q => ⟨p, k, v, rfl, rfl, kz, q⟩ }
theorem mdl {prog : Program} {w : World} {K : PySem.W.Frag} {mg : Str → Option Value} {base h : Heap} (X : K.In h) (G : h.Ns mainGlobals mg)
    (d0 : DefAt K "bits_for" (topS 1))
    (d1 : DefAt K "answers_of" (topS 2))
    (d2 : DefAt K "cost_table" (topS 3))
    (d3 : DefAt K "power_of" (topS 4))
    (d4 : DefAt K "least_prefixes" (topS 5))
    (d5 : DefAt K "fitting" (topS 6))
    (d6 : DefAt K "_law_mixed" (topS 8))
    (d7 : DefAt K "_law_rest" (topS 9))
    (d8 : DefAt K "_law_pool" (topS 10))
    (d9 : DefAt K "_law_next" (topS 11))
    (d10 : DefAt K "_law_draw" (topS 12))
    (d11 : DefAt K "_law_pick" (topS 13))
    (d12 : DefAt K "_law_same" (topS 14))
    (d13 : DefAt K "_law_fit" (topS 15))
    (d14 : DefAt K "_law_cost_own" (topS 16))
    (d15 : DefAt K "_law_heads" (topS 17))
    (d16 : DefAt K "_law_tables" (topS 18))
    (d17 : DefAt K "law" (topS 19))
    (z0 : PySem.W.nsIn K mainGlobals "all" = some none)
    (z1 : PySem.W.nsIn K mainGlobals "any" = some none)
    (z2 : PySem.W.nsIn K mainGlobals "len" = some none)
    (z3 : PySem.W.nsIn K mainGlobals "int" = some none)
    (z4 : PySem.W.nsIn K mainGlobals "min" = some none)
    (z5 : PySem.W.nsIn K mainGlobals "max" = some none)
    (z6 : PySem.W.nsIn K mainGlobals "sorted" = some none)
    (z7 : PySem.W.nsIn K mainGlobals "tuple" = some none)
    (z8 : PySem.W.nsIn K mainGlobals "list" = some none)
    (z9 : PySem.W.nsIn K mainGlobals "isinstance" = some none)
    (z10 : PySem.W.nsIn K mainGlobals "bool" = some none)
    (z11 : PySem.W.nsIn K mainGlobals "str" = some none)
    (z12 : PySem.W.nsIn K mainGlobals "dict" = some none)
    (z13 : PySem.W.nsIn K mainGlobals "range" = some none)
    (z14 : PySem.W.nsIn K mainGlobals "enumerate" = some none)
    : Mdl fsT ksT kdT PP prog w K mg base := by
  refine mdl_of X G (fun p hp => ?_) (fun g hg => ?_) (fun p hp => ?_) (fun p hp => ?_)
  · unfold fsT at hp; simp only [List.mem_cons, List.not_mem_nil, or_false] at hp
    rcases hp with rfl | rfl | rfl | rfl | rfl | rfl | rfl | rfl | rfl | rfl | rfl | rfl | rfl | rfl | rfl | rfl | rfl | rfl
    · exact wa0 X G d0
    · exact wa1 X G d1
    · exact wa2 X G d2
    · exact wa3 X G d3
    · exact wa4 X G d4
    · exact wa5 X G d5
    · exact wa6 X G d6
    · exact wa7 X G d7
    · exact wa8 X G d8
    · exact wa9 X G d9
    · exact wa10 X G d10
    · exact wa11 X G d11
    · exact wa12 X G d12
    · exact wa13 X G d13
    · exact wa14 X G d14
    · exact wa15 X G d15
    · exact wa16 X G d16
    · exact wa17 X G d17
  · simp only [List.mem_cons, List.not_mem_nil, or_false, builtinsUsed] at hg
    rcases hg with rfl | rfl | rfl | rfl | rfl | rfl | rfl | rfl | rfl | rfl | rfl | rfl | rfl | rfl | rfl
    · exact z0
    · exact z1
    · exact z2
    · exact z3
    · exact z4
    · exact z5
    · exact z6
    · exact z7
    · exact z8
    · exact z9
    · exact z10
    · exact z11
    · exact z12
    · exact z13
    · exact z14
  · cases hp
  · cases hp
theorem rvs_ints {K : PySem.W.Frag} {ρ : Rho} {m : Nat} {H : Hp} : ∀ ns : List Int, RVs K ρ m H (ns.map D.int) (ns.map V.int)
  | [] => rfl
  | n :: r => ⟨_, _, rfl, rfl, rvs_ints r⟩
/-- the script at the law's start -/
theorem start_rel {K : PySem.W.Frag} {w : World} {H : Hp} {a : Addr} {ns : List Int} (hO : L2.Only H) (hS : SqL K H a (ns.map V.int)) : Rel K w (fun _ => a) (Hh.empty.new (.frz (ns.map D.int))) H where
  ob i o e := by
    match i, e with
    | 0, e =>
      cases e
      refine ⟨ns.map V.int, ?_, rvs_ints ns⟩
      rcases hO a with h | ⟨o, xs, h⟩
      · rcases hS with (q | ⟨o, q⟩) | q
        · rw [h] at q; cases q
        · rw [h] at q; cases q
        · exact .inr fun H' => .inr q
      · rcases hS with (q | ⟨o', q⟩) | q
        · rw [h] at q; cases q
        · exact .inl ⟨o', q⟩
        · exact .inr fun H' => .inr q
    | i + 1, e => cases e
  inj i j hi hj _ := by
    obtain ⟨o, e, m⟩ := hi
    match i, e with
    | 0, e => cases e; cases m
    | i + 1, e => cases e
def spL (w : World) (K : PySem.W.Frag) : Sp := spEv K w PP 60 17
theorem sp_law {w : World} {K : PySem.W.Frag} {H : Hp} {a : Addr} {ns : List Int} (hl : ns.length ≤ 63) (hO : L2.Only H) (hS : SqL K H a (ns.map V.int)) : spL w K [.ref a] H (fun v _ => v = .bl true) fun _ _ _ => False := by
  obtain ⟨G', e⟩ := law_ok ns
  exact ⟨fun _ => a, _, [.ref 0], _, G', start_rel hO hS, ⟨.ref a, [], rfl, ⟨Nat.zero_lt_one, rfl⟩, rfl⟩, e, fun ρ' v H' s R r => r⟩
theorem fin {prog : Program} {w : World} {K : PySem.W.Frag} {mg : Str → Option Value} {h : Heap} {fa : Addr} (X : K.In h) (G : h.Ns mainGlobals mg) (hfa : mg "law" = some (.ref fa))
    (d0 : DefAt K "bits_for" (topS 1))
    (d1 : DefAt K "answers_of" (topS 2))
    (d2 : DefAt K "cost_table" (topS 3))
    (d3 : DefAt K "power_of" (topS 4))
    (d4 : DefAt K "least_prefixes" (topS 5))
    (d5 : DefAt K "fitting" (topS 6))
    (d6 : DefAt K "_law_mixed" (topS 8))
    (d7 : DefAt K "_law_rest" (topS 9))
    (d8 : DefAt K "_law_pool" (topS 10))
    (d9 : DefAt K "_law_next" (topS 11))
    (d10 : DefAt K "_law_draw" (topS 12))
    (d11 : DefAt K "_law_pick" (topS 13))
    (d12 : DefAt K "_law_same" (topS 14))
    (d13 : DefAt K "_law_fit" (topS 15))
    (d14 : DefAt K "_law_cost_own" (topS 16))
    (d15 : DefAt K "_law_heads" (topS 17))
    (d16 : DefAt K "_law_tables" (topS 18))
    (d17 : DefAt K "law" (topS 19))
    (z0 : PySem.W.nsIn K mainGlobals "all" = some none)
    (z1 : PySem.W.nsIn K mainGlobals "any" = some none)
    (z2 : PySem.W.nsIn K mainGlobals "len" = some none)
    (z3 : PySem.W.nsIn K mainGlobals "int" = some none)
    (z4 : PySem.W.nsIn K mainGlobals "min" = some none)
    (z5 : PySem.W.nsIn K mainGlobals "max" = some none)
    (z6 : PySem.W.nsIn K mainGlobals "sorted" = some none)
    (z7 : PySem.W.nsIn K mainGlobals "tuple" = some none)
    (z8 : PySem.W.nsIn K mainGlobals "list" = some none)
    (z9 : PySem.W.nsIn K mainGlobals "isinstance" = some none)
    (z10 : PySem.W.nsIn K mainGlobals "bool" = some none)
    (z11 : PySem.W.nsIn K mainGlobals "str" = some none)
    (z12 : PySem.W.nsIn K mainGlobals "dict" = some none)
    (z13 : PySem.W.nsIn K mainGlobals "range" = some none)
    (z14 : PySem.W.nsIn K mainGlobals "enumerate" = some none)
    : ∃ fd : FuncData, (∀ (s : Shared) (v : Value), BindsTo s fd ⟨[v], []⟩ [("script", v)]) ∧ ∀ base : Heap, K.In base → base.Ns mainGlobals mg → FnOk prog w K mg base CX0 60 fa fd ["script"] (spL w K) := by
  obtain ⟨f, oc, od, kV, dc, pm, an, cd, ct, osl, a, l, c, k⟩ := d17.ex
  have e := hfa.symm.trans (PySem.W.mg_of X G a)
  cases e
  refine ⟨PySem.W.fnOf "law" "law" (defArgs (topS 19)) (defBody (topS 19)) (defScope (topS 19)) .none kV dc pm an cd ct, fun s v => .of_eq rfl, fun base _ _ => ?_⟩
  have M : Mdl fsT ksT kdT PP prog w K mg base := mdl X G d0 d1 d2 d3 d4 d5 d6 d7 d8 d9 d10 d11 d12 d13 d14 d15 d16 d17 z0 z1 z2 z3 z4 z5 z6 z7 z8 z9 z10 z11 z12 z13 z14
  have F := fun_mk (st := topS 19) l c k
  exact fnAt M 60 "law" 17 _ _ _ ["script", "pool", "turn", "many", "wished", "depth", "whole", "k", "names", "answer", "rows", "costs", "due", "length", "head", "above", "value", "some", "other"] ["script"] F sc17 hp17
end Ev
open PySem PySem.W PyProof.Rows
set_option maxHeartbeats 0 in
theorem PySem.Challenge.cw_gateproof_k60_whole_least_tables_of_pref_holds : PySem.Challenge.rw_gateproof_k60_whole_least_tables_of_pref.Holds := by
  w_on; o_law; k_head; (case hw => w_witness2)
  k_fill
  refine L2.walk_of (l := PySem.Challenge.rw_gateproof_k60_whole_least_tables_of_pref) (n := 63) (k := 60) (x := "script") (CX := fun _ => L2.CX0) (sp := fun w => Ev.spL w _) rfl (by decide) rfl ⟨rfl, by decide, by decide⟩ (fun w h Y => PySem.W.kIn_of Y) ?F (fun _ _ a ns hl hO hS => Ev.sp_law hl hO hS) (fun _ _ _ _ _ h => h)
  case F =>
    intro w mg fa h KX G hmg
    refine Ev.fin KX G hmg ?d0 ?d1 ?d2 ?d3 ?d4 ?d5 ?d6 ?d7 ?d8 ?d9 ?d10 ?d11 ?d12 ?d13 ?d14 ?d15 ?d16 ?d17 ?z0 ?z1 ?z2 ?z3 ?z4 ?z5 ?z6 ?z7 ?z8 ?z9 ?z10 ?z11 ?z12 ?z13 ?z14
    (case d0 => refine' Ev.DefAt.mk' ?a ?l ?c ?k; (case a => k_is); (case l => k_is); (case c => k_is); (case k => k_is))
    (case d1 => refine' Ev.DefAt.mk' ?a ?l ?c ?k; (case a => k_is); (case l => k_is); (case c => k_is); (case k => k_is))
    (case d2 => refine' Ev.DefAt.mk' ?a ?l ?c ?k; (case a => k_is); (case l => k_is); (case c => k_is); (case k => k_is))
    (case d3 => refine' Ev.DefAt.mk' ?a ?l ?c ?k; (case a => k_is); (case l => k_is); (case c => k_is); (case k => k_is))
    (case d4 => refine' Ev.DefAt.mk' ?a ?l ?c ?k; (case a => k_is); (case l => k_is); (case c => k_is); (case k => k_is))
    (case d5 => refine' Ev.DefAt.mk' ?a ?l ?c ?k; (case a => k_is); (case l => k_is); (case c => k_is); (case k => k_is))
    (case d6 => refine' Ev.DefAt.mk' ?a ?l ?c ?k; (case a => k_is); (case l => k_is); (case c => k_is); (case k => k_is))
    (case d7 => refine' Ev.DefAt.mk' ?a ?l ?c ?k; (case a => k_is); (case l => k_is); (case c => k_is); (case k => k_is))
    (case d8 => refine' Ev.DefAt.mk' ?a ?l ?c ?k; (case a => k_is); (case l => k_is); (case c => k_is); (case k => k_is))
    (case d9 => refine' Ev.DefAt.mk' ?a ?l ?c ?k; (case a => k_is); (case l => k_is); (case c => k_is); (case k => k_is))
    (case d10 => refine' Ev.DefAt.mk' ?a ?l ?c ?k; (case a => k_is); (case l => k_is); (case c => k_is); (case k => k_is))
    (case d11 => refine' Ev.DefAt.mk' ?a ?l ?c ?k; (case a => k_is); (case l => k_is); (case c => k_is); (case k => k_is))
    (case d12 => refine' Ev.DefAt.mk' ?a ?l ?c ?k; (case a => k_is); (case l => k_is); (case c => k_is); (case k => k_is))
    (case d13 => refine' Ev.DefAt.mk' ?a ?l ?c ?k; (case a => k_is); (case l => k_is); (case c => k_is); (case k => k_is))
    (case d14 => refine' Ev.DefAt.mk' ?a ?l ?c ?k; (case a => k_is); (case l => k_is); (case c => k_is); (case k => k_is))
    (case d15 => refine' Ev.DefAt.mk' ?a ?l ?c ?k; (case a => k_is); (case l => k_is); (case c => k_is); (case k => k_is))
    (case d16 => refine' Ev.DefAt.mk' ?a ?l ?c ?k; (case a => k_is); (case l => k_is); (case c => k_is); (case k => k_is))
    (case d17 => refine' Ev.DefAt.mk' ?a ?l ?c ?k; (case a => k_is); (case l => k_is); (case c => k_is); (case k => k_is))
    (case z0 => k_is)
    (case z1 => k_is)
    (case z2 => k_is)
    (case z3 => k_is)
    (case z4 => k_is)
    (case z5 => k_is)
    (case z6 => k_is)
    (case z7 => k_is)
    (case z8 => k_is)
    (case z9 => k_is)
    (case z10 => k_is)
    (case z11 => k_is)
    (case z12 => k_is)
    (case z13 => k_is)
    (case z14 => k_is)
