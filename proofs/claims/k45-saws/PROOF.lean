import PyProof.Rows.All
import Wide.All
import OpenK.AllK
import Wide.FinOn
import HandS.ForMost
import HandS.Wide
import HandS.Gcd
import HandS.IsInst
import HandS.TupAny
import HandS.TupMul
import HandS.Sort
import HandS.SortInts
import HandS.SortKw
import HandS.TupLe
import HandS.Star
import HandS.Flow
import HandS.AnyAll
import HandS.EndTab
import HandS.Deep
import HandS.Style
import HandS.Zip
import HandS.Rev
import HandS.GenList
import PyProof.TupleOfGen
import HandS.Defaults
import HandS.Head0
import HandS.Head1
import HandS.Head2
import HandS.Head3
import HandS.HeadHook4
import HandS.HeadWalk
import PySem.Challenge.RW_numberwright_k45_whole_saws
set_option Elab.async false
set_option linter.all false
set_option autoImplicit false
set_option maxRecDepth 100000
set_option maxHeartbeats 4000000
namespace NW

/-- data -/
inductive D where
  | non | bl (b : Bool) | int (i : Int) | str (s : List Nat) | tup (xs : List D) | lst (xs : List D) | dct (kvs : List (D × D))
  deriving Inhabited

mutual
def D.deq : D → D → Bool
  | .non, .non => true
  | .bl a, .bl b => a == b
  | .bl a, .int j => (if a then 1 else 0) == j
  | .int i, .bl b => i == (if b then 1 else 0)
  | .int i, .int j => i == j
  | .str x, .str y => x == y
  | .lst xs, .lst ys => D.deqL xs ys
  | .tup xs, .tup ys => D.deqL xs ys
  | _, _ => false
def D.deqL : List D → List D → Bool
  | [], [] => true
  | x :: xs, y :: ys => D.deq x y && D.deqL xs ys
  | _, _ => false
end
mutual
/-- no list, no dict within -/
def D.pur : D → Bool
  | .lst _ => false
  | .dct _ => false
  | .tup xs => D.purL xs
  | _ => true
def D.purL : List D → Bool
  | [] => true
  | x :: xs => D.pur x && D.purL xs
end
/-- signs that a text may have -/
def strG (s : List Nat) : Bool := s.all fun c => decide (c < 1114112)
mutual
/-- no dict within -/
def D.nod : D → Bool
  | .dct _ => false
  | .str s => strG s
  | .tup xs => D.nodL xs
  | .lst xs => D.nodL xs
  | _ => true
def D.nodL : List D → Bool
  | [] => true
  | x :: xs => D.nod x && D.nodL xs
end
mutual
/-- at most so many levels -/
def D.lev : Nat → D → Bool
  | 0, _ => false
  | n + 1, .tup xs => D.levL n xs
  | n + 1, .lst xs => D.levL n xs
  | _ + 1, _ => true
def D.levL : Nat → List D → Bool
  | _, [] => true
  | n, x :: xs => D.lev n x && D.levL n xs
end
def D.flat : D → Bool
  | .tup _ => false
  | .lst _ => false
  | .dct _ => false
  | _ => true
def D.isSeq : D → Bool
  | .tup _ => true
  | .lst _ => true
  | .dct _ => true
  | _ => false
def D.isK : D → Bool
  | .int _ => true
  | .str _ => true
  | _ => false
def D.isKey : D → Bool
  | .int _ => true
  | .str _ => true
  | .tup xs => xs.all D.isK && !xs.isEmpty
  | _ => false

inductive R where | fz (d : D) | ow (d : D) | bo (i : Nat) | io (i : Nat)
  deriving Inhabited
inductive Sl where | no | fz (d : D) | ow (d : D)
  deriving Inhabited
abbrev Rho := List Sl

inductive O1 where
  | neg | len | abs | toInt | toStr | toList | toTup | toDict | sum | min | max | sorted | sortedR | isqrt | isN | notN
  | isInt | isBool | isTup | isLst | isStr | isIB | isLT | lenSet | sortSet | repr | tupRev
inductive O2 where
  | add | sub | mul | fdiv | mod | pow | eq | ne | lt | le | gt | ge | isin | notin | idx | gcd | min | max | get | index | count | join | joinRev | starts | split | comb
inductive GK where | all | any | tup | sum
mutual
inductive Tg where
  | nm (i : Nat) | tup (ts : Tgs)
inductive Tgs where
  | nil | cons (t : Tg) (ts : Tgs)
end
mutual
inductive E where
  | cst (d : D) | glo (d : D) | var (i : Nat) | mv (i : Nat) | peek (i : Nat) | io (i : Nat)
  | o1 (o : O1) (a : E) | rep (a b : E) | o2 (o : O2) (a b : E) | get3 (a k d : E) | chain (o p : O2) (a b c : E)
  | sl (a : E) (lo hi : Oe) | rv (a : E)
  | tup (es : Es) | lst (es : Es) | dct (es : Es)
  | and_ (a b : E) | or_ (a b : E) | not_ (a : E) | ite (c : T) (a b : E)
  | call (f : Nat) (k : Option Nat) (es : Es)
  | lc (t : Tg) (own : List Nat) (src : I) (ifs : T) (e : E)
  | gn (k : GK) (t : Tg) (own : List Nat) (src : I) (ifs : T) (e : E)
  | lc2 (t : Tg) (own : List Nat) (src : I) (ifs : T) (t2 : Tg) (own2 : List Nat) (src2 : I) (ifs2 : T) (e : E)
  | pop (i : Nat)
inductive T where
  | tt | val (e : E) | and_ (a b : T) | or_ (a b : T) | not_ (a : T)
inductive Es where
  | nil | cons (e : E) (es : Es) | star (e : E) (es : Es)
inductive Oe where
  | no | so (e : E)
inductive I where
  | seq (e : E) | rng1 (a : E) | rng2 (a b : E) | rng3 (a b c : E) | zip (a b : E) | enum (a : E) | enumK (a k : E) | rev (a : E) | items (a : E) | vals (a : E)
end
mutual
inductive S where
  | ex (e : E) | set (t : Tg) (e : E) | par (ts : List Nat) (es : Es) | aug (i : Nat) (o : O2) (e : E)
  | setI (i : Nat) (k e : E) | augI (i : Nat) (k : E) (o : O2) (e : E) | setII (i : Nat) (j k e : E) | swapI (i : Nat) (j k : E)
  | app (i : Nat) (e : E) | ext (i : Nat) (e : E)
  | ret (e : E) | retN | ite (c : T) (a b : Ss) | whl (c : T) (b : Ss) | for_ (t : Tg) (src : I) (b : Ss)
  | brk | cnt | pass
inductive Ss where
  | nil | cons (s : S) (ss : Ss)
end

def L24 : Nat := 16777216
def R.get (r : R) (ρ : Rho) : Option D := match r with
  | .fz d => some d
  | .ow d => some d
  | .bo i => (match ρ[i]? with
    | some (.ow d) => some d
    | _ => none)
  | .io _ => none
/-- to be kept in other data: a list of one's own becomes shared -/
def R.frz (r : R) : Option D := match r with
  | .fz d => some d
  | .ow d => some d
  | _ => none
def ixN (n : Nat) (i : Int) : Option Nat := if 0 ≤ i then (if i < n then some i.toNat else none) else if -(n : Int) ≤ i then some (i + n).toNat else none
def sIx (n d : Nat) : Option Int → Nat
  | none => d
  | some i => if i < 0 then (i + (n : Int)).toNat else min i.toNat n
def cutL {α : Type} (xs : List α) (lo hi : Option Int) : List α := (xs.drop (sIx xs.length 0 lo)).take (sIx xs.length xs.length hi - sIx xs.length 0 lo)
def intsD : List D → Option (List Int)
  | [] => some []
  | .int i :: xs => (match intsD xs with | some r => some (i :: r) | none => none)
  | _ => none
/-- the order of tuples of intsD, of intsD -/
def lexLt : List Int → List Int → Bool
  | [], [] => false
  | [], _ :: _ => true
  | _ :: _, [] => false
  | x :: xs, y :: ys => if x = y then lexLt xs ys else decide (x < y)
def insI (x : Int) : List Int → List Int
  | [] => [x]
  | y :: ys => if x < y then x :: y :: ys else y :: insI x ys
def sortI : List Int → List Int
  | [] => []
  | x :: xs => insI x (sortI xs)
def D.row : D → Option (List Int)
  | .tup xs => intsD xs
  | _ => none
def insT (x : List Int) : List (List Int) → List (List Int)
  | [] => [x]
  | y :: ys => if lexLt x y then x :: y :: ys else y :: insT x ys
def sortT : List (List Int) → List (List Int)
  | [] => []
  | x :: xs => insT x (sortT xs)
def rows : List D → Option (List (List Int))
  | [] => some []
  | x :: xs => (match x.row, rows xs with | some r, some rs => some (r :: rs) | _, _ => none)
def ofRow (r : List Int) : D := .tup (r.map D.int)
def sortD (xs : List D) : Option (List D) := match intsD xs with
  | some is => some ((sortI is).map D.int)
  | none => (match rows xs with
    | some rs => some ((sortT rs).map ofRow)
    | none => none)
def minI : List Int → Option Int
  | [] => none
  | [x] => some x
  | x :: xs => (match minI xs with | some m => some (if m < x then m else x) | none => none)
def maxI : List Int → Option Int
  | [] => none
  | [x] => some x
  | x :: xs => (match maxI xs with | some m => some (if x < m then m else x) | none => none)
def dedI : List Int → List Int
  | [] => []
  | x :: xs => if xs.contains x then dedI xs else x :: dedI xs
def dedT : List (List Int) → List (List Int)
  | [] => []
  | x :: xs => if xs.contains x then dedT xs else x :: dedT xs
def isqStep (n : Nat) : Nat → Nat → Nat
  | 0, x => x
  | k + 1, x => let y := (x + n / x) / 2; if y < x then isqStep n k y else x
def isq (n : Nat) : Nat := if n = 0 then 0 else isqStep n (n.log2 + 2) (2 ^ (n.log2 / 2 + 1))
def digs (n : Nat) : List Nat := (Nat.toDigits 10 n).map Char.toNat
def strI (i : Int) : List Nat := if i < 0 then 45 :: digs i.natAbs else digs i.natAbs
def dget : List (D × D) → D → Option D
  | [], _ => none
  | (k, v) :: r, x => if k.deq x then some v else dget r x
def dput : List (D × D) → D → D → List (D × D)
  | [], x, v => [(x, v)]
  | (k, u) :: r, x, v => if k.deq x then (k, v) :: r else (k, u) :: dput r x v
def okE (d : D) : Bool := d.nod && d.lev 64
def seqOf : D → Option (List D)
  | .tup xs => some xs
  | .lst xs => some xs
  | _ => none
def lstOf : D → Option (List D)
  | .lst xs => some xs
  | _ => none
/-- two lists, or two tuples -/
def twoOf : D → D → Option (List D × List D)
  | .lst xs, .lst ys => some (xs, ys)
  | .tup xs, .tup ys => some (xs, ys)
  | _, _ => none
def truth : D → Option Bool
  | .non => some false
  | .bl b => some b
  | .int i => some (i != 0)
  | .str s => if s.length ≤ L24 then some (!s.isEmpty) else none
  | .tup xs => some (!xs.isEmpty)
  | .lst xs => some (!xs.isEmpty)
  | .dct _ => none
def b1 (b : Bool) : Option (Bool × D) := some (false, .bl b)
def i1 (i : Int) : Option (Bool × D) := some (false, .int i)
def ap1 : O1 → D → Option (Bool × D)
  | .neg, .int i => i1 (-i)
  | .len, .str s => if s.length ≤ L24 then i1 s.length else none
  | .len, .tup xs => i1 xs.length
  | .len, .lst xs => i1 xs.length
  | .abs, .int i => i1 (if i < 0 then -i else i)
  | .toInt, .int i => i1 i
  | .toInt, .bl b => i1 (if b then 1 else 0)
  | .toStr, .int i => if i.natAbs.log2 < 1920 then some (false, .str (strI i)) else none
  | .toList, .tup xs => some (true, .lst xs)
  | .toList, .lst xs => some (true, .lst xs)
  | .toTup, .tup xs => some (false, .tup xs)
  | .toTup, .lst xs => some (false, .tup xs)
  | .toDict, .dct xs => some (true, .dct xs)
  | .tupRev, .lst xs => some (false, .tup xs.reverse)
  | .tupRev, .tup xs => some (false, .tup xs.reverse)
  | .sum, .lst xs => (match intsD xs with | some is => i1 is.sum | none => none)
  | .min, .lst xs => (match intsD xs with | some is => (match minI is with | some m => i1 m | none => none) | none => none)
  | .max, .lst xs => (match intsD xs with | some is => (match maxI is with | some m => i1 m | none => none) | none => none)
  | .sorted, .lst xs => (match intsD xs with | some is => some (true, .lst ((sortI is).map D.int)) | none => none)
  | .sortedR, .lst xs => (match sortD xs with | some ys => some (true, .lst ys.reverse) | none => none)
  | .isqrt, .int i => if 0 ≤ i then i1 (isq i.toNat) else none
  | .isN, .non => b1 true
  | .isN, _ => b1 false
  | .notN, .non => b1 false
  | .notN, _ => b1 true
  | .isInt, .int _ => b1 true
  | .isInt, .bl _ => b1 true
  | .isInt, _ => b1 false
  | .isBool, .bl _ => b1 true
  | .isBool, _ => b1 false
  | .isTup, .tup _ => b1 true
  | .isTup, _ => b1 false
  | .isLst, .lst _ => b1 true
  | .isLst, _ => b1 false
  | .isStr, .str _ => b1 true
  | .isStr, _ => b1 false
  | .lenSet, .lst xs => (match intsD xs with | some is => i1 (dedI is).length | none => (match rows xs with | some rs => i1 (dedT rs).length | none => none))
  | .lenSet, .tup xs => (match intsD xs with | some is => i1 (dedI is).length | none => (match rows xs with | some rs => i1 (dedT rs).length | none => none))
  | .sortSet, .lst xs => (match intsD xs with | some is => some (true, .lst ((sortI (dedI is)).map D.int)) | none => none)
  | .sortSet, .tup xs => (match intsD xs with | some is => some (true, .lst ((sortI (dedI is)).map D.int)) | none => none)
  | _, _ => none
def isIn (x : D) : List D → Bool
  | [] => false
  | y :: ys => y.deq x || isIn x ys
def subL : List Nat → List Nat → Bool
  | [], ys => match ys with | [] => true | _ :: _ => false
  | x :: xs, ys => ys.isPrefixOf (x :: xs) || subL xs ys
def inD (x : D) : D → Option Bool
  | .lst ys => if x.flat && ys.all D.flat then some (isIn x ys) else if okE x && okE (.lst ys) then some (isIn x ys) else none
  | .tup ys => if x.flat && ys.all D.flat then some (isIn x ys) else none
  | .str t => (match x with | .str [c] => some (t.contains c) | _ => none)
  | _ => none
def joinL (sep : List Nat) : List (List Nat) → List Nat
  | [] => []
  | [x] => x
  | x :: xs => x ++ sep ++ joinL sep xs
def strsD : List D → Option (List (List Nat))
  | [] => some []
  | .str s :: xs => (match strsD xs with | some r => some (s :: r) | none => none)
  | _ => none
def cmp (o : O2) (i j : Int) : Bool := match o with
  | .lt => decide (i < j)
  | .le => decide (i ≤ j)
  | .gt => decide (j < i)
  | .ge => decide (j ≤ i)
  | _ => false
def cmpD (o : O2) : D → D → Option (Bool × D)
  | .int i, .int j => b1 (cmp o i j)
  | .tup xs, .tup ys => (match o, intsD xs, intsD ys with
    | .lt, some is, some js => b1 (lexLt is js)
    | _, _, _ => none)
  | _, _ => none
def eqD : D → D → Option Bool
  | .int i, .int j => some (i == j)
  | .bl i, .bl j => some (i == j)
  | .str i, .str j => some (i == j)
  | d, e => if okE d && okE e then some (d.deq e) else none
def choose : Nat → List D → List (List D)
  | 0, _ => [[]]
  | _ + 1, [] => []
  | k + 1, x :: xs => (choose k xs).map (x :: ·) ++ choose (k + 1) xs
def ap2 : O2 → D → D → Option (Bool × D)
  | .add, .int i, .int j => i1 (i + j)
  | .add, .str i, .str j => if i.length + j.length ≤ L24 then some (false, .str (i ++ j)) else none
  | .add, .lst i, .lst j => if i.length + j.length ≤ L24 then some (true, .lst (i ++ j)) else none
  | .add, .tup i, .tup j => if i.length + j.length ≤ L24 then some (false, .tup (i ++ j)) else none
  | .sub, .int i, .int j => i1 (i - j)
  | .mul, .int i, .int j => if i.natAbs.log2 + j.natAbs.log2 < 1000000 then i1 (i * j) else none
  | .mul, .tup xs, .int j => if 2 ≤ j ∧ j ≤ 1000 ∧ xs.length ≤ 1000 ∧ xs.isEmpty = false then some (false, .tup (List.replicate j.toNat xs).flatten) else none
  | .fdiv, .int i, .int j => if j ≠ 0 ∧ j.natAbs.log2 < 9000 then i1 (Int.fdiv i j) else none
  | .mod, .int i, .int j => if j ≠ 0 then i1 (Int.fmod i j) else none
  | .pow, .int i, .int j => if 0 ≤ j ∧ j ≤ 1000000 ∧ i.natAbs < 2 ^ 64 then i1 (i ^ j.toNat) else none
  | .eq, x, y => (match eqD x y with | some b => b1 b | none => none)
  | .ne, x, y => (match eqD x y with | some b => b1 (!b) | none => none)
  | .isin, x, y => (match inD x y with | some b => b1 b | none => none)
  | .notin, x, y => (match inD x y with | some b => b1 (!b) | none => none)
  | .idx, .lst xs, .int i => (match ixN xs.length i with | some j => (match xs[j]? with | some d => some (false, d) | none => none) | none => none)
  | .idx, .tup xs, .int i => (match ixN xs.length i with | some j => (match xs[j]? with | some d => some (false, d) | none => none) | none => none)
  | .idx, .str s, .int i => if s.length ≤ L24 then (match ixN s.length i with | some j => (match s[j]? with | some c => some (false, .str [c]) | none => none) | none => none) else none
  | .gcd, .int i, .int j => i1 (Nat.gcd i.natAbs j.natAbs)
  | .min, .int i, .int j => i1 (if j < i then j else i)
  | .max, .int i, .int j => i1 (if j > i then j else i)
  | .get, .dct kvs, k => if k.isKey then (match dget kvs k with | some d => some (false, d) | none => some (false, .non)) else none
  | .join, .str s, .lst xs => (match strsD xs with | some ws => if (joinL s ws).length ≤ L24 then some (false, .str (joinL s ws)) else none | none => none)
  | .joinRev, .str s, .lst xs => (match strsD xs with | some ws => if (joinL s ws.reverse).length ≤ L24 then some (false, .str (joinL s ws.reverse)) else none | none => none)
  | .starts, .str s, .str t => b1 (t.isPrefixOf s)
  | .lt, x, y => cmpD .lt x y
  | .le, x, y => cmpD .le x y
  | .gt, x, y => cmpD .gt x y
  | .ge, x, y => cmpD .ge x y
  | .index, .lst xs, .int i => (match intsD xs with | some is => (match is.idxOf? i with | some j => i1 j | none => none) | none => none)
  | .count, .tup xs, .int i => (match intsD xs with | some is => i1 (is.count i) | none => none)
  | .comb, .int n, .int k => if 0 ≤ k then some (true, .lst ((choose k.toNat ((List.range n.toNat).map fun i => D.int (Int.ofNat i))).map D.tup)) else none
  | _, _, _ => none
/-- an item read from data is shared: what is handed out of a list is never one's own -/
def mk (p : Bool × D) : R := if p.1 then .ow p.2 else .fz p.2

inductive Src where | ls (ds : List D) | rg (lo st : Int) (n : Nat)
def rgLen (lo hi st : Int) : Nat := if st > 0 then ((hi - lo + st - 1) / st).toNat else if st < 0 then ((lo - hi + (-st) - 1) / (-st)).toNat else 0
def zipD : List D → List D → List D
  | x :: xs, y :: ys => .tup [x, y] :: zipD xs ys
  | _, _ => []
def enumD : Int → List D → List D
  | _, [] => []
  | k, x :: xs => .tup [.int k, x] :: enumD (k + 1) xs
def signs (s : List Nat) : List D := s.map fun c => .str [c]

/-- a call: the def, the place of the argument that it changes, the arguments: whether the value is a list of its own, the value, the changed argument -/
abbrev Cl := Nat → Option Nat → List D → Option (Bool × D × Option D)
def rgOk (i : Int) : Bool := decide (-(4611686018427387904 : Int) ≤ i) && decide (i < 4611686018427387904)
/-- a fresh list or dict may be handed on where what is held by others is let go -/
def purO (own : Bool) (d : D) : Bool := match d with
  | .lst xs => own && D.purL xs
  | .dct kvs => own && kvs.all fun p => p.1.pur && p.2.pur
  | d => d.pur
def anyBo : List R → Bool
  | [] => false
  | .bo _ :: _ => true
  | _ :: rs => anyBo rs
def getA (ρ : Rho) (r : R) : Option D := match r with
  | .io i => (match ρ[i]? with
    | some (.ow d) => some d
    | _ => none)
  | .fz d => some d
  | .ow d => some d
  | .bo i => (match ρ[i]? with
    | some (.ow d) => some d
    | _ => none)
def getAll (ρ : Rho) : List R → Option (List D)
  | [] => some []
  | r :: rs => (match getA ρ r, getAll ρ rs with
    | some d, some ds => some (d :: ds)
    | _, _ => none)
def noIo : List R → Bool
  | [] => true
  | .io _ :: _ => false
  | _ :: rs => noIo rs
def ioAt (rs : List R) (k : Option Nat) : Option (Option Nat) := match k with
  | none => if noIo rs then some none else none
  | some k => (match rs[k]? with
    | some (.io j) => if noIo (rs.take k) && noIo (rs.drop (k + 1)) && !anyBo rs then some (some j) else none
    | _ => none)
def putIo (own : Bool) (d : D) (ρ : Rho) : Option Nat → Option D → Option (R × Rho)
  | some j, some d' => some (mk (own, d), ρ.set j (.ow d'))
  | none, none => some (mk (own, d), ρ)
  | _, _ => none
def doCall (c : Cl) (f : Nat) (k : Option Nat) (rs : List R) (ρ : Rho) : Option (R × Rho) :=
  match ioAt rs k, getAll ρ rs with
  | some j, some ds => (match c f k ds with
    | some (own, d, x) => if anyBo rs && !purO own d then none else putIo own d ρ j x
    | none => none)
  | _, _ => none
mutual
def stT (t : Tg) (d : D) (ρ : Rho) : Option Rho := match t with
  | .nm i => if i < ρ.length then some (ρ.set i (.fz d)) else none
  | .tup ts => (match d with
    | .tup ds => stTs ts ds ρ
    | _ => none)
def stTs (ts : Tgs) (ds : List D) (ρ : Rho) : Option Rho := match ts with
  | .nil => (match ds with | [] => some ρ | _ => none)
  | .cons t ts => (match ds with
    | d :: ds => (match stT t d ρ with | some ρ => stTs ts ds ρ | none => none)
    | [] => none)
end
def restore (old : Rho) : List Nat → Rho → Rho
  | [], ρ => ρ
  | i :: is, ρ => restore old is (match old[i]? with | some s => ρ.set i s | none => ρ)
def wipeR : List Nat → Rho → Rho
  | [], ρ => ρ
  | i :: is, ρ => wipeR is (ρ.set i .no)
/-- a walk that gathers: each item gives at most one; from the left -/
def walkL (f : D → Rho → Option (List D × Rho)) : List D → Rho → Option (List D × Rho)
  | [], ρ => some ([], ρ)
  | d :: ds, ρ => (match f d ρ with
    | some (xs, ρ1) => (match walkL f ds ρ1 with
      | some (ys, ρ2) => some (xs ++ ys, ρ2)
      | none => none)
    | none => none)
def walkN (f : D → Rho → Option (List D × Rho)) (st : Int) : Nat → Int → Rho → Option (List D × Rho)
  | 0, _, ρ => some ([], ρ)
  | n + 1, i, ρ => (match f (.int i) ρ with
    | some (xs, ρ1) => (match walkN f st n (i + st) ρ1 with
      | some (ys, ρ2) => some (xs ++ ys, ρ2)
      | none => none)
    | none => none)
def Src.walk (f : D → Rho → Option (List D × Rho)) : Src → Rho → Option (List D × Rho)
  | .ls ds, ρ => walkL f ds ρ
  | .rg lo st n, ρ => walkN f st n lo ρ
/-- a walk of a generator's frame: each item by itself, from the same slots -/
def outL (f : D → Option (List D)) : List D → Option (List D)
  | [] => some []
  | d :: ds => (match f d with
    | some xs => (match outL f ds with
      | some ys => some (xs ++ ys)
      | none => none)
    | none => none)
def outN (f : D → Option (List D)) (st : Int) : Nat → Int → Option (List D)
  | 0, _ => some []
  | n + 1, i => (match f (.int i) with
    | some xs => (match outN f st n (i + st) with
      | some ys => some (xs ++ ys)
      | none => none)
    | none => none)
def Src.out (f : D → Option (List D)) : Src → Option (List D)
  | .ls ds => outL f ds
  | .rg lo st n => outN f st n lo
/-- lists of one's own are read as shared ones -/
def frzR (ρ : Rho) : Rho := ρ.map fun s => match s with
  | .ow d => .fz d
  | s => s
def boolsD : List D → Option (List Bool)
  | [] => some []
  | .bl b :: xs => (match boolsD xs with | some r => some (b :: r) | none => none)
  | _ => none
def srcOf (d : D) : Option Src := match d with
  | .lst ds => some (.ls ds)
  | .tup ds => some (.ls ds)
  | .str s => if s.length ≤ L24 then some (.ls (signs s)) else none
  | _ => none
def pairs : List D → Option (List (D × D))
  | [] => some []
  | k :: v :: r => if k.isKey then (match pairs r with | some ps => some ((k, v) :: ps) | none => none) else none
  | _ => none

mutual
def evE (c : Cl) (e : E) (ρ : Rho) : Option (R × Rho) := match e with
  | .cst d => some (.fz d, ρ)
  | .glo d => some (.fz d, ρ)
  | .var i => (match ρ[i]? with
    | some (.fz d) => some (.fz d, ρ)
    | some (.ow d) => some (.fz d, ρ.set i (.fz d))
    | _ => none)
  | .mv i => (match ρ[i]? with
    | some (.fz d) => some (.fz d, ρ)
    | some (.ow d) => some (.ow d, ρ.set i .no)
    | _ => none)
  | .peek i => (match ρ[i]? with
    | some (.fz d) => some (.fz d, ρ)
    | some (.ow _) => some (.bo i, ρ)
    | _ => none)
  | .io i => (match ρ[i]? with
    | some (.ow _) => some (.io i, ρ)
    | _ => none)
  | .o1 o a => (match evE c a ρ with
    | some (r, ρ) => (match r.get ρ with
      | some d => (match ap1 o d with
        | some p => some (mk p, ρ)
        | none => none)
      | none => none)
    | none => none)
  | .o2 o a b => (match evE c a ρ with
    | some (r, ρ) => (match evE c b ρ with
      | some (q, ρ) => (match r.get ρ, q.get ρ with
        | some x, some y => (match ap2 o x y with
          | some p => some (mk p, ρ)
          | none => none)
        | _, _ => none)
      | none => none)
    | none => none)
  | .rep a b => (match evE c a ρ with
    | some (.ow (.lst xs), ρ) => (match evE c b ρ with
      | some (.fz (.int j), ρ) => if decide (-(2 ^ 63) ≤ j) && decide (j < 2 ^ 63) && decide (xs.length * j.toNat ≤ L24) then some (.ow (.lst (List.replicate j.toNat xs).flatten), ρ) else none
      | _ => none)
    | _ => none)
  | .get3 a k d => (match evE c a ρ with
    | some (r, ρ) => (match evE c k ρ with
      | some (q, ρ) => (match evE c d ρ with
        | some (z, ρ) => (match r.get ρ, q.get ρ, z with
          | some (.dct kvs), some x, .fz y => if x.isKey then some (.fz ((dget kvs x).getD y), ρ) else none
          | _, _, _ => none)
        | none => none)
      | none => none)
    | none => none)
  | .chain o p a b d => (match evE c a ρ with
    | some (r, ρ) => (match evE c b ρ with
      | some (q, ρ) => (match r.get ρ, q.get ρ with
        | some x, some y => (match ap2 o x y with
          | some (_, .bl true) => (match evE c d ρ with
            | some (z, ρ) => (match q.get ρ, z.get ρ with
              | some y, some z => (match ap2 p y z with
                | some (_, .bl b) => some (.fz (.bl b), ρ)
                | _ => none)
              | _, _ => none)
            | none => none)
          | some (_, .bl false) => some (.fz (.bl false), ρ)
          | _ => none)
        | _, _ => none)
      | none => none)
    | none => none)
  | .sl a lo hi => (match evE c a ρ with
    | some (r, ρ) => (match evO c lo ρ with
      | some (l, ρ) => (match evO c hi ρ with
        | some (h, ρ) => (match r.get ρ with
          | some (.lst xs) => some (.ow (.lst (cutL xs l h)), ρ)
          | some (.tup xs) => some (.fz (.tup (cutL xs l h)), ρ)
          | some (.str s) => if s.length ≤ L24 then some (.fz (.str (cutL s l h)), ρ) else none
          | _ => none)
        | none => none)
      | none => none)
    | none => none)
  | .rv a => (match evE c a ρ with
    | some (r, ρ) => (match r.get ρ with
      | some (.lst xs) => some (.ow (.lst xs.reverse), ρ)
      | some (.tup xs) => some (.fz (.tup xs.reverse), ρ)
      | _ => none)
    | none => none)
  | .tup es => (match evEs c es ρ with
    | some (ds, ρ) => if ds.length ≤ L24 then some (.fz (.tup ds), ρ) else none
    | none => none)
  | .lst es => (match evEs c es ρ with
    | some (ds, ρ) => if ds.length ≤ L24 then some (.ow (.lst ds), ρ) else none
    | none => none)
  | .dct es => (match evEs c es ρ with
    | some (ds, ρ) => (match pairs ds with
      | some ps => some (.ow (.dct (ps.foldl (fun acc p => dput acc p.1 p.2) [])), ρ)
      | none => none)
    | none => none)
  | .and_ a b => (match evE c a ρ with
    | some (.fz (.bl true), ρ) => evE c b ρ
    | some (.fz (.bl false), ρ) => some (.fz (.bl false), ρ)
    | _ => none)
  | .or_ a b => (match evE c a ρ with
    | some (.fz (.bl true), ρ) => some (.fz (.bl true), ρ)
    | some (.fz (.bl false), ρ) => evE c b ρ
    | _ => none)
  | .not_ a => (match evE c a ρ with
    | some (.fz (.bl b), ρ) => some (.fz (.bl (!b)), ρ)
    | _ => none)
  | .ite t a b => (match evT c t ρ with
    | some (true, ρ) => evE c a ρ
    | some (false, ρ) => evE c b ρ
    | none => none)
  | .call f k es => (match evA c es ρ with
    | some (rs, ρ) => doCall c f k rs ρ
    | none => none)
  | .lc t own src ifs e => (match evI c src ρ with
    | some (s, ρ1) => (match s.walk (fun d ρ => match stT t d ρ with
        | some ρ => (match evT c ifs ρ with
          | some (true, ρ) => (match evE c e ρ with
            | some (r, ρ) => (match r.frz with
              | some d => some ([d], wipeR own ρ)
              | none => none)
            | none => none)
          | some (false, ρ) => some ([], wipeR own ρ)
          | none => none)
        | none => none) (wipeR own ρ1) with
      | some (ds, ρ2) => if ds.length ≤ L24 then some (.ow (.lst ds), restore ρ1 own ρ2) else none
      | none => none)
    | none => none)
  | .lc2 t own src ifs t2 own2 src2 ifs2 e => (match evI c src ρ with
    | some (s, ρ1) => (match s.walk (fun d ρ => match stT t d ρ with
        | some ρ => (match evT c ifs ρ with
          | some (true, ρ) => (match evI c src2 ρ with
            | some (s2, ρ) => (match s2.walk (fun d ρ => match stT t2 d ρ with
              | some ρ => (match evT c ifs2 ρ with
                | some (true, ρ) => (match evE c e ρ with
                  | some (r, ρ) => (match r.frz with
                    | some d => some ([d], wipeR own2 ρ)
                    | none => none)
                  | none => none)
                | some (false, ρ) => some ([], wipeR own2 ρ)
                | none => none)
              | none => none) (wipeR own2 ρ) with
              | some (ds, ρ) => some (ds, wipeR own ρ)
              | none => none)
            | none => none)
          | some (false, ρ) => some ([], wipeR own ρ)
          | none => none)
        | none => none) (wipeR own ρ1) with
      | some (ds, ρ2) => if ds.length ≤ L24 then some (.ow (.lst ds), restore ρ1 own ρ2) else none
      | none => none)
    | none => none)
  | .gn k t own src ifs e => (match evI c src ρ with
    | some (s, ρ1) => (match s.out (fun d => match stT t d (wipeR own (frzR ρ1)) with
        | some ρ => (match evT c ifs ρ with
          | some (true, ρ) => (match evE c e ρ with
            | some (.fz d, _) => some [d]
            | _ => none)
          | some (false, _) => some []
          | none => none)
        | none => none) with
      | some ds => if ds.length ≤ L24 then (match k with
          | .tup => if D.purL ds then some (.fz (.tup ds), ρ1) else none
          | .any => (match boolsD ds with | some bs => some (.fz (.bl (bs.any id)), ρ1) | none => none)
          | .all => (match boolsD ds with | some bs => some (.fz (.bl (bs.all id)), ρ1) | none => none)
          | .sum => none) else none
      | none => none)
    | none => none)
  | .pop i => (match ρ[i]? with
    | some (.ow (.lst xs)) => (match xs.getLast? with
      | some d => some (.fz d, ρ.set i (.ow (.lst xs.dropLast)))
      | none => none)
    | _ => none)
def evT (c : Cl) (t : T) (ρ : Rho) : Option (Bool × Rho) := match t with
  | .tt => some (true, ρ)
  | .val e => (match evE c e ρ with
    | some (r, ρ) => (match r.get ρ with
      | some d => (match truth d with
        | some b => some (b, ρ)
        | none => none)
      | none => none)
    | none => none)
  | .and_ a b => (match evT c a ρ with
    | some (true, ρ) => evT c b ρ
    | some (false, ρ) => some (false, ρ)
    | none => none)
  | .or_ a b => (match evT c a ρ with
    | some (true, ρ) => some (true, ρ)
    | some (false, ρ) => evT c b ρ
    | none => none)
  | .not_ a => (match evT c a ρ with
    | some (b, ρ) => some (!b, ρ)
    | none => none)
/-- members of a display -/
def evEs (c : Cl) (es : Es) (ρ : Rho) : Option (List D × Rho) := match es with
  | .nil => some ([], ρ)
  | .cons e es => (match evE c e ρ with
    | some (r, ρ) => (match r.frz with
      | some d => (match evEs c es ρ with
        | some (ds, ρ) => some (d :: ds, ρ)
        | none => none)
      | none => none)
    | none => none)
  | .star e es => (match evE c e ρ with
    | some (r, ρ) => (match r.frz with
      | some d => (match seqOf d with
        | some xs => (match evEs c es ρ with
          | some (ds, ρ) => some (xs ++ ds, ρ)
          | none => none)
        | none => none)
      | none => none)
    | none => none)
/-- arguments -/
def evA (c : Cl) (es : Es) (ρ : Rho) : Option (List R × Rho) := match es with
  | .nil => some ([], ρ)
  | .cons e es => (match evE c e ρ with
    | some (r, ρ) => (match evA c es ρ with
      | some (rs, ρ) => some (r :: rs, ρ)
      | none => none)
    | none => none)
  | .star _ _ => none
def evO (c : Cl) (o : Oe) (ρ : Rho) : Option (Option Int × Rho) := match o with
  | .no => some (none, ρ)
  | .so e => (match evE c e ρ with
    | some (.fz (.int i), ρ) => some (some i, ρ)
    | _ => none)
def evI (c : Cl) (i : I) (ρ : Rho) : Option (Src × Rho) := match i with
  | .seq e => (match evE c e ρ with
    | some (r, ρ) => (match r.frz with
      | some d => (match srcOf d with
        | some s => some (s, ρ)
        | none => none)
      | none => none)
    | none => none)
  | .rng1 a => (match evE c a ρ with
    | some (.fz (.int j), ρ) => if rgOk j then some (.rg 0 1 j.toNat, ρ) else none
    | _ => none)
  | .rng2 a b => (match evE c a ρ with
    | some (.fz (.int i), ρ) => (match evE c b ρ with
      | some (.fz (.int j), ρ) => if rgOk i && rgOk j then some (.rg i 1 (j - i).toNat, ρ) else none
      | _ => none)
    | _ => none)
  | .rng3 a b s => (match evE c a ρ with
    | some (.fz (.int i), ρ) => (match evE c b ρ with
      | some (.fz (.int j), ρ) => (match evE c s ρ with
        | some (.fz (.int k), ρ) => if rgOk i && rgOk j && (k != 0) && decide (k.natAbs < 1073741824) then some (.rg i k (rgLen i j k), ρ) else none
        | _ => none)
      | _ => none)
    | _ => none)
  | .zip a b => (match evE c a ρ with
    | some (r, ρ) => (match evE c b ρ with
      | some (q, ρ) => (match r.frz, q.frz with
        | some x, some y => (match twoOf x y with
          | some (xs, ys) => some (.ls (zipD xs ys), ρ)
          | none => none)
        | _, _ => none)
      | none => none)
    | none => none)
  | .enum a => (match evE c a ρ with
    | some (r, ρ) => (match r.frz with
      | some d => (match lstOf d with
        | some xs => some (.ls (enumD 0 xs), ρ)
        | none => none)
      | none => none)
    | none => none)
  | .enumK a k => (match evE c a ρ with
    | some (r, ρ) => (match evE c k ρ with
      | some (.fz (.int i), ρ) => (match r.frz with
        | some d => (match lstOf d with
          | some xs => some (.ls (enumD i xs), ρ)
          | none => none)
        | none => none)
      | _ => none)
    | none => none)
  | .rev a => (match evE c a ρ with
    | some (r, ρ) => (match r.frz with
      | some d => (match seqOf d with
        | some xs => some (.ls xs.reverse, ρ)
        | none => none)
      | none => none)
    | none => none)
  | .items a => (match evE c a ρ with
    | some (r, ρ) => (match r.frz with
      | some (.dct kvs) => some (.ls (kvs.map fun p => .tup [p.1, p.2]), ρ)
      | _ => none)
    | none => none)
  | .vals a => (match evE c a ρ with
    | some (r, ρ) => (match r.frz with
      | some (.dct kvs) => some (.ls (kvs.map (·.2)), ρ)
      | _ => none)
    | none => none)
end

inductive Out where | nx (ρ : Rho) | rt (r : R) (ρ : Rho) | bk (ρ : Rho) | ct (ρ : Rho)
def runL (f : D → Rho → Option Out) : List D → Rho → Option Out
  | [], ρ => some (.nx ρ)
  | d :: ds, ρ => (match f d ρ with
    | some (.nx ρ) => runL f ds ρ
    | some (.ct ρ) => runL f ds ρ
    | some (.bk ρ) => some (.nx ρ)
    | some (.rt r ρ) => some (.rt r ρ)
    | none => none)
def runN (f : D → Rho → Option Out) (st : Int) : Nat → Int → Rho → Option Out
  | 0, _, ρ => some (.nx ρ)
  | n + 1, i, ρ => (match f (.int i) ρ with
    | some (.nx ρ) => runN f st n (i + st) ρ
    | some (.ct ρ) => runN f st n (i + st) ρ
    | some (.bk ρ) => some (.nx ρ)
    | some (.rt r ρ) => some (.rt r ρ)
    | none => none)
def Src.run (f : D → Rho → Option Out) : Src → Rho → Option Out
  | .ls ds, ρ => runL f ds ρ
  | .rg lo st n, ρ => runN f st n lo ρ
def runW (t : Rho → Option (Bool × Rho)) (f : Rho → Option Out) : Nat → Rho → Option Out
  | 0, _ => none
  | n + 1, ρ => (match t ρ with
    | some (true, ρ) => (match f ρ with
      | some (.nx ρ) => runW t f n ρ
      | some (.ct ρ) => runW t f n ρ
      | some (.bk ρ) => some (.nx ρ)
      | some (.rt r ρ) => some (.rt r ρ)
      | none => none)
    | some (false, ρ) => some (.nx ρ)
    | none => none)
/-- a value stored under a name -/
def put (i : Nat) (r : R) (ρ : Rho) : Option Rho := if i < ρ.length then (match r with
  | .fz d => some (ρ.set i (.fz d))
  | .ow d => some (ρ.set i (.ow d))
  | _ => none) else none
def putAll : List Nat → List R → Rho → Option Rho
  | [], [], ρ => some ρ
  | i :: is, r :: rs, ρ => (match put i r ρ with
    | some ρ => putAll is rs ρ
    | none => none)
  | _, _, _ => none
/-- intsD only: op= -/
def apI (o : O2) (x y : D) : Option (Bool × D) := match x, y with
  | .int i, .int j => ap2 o (.int i) (.int j)
  | _, _ => none
/-- what a list may be extended by: a list that is no one else's -/
def extOf : R → D → Option (List D)
  | .ow _, .lst xs => some xs
  | .bo _, .lst xs => some xs
  | _, _ => none
def setItem (x k v : D) : Option D := match x with
  | .lst xs => (match k with
    | .int i => (match ixN xs.length i with | some j => some (.lst (xs.set j v)) | none => none)
    | _ => none)
  | _ => none
mutual
def evS (L : Nat) (c : Cl) (s : S) (ρ : Rho) : Option Out := match s with
  | .ex e => (match evE c e ρ with
    | some (_, ρ) => some (.nx ρ)
    | none => none)
  | .set (.nm i) e => (match evE c e ρ with
    | some (r, ρ) => (match put i r ρ with
      | some ρ => some (.nx ρ)
      | none => none)
    | none => none)
  | .set t e => (match evE c e ρ with
    | some (.fz d, ρ) => (match stT t d ρ with
      | some ρ => some (.nx ρ)
      | none => none)
    | _ => none)
  | .par is es => (match evA c es ρ with
    | some (rs, ρ) => (match putAll is rs ρ with
      | some ρ => some (.nx ρ)
      | none => none)
    | none => none)
  | .aug i o e => (match ρ[i]? with
    | some (.fz x) => (match evE c e ρ with
      | some (q, ρ) => (match q.get ρ with
        | some y => (match apI o x y with
          | some p => (match put i (mk p) ρ with
            | some ρ => some (.nx ρ)
            | none => none)
          | none => none)
        | none => none)
      | none => none)
    | _ => none)
  | .setI i k e => (match evE c e ρ with
    | some (r, ρ) => (match r.frz with
      | some v => (match ρ[i]? with
        | some (.ow _) => (match evE c k ρ with
          | some (.fz k, ρ) => (match ρ[i]? with
            | some (.ow x) => (match setItem x k v with
              | some x => some (.nx (ρ.set i (.ow x)))
              | none => none)
            | _ => none)
          | _ => none)
        | _ => none)
      | none => none)
    | none => none)
  | .augI i k o e => (match ρ[i]? with
    | some (.ow _) => (match evE c k ρ with
      | some (.fz k, ρ) => (match ρ[i]? with
        | some (.ow x) => (match ap2 .idx x k with
          | some (false, .int u) => (match evE c e ρ with
            | some (q, ρ) => (match q.get ρ with
              | some y => (match apI o (.int u) y with
                | some (false, v) => (match ρ[i]? with
                  | some (.ow x) => (match setItem x k v with
                    | some x => some (.nx (ρ.set i (.ow x)))
                    | none => none)
                  | _ => none)
                | _ => none)
              | none => none)
            | none => none)
          | _ => none)
        | _ => none)
      | _ => none)
    | _ => none)
  | .app i e => (match ρ[i]? with
    | some (.ow (.lst _)) => (match evE c e ρ with
      | some (r, ρ) => (match r.frz with
        | some d => (match ρ[i]? with
          | some (.ow (.lst xs)) => if xs.length < L24 then some (.nx (ρ.set i (.ow (.lst (xs ++ [d]))))) else none
          | _ => none)
        | none => none)
      | none => none)
    | _ => none)
  | .ext i e => (match ρ[i]? with
    | some (.ow (.lst _)) => (match evE c e ρ with
      | some (r, ρ) => (match r.get ρ with
        | some d => (match extOf r d with
          | some ys => (match ρ[i]? with
            | some (.ow (.lst xs)) => if xs.length + ys.length ≤ L24 then some (.nx (ρ.set i (.ow (.lst (xs ++ ys))))) else none
            | _ => none)
          | none => none)
        | none => none)
      | none => none)
    | _ => none)
  | .setII _ _ _ _ => none
  | .swapI _ _ _ => none
  | .ret e => (match evE c e ρ with
    | some (r, ρ) => some (.rt r ρ)
    | none => none)
  | .retN => some (.rt (.fz .non) ρ)
  | .ite t a b => (match evT c t ρ with
    | some (true, ρ) => evSs L c a ρ
    | some (false, ρ) => evSs L c b ρ
    | none => none)
  | .whl t b => runW (evT c t) (evSs L c b) L ρ
  | .for_ t src b => (match evI c src ρ with
    | some (s, ρ) => s.run (fun d ρ => match stT t d ρ with
      | some ρ => evSs L c b ρ
      | none => none) ρ
    | none => none)
  | .brk => some (.bk ρ)
  | .cnt => some (.ct ρ)
  | .pass => some (.nx ρ)
def evSs (L : Nat) (c : Cl) (ss : Ss) (ρ : Rho) : Option Out := match ss with
  | .nil => some (.nx ρ)
  | .cons s ss => (match evS L c s ρ with
    | some (.nx ρ) => evSs L c ss ρ
    | o => o)
end

/-- a def: how many parameters, how many names, which parameter it changes, its body -/
structure Fn where
  ps : Nat
  n : Nat
  io : Option Nat
  body : Ss
def startR (f : Fn) (ds : List D) : Rho := (ds.mapIdx fun k d => if f.io = some k then Sl.ow d else Sl.fz d) ++ List.replicate (f.n - f.ps) .no
def endR (k : Option Nat) (r : R) (ρ : Rho) : Option (Bool × D × Option D) := match (match r with | .fz d => some (false, d) | .ow d => some (true, d) | _ => none) with
  | some (own, d) => (match k with
    | none => some (own, d, none)
    | some k => (match ρ[k]? with
      | some (.ow x) => some (own, d, some x)
      | _ => none))
  | none => none
def runF (L : Nat) (c : Cl) (f : Fn) (k : Option Nat) (ds : List D) : Option (Bool × D × Option D) :=
  if f.io = k ∧ ds.length = f.ps then
    (match evSs L c f.body (startR f ds) with
    | some (.nx ρ) => endR k (.fz .non) ρ
    | some (.rt r ρ) => endR k r ρ
    | _ => none)
  else none
abbrev Prog := List Fn
def evF (L : Nat) (P : Prog) : Nat → Cl
  | 0 => fun _ _ _ => none
  | d + 1 => fun f k ds => (match P[f]? with
    | some fn => runF L (evF L P d) fn k ds
    | none => none)
end NW
namespace NW
open PySem PySem.Spec PyProof.Rows L2

abbrev toS (s : List Nat) : Str := ⟨s.toArray⟩
/-- a key of a dict -/
inductive RpKey : Key → D → Prop
  | int (i : Int) : RpKey (.inl i) (.int i)
  | str (s : List Nat) : RpKey (.inr (toS s)) (.str s)
mutual
/-- the value v is the data d; only what F holds is read -/
inductive Rp (K : PySem.W.Frag) (F : Hp) : V → D → Prop
  | non : Rp K F .non .non
  | bl (b : Bool) : Rp K F (.bl b) (.bl b)
  | int (i : Int) : Rp K F (.int i) (.int i)
  | str (s : List Nat) : Rp K F (.str (toS s)) (.str s)
  | tup {a : Addr} {xs : List V} {ds : List D} : SqT K F a xs → RpL K F xs ds → Rp K F (.ref a) (.tup ds)
  | lst {a : Addr} {xs : List V} {ds : List D} : SqL K F a xs → RpL K F xs ds → Rp K F (.ref a) (.lst ds)
  | dK {a : Addr} {kvs : List (Key × V)} {es : List (D × D)} : F a = some (.dK kvs) → RpM K F kvs es → Rp K F (.ref a) (.dct es)
  | dT {a : Addr} {kvs : List (List Key × V)} {es : List (D × D)} : F a = some (.dT kvs) → RpN K F kvs es → Rp K F (.ref a) (.dct es)
inductive RpL (K : PySem.W.Frag) (F : Hp) : List V → List D → Prop
  | nil : RpL K F [] []
  | cons {v : V} {vs : List V} {d : D} {ds : List D} : Rp K F v d → RpL K F vs ds → RpL K F (v :: vs) (d :: ds)
inductive RpM (K : PySem.W.Frag) (F : Hp) : List (Key × V) → List (D × D) → Prop
  | nil : RpM K F [] []
  | cons {k : Key} {v : V} {r : List (Key × V)} {x d : D} {es : List (D × D)} : RpKey k x → Rp K F v d → RpM K F r es → RpM K F ((k, v) :: r) ((x, d) :: es)
inductive RpN (K : PySem.W.Frag) (F : Hp) : List (List Key × V) → List (D × D) → Prop
  | nil : RpN K F [] []
  | cons {k : List Key} {v : V} {r : List (List Key × V)} {xs : List D} {d : D} {es : List (D × D)} : Paired RpKey k xs → Rp K F v d → RpN K F r es → RpN K F ((k, v) :: r) ((.tup xs, d) :: es)
end
section
variable {K : PySem.W.Frag} {F F' H H' : Hp}
theorem rd_mono {a : Addr} {u : HO} (h : Same F F') (r : Rd F a u) : Rd F' a u := by
  rcases r with r | ⟨o, r⟩
  · exact .inl (h _ _ r)
  · exact .inr ⟨o, h _ _ r⟩
theorem sqT_mono {a : Addr} {xs : List V} (h : Same F F') (r : SqT K F a xs) : SqT K F' a xs := r.imp (rd_mono h) id
theorem sqL_mono {a : Addr} {xs : List V} (h : Same F F') (r : SqL K F a xs) : SqL K F' a xs := r.imp (rd_mono h) id
mutual
theorem Rp.mono (h : Same F F') : ∀ (d : D) (v : V), Rp K F v d → Rp K F' v d
  | .non, _, r => by cases r; exact .non
  | .bl _, _, r => by cases r; exact .bl _
  | .int _, _, r => by cases r; exact .int _
  | .str _, _, r => by cases r; exact .str _
  | .tup ds, _, r => by
    cases r with
    | tup a b => exact .tup (sqT_mono h a) (Rp.monoL h ds _ b)
  | .lst ds, _, r => by
    cases r with
    | lst a b => exact .lst (sqL_mono h a) (Rp.monoL h ds _ b)
  | .dct es, _, r => by
    cases r with
    | dK a b => exact .dK (h _ _ a) (Rp.monoM h es _ b)
    | dT a b => exact .dT (h _ _ a) (Rp.monoN h es _ b)
theorem Rp.monoL (h : Same F F') : ∀ (ds : List D) (vs : List V), RpL K F vs ds → RpL K F' vs ds
  | [], _, r => by cases r; exact .nil
  | d :: ds, _, r => by
    cases r with
    | cons a b => exact .cons (Rp.mono h d _ a) (Rp.monoL h ds _ b)
theorem Rp.monoM (h : Same F F') : ∀ (es : List (D × D)) (kvs : List (Key × V)), RpM K F kvs es → RpM K F' kvs es
  | [], _, r => by cases r; exact .nil
  | (x, d) :: es, _, r => by
    cases r with
    | cons a b c => exact .cons a (Rp.mono h d _ b) (Rp.monoM h es _ c)
theorem Rp.monoN (h : Same F F') : ∀ (es : List (D × D)) (kvs : List (List Key × V)), RpN K F kvs es → RpN K F' kvs es
  | [], _, r => by cases r; exact .nil
  | (x, d) :: es, _, r => by
    cases r with
    | cons a b c => exact .cons a (Rp.mono h d _ b) (Rp.monoN h es _ c)
end
/-- the tuples stand in both -/
def SameT (F F' : Hp) : Prop := ∀ b xs, (F b = some (.tup xs) → F' b = some (.tup xs)) ∧ ∀ o, F b = some (.frz o (.tup xs)) → F' b = some (.frz o (.tup xs))
theorem sqT_same {a : Addr} {xs : List V} (h : SameT F F') (r : SqT K F a xs) : SqT K F' a xs := by
  rcases r with (r | ⟨o, r⟩) | r
  · exact .inl (.inl ((h _ _).1 r))
  · exact .inl (.inr ⟨o, (h _ _).2 o r⟩)
  · exact .inr r
mutual
theorem Rp.pure (h : SameT F F') : ∀ (d : D) (v : V), d.pur = true → Rp K F v d → Rp K F' v d
  | .non, _, _, r => by cases r; exact .non
  | .bl _, _, _, r => by cases r; exact .bl _
  | .int _, _, _, r => by cases r; exact .int _
  | .str _, _, _, r => by cases r; exact .str _
  | .tup ds, _, p, r => by
    cases r with
    | tup a b => exact .tup (sqT_same h a) (Rp.pureL h ds _ (by simpa [D.pur] using p) b)
  | .lst ds, _, p, r => by simp [D.pur] at p
  | .dct es, _, p, r => by simp [D.pur] at p
theorem Rp.pureL (h : SameT F F') : ∀ (ds : List D) (vs : List V), D.purL ds = true → RpL K F vs ds → RpL K F' vs ds
  | [], _, _, r => by cases r; exact .nil
  | d :: ds, _, p, r => by
    simp only [D.purL, Bool.and_eq_true] at p
    cases r with
    | cons a b => exact .cons (Rp.pure h d _ p.1 a) (Rp.pureL h ds _ p.2 b)
end
theorem RpKey.pure {k : Key} {d : D} (r : RpKey k d) : d.pur = true := by cases r <;> rfl
theorem Rp.pureM (h : SameT F F') : ∀ (es : List (D × D)) (kvs : List (Key × V)), (es.all fun p => p.1.pur && p.2.pur) = true → RpM K F kvs es → RpM K F' kvs es
  | [], _, _, r => by cases r; exact .nil
  | (x, d) :: es, _, p, r => by
    simp only [List.all_cons, Bool.and_eq_true] at p
    cases r with
    | cons a b c => exact .cons a (Rp.pure h d _ p.1.2 b) (Rp.pureM h es _ p.2 c)
theorem Rp.pureN (h : SameT F F') : ∀ (es : List (D × D)) (kvs : List (List Key × V)), (es.all fun p => p.1.pur && p.2.pur) = true → RpN K F kvs es → RpN K F' kvs es
  | [], _, _, r => by cases r; exact .nil
  | (x, d) :: es, _, p, r => by
    simp only [List.all_cons, Bool.and_eq_true] at p
    cases r with
    | cons a b c => exact .cons a (Rp.pure h d _ p.1.2 b) (Rp.pureN h es _ p.2 c)
theorem RpL.length : ∀ {vs : List V} {ds : List D}, RpL K F vs ds → vs.length = ds.length
  | _, _, .nil => rfl
  | _, _, .cons _ b => congrArg (· + 1) b.length
theorem RpL.append : ∀ {vs us : List V} {ds es : List D}, RpL K F vs ds → RpL K F us es → RpL K F (vs ++ us) (ds ++ es)
  | _, _, _, _, .nil, r => r
  | _, _, _, _, .cons a b, r => .cons a (b.append r)
theorem RpL.take : ∀ {vs : List V} {ds : List D} (n : Nat), RpL K F vs ds → RpL K F (vs.take n) (ds.take n)
  | _, _, 0, _ => .nil
  | _, _, _ + 1, .nil => .nil
  | _, _, n + 1, .cons a b => .cons a (b.take n)
theorem RpL.drop : ∀ {vs : List V} {ds : List D} (n : Nat), RpL K F vs ds → RpL K F (vs.drop n) (ds.drop n)
  | _, _, 0, r => r
  | _, _, _ + 1, .nil => .nil
  | _, _, n + 1, .cons _ b => b.drop n
theorem RpL.reverse : ∀ {vs : List V} {ds : List D}, RpL K F vs ds → RpL K F vs.reverse ds.reverse
  | _, _, .nil => .nil
  | _, _, .cons a b => by simp only [List.reverse_cons]; exact b.reverse.append (.cons a .nil)
theorem RpL.set {v : V} {d : D} (a : Rp K F v d) : ∀ {vs : List V} {ds : List D} (n : Nat), RpL K F vs ds → RpL K F (vs.set n v) (ds.set n d)
  | _, _, _, .nil => .nil
  | _, _, 0, .cons _ b => .cons a b
  | _, _, n + 1, .cons c b => .cons c (RpL.set a n b)
theorem RpL.get : ∀ {vs : List V} {ds : List D} {n : Nat} {d : D}, RpL K F vs ds → ds[n]? = some d → ∃ v, vs[n]? = some v ∧ Rp K F v d
  | _, _, _, _, .nil, e => by simp at e
  | _, _, 0, _, .cons a _, e => by simp at e; subst e; exact ⟨_, rfl, a⟩
  | _, _, n + 1, _, .cons _ b, e => by
    obtain ⟨v, h1, h2⟩ := b.get (n := n) (by simpa using e)
    exact ⟨v, by simpa using h1, h2⟩
theorem RpL.get' : ∀ {vs : List V} {ds : List D} {n : Nat} {v : V}, RpL K F vs ds → vs[n]? = some v → ∃ d, ds[n]? = some d ∧ Rp K F v d
  | _, _, _, _, .nil, e => by simp at e
  | _, _, 0, _, .cons a _, e => by simp at e; subst e; exact ⟨_, rfl, a⟩
  | _, _, n + 1, _, .cons _ b, e => by
    obtain ⟨v, h1, h2⟩ := b.get' (n := n) (by simpa using e)
    exact ⟨v, by simpa using h1, h2⟩
theorem RpL.dropLast {vs : List V} {ds : List D} (r : RpL K F vs ds) : RpL K F vs.dropLast ds.dropLast := by
  rw [List.dropLast_eq_take, List.dropLast_eq_take, r.length]
  exact r.take _
theorem RpL.rep {vs : List V} {ds : List D} (r : RpL K F vs ds) : ∀ n, RpL K F (List.replicate n vs).flatten (List.replicate n ds).flatten
  | 0 => .nil
  | n + 1 => by
    simp only [List.replicate_succ, List.flatten_cons]
    exact r.append (r.rep n)

/-- v reads as d -/
def Rdv (K : PySem.W.Frag) (F H : Hp) (v : V) : D → Prop
  | .lst ds => ∃ a xs, v = .ref a ∧ SqL K H a xs ∧ RpL K F xs ds
  | .dct es => ∃ a, v = .ref a ∧ ((∃ kvs, H a = some (.dK kvs) ∧ RpM K F kvs es) ∨ ∃ kvs, H a = some (.dT kvs) ∧ RpN K F kvs es)
  | d => Rp K F v d
theorem Rdv.tupE (s : Same F H) {v : V} {ds : List D} (r : Rdv K F H v (.tup ds)) : ∃ a xs, v = .ref a ∧ SqT K F a xs ∧ SqT K H a xs ∧ RpL K F xs ds := by
  cases (show Rp K F v (.tup ds) from r) with
  | tup a b => exact ⟨_, _, rfl, a, sqT_mono s a, b⟩
theorem Rdv.of (s : Same F H) {v : V} {d : D} (r : Rp K F v d) : Rdv K F H v d := by
  cases r with
  | tup a b => exact Rp.tup a b
  | lst a b => exact ⟨_, _, rfl, sqL_mono s a, b⟩
  | dK a b => exact ⟨_, rfl, .inl ⟨_, s _ _ a, b⟩⟩
  | dT a b => exact ⟨_, rfl, .inr ⟨_, s _ _ a, b⟩⟩
  | non => exact Rp.non
  | bl b => exact Rp.bl b
  | int i => exact Rp.int i
  | str x => exact Rp.str x
end

/-- an object of one's own at a: T the tables of code -/
def Top (K : PySem.W.Frag) (T : List Addr) (F H : Hp) (a : Addr) (d : D) : Prop := F a = none ∧ a ∉ T ∧ match d with
  | .lst ds => ∃ xs, H a = some (.lst xs) ∧ RpL K F xs ds
  | .dct es => (∃ kvs, H a = some (.dK kvs) ∧ RpM K F kvs es) ∨ ∃ kvs, H a = some (.dT kvs) ∧ RpN K F kvs es
  | _ => False
def Owns (σ : L2.St) (ρ : Rho) (a : Addr) : Prop := ∃ (i : Nat) (d : D), ρ[i]? = some (Sl.ow d) ∧ σ[i]? = some (some (V.ref a))
structure OK (K : PySem.W.Frag) (T : List Addr) (F H : Hp) (σ : L2.St) (ρ : Rho) : Prop where
  same : Same F H
  tabs : ∀ P ∈ T, GxR.TabG H P ∧ F P = none
  len : ρ.length = σ.length
  fz : ∀ (i : Nat) (d : D), ρ[i]? = some (.fz d) → ∃ v, σ[i]? = some (some v) ∧ Rp K F v d
  ow : ∀ (i : Nat) (d : D), ρ[i]? = some (.ow d) → ∃ a, σ[i]? = some (some (.ref a)) ∧ Top K T F H a d
  inj : ∀ (i j : Nat) (d e : D) (a : Addr), ρ[i]? = some (.ow d) → ρ[j]? = some (.ow e) → σ[i]? = some (some (.ref a)) → σ[j]? = some (some (.ref a)) → i = j
structure Stp (T : List Addr) (F H : Hp) (σ : L2.St) (ρ : Rho) (F' H' : Hp) (σ' : L2.St) (ρ' : Rho) : Prop where
  grow : Same F F'
  keep : ∀ b o, H b = some o → ¬ Owns σ ρ b → b ∉ T → H' b = some o
  new : ∀ b o, F' b = some o → F b = some o ∨ H b = none ∨ Owns σ ρ b
  own : ∀ a, Owns σ' ρ' a → Owns σ ρ a ∨ H a = none
section
variable {K : PySem.W.Frag} {T : List Addr} {F F' F1 F2 H H' H1 H2 : Hp} {σ σ' σ1 σ2 : L2.St} {ρ ρ' ρ1 ρ2 : Rho}
theorem Stp.refl : Stp T F H σ ρ F H σ ρ := ⟨Same.refl F, fun _ _ e _ _ => e, fun _ _ e => .inl e, fun _ h => .inl h⟩
theorem OK.owH (o : OK K T F H σ ρ) {a : Addr} (h : Owns σ ρ a) : (∃ u, H a = some u) ∧ a ∉ T ∧ F a = none := by
  obtain ⟨i, d, h1, h2⟩ := h
  obtain ⟨b, h3, h4⟩ := o.ow i d h1
  rw [h2] at h3; cases h3
  obtain ⟨f, t, m⟩ := h4
  refine ⟨?_, t, f⟩
  cases d with
  | lst ds => obtain ⟨xs, e, _⟩ := m; exact ⟨_, e⟩
  | dct es =>
    rcases m with ⟨kvs, e, _⟩ | ⟨kvs, e, _⟩
    · exact ⟨_, e⟩
    · exact ⟨_, e⟩
  | _ => exact m.elim
theorem OK.tabH (o : OK K T F H σ ρ) {P : Addr} (h : P ∈ T) : ∃ u, H P = some u := by
  obtain ⟨⟨ps, e, _⟩, _⟩ := o.tabs P h
  exact ⟨_, e⟩
theorem Stp.trans (x : Stp T F H σ ρ F1 H1 σ1 ρ1) (y : Stp T F1 H1 σ1 ρ1 F2 H2 σ2 ρ2) (hT : ∀ P ∈ T, ∃ u, H1 P = some u) : Stp T F H σ ρ F2 H2 σ2 ρ2 := by
  have no : ∀ b o, H b = some o → ¬ Owns σ ρ b → ¬ Owns σ1 ρ1 b := fun b o e n h => by
    rcases x.own b h with h | h
    · exact n h
    · rw [e] at h; cases h
  have back : ∀ b, H1 b = none → H b = none ∨ Owns σ ρ b := fun b h => by
    cases hn : H b with
    | none => exact .inl rfl
    | some u =>
      by_cases ho : Owns σ ρ b
      · exact .inr ho
      · by_cases ht : b ∈ T
        · obtain ⟨u', hu'⟩ := hT b ht
          rw [hu'] at h; cases h
        · have := x.keep b u hn ho ht
          rw [this] at h; cases h
  refine ⟨x.grow.trans y.grow, fun b o e n t => y.keep b o (x.keep b o e n t) (no b o e n) t, fun b o e => ?_, fun a h => ?_⟩
  · rcases y.new b o e with h | h | h
    · exact x.new b o h
    · exact .inr (back b h)
    · exact .inr ((x.own b h).symm)
  · rcases y.own a h with h | h
    · exact x.own a h
    · exact (back a h).symm
end
end NW
namespace NW
open PySem PySem.Spec PyProof.Rows L2

/-- what an operation makes: a value that stands, a new tuple, a new list -/
inductive NewV (K : PySem.W.Frag) (F H : Hp) : Bool × D → V → Hp → Hp → Prop
  | val {v : V} {d : D} : Rp K F v d → NewV K F H (false, d) v F H
  | tup {p : Addr} {xs : List V} {ds : List D} : H p = none → RpL K F xs ds → NewV K F H (false, .tup ds) (.ref p) (upd F p (.tup xs)) (upd H p (.tup xs))
  | lst {p : Addr} {xs : List V} {ds : List D} : H p = none → RpL K F xs ds → NewV K F H (true, .lst ds) (.ref p) F (upd H p (.lst xs))
  | dK {p : Addr} {kvs : List (Key × V)} {es : List (D × D)} : H p = none → RpM K F kvs es → NewV K F H (true, .dct es) (.ref p) F (upd H p (.dK kvs))
  | dT {p : Addr} {kvs : List (List Key × V)} {es : List (D × D)} : H p = none → RpN K F kvs es → NewV K F H (true, .dct es) (.ref p) F (upd H p (.dT kvs))

/-- the reading of an operation on data -/
def rD1 (K : PySem.W.Frag) (f : D → Option (Bool × D)) : V → Hp → VK → Prop := fun x H Q => ∃ F d p, Same F H ∧ Rdv K F H x d ∧ f d = some p ∧ ∀ v F' H', NewV K F H p v F' H' → Q v H'
def rD2 (K : PySem.W.Frag) (f : D → D → Option (Bool × D)) : R2 := fun x y H Q => ∃ F d e p, Same F H ∧ Rdv K F H x d ∧ Rdv K F H y e ∧ f d e = some p ∧ ∀ v F' H', NewV K F H p v F' H' → Q v H'

section
variable {K : PySem.W.Frag} {F H : Hp}
theorem Rdv.int {v : V} {i : Int} (r : Rdv K F H v (.int i)) : v = .int i := by cases (show Rp K F v (.int i) from r); rfl
theorem Rdv.bl {v : V} {b : Bool} (r : Rdv K F H v (.bl b)) : v = .bl b := by cases (show Rp K F v (.bl b) from r); rfl
theorem Rdv.str {v : V} {s : List Nat} (r : Rdv K F H v (.str s)) : v = .str (toS s) := by cases (show Rp K F v (.str s) from r); rfl
theorem Rdv.non {v : V} (r : Rdv K F H v .non) : v = .non := by cases (show Rp K F v .non from r); rfl
theorem Rp.intE {v : V} {i : Int} (r : Rp K F v (.int i)) : v = .int i := by cases r; rfl
theorem Rp.blE {v : V} {b : Bool} (r : Rp K F v (.bl b)) : v = .bl b := by cases r; rfl
theorem Rp.strE {v : V} {s : List Nat} (r : Rp K F v (.str s)) : v = .str (toS s) := by cases r; rfl
theorem Rp.nonE {v : V} (r : Rp K F v .non) : v = .non := by cases r; rfl
theorem ints_eq : ∀ {ds : List D} {is : List Int}, intsD ds = some is → ds = is.map D.int
  | [], is, h => by simp [intsD] at h; subst h; rfl
  | .int i :: xs, is, h => by
    unfold intsD at h
    cases q : intsD xs with
    | none => rw [q] at h; simp at h
    | some r =>
      rw [q] at h
      simp at h
      subst h
      rw [ints_eq q]; rfl
  | .non :: _, _, h => by simp [intsD] at h
  | .bl _ :: _, _, h => by simp [intsD] at h
  | .str _ :: _, _, h => by simp [intsD] at h
  | .tup _ :: _, _, h => by simp [intsD] at h
  | .lst _ :: _, _, h => by simp [intsD] at h
  | .dct _ :: _, _, h => by simp [intsD] at h
theorem RpL.intsD : ∀ {is : List Int} {vs : List V}, RpL K F vs (is.map D.int) → vs = is.map V.int
  | [], _, r => by cases r; rfl
  | i :: is, _, r => by
    cases r with
    | cons a b => cases a; rw [RpL.intsD b]; rfl
theorem rpl_ints : ∀ (is : List Int), RpL K F (is.map V.int) (is.map D.int)
  | [] => .nil
  | i :: is => .cons (.int i) (rpl_ints is)
end

section
variable {X : Cx}
theorem op_or2 {f : Value → Value → Sem Value} {r r' : R2} (h : OpR X f r) (h' : OpR X f r') : OpR X f (fun x y H Q => r x y H Q ∨ r' x y H Q) :=
  fun pins s σ H x y v u Q I rx ry q => q.elim (h pins s σ H x y v u Q I rx ry) (h' pins s σ H x y v u Q I rx ry)
theorem op_imp {f : Value → Value → Sem Value} {r r' : R2} (h : OpR X f r) (i : ∀ x y H Q, r' x y H Q → r x y H Q) : OpR X f r' :=
  fun pins s σ H x y v u Q I rx ry q => h pins s σ H x y v u Q I rx ry (i x y H Q q)
theorem op_fdivA : OpR X (binaryOp .FloorDiv) (rI (fun _ j => j ≠ 0 ∧ j.natAbs.log2 < 9000) fun i j => .int (i.fdiv j)) := opI fun _ _ _ _ _ _ _ hc q => floordiv_int hc.1 q (.inl (PyProof.noPylong_of_log2 hc.2))
theorem iop_fdivA : OpR X (inplaceOp .FloorDiv) (rI (fun _ j => j ≠ 0 ∧ j.natAbs.log2 < 9000) fun i j => .int (i.fdiv j)) := opI fun _ _ _ _ _ _ _ hc q => ifloordiv_int hc.1 q (.inl (PyProof.noPylong_of_log2 hc.2))
theorem iop_modA : OpR X (inplaceOp .Mod) (rI (fun _ j => j ≠ 0) fun i j => .int (i.fmod j)) := opI fun _ _ _ _ _ _ _ hc q => imod_int hc q
theorem iop_mulW : OpR X (inplaceOp .Mult) (rI CMulW fun i j => .int (i * j)) := opI fun _ _ _ _ _ _ _ hc q => imul_int q hc.ok
/-- list + list, whatever holds them -/
theorem op_catL : OpR X (binaryOp .Add) (fun x y H Q => ∃ l b xs zs, x = .ref l ∧ y = .ref b ∧ SqL X.K H l xs ∧ SqL X.K H b zs ∧ xs.length + zs.length ≤ sizeLine ∧ ∀ p, H p = none → Q (.ref p) (upd H p (.lst (xs ++ zs)))) := by
  intro pins s σ H x y v u Q I rx ry h
  obtain ⟨l, b, xs, zs, rfl, rfl, hH, hB, hz, q⟩ := h
  cases rx
  cases ry
  obtain ⟨its, r, pl, hl⟩ := I.list hH
  obtain ⟨its2, r2, pl2, hl2⟩ := I.list hB
  obtain ⟨⟨cls, dd, data, sl⟩, n, ho, hc, hdd, hd⟩ := id pl
  obtain ⟨⟨cls2, dd2, data2, sl2⟩, n2, ho2, hc2, hdd2, hd2⟩ := id pl2
  simp only at hc hd hc2 hd2
  subst hc hd hc2 hd2
  have e : its.toArray ++ its2.toArray = (its ++ its2).toArray := by simp
  have l1 := r.length
  have l2 := r2.length
  refine concat_meets ⟨_, ho, rfl⟩ ⟨_, ho2, rfl⟩ noFill_list_add seq_list_add PySem.F.slot_list_add PySem.F.entry_list_add (PySem.F.args_list_add_2 _ _) (list_addW l b its.toArray its2.toArray n n2 dd dd2 sl sl2 (by simp; omega)) ⟨ho, ho2, ?_⟩
  rw [e]
  exact ⟨.ref _, _, I.lnew (t' := s.toks) (r.append r2) (by rw [List.length_append]; omega), rfl, q _ I.fresh⟩

theorem toS_append (a b : List Nat) : toS a ++ toS b = toS (a ++ b) := by
  show Str.append _ _ = _
  unfold Str.append
  simp
theorem toS_length (a : List Nat) : (toS a).length = a.length := by
  show (toS a).cps.size = _
  simp
theorem toS_inj {a b : List Nat} (h : toS a = toS b) : a = b := by
  have := congrArg (fun z : Str => z.cps.toList) h
  simpa using this
theorem line24 : sizeLine = L24 := sizeLine_eq

theorem add_ok : OpR X (binaryOp .Add) (rD2 X.K (ap2 .add)) := by
  refine op_imp (op_or2 op_add (op_or2 op_add_str (op_or2 op_catL op_catA))) fun x y H Q h => ?_
  obtain ⟨F, d, e, p, sm, rx, ry, hp, q⟩ := h
  cases d <;> cases e <;> simp only [ap2] at hp <;> try cases hp
  · rename_i i j
    rw [rx.int, ry.int]
    exact .inl ⟨i, j, rfl, rfl, q _ _ _ (.val (.int _))⟩
  · rename_i i j
    split at hp
    · rename_i hl
      cases hp
      rw [rx.str, ry.str]
      refine .inr (.inl ⟨_, _, rfl, rfl, by rw [toS_length, toS_length, line24]; exact hl, ?_⟩)
      rw [toS_append]
      exact q _ _ _ (.val (.str _))
    · cases hp
  · rename_i i j
    split at hp
    · rename_i hl
      cases hp
      obtain ⟨a, xs, rfl, fa, ha, la⟩ := rx.tupE sm
      obtain ⟨b, ys, rfl, fb, hb, lb⟩ := ry.tupE sm
      have e1 := la.length
      have e2 := lb.length
      refine .inr (.inr (.inr ⟨a, b, xs, ys, rfl, rfl, ha, hb, by rw [line24]; omega, fun z => ?_, fun z1 z2 => ?_, fun _ _ w hw => q _ _ _ (.tup hw (la.append lb))⟩))
      · subst z
        cases la
        exact q _ _ _ (.val (.tup fb lb))
      · subst z2
        cases lb
        rw [List.append_nil] at q
        exact q _ _ _ (.val (.tup fa la))
    · cases hp
  · rename_i i j
    split at hp
    · rename_i hl
      cases hp
      obtain ⟨a, xs, rfl, ha, la⟩ := rx
      obtain ⟨b, ys, rfl, hb, lb⟩ := ry
      have e1 := la.length
      have e2 := lb.length
      exact .inr (.inr (.inl ⟨a, b, xs, ys, rfl, rfl, ha, hb, by rw [line24]; omega, fun w hw => q _ _ _ (.lst hw (la.append lb))⟩))
    · cases hp

/-- two intsD under C -/
theorem int2_ok {f : Value → Value → Sem Value} {C : Int → Int → Prop} {g : Int → Int → Int} {h : D → D → Option (Bool × D)} (r : OpR X f (rI C fun i j => .int (g i j)))
    (hh : ∀ d e p, h d e = some p → ∃ i j, d = .int i ∧ e = .int j ∧ C i j ∧ p = (false, .int (g i j))) : OpR X f (rD2 X.K h) := by
  refine op_imp r fun x y H Q hq => ?_
  obtain ⟨F, d, e, p, sm, rx, ry, hp, q⟩ := hq
  obtain ⟨i, j, rfl, rfl, hc, rfl⟩ := hh d e p hp
  exact ⟨i, j, rx.int, ry.int, hc, q _ _ _ (.val (.int _))⟩
theorem int2_ok0 {f : Value → Value → Sem Value} {g : Int → Int → Int} {h : D → D → Option (Bool × D)} (r : OpR X f (rI0 fun i j => .int (g i j)))
    (hh : ∀ d e p, h d e = some p → ∃ i j, d = .int i ∧ e = .int j ∧ p = (false, .int (g i j))) : OpR X f (rD2 X.K h) := by
  refine op_imp r fun x y H Q hq => ?_
  obtain ⟨F, d, e, p, sm, rx, ry, hp, q⟩ := hq
  obtain ⟨i, j, rfl, rfl, rfl⟩ := hh d e p hp
  exact ⟨i, j, rx.int, ry.int, q _ _ _ (.val (.int _))⟩
theorem sub_in : ∀ d e p, ap2 .sub d e = some p → ∃ i j, d = .int i ∧ e = .int j ∧ p = (false, .int (i - j)) := by
  intro d e p h
  cases d <;> cases e <;> simp only [ap2] at h <;> cases h
  exact ⟨_, _, rfl, rfl, rfl⟩
theorem fdiv_in : ∀ d e p, ap2 .fdiv d e = some p → ∃ i j, d = .int i ∧ e = .int j ∧ (j ≠ 0 ∧ j.natAbs.log2 < 9000) ∧ p = (false, .int (i.fdiv j)) := by
  intro d e p h
  cases d <;> cases e <;> simp only [ap2] at h <;> try cases h
  split at h
  · rename_i c
    cases h
    exact ⟨_, _, rfl, rfl, c, rfl⟩
  · cases h
theorem mod_in : ∀ d e p, ap2 .mod d e = some p → ∃ i j, d = .int i ∧ e = .int j ∧ j ≠ 0 ∧ p = (false, .int (i.fmod j)) := by
  intro d e p h
  cases d <;> cases e <;> simp only [ap2] at h <;> try cases h
  split at h
  · rename_i c
    cases h
    exact ⟨_, _, rfl, rfl, c, rfl⟩
  · cases h
theorem pow_in : ∀ d e p, ap2 .pow d e = some p → ∃ i j, d = .int i ∧ e = .int j ∧ (0 ≤ j ∧ j ≤ 1000000 ∧ i.natAbs < 2 ^ 64) ∧ p = (false, .int (i ^ j.toNat)) := by
  intro d e p h
  cases d <;> cases e <;> simp only [ap2] at h <;> try cases h
  split at h
  · rename_i c
    cases h
    exact ⟨_, _, rfl, rfl, c, rfl⟩
  · cases h
theorem sub_ok : OpR X (binaryOp .Sub) (rD2 X.K (ap2 .sub)) := int2_ok0 op_sub sub_in
theorem fdiv_ok : OpR X (binaryOp .FloorDiv) (rD2 X.K (ap2 .fdiv)) := int2_ok op_fdivA fdiv_in
theorem mod_ok : OpR X (binaryOp .Mod) (rD2 X.K (ap2 .mod)) := int2_ok op_modN mod_in
theorem pow_ok : OpR X (binaryOp .Pow) (rD2 X.K (ap2 .pow)) := int2_ok op_pow pow_in
theorem mul_ok : OpR X (binaryOp .Mult) (rD2 X.K (ap2 .mul)) := by
  refine op_imp (op_or2 op_mulW op_repT) fun x y H Q h => ?_
  obtain ⟨F, d, e, p, sm, rx, ry, hp, q⟩ := h
  cases d <;> cases e <;> simp only [ap2] at hp <;> try cases hp
  · rename_i i j
    split at hp
    · rename_i c
      cases hp
      exact .inl ⟨i, j, rx.int, ry.int, c, q _ _ _ (.val (.int _))⟩
    · cases hp
  · rename_i xs j
    split at hp
    · rename_i c
      obtain ⟨c1, c2, c3, c4⟩ := c
      cases hp
      obtain ⟨a, vs, rfl, fa, ha, la⟩ := rx.tupE sm
      have e1 := la.length
      refine .inr ⟨a, j, vs, rfl, ry.int, ha, fun z => ?_, c1, c2, by omega, fun w hw => q _ _ _ (.tup hw (la.rep _))⟩
      subst z
      cases la
      simp at c4
    · cases hp
theorem iadd_ok : OpR X (inplaceOp .Add) (rD2 X.K fun d e => match d, e with | .int i, .int j => i1 (i + j) | _, _ => none) := int2_ok0 iop_add (by
  intro d e p h
  cases d <;> cases e <;> simp only at h <;> cases h
  exact ⟨_, _, rfl, rfl, rfl⟩)
theorem isub_ok : OpR X (inplaceOp .Sub) (rD2 X.K (ap2 .sub)) := int2_ok0 iop_sub sub_in
theorem ifdiv_ok : OpR X (inplaceOp .FloorDiv) (rD2 X.K (ap2 .fdiv)) := int2_ok iop_fdivA fdiv_in
theorem imod_ok : OpR X (inplaceOp .Mod) (rD2 X.K (ap2 .mod)) := int2_ok iop_modA mod_in
theorem imul_ok : OpR X (inplaceOp .Mult) (rD2 X.K fun d e => match d, e with | .int i, .int j => ap2 .mul (.int i) (.int j) | _, _ => none) := int2_ok iop_mulW (by
  intro d e p h
  cases d <;> cases e <;> simp only [ap2] at h <;> try cases h
  split at h
  · rename_i c
    cases h
    exact ⟨_, _, rfl, rfl, c, rfl⟩
  · cases h)

theorem b1_val {K : PySem.W.Frag} {F H : Hp} {b : Bool} : NewV K F H (false, .bl b) (.bl b) F H := .val (.bl b)
theorem lex_eq : ∀ (xs ys : List Int), HT.lexLt xs ys = lexLt xs ys
  | [], [] => rfl
  | [], _ :: _ => rfl
  | _ :: _, [] => rfl
  | x :: xs, y :: ys => by
    unfold HT.lexLt lexLt
    rw [lex_eq xs ys]
theorem lt_ok (hu : X.A.units < cLine) : OpR X (compareOp .Lt) (rD2 X.K (ap2 .lt)) := by
  refine op_imp (op_or2 op_lt (op_ltT hu)) fun x y H Q h => ?_
  obtain ⟨F, d, e, p, sm, rx, ry, hp, q⟩ := h
  have hp : cmpD .lt d e = some p := by cases d <;> cases e <;> exact hp
  cases d <;> cases e <;> simp only [cmpD] at hp <;> try cases hp
  · rename_i i j
    exact .inl ⟨i, j, rx.int, ry.int, q _ _ _ b1_val⟩
  · rename_i is js
    split at hp
    · rename_i e1 e2
      cases hp
      obtain ⟨a, vs, rfl, fa, ha, la⟩ := rx.tupE sm
      obtain ⟨b, ws, rfl, fb, hb, lb⟩ := ry.tupE sm
      rw [ints_eq e1] at la
      rw [ints_eq e2] at lb
      rw [la.intsD] at ha
      rw [lb.intsD] at hb
      refine .inr ⟨a, b, _, _, rfl, rfl, ha, hb, ?_⟩
      rw [lex_eq]
      exact q _ _ _ b1_val
    · cases hp
theorem le_ok : OpR X (compareOp .LtE) (rD2 X.K (ap2 .le)) := by
  refine op_imp op_le fun x y H Q h => ?_
  obtain ⟨F, d, e, p, sm, rx, ry, hp, q⟩ := h
  have hp : cmpD .le d e = some p := by cases d <;> cases e <;> exact hp
  cases d <;> cases e <;> simp only [cmpD] at hp <;> try cases hp
  exact ⟨_, _, rx.int, ry.int, q _ _ _ b1_val⟩
theorem gt_ok : OpR X (compareOp .Gt) (rD2 X.K (ap2 .gt)) := by
  refine op_imp op_gt fun x y H Q h => ?_
  obtain ⟨F, d, e, p, sm, rx, ry, hp, q⟩ := h
  have hp : cmpD .gt d e = some p := by cases d <;> cases e <;> exact hp
  cases d <;> cases e <;> simp only [cmpD] at hp <;> try cases hp
  exact ⟨_, _, rx.int, ry.int, q _ _ _ b1_val⟩
theorem ge_ok : OpR X (compareOp .GtE) (rD2 X.K (ap2 .ge)) := by
  refine op_imp op_ge fun x y H Q h => ?_
  obtain ⟨F, d, e, p, sm, rx, ry, hp, q⟩ := h
  have hp : cmpD .ge d e = some p := by cases d <;> cases e <;> exact hp
  cases d <;> cases e <;> simp only [cmpD] at hp <;> try cases hp
  exact ⟨_, _, rx.int, ry.int, q _ _ _ b1_val⟩
end

mutual
def toPy : D → PyData
  | .non => .none
  | .bl b => .bool b
  | .int i => .int i
  | .str s => .str (toS s)
  | .tup xs => .tuple (toPyL xs)
  | .lst xs => .list (toPyL xs)
  | .dct _ => .none
def toPyL : List D → List PyData
  | [] => []
  | x :: xs => toPy x :: toPyL xs
end
mutual
theorem dp_of {K : PySem.W.Frag} {F H : Hp} (s : Same F H) : ∀ (d : D) (v : V), d.nod = true → Rp K F v d → Dp K H v (toPy d)
  | .non, _, _, r => by cases r; exact .non
  | .bl _, _, _, r => by cases r; exact .bl _
  | .int _, _, _, r => by cases r; exact .int _
  | .str _, _, _, r => by cases r; exact .str _
  | .tup ds, _, n, r => by
    cases r with
    | tup a b => exact .tup (sqT_mono s a) (dp_ofL s ds _ (by simpa [D.nod] using n) b)
  | .lst ds, _, n, r => by
    cases r with
    | lst a b => exact .lst (sqL_mono s a) (dp_ofL s ds _ (by simpa [D.nod] using n) b)
  | .dct _, _, n, _ => by simp [D.nod] at n
theorem dp_ofL {K : PySem.W.Frag} {F H : Hp} (s : Same F H) : ∀ (ds : List D) (vs : List V), D.nodL ds = true → RpL K F vs ds → DpAll K H vs (toPyL ds)
  | [], _, _, r => by cases r; exact .nil
  | d :: ds, _, n, r => by
    simp only [D.nodL, Bool.and_eq_true] at n
    cases r with
    | cons a b => exact .cons (dp_of s d _ n.1 a) (dp_ofL s ds _ n.2 b)
end
theorem dp_rdv {K : PySem.W.Frag} {F H : Hp} (s : Same F H) {d : D} {v : V} (n : d.nod = true) (r : Rdv K F H v d) : Dp K H v (toPy d) := by
  cases d with
  | lst ds =>
    obtain ⟨a, xs, rfl, h1, h2⟩ := r
    exact .lst h1 (dp_ofL s ds _ (by simpa [D.nod] using n) h2)
  | dct es => simp [D.nod] at n
  | non => exact dp_of s _ _ n r
  | bl _ => exact dp_of s _ _ n r
  | int _ => exact dp_of s _ _ n r
  | str _ => exact dp_of s _ _ n r
  | tup _ => exact dp_of s _ _ n r
mutual
theorem eqv_py : ∀ (d e : D), d.nod = true → e.nod = true → PyData.eqv (toPy d) (toPy e) = d.deq e
  | .non, e, _, h => by cases e <;> simp [toPy, PyData.eqv, D.deq, D.nod] at h ⊢
  | .bl a, e, _, h => by cases e <;> simp [toPy, PyData.eqv, D.deq, D.nod] at h ⊢
  | .int a, e, _, h => by cases e <;> simp [toPy, PyData.eqv, D.deq, D.nod] at h ⊢
  | .str a, e, _, h => by
    cases e <;> simp [toPy, PyData.eqv, D.deq, D.nod] at h ⊢
    rename_i b
    rw [Bool.eq_iff_iff]
    simp only [beq_iff_eq]
    exact ⟨toS_inj, fun z => by rw [z]⟩
  | .tup xs, e, g, h => by
    cases e <;> simp [toPy, PyData.eqv, D.deq, D.nod] at g h ⊢
    exact eqv_pyL xs _ g h
  | .lst xs, e, g, h => by
    cases e <;> simp [toPy, PyData.eqv, D.deq, D.nod] at g h ⊢
    exact eqv_pyL xs _ g h
  | .dct _, _, g, _ => by simp [D.nod] at g
theorem eqv_pyL : ∀ (xs ys : List D), D.nodL xs = true → D.nodL ys = true → PyData.eqvAll (toPyL xs) (toPyL ys) = D.deqL xs ys
  | [], [], _, _ => by simp [toPyL, PyData.eqvAll, D.deqL]
  | [], _ :: _, _, _ => by simp [toPyL, PyData.eqvAll, D.deqL]
  | _ :: _, [], _, _ => by simp [toPyL, PyData.eqvAll, D.deqL]
  | x :: xs, y :: ys, g, h => by
    simp only [D.nodL, Bool.and_eq_true] at g h
    simp only [toPyL, PyData.eqvAll, D.deqL]
    rw [eqv_py x y g.1 h.1, eqv_pyL xs ys g.2 h.2]
end
mutual
theorem canLay_py : ∀ d : D, d.nod = true → PyData.canLay0 (toPy d) = true
  | .non, _ => by simp [toPy, PyData.canLay0]
  | .bl _, _ => by simp [toPy, PyData.canLay0]
  | .int _, _ => by simp [toPy, PyData.canLay0]
  | .str s, h => by
    simp only [D.nod, strG] at h
    simp only [toPy, PyData.canLay0, PyData.strOk]
    simpa using h
  | .tup xs, h => by
    simp only [toPy, PyData.canLay0]
    exact canLay_pyL xs (by simpa [D.nod] using h)
  | .lst xs, h => by
    simp only [toPy, PyData.canLay0]
    exact canLay_pyL xs (by simpa [D.nod] using h)
  | .dct _, h => by simp [D.nod] at h
theorem canLay_pyL : ∀ ds : List D, D.nodL ds = true → PyData.canLayAll0 (toPyL ds) = true
  | [], _ => by simp [toPyL, PyData.canLayAll0]
  | d :: ds, h => by
    simp only [D.nodL, Bool.and_eq_true] at h
    simp only [toPyL, PyData.canLayAll0]
    rw [canLay_py d h.1, canLay_pyL ds h.2]
    rfl
end
mutual
theorem depth_py : ∀ (d : D) (n : Nat), d.lev n = true → (toPy d).depth ≤ n
  | .non, _, _ => by simp [toPy, PyData.depth]
  | .bl _, _, _ => by simp [toPy, PyData.depth]
  | .int _, _, _ => by simp [toPy, PyData.depth]
  | .str s, _, _ => by simp [toPy, PyData.depth]
  | .tup xs, 0, h => by simp [D.lev] at h
  | .tup xs, n + 1, h => by
    simp only [D.lev] at h
    simp only [toPy, PyData.depth]
    exact Nat.succ_le_succ (depth_pyL xs n h)
  | .lst xs, 0, h => by simp [D.lev] at h
  | .lst xs, n + 1, h => by
    simp only [D.lev] at h
    simp only [toPy, PyData.depth]
    exact Nat.succ_le_succ (depth_pyL xs n h)
  | .dct _, _, _ => by simp [toPy, PyData.depth]
theorem depth_pyL : ∀ (ds : List D) (n : Nat), D.levL n ds = true → PyData.depthAll (toPyL ds) ≤ n
  | [], _, _ => by simp [toPyL, PyData.depthAll]
  | d :: ds, n, h => by
    simp only [D.levL, Bool.and_eq_true] at h
    simp only [toPyL, PyData.depthAll]
    exact Nat.max_le.mpr ⟨depth_py d n h.1, depth_pyL ds n h.2⟩
end
theorem shaped_py {d : D} (h : okE d = true) : SeqAt.shaped (toPy d) = true := by
  unfold okE at h
  simp only [Bool.and_eq_true] at h
  unfold SeqAt.shaped
  rw [canLay_py d h.1, decide_eq_true (depth_py d 64 h.2)]
  rfl
/-- two data that are scalars of one kind, or data of any kind without dicts -/
theorem eqD_cases {d e : D} {b : Bool} (h : eqD d e = some b) :
    (∃ i j, d = .int i ∧ e = .int j ∧ b = (i == j)) ∨ (∃ i j, d = .bl i ∧ e = .bl j ∧ b = (i == j)) ∨ (∃ i j, d = .str i ∧ e = .str j ∧ b = (i == j)) ∨ (okE d = true ∧ okE e = true ∧ b = d.deq e) := by
  have key : ∀ d e : D, (if okE d && okE e then some (d.deq e) else none) = some b → okE d = true ∧ okE e = true ∧ b = d.deq e := fun d e h => by
    split at h
    · rename_i c
      rw [Bool.and_eq_true] at c
      cases h
      exact ⟨c.1, c.2, rfl⟩
    · cases h
  cases d <;> cases e <;> simp only [eqD] at h <;> first
    | exact .inr (.inr (.inr (key _ _ h)))
    | (cases h; exact .inl ⟨_, _, rfl, rfl, rfl⟩)
    | (cases h; exact .inr (.inl ⟨_, _, rfl, rfl, rfl⟩))
    | (cases h; exact .inr (.inr (.inl ⟨_, _, rfl, rfl, rfl⟩)))
section
variable {X : Cx}
theorem dec_toS {i j : List Nat} : decide (V.str (toS i) = V.str (toS j)) = (i == j) := by
  rw [dec_str, Bool.eq_iff_iff]
  simp only [beq_iff_eq]
  exact ⟨toS_inj, fun z => by rw [z]⟩
theorem eq_in {x y : V} {H : Hp} {Q : VK} {c : Bool → Bool} (h : ∃ F d e b, Same F H ∧ Rdv X.K F H x d ∧ Rdv X.K F H y e ∧ eqD d e = some b ∧ Q (.bl (c b)) H) :
    (scal x y = true ∧ Q (.bl (c (decide (x = y)))) H) ∨ (∃ d e, Dp X.K H x d ∧ Dp X.K H y e ∧ SeqAt.shaped d = true ∧ SeqAt.shaped e = true ∧ Q (.bl (c (PyData.eqv d e))) H) := by
  obtain ⟨F, d, e, b, sm, rx, ry, hb, q⟩ := h
  rcases eqD_cases hb with ⟨i, j, rfl, rfl, rfl⟩ | ⟨i, j, rfl, rfl, rfl⟩ | ⟨i, j, rfl, rfl, rfl⟩ | ⟨h1, h2, rfl⟩
  · rw [rx.int, ry.int]
    exact .inl ⟨rfl, by rw [dec_int]; exact q⟩
  · rw [rx.bl, ry.bl]
    exact .inl ⟨rfl, by rw [dec_bl]; exact q⟩
  · rw [rx.str, ry.str]
    exact .inl ⟨rfl, by rw [dec_toS]; exact q⟩
  · have n1 : d.nod = true := by unfold okE at h1; simp only [Bool.and_eq_true] at h1; exact h1.1
    have n2 : e.nod = true := by unfold okE at h2; simp only [Bool.and_eq_true] at h2; exact h2.1
    exact .inr ⟨toPy d, toPy e, dp_rdv sm n1 rx, dp_rdv sm n2 ry, shaped_py h1, shaped_py h2, by rw [eqv_py d e n1 n2]; exact q⟩
theorem ap_eq {d e : D} {p : Bool × D} (h : ap2 .eq d e = some p) : ∃ b, eqD d e = some b ∧ p = (false, .bl b) := by
  have h : (match eqD d e with | some b => b1 b | none => none) = some p := by cases d <;> exact h
  cases q : eqD d e with
  | none => rw [q] at h; cases h
  | some b => rw [q] at h; cases h; exact ⟨b, rfl, rfl⟩
theorem ap_ne {d e : D} {p : Bool × D} (h : ap2 .ne d e = some p) : ∃ b, eqD d e = some b ∧ p = (false, .bl (!b)) := by
  have h : (match eqD d e with | some b => b1 (!b) | none => none) = some p := by cases d <;> exact h
  cases q : eqD d e with
  | none => rw [q] at h; cases h
  | some b => rw [q] at h; cases h; exact ⟨b, rfl, rfl⟩
theorem eq_ok (hu : X.A.units + 64 < cLine) : OpR X (compareOp .Eq) (rD2 X.K (ap2 .eq)) := by
  refine op_imp (op_or2 op_eq (op_eqD hu)) fun x y H Q h => ?_
  obtain ⟨F, d, e, p, sm, rx, ry, hp, q⟩ := h
  obtain ⟨b, hb, rfl⟩ := ap_eq hp
  exact eq_in (c := id) ⟨F, d, e, b, sm, rx, ry, hb, q _ _ _ b1_val⟩
theorem ne_ok (hu : X.A.units + 64 < cLine) : OpR X (compareOp .NotEq) (rD2 X.K (ap2 .ne)) := by
  refine op_imp (op_or2 op_ne (op_neD hu)) fun x y H Q h => ?_
  obtain ⟨F, d, e, p, sm, rx, ry, hp, q⟩ := h
  obtain ⟨b, hb, rfl⟩ := ap_ne hp
  exact eq_in (c := not) ⟨F, d, e, b, sm, rx, ry, hb, q _ _ _ b1_val⟩

theorem flat_v {K : PySem.W.Frag} {F : Hp} {v : V} {d : D} (r : Rp K F v d) (f : d.flat = true) : flatV v = true := by
  cases r <;> first | rfl | (simp [D.flat] at f)
theorem flat_eq {K : PySem.W.Frag} {F : Hp} {v w : V} {d e : D} (r : Rp K F v d) (f : d.flat = true) (r' : Rp K F w e) (f' : e.flat = true) : eqV v w = d.deq e := by
  cases r <;> first | (simp [D.flat] at f; done) | skip
  all_goals (cases r' <;> first | (simp [D.flat] at f'; done) | rfl | skip)
  rename_i s t
  show (toS s == toS t) = (s == t)
  rw [Bool.eq_iff_iff]
  simp only [beq_iff_eq]
  exact ⟨toS_inj, fun z => by rw [z]⟩
theorem flats_v {K : PySem.W.Frag} {F : Hp} : ∀ {vs : List V} {ds : List D}, RpL K F vs ds → ds.all D.flat = true → vs.all flatV = true
  | _, _, .nil, _ => rfl
  | _, _, .cons a b, f => by
    simp only [List.all_cons, Bool.and_eq_true] at f ⊢
    exact ⟨flat_v a f.1, flats_v b f.2⟩
theorem in_eq {K : PySem.W.Frag} {F : Hp} {x : V} {d : D} (r : Rp K F x d) (f : d.flat = true) : ∀ {vs : List V} {ds : List D}, RpL K F vs ds → ds.all D.flat = true → inV x vs = isIn d ds
  | _, _, .nil, _ => rfl
  | _, _, .cons a b, g => by
    simp only [List.all_cons, Bool.and_eq_true] at g
    have ih := in_eq r f b g.2
    unfold inV at ih ⊢
    unfold isIn
    rw [List.any_cons, flat_eq a g.1 r f, ih]
theorem rdv_flat {K : PySem.W.Frag} {F H : Hp} {v : V} {d : D} (r : Rdv K F H v d) (f : d.flat = true) : Rp K F v d := by
  cases d <;> first | exact r | (simp [D.flat] at f)
theorem any_py {d : D} (n : d.nod = true) : ∀ ys : List D, D.nodL ys = true → (toPyL ys).any (fun z => PyData.eqv z (toPy d)) = isIn d ys
  | [], _ => rfl
  | y :: ys, h => by
    simp only [D.nodL, Bool.and_eq_true] at h
    rw [toPyL, List.any_cons, eqv_py y d h.1 n, any_py n ys h.2, isIn]
theorem isin_in {x y : V} {H : Hp} {Q : VK} {neg : Bool} (h : ∃ F d e b, Same F H ∧ Rdv X.K F H x d ∧ Rdv X.K F H y e ∧ inD d e = some b ∧ (∀ kvs, e ≠ .dct kvs) ∧ Q (.bl (if neg then !b else b)) H) :
    rIn X.K neg x y H Q ∨ (∃ (c : Nat) (z : Str), x = .str ⟨#[c]⟩ ∧ y = .str z ∧ Q (.bl (if neg then !decide (c ∈ z.cps.toList) else decide (c ∈ z.cps.toList))) H) ∨
    (∃ d ds, Dp X.K H x d ∧ Dp X.K H y (.list ds) ∧ SeqAt.shaped d = true ∧ SeqAt.shaped (.list ds) = true ∧ Q (.bl (if neg then !(ds.any fun z => PyData.eqv z d) else ds.any fun z => PyData.eqv z d)) H) := by
  obtain ⟨F, d, e, b, sm, rx, ry, hb, hnd, q⟩ := h
  cases e <;> simp only [inD] at hb <;> try cases hb
  · rename_i t
    cases d with
    | str s =>
      cases s with
      | nil => simp at hb
      | cons c s =>
        cases s with
        | nil =>
          cases hb
          rw [rx.str, ry.str]
          refine .inr (.inl ⟨c, _, rfl, rfl, ?_⟩)
          have e1 : decide (c ∈ (toS t).cps.toList) = t.contains c := by
            rw [Bool.eq_iff_iff]
            simp
          rw [e1]
          exact q
        | cons _ _ => simp at hb
    | _ => simp at hb
  · rename_i ys
    split at hb
    · rename_i c
      rw [Bool.and_eq_true] at c
      cases hb
      obtain ⟨a, vs, rfl, _, ha, la⟩ := ry.tupE sm
      have rx' := rdv_flat rx c.1
      refine .inl ⟨a, vs, rfl, .inr ha, flat_v rx' c.1, flats_v la c.2, ?_⟩
      rw [in_eq rx' c.1 la c.2]
      exact q
    · cases hb
  · rename_i ys
    split at hb
    · rename_i c
      rw [Bool.and_eq_true] at c
      cases hb
      obtain ⟨a, vs, rfl, ha, la⟩ := ry
      have rx' := rdv_flat rx c.1
      refine .inl ⟨a, vs, rfl, .inl ha, flat_v rx' c.1, flats_v la c.2, ?_⟩
      rw [in_eq rx' c.1 la c.2]
      exact q
    · split at hb
      · rename_i c
        rw [Bool.and_eq_true] at c
        cases hb
        have n1 : d.nod = true := by have := c.1; unfold okE at this; simp only [Bool.and_eq_true] at this; exact this.1
        have n2 : (D.lst ys).nod = true := by have := c.2; unfold okE at this; simp only [Bool.and_eq_true] at this; exact this.1
        have n3 : D.nodL ys = true := by simpa [D.nod] using n2
        have e2 : toPy (.lst ys) = .list (toPyL ys) := by simp [toPy]
        have h2 := dp_rdv sm n2 ry
        have h3 := shaped_py c.2
        rw [e2] at h2 h3
        exact .inr (.inr ⟨toPy d, toPyL ys, dp_rdv sm n1 rx, h2, shaped_py c.1, h3, by rw [any_py n1 ys n3]; exact q⟩)
      · cases hb
end
end NW
namespace NW
open PySem PySem.Spec PyProof.Rows L2
section
variable {X : Cx}
theorem inD_nd {d e : D} {b : Bool} (h : inD d e = some b) : ∀ kvs, e ≠ .dct kvs := by
  rintro kvs rfl
  simp [inD] at h
theorem isin_ok (hu : X.A.units + 65 < cLine) : OpR X (compareOp .In) (rD2 X.K (ap2 .isin)) := by
  refine op_imp (op_or2 op_in_seq (op_or2 op_in_sign (op_inD hu))) fun x y H Q h => ?_
  obtain ⟨F, d, e, p, sm, rx, ry, hp, q⟩ := h
  have hp : (match inD d e with | some b => b1 b | none => none) = some p := by cases d <;> exact hp
  cases hb : inD d e with
  | none => rw [hb] at hp; cases hp
  | some b =>
    rw [hb] at hp
    cases hp
    exact isin_in (neg := false) ⟨F, d, e, b, sm, rx, ry, hb, inD_nd hb, q _ _ _ b1_val⟩
theorem notin_ok (hu : X.A.units + 65 < cLine) : OpR X (compareOp .NotIn) (rD2 X.K (ap2 .notin)) := by
  refine op_imp (op_or2 op_notIn_seq (op_or2 op_notIn_sign (op_notInD hu))) fun x y H Q h => ?_
  obtain ⟨F, d, e, p, sm, rx, ry, hp, q⟩ := h
  have hp : (match inD d e with | some b => b1 (!b) | none => none) = some p := by cases d <;> exact hp
  cases hb : inD d e with
  | none => rw [hb] at hp; cases hp
  | some b =>
    rw [hb] at hp
    cases hp
    exact isin_in (neg := true) ⟨F, d, e, b, sm, rx, ry, hb, inD_nd hb, q _ _ _ b1_val⟩

theorem ixN_eq : ∀ n i, L2.ixN n i = NW.ixN n i := fun _ _ => rfl
theorem ix_or {r r' : R2} (h : IxR X r) (h' : IxR X r') : IxR X (fun x y H Q => r x y H Q ∨ r' x y H Q) := h.or h'
theorem ix_imp {r r' : R2} (h : IxR X r) (i : ∀ x y H Q, r' x y H Q → r x y H Q) : IxR X r' :=
  fun value slice pins s σ H x y v u Q I rx ry q hs => h value slice pins s σ H x y v u Q I rx ry (i x y H Q q) hs
theorem ix_ok : IxR X (rD2 X.K (ap2 .idx)) := by
  refine ix_imp ix_seq fun x y H Q h => ?_
  obtain ⟨F, d, e, p, sm, rx, ry, hp, q⟩ := h
  cases d <;> cases e <;> simp only [ap2] at hp <;> try cases hp
  · rename_i t i
    split at hp
    · rename_i hl
      cases h1 : NW.ixN t.length i with
      | none => rw [h1] at hp; cases hp
      | some j =>
        rw [h1] at hp
        simp only at hp
        cases h2 : t[j]? with
        | none => rw [h2] at hp; cases hp
        | some c =>
          rw [h2] at hp
          cases hp
          rw [rx.str, ry.int]
          refine .inr (.inr ⟨_, i, c, rfl, rfl, by rw [toS_length, line24]; exact hl, ?_, q _ _ _ (.val (.str [c]))⟩)
          unfold atI
          rw [ixN_eq]
          have e1 : (toS t).cps.toList = t := by simp
          rw [e1, h1]
          exact h2
    · cases hp
  · rename_i xs i
    cases h1 : NW.ixN xs.length i with
    | none => rw [h1] at hp; cases hp
    | some j =>
      rw [h1] at hp
      simp only at hp
      cases h2 : xs[j]? with
      | none => rw [h2] at hp; cases hp
      | some d =>
        rw [h2] at hp
        cases hp
        obtain ⟨a, vs, rfl, _, ha, la⟩ := rx.tupE sm
        obtain ⟨v, g1, g2⟩ := la.get h2
        refine .inr (.inl ⟨a, vs, i, v, rfl, ry.int, ha, ?_, q _ _ _ (.val g2)⟩)
        unfold atI
        rw [ixN_eq, la.length, h1]
        exact g1
  · rename_i xs i
    cases h1 : NW.ixN xs.length i with
    | none => rw [h1] at hp; cases hp
    | some j =>
      rw [h1] at hp
      simp only at hp
      cases h2 : xs[j]? with
      | none => rw [h2] at hp; cases hp
      | some d =>
        rw [h2] at hp
        cases hp
        obtain ⟨a, vs, rfl, ha, la⟩ := rx
        obtain ⟨v, g1, g2⟩ := la.get h2
        refine .inl ⟨a, vs, i, v, rfl, ry.int, ha, ?_, q _ _ _ (.val g2)⟩
        unfold atI
        rw [ixN_eq, la.length, h1]
        exact g1

def cD1 (K : PySem.W.Frag) (f : D → Option (Bool × D)) : List V → Hp → VK → Prop := fun vs H Q => ∃ x, vs = [x] ∧ rD1 K f x H Q
def cD2 (K : PySem.W.Frag) (f : D → D → Option (Bool × D)) : List V → Hp → VK → Prop := fun vs H Q => ∃ x y, vs = [x, y] ∧ rD2 K f x y H Q
theorem call_or {f : Value} {r r' : List V → Hp → VK → Prop} (h : CallR X f r) (h' : CallR X f r') : CallR X f (fun vs H Q => r vs H Q ∨ r' vs H Q) :=
  fun pins s σ H xs us Q I rx q => q.elim (h pins s σ H xs us Q I rx) (h' pins s σ H xs us Q I rx)
theorem call_imp {f : Value} {r r' : List V → Hp → VK → Prop} (h : CallR X f r) (i : ∀ vs H Q, r' vs H Q → r vs H Q) : CallR X f r' :=
  fun pins s σ H xs us Q I rx q => h pins s σ H xs us Q I rx (i xs H Q q)
theorem neg_ok : UnR X (unaryOp .USub) (rD1 X.K (ap1 .neg)) := by
  intro pins s σ H x v Q I rx h
  obtain ⟨F, d, p, sm, r, hp, q⟩ := h
  cases d <;> simp only [ap1] at hp <;> try cases hp
  exact un_neg pins s σ H x v Q I rx ⟨_, r.int, q _ _ _ (.val (.int _))⟩
theorem gcd_ok : CallR X (.builtin "math.gcd") (cD2 X.K (ap2 .gcd)) := by
  refine call_imp cr_gcd fun vs H Q h => ?_
  obtain ⟨x, y, rfl, F, d, e, p, sm, rx, ry, hp, q⟩ := h
  cases d <;> cases e <;> simp only [ap2] at hp <;> cases hp
  rw [rx.int, ry.int]
  exact ⟨_, _, rfl, q _ _ _ (.val (.int _))⟩
theorem max2_ok (hc : X.calm = true) : CallR X (.builtin "max") (cD2 X.K (ap2 .max)) := by
  refine call_imp (call_max2 hc) fun vs H Q h => ?_
  obtain ⟨x, y, rfl, F, d, e, p, sm, rx, ry, hp, q⟩ := h
  cases d <;> cases e <;> simp only [ap2] at hp <;> cases hp
  rw [rx.int, ry.int]
  exact ⟨_, _, rfl, q _ _ _ (.val (.int _))⟩
theorem min2_ok (hc : X.calm = true) : CallR X (.builtin "min") (cD2 X.K (ap2 .min)) := by
  refine call_imp (call_min2 hc) fun vs H Q h => ?_
  obtain ⟨x, y, rfl, F, d, e, p, sm, rx, ry, hp, q⟩ := h
  cases d <;> cases e <;> simp only [ap2] at hp <;> cases hp
  rw [rx.int, ry.int]
  exact ⟨_, _, rfl, q _ _ _ (.val (.int _))⟩
theorem abs_ok : CallR X (.builtin "abs") (cD1 X.K (ap1 .abs)) := by
  refine call_imp call_abs fun vs H Q h => ?_
  obtain ⟨x, rfl, F, d, p, sm, r, hp, q⟩ := h
  cases d <;> simp only [ap1] at hp <;> cases hp
  rw [r.int]
  exact ⟨_, rfl, q _ _ _ (.val (.int _))⟩
theorem int_ok : CallR X (.type "int") (cD1 X.K (ap1 .toInt)) := by
  refine call_imp call_int1 fun vs H Q h => ?_
  obtain ⟨x, rfl, F, d, p, sm, r, hp, q⟩ := h
  cases d <;> simp only [ap1] at hp <;> cases hp
  · rw [r.bl]
    exact .inr ⟨_, rfl, q _ _ _ (.val (.int _))⟩
  · rw [r.int]
    exact .inl ⟨_, rfl, q _ _ _ (.val (.int _))⟩
theorem len_ok : CallR X (.builtin "len") (cD1 X.K (ap1 .len)) := by
  refine call_imp (call_or call_len_seq call_len_str) fun vs H Q h => ?_
  obtain ⟨x, rfl, F, d, p, sm, r, hp, q⟩ := h
  cases d <;> simp only [ap1] at hp <;> try cases hp
  · split at hp
    · rename_i hl
      cases hp
      rw [r.str]
      refine .inr ⟨_, rfl, by rw [toS_length, line24]; exact hl, ?_⟩
      rw [toS_length]
      exact q _ _ _ (.val (.int _))
    · cases hp
  · obtain ⟨a, vs, rfl, _, ha, la⟩ := r.tupE sm
    refine .inl ⟨a, vs, rfl, .inr ha, ?_⟩
    rw [la.length]
    exact q _ _ _ (.val (.int _))
  · obtain ⟨a, vs, rfl, ha, la⟩ := r
    refine .inl ⟨a, vs, rfl, .inl ha, ?_⟩
    rw [la.length]
    exact q _ _ _ (.val (.int _))
theorem list_ok : CallR X (.type "list") (cD1 X.K (ap1 .toList)) := by
  refine call_imp call_list_of fun vs H Q h => ?_
  obtain ⟨x, rfl, F, d, p, sm, r, hp, q⟩ := h
  cases d <;> simp only [ap1] at hp <;> try cases hp
  · obtain ⟨a, vs, rfl, _, ha, la⟩ := r.tupE sm
    exact ⟨a, vs, rfl, .inr ha, fun w hw => q _ _ _ (.lst hw la)⟩
  · obtain ⟨a, vs, rfl, ha, la⟩ := r
    exact ⟨a, vs, rfl, .inl ha, fun w hw => q _ _ _ (.lst hw la)⟩
theorem tuple_ok : CallR X (.type "tuple") (cD1 X.K (ap1 .toTup)) := by
  refine call_imp call_tuple_of fun vs H Q h => ?_
  obtain ⟨x, rfl, F, d, p, sm, r, hp, q⟩ := h
  cases d <;> simp only [ap1] at hp <;> try cases hp
  · obtain ⟨a, vs, rfl, fa, ha, la⟩ := r.tupE sm
    exact ⟨a, vs, rfl, .inr ⟨ha, q _ _ _ (.val (.tup fa la))⟩⟩
  · obtain ⟨a, vs, rfl, ha, la⟩ := r
    exact ⟨a, vs, rfl, .inl ⟨ha, fun w hw => q _ _ _ (.tup hw la)⟩⟩
theorem sum_ok (hc : X.calm = true) : CallR X (.builtin "sum") (cD1 X.K (ap1 .sum)) := by
  refine call_imp (cr_sum hc) fun vs H Q h => ?_
  obtain ⟨x, rfl, F, d, p, sm, r, hp, q⟩ := h
  cases d <;> simp only [ap1] at hp <;> try cases hp
  rename_i xs
  obtain ⟨a, vs, rfl, ha, la⟩ := r
  cases hi : intsD xs with
  | none => rw [hi] at hp; cases hp
  | some is =>
    rw [hi] at hp
    cases hp
    rw [ints_eq hi] at la
    rw [la.intsD] at ha
    exact ⟨a, is, rfl, ha, q _ _ _ (.val (.int _))⟩
theorem isN_ok : OpR X (compareOp .Is) (fun x y H Q => y = .non ∧ rD1 X.K (ap1 .isN) x H Q) := by
  refine op_imp op_isN fun x y H Q h => ?_
  obtain ⟨rfl, F, d, p, sm, r, hp, q⟩ := h
  refine ⟨rfl, ?_⟩
  cases d <;> simp only [ap1] at hp <;> cases hp
  · rw [r.non]; exact q _ _ _ b1_val
  · rw [r.bl]; exact q _ _ _ b1_val
  · rw [r.int]; exact q _ _ _ b1_val
  · rw [r.str]; exact q _ _ _ b1_val
  · obtain ⟨a, vs, rfl, _⟩ := r.tupE sm; exact q _ _ _ b1_val
  · obtain ⟨a, vs, rfl, _⟩ := r; exact q _ _ _ b1_val
  · obtain ⟨a, rfl, _⟩ := r; exact q _ _ _ b1_val
theorem notN_ok : OpR X (compareOp .IsNot) (fun x y H Q => y = .non ∧ rD1 X.K (ap1 .notN) x H Q) := by
  refine op_imp op_notN fun x y H Q h => ?_
  obtain ⟨rfl, F, d, p, sm, r, hp, q⟩ := h
  refine ⟨rfl, ?_⟩
  cases d <;> simp only [ap1] at hp <;> cases hp
  · rw [r.non]; exact q _ _ _ b1_val
  · rw [r.bl]; exact q _ _ _ b1_val
  · rw [r.int]; exact q _ _ _ b1_val
  · rw [r.str]; exact q _ _ _ b1_val
  · obtain ⟨a, vs, rfl, _⟩ := r.tupE sm; exact q _ _ _ b1_val
  · obtain ⟨a, vs, rfl, _⟩ := r; exact q _ _ _ b1_val
  · obtain ⟨a, rfl, _⟩ := r; exact q _ _ _ b1_val
end
end NW
namespace NW
open PySem PySem.Spec PyProof.Rows L2

def RR (K : PySem.W.Frag) (T : List Addr) (F H : Hp) (σ : L2.St) (ρ : Rho) (r : R) (v : V) : Prop := match r with
  | .fz d => Rp K F v d
  | .ow d => ∃ a, v = .ref a ∧ Top K T F H a d ∧ ¬ Owns σ ρ a
  | .bo i => σ[i]? = some (some v)
  | .io i => σ[i]? = some (some v)
structure Post (K : PySem.W.Frag) (T : List Addr) (F H : Hp) (σ : L2.St) (ρ : Rho) (r : R) (v : V) (F' H' : Hp) (ρ' : Rho) : Prop where
  ok : OK K T F' H' σ ρ'
  stp : Stp T F H σ ρ F' H' σ ρ'
  rr : RR K T F' H' σ ρ' r v
  own : ∀ d a, r = .ow d → v = .ref a → H a = none ∨ Owns σ ρ a
section
variable {K : PySem.W.Frag} {T : List Addr} {F F' F1 F2 H H' H1 H2 : Hp} {σ σ' : L2.St} {ρ ρ' ρ1 ρ2 : Rho}
theorem OK.tabs' (o : OK K T F H σ ρ) : ∀ P ∈ T, ∃ u, H P = some u := fun _ h => o.tabH h
theorem Top.ex {a : Addr} {d : D} (t : Top K T F H a d) : ∃ u, H a = some u := by
  obtain ⟨_, _, m⟩ := t
  cases d with
  | lst ds => obtain ⟨xs, e, _⟩ := m; exact ⟨_, e⟩
  | dct es =>
    rcases m with ⟨kvs, e, _⟩ | ⟨kvs, e, _⟩
    · exact ⟨_, e⟩
    · exact ⟨_, e⟩
  | _ => exact m.elim
/-- an object of one's own is as it was -/
theorem Top.step {a : Addr} {d : D} (t : Top K T F H a d) (g : Same F F') (n : F' a = none) (k : ∀ o, H a = some o → H' a = some o) : Top K T F' H' a d := by
  obtain ⟨_, t2, m⟩ := t
  refine ⟨n, t2, ?_⟩
  cases d with
  | lst ds => obtain ⟨xs, e, r⟩ := m; exact ⟨xs, k _ e, Rp.monoL g _ _ r⟩
  | dct es =>
    rcases m with ⟨kvs, e, r⟩ | ⟨kvs, e, r⟩
    · exact .inl ⟨kvs, k _ e, Rp.monoM g _ _ r⟩
    · exact .inr ⟨kvs, k _ e, Rp.monoN g _ _ r⟩
  | _ => exact m
theorem Top.read {a : Addr} {d : D} (t : Top K T F H a d) : Rdv K F H (.ref a) d := by
  obtain ⟨_, _, m⟩ := t
  cases d with
  | lst ds => obtain ⟨xs, e, r⟩ := m; exact ⟨a, xs, rfl, .of e, r⟩
  | dct es => exact ⟨a, rfl, m⟩
  | _ => exact m.elim
theorem not_own_step (s : Stp T F1 H1 σ ρ1 F2 H2 σ' ρ2) {a : Addr} {u : HO} (h : H1 a = some u) (n : ¬ Owns σ ρ1 a) : ¬ Owns σ' ρ2 a := fun q => by
  rcases s.own a q with z | z
  · exact n z
  · rw [h] at z; cases z
theorem new_none (s : Stp T F1 H1 σ ρ1 F2 H2 σ' ρ2) {a : Addr} {u : HO} (f : F1 a = none) (h : H1 a = some u) (n : ¬ Owns σ ρ1 a) : F2 a = none := by
  cases q : F2 a with
  | none => rfl
  | some o =>
    rcases s.new a o q with z | z | z
    · rw [f] at z; cases z
    · rw [h] at z; cases z
    · exact (n z).elim
theorem RR.step {r : R} {v : V} (x : RR K T F1 H1 σ ρ1 r v) (s : Stp T F1 H1 σ ρ1 F2 H2 σ ρ2) : RR K T F2 H2 σ ρ2 r v := by
  cases r with
  | fz d => exact Rp.mono s.grow d v x
  | bo i => exact x
  | io i => exact x
  | ow d =>
    obtain ⟨a, rfl, t, n⟩ := x
    obtain ⟨u, hu⟩ := t.ex
    exact ⟨a, rfl, t.step s.grow (new_none s t.1 hu n) fun o e => s.keep a o e n t.2.1, not_own_step s hu n⟩
theorem RR.read {r : R} {v : V} {d : D} (x : RR K T F H σ ρ r v) (o : OK K T F H σ ρ) (g : r.get ρ = some d) : Rdv K F H v d := by
  cases r with
  | fz e => cases g; exact Rdv.of o.same x
  | io i => cases g
  | ow e =>
    cases g
    obtain ⟨a, rfl, t, n⟩ := x
    exact t.read
  | bo i =>
    have g : (match ρ[i]? with | some (.ow d) => some d | _ => none) = some d := g
    split at g
    · rename_i e q
      cases g
      obtain ⟨a, h1, t⟩ := o.ow i _ q
      have x : σ[i]? = some (some v) := x
      rw [h1] at x
      cases x
      exact t.read
    · cases g
/-- a value that an operation made -/
theorem NewV.post {p : Bool × D} {v : V} (o : OK K T F H σ ρ) (n : NewV K F H p v F' H') : Post K T F H σ ρ (mk p) v F' H' ρ := by
  have sameU : ∀ {G : Hp} {b : Addr} {u : HO}, G b = none → Same G (upd G b u) := fun {G b u} h c w e => by
    rw [upd_ne (ne_of_none e h)]; exact e
  have noF : ∀ {b : Addr}, H b = none → F b = none := fun {b} h => by
    cases q : F b with
    | none => rfl
    | some u => rw [o.same _ _ q] at h; cases h
  have key : ∀ {b : Addr} {w : HO} {G : Hp}, H b = none → Same F G → (∀ c u, G c = some u → F c = some u ∨ c = b) → (∀ c u, G c = some u → upd H b w c = some u) → OK K T G (upd H b w) σ ρ ∧ Stp T F H σ ρ G (upd H b w) σ ρ := by
    intro b w G hb hg hn hs
    have nT : ∀ P ∈ T, P ≠ b := fun P hP e => by
      obtain ⟨u, hu⟩ := o.tabH hP
      rw [e, hb] at hu; cases hu
    have gn : ∀ c, F c = none → c ≠ b → G c = none := fun c f e => by
      cases q : G c with
      | none => rfl
      | some u =>
        rcases hn c u q with z | z
        · rw [f] at z; cases z
        · exact (e z).elim
    refine ⟨⟨fun c u e => hs c u e, fun P hP => ?_, o.len, fun i d e => ?_, fun i d e => ?_, o.inj⟩, ⟨hg, fun c u e _ _ => ?_, fun c u e => ?_, fun _ h => .inl h⟩⟩
    · obtain ⟨⟨ps, e1, e2⟩, f⟩ := o.tabs P hP
      exact ⟨⟨ps, by rw [upd_ne (nT P hP)]; exact e1, e2⟩, gn P f (nT P hP)⟩
    · obtain ⟨v, e1, r⟩ := o.fz i d e
      exact ⟨v, e1, Rp.mono hg _ _ r⟩
    · obtain ⟨a, e1, t⟩ := o.ow i d e
      obtain ⟨u, hu⟩ := t.ex
      have nb : a ≠ b := ne_of_none hu hb
      exact ⟨a, e1, t.step hg (gn a t.1 nb) fun w e => by rw [upd_ne nb]; exact e⟩
    · rw [upd_ne (ne_of_none e hb)]; exact e
    · rcases hn c u e with z | z
      · exact .inl z
      · exact .inr (.inl (by rw [z]; exact hb))
  have noOwn : ∀ {b : Addr}, H b = none → ¬ Owns σ ρ b := fun {b} h q => by
    obtain ⟨⟨u, hu⟩, _, _⟩ := o.owH q
    rw [h] at hu; cases hu
  have noT : ∀ {b : Addr}, H b = none → b ∉ T := fun {b} h q => by
    obtain ⟨u, hu⟩ := o.tabH q
    rw [h] at hu; cases hu
  cases n with
  | val r => exact ⟨o, Stp.refl, r, fun d a e => by cases e⟩
  | tup hp r =>
    rename_i p xs ds
    have f := noF hp
    obtain ⟨k1, k2⟩ := key (w := .tup xs) (G := upd F p (.tup xs)) hp (sameU f) (fun c u e => by
      by_cases z : c = p
      · exact .inr z
      · rw [upd_ne z] at e; exact .inl e) (fun c u e => by
      by_cases z : c = p
      · subst z; rw [upd_same] at e ⊢; exact e
      · rw [upd_ne z] at e ⊢; exact o.same _ _ e)
    exact ⟨k1, k2, .tup (.of upd_same) (Rp.monoL (sameU f) _ _ r), fun d a e => by cases e⟩
  | lst hp r =>
    rename_i p xs ds
    obtain ⟨k1, k2⟩ := key (w := .lst xs) (G := F) hp (Same.refl F) (fun c u e => .inl e) (fun c u e => by rw [upd_ne (ne_of_none (o.same _ _ e) hp)]; exact o.same _ _ e)
    exact ⟨k1, k2, ⟨p, rfl, ⟨noF hp, noT hp, xs, upd_same, r⟩, noOwn hp⟩, fun d a _ e => by cases e; exact .inl hp⟩
  | dK hp r =>
    rename_i p kvs es
    obtain ⟨k1, k2⟩ := key (w := .dK kvs) (G := F) hp (Same.refl F) (fun c u e => .inl e) (fun c u e => by rw [upd_ne (ne_of_none (o.same _ _ e) hp)]; exact o.same _ _ e)
    exact ⟨k1, k2, ⟨p, rfl, ⟨noF hp, noT hp, .inl ⟨kvs, upd_same, r⟩⟩, noOwn hp⟩, fun d a _ e => by cases e; exact .inl hp⟩
  | dT hp r =>
    rename_i p kvs es
    obtain ⟨k1, k2⟩ := key (w := .dT kvs) (G := F) hp (Same.refl F) (fun c u e => .inl e) (fun c u e => by rw [upd_ne (ne_of_none (o.same _ _ e) hp)]; exact o.same _ _ e)
    exact ⟨k1, k2, ⟨p, rfl, ⟨noF hp, noT hp, .inr ⟨kvs, upd_same, r⟩⟩, noOwn hp⟩, fun d a _ e => by cases e; exact .inl hp⟩
/-- from the step to an operand, then an operation's -/
theorem Post.then (p : Stp T F H σ ρ F1 H1 σ ρ1) (o1 : OK K T F1 H1 σ ρ1) {r : R} {v : V} (q : Post K T F1 H1 σ ρ1 r v F2 H2 ρ2) : Post K T F H σ ρ r v F2 H2 ρ2 := by
  refine ⟨q.ok, p.trans q.stp o1.tabs', q.rr, fun d a e1 e2 => ?_⟩
  rcases q.own d a e1 e2 with z | z
  · by_cases ho : Owns σ ρ a
    · exact .inr ho
    · cases hn : H a with
      | none => exact .inl rfl
      | some u =>
        by_cases ht : a ∈ T
        · obtain ⟨w, hw⟩ := o1.tabs' a ht
          rw [hw] at z; cases z
        · rw [p.keep a u hn ho ht] at z; cases z
  · exact (p.own a z).symm
/-- a value is frozen -/
theorem RR.frozen {r : R} {v : V} {d : D} (x : RR K T F H σ ρ r v) (o : OK K T F H σ ρ) (g : r.frz = some d) (hf : ∀ d a, r = .ow d → v = .ref a → H1 a = none ∨ Owns σ ρ1 a) (s : Stp T F1 H1 σ ρ1 F H σ ρ) :
    ∃ F', OK K T F' H σ ρ ∧ Stp T F1 H1 σ ρ1 F' H σ ρ ∧ Rp K F' v d ∧ Same F F' := by
  cases r with
  | fz e => cases g; exact ⟨F, o, s, x, Same.refl F⟩
  | io i => cases g
  | bo i => cases g
  | ow e =>
    cases g
    obtain ⟨a, rfl, t, n⟩ := x
    have hg : Same F (fun b => if b = a then H a else F b) := fun b w e => by
      have nb : b ≠ a := fun z => by rw [z, t.1] at e; cases e
      show (if b = a then H a else F b) = some w
      rw [if_neg nb]; exact e
    have at_ : (fun b => if b = a then H a else F b) a = H a := if_pos rfl
    refine ⟨_, ⟨fun b w e => ?_, fun P hP => ?_, o.len, fun i d e => ?_, fun i d e => ?_, o.inj⟩, ⟨s.grow.trans hg, s.keep, fun b w e => ?_, s.own⟩, ?_, hg⟩
    · by_cases z : b = a
      · subst z
        have e : (if b = b then H b else F b) = some w := e
        rw [if_pos rfl] at e; exact e
      · have e : (if b = a then H a else F b) = some w := e
        rw [if_neg z] at e; exact o.same _ _ e
    · obtain ⟨h1, h2⟩ := o.tabs P hP
      refine ⟨h1, ?_⟩
      show (if P = a then H a else F P) = none
      rw [if_neg (fun z => t.2.1 (by rw [← z]; exact hP))]; exact h2
    · obtain ⟨v, e1, r⟩ := o.fz i d e
      exact ⟨v, e1, Rp.mono hg _ _ r⟩
    · obtain ⟨b, e1, t'⟩ := o.ow i d e
      have nb : b ≠ a := fun z => n ⟨i, d, e, by rw [← z]; exact e1⟩
      refine ⟨b, e1, t'.step hg ?_ fun w e => e⟩
      show (if b = a then H a else F b) = none
      rw [if_neg nb]; exact t'.1
    · by_cases z : b = a
      · subst z
        exact .inr (hf _ _ rfl rfl)
      · have e : (if b = a then H a else F b) = some w := e
        rw [if_neg z] at e; exact s.new b w e
    · obtain ⟨_, _, m⟩ := t
      cases d with
      | lst ds => obtain ⟨xs, e, r⟩ := m; exact .lst (.of (at_.trans e)) (Rp.monoL hg _ _ r)
      | dct es =>
        rcases m with ⟨kvs, e, r⟩ | ⟨kvs, e, r⟩
        · exact .dK (at_.trans e) (Rp.monoM hg _ _ r)
        · exact .dT (at_.trans e) (Rp.monoN hg _ _ r)
      | _ => exact m.elim
end

section
variable (K : PySem.W.Frag) (T : List Addr) (c : Cl)
def tE (e : E) : TE := fun σ H Q => ∃ F ρ r ρ', OK K T F H σ ρ ∧ evE c e ρ = some (r, ρ') ∧ ∀ v F' H', Post K T F H σ ρ r v F' H' ρ' → Q v H'
structure PostB (F H : Hp) (σ : L2.St) (ρ : Rho) (F' H' : Hp) (ρ' : Rho) : Prop where
  ok : OK K T F' H' σ ρ'
  stp : Stp T F H σ ρ F' H' σ ρ'
def tT (t : NW.T) : TT := fun σ H Q => ∃ F ρ b ρ', OK K T F H σ ρ ∧ evT c t ρ = some (b, ρ') ∧ ∀ F' H', PostB K T F H σ ρ F' H' ρ' → Q b H'
/-- members of a display -/
structure PostL (F H : Hp) (σ : L2.St) (ρ : Rho) (ds : List D) (vs : List V) (F' H' : Hp) (ρ' : Rho) : Prop where
  ok : OK K T F' H' σ ρ'
  stp : Stp T F H σ ρ F' H' σ ρ'
  rp : RpL K F' vs ds
def tEs (es : Es) : TA := fun σ H Q => ∃ F ρ ds ρ', OK K T F H σ ρ ∧ evEs c es ρ = some (ds, ρ') ∧ ∀ vs F' H', PostL K T F H σ ρ ds vs F' H' ρ' → Q vs H'
/-- arguments -/
structure PostA (F H : Hp) (σ : L2.St) (ρ : Rho) (rs : List R) (vs : List V) (F' H' : Hp) (ρ' : Rho) : Prop where
  ok : OK K T F' H' σ ρ'
  stp : Stp T F H σ ρ F' H' σ ρ'
  len : vs.length = rs.length
  rr : ∀ (j : Nat) (r : R) (v : V), rs[j]? = some r → vs[j]? = some v → RR K T F' H' σ ρ' r v
  own : ∀ (j : Nat) (d : D) (a : Addr), rs[j]? = some (R.ow d) → vs[j]? = some (V.ref a) → H a = none ∨ Owns σ ρ a
  apart : ∀ (i j : Nat) (d e : D) (a : Addr), rs[i]? = some (R.ow d) → rs[j]? = some (R.ow e) → vs[i]? = some (V.ref a) → vs[j]? = some (V.ref a) → i = j
def tA (es : Es) : TA := fun σ H Q => ∃ F ρ rs ρ', OK K T F H σ ρ ∧ evA c es ρ = some (rs, ρ') ∧ ∀ vs F' H', PostA K T F H σ ρ rs vs F' H' ρ' → Q vs H'
def tO (o : Oe) : TO := fun σ H Q => ∃ F ρ i ρ', OK K T F H σ ρ ∧ evO c o ρ = some (i, ρ') ∧ ∀ F' H', PostB K T F H σ ρ F' H' ρ' → Q i H'
end

section
variable {K : PySem.W.Frag} {T : List Addr} {c : Cl} {σ : L2.St} {H : Hp} {Q : VK}
theorem tE_o1 {o : O1} {a : E} (h : tE K T c (.o1 o a) σ H Q) : tE K T c a σ H fun x H1 => rD1 K (ap1 o) x H1 Q := by
  obtain ⟨F, ρ, r, ρ', ok, ev, q⟩ := h
  simp only [evE] at ev
  cases e1 : evE c a ρ with
  | none => rw [e1] at ev; cases ev
  | some p =>
    obtain ⟨r1, ρ1⟩ := p
    rw [e1] at ev
    simp only at ev
    refine ⟨F, ρ, r1, ρ1, ok, e1, fun v F' H' P => ?_⟩
    cases g : r1.get ρ1 with
    | none => rw [g] at ev; cases ev
    | some d =>
      rw [g] at ev
      simp only at ev
      cases ha : ap1 o d with
      | none => rw [ha] at ev; cases ev
      | some p =>
        rw [ha] at ev
        cases ev
        exact ⟨F', d, p, P.ok.same, P.rr.read P.ok g, ha, fun w F2 H2 n => q w F2 H2 (Post.then P.stp P.ok (n.post P.ok))⟩
theorem tE_o2 {o : O2} {a b : E} (h : tE K T c (.o2 o a b) σ H Q) : tE K T c a σ H fun x H1 => tE K T c b σ H1 fun y H2 => rD2 K (ap2 o) x y H2 Q := by
  obtain ⟨F, ρ, r, ρ', ok, ev, q⟩ := h
  simp only [evE] at ev
  cases e1 : evE c a ρ with
  | none => rw [e1] at ev; cases ev
  | some p =>
    obtain ⟨r1, ρ1⟩ := p
    rw [e1] at ev
    simp only at ev
    cases e2 : evE c b ρ1 with
    | none => rw [e2] at ev; cases ev
    | some p =>
      obtain ⟨r2, ρ2⟩ := p
      rw [e2] at ev
      simp only at ev
      refine ⟨F, ρ, r1, ρ1, ok, e1, fun v F1 H1 P1 => ⟨F1, ρ1, r2, ρ2, P1.ok, e2, fun w F2 H2 P2 => ?_⟩⟩
      cases g1 : r1.get ρ2 with
      | none => rw [g1] at ev; cases ev
      | some d =>
        cases g2 : r2.get ρ2 with
        | none => rw [g1, g2] at ev; cases ev
        | some e =>
          rw [g1, g2] at ev
          simp only at ev
          cases ha : ap2 o d e with
          | none => rw [ha] at ev; cases ev
          | some p =>
            rw [ha] at ev
            cases ev
            exact ⟨F2, d, e, p, P2.ok.same, (P1.rr.step P2.stp).read P2.ok g1, P2.rr.read P2.ok g2, ha, fun z F3 H3 n => q z F3 H3 (Post.then (P1.stp.trans P2.stp P1.ok.tabs') P2.ok (n.post P2.ok))⟩
end
end NW
namespace NW
open PySem PySem.Spec PyProof.Rows L2

/-- what a def of the small language promises -/
structure CPost (K : PySem.W.Frag) (T : List Addr) (F H : Hp) (vs : List V) (k : Option Nat) (own : Bool) (d : D) (x : Option D) (v : V) (F' H' : Hp) : Prop where
  grow : Same F F'
  same : Same F' H'
  tabs : ∀ P ∈ T, GxR.TabG H' P ∧ F' P = none
  keep : ∀ b o, H b = some o → (∀ j, k = some j → vs[j]? ≠ some (V.ref b)) → b ∉ T → H' b = some o
  new : ∀ b o, F' b = some o → F b = some o ∨ H b = none
  res : if own = true then ∃ a, v = V.ref a ∧ H a = none ∧ Top K T F' H' a d else Rp K F' v d
  io : ∀ j, k = some j → ∃ a d', vs[j]? = some (V.ref a) ∧ x = some d' ∧ Top K T F' H' a d'
def spOf (K : PySem.W.Frag) (T : List Addr) (c : Cl) (f : Nat) (np : Nat) : Sp := fun vs H Q _ => ∃ (F : Hp) (k : Option Nat) (ds : List D) (own : Bool) (d : D) (x : Option D),
  Same F H ∧ (∀ P ∈ T, GxR.TabG H P ∧ F P = none) ∧ vs.length = np ∧ ds.length = np ∧
  (∀ (j : Nat) (v : V) (d : D), vs[j]? = some v → ds[j]? = some d → if k = some j then ∃ a, v = V.ref a ∧ Top K T F H a d else Rp K F v d) ∧
  c f k ds = some (own, d, x) ∧ ∀ v F' H', CPost K T F H vs k own d x v F' H' → Q v H'

def visB (sc : Scope) (x : Str) : Bool := match sc.names.lookup x with
  | some .local => true
  | some .cell => true
  | some .free => true
  | _ => false
def glB (sc : Scope) (x : Str) : Bool := match sc.names.lookup x with
  | some .globalImplicit => true
  | _ => false
def plainB (x : Str) : Bool := !(x == ("__debug__" : Str)) && !(x == ("__classdict__" : Str)) && !(x == ("__name__" : Str))
def notStar : Expr → Bool
  | .Starred _ _ => false
  | _ => true
def notSlice : Expr → Bool
  | .Slice _ _ _ _ => false
  | _ => true
/-- its truth is its value's -/
def plainT : Expr → Bool
  | .UnaryOp .Not _ _ => false
  | .BoolOp _ _ _ => false
  | .IfExp _ _ _ _ => false
  | .Compare _ _ _ _ => false
  | _ => true
theorem vis_of {sc : Scope} {x : Str} (h : visB sc x = true) : Vis sc x := by
  unfold visB at h
  split at h
  · exact .inl (by assumption)
  · exact .inr (.inl (by assumption))
  · exact .inr (.inr (by assumption))
  · cases h
theorem gl_of {X : Cx} {sc : Scope} {x : Str} (hs : X.env.scope = sc) (h : glB sc x = true) : Gl X x := by
  unfold glB at h
  unfold Gl Env.kindOf
  rw [hs]
  split at h
  · assumption
  · cases h
theorem plain_of {x : Str} (h : plainB x = true) : (x == ("__debug__" : Str)) = false ∧ (x == ("__classdict__" : Str)) = false ∧ x ≠ ("__name__" : Str) := by
  unfold plainB at h
  simp only [Bool.and_eq_true, Bool.not_eq_true'] at h
  exact ⟨h.1.1, h.1.2, fun e => by rw [e] at h; simp at h⟩
theorem star_cons {e : Expr} {es : List Expr} {env : Env} (h : notStar e = true) : starEach (e :: es) env = (false, eval e env) :: starEach es env := by
  cases e <;> first | rfl | (simp [notStar] at h)
theorem stars_none {env : Env} : ∀ {es : List Expr}, es.all notStar = true → (starEach es env).any (·.1) = false
  | [], _ => rfl
  | e :: es, h => by
    simp only [List.all_cons, Bool.and_eq_true] at h
    rw [star_cons h.1]
    simp only [List.any_cons, Bool.false_or]
    exact stars_none h.2
theorem back_any {pos : Pos} : ∀ {l : List (Bool × Sem Value)}, l.any (·.1) = false → (backTo pos l).any (·.1) = false
  | [], _ => rfl
  | (b, m) :: r, h => by
    simp only [List.any_cons, Bool.or_eq_false_iff] at h
    unfold backTo
    first
      | (simp only [List.map_cons, List.any_cons, Bool.or_eq_false_iff]; exact ⟨h.1, back_any h.2⟩)
      | (simp only [List.any_cons, Bool.or_eq_false_iff]; exact ⟨h.1, back_any h.2⟩)
      | skip
theorem plainIx_of {b : Expr} (h : notSlice b = true) : PlainIx b := by
  intro o i
  cases b <;> first | rfl | (simp [notSlice] at h)
theorem plainT_of {e : Expr} {env : Env} (h : plainT e = true) (whole : Sem Value) : isTrue e env whole = (do let v ← whole; standAt e.pos; holding [v] (truthy v)) := by
  cases e <;> first
    | rfl
    | (simp [plainT] at h; done)
    | skip
  rename_i op a pos
  cases op <;> first | rfl | (simp [plainT] at h)
end NW
namespace NW
open PySem PySem.Spec PyProof.Rows L2
section
variable {X : Cx} {a b d : Expr} {pos : Pos}
theorem PE.imp {e : Expr} {t t' : TE} (h : PE X e t) (i : ∀ σ H Q, t' σ H Q → t σ H Q) : PE X e t' := ⟨fun pins s σ H Q I q => h.run pins s σ H Q I (i σ H Q q)⟩
theorem PT.imp {e : Expr} {t t' : TT} (h : PT X e t) (i : ∀ σ H Q, t' σ H Q → t σ H Q) : PT X e t' := ⟨fun pins s σ H Q I q => h.run pins s σ H Q I (i σ H Q q)⟩
theorem PW.imp {e : Expr} {t t' : TT} (h : PW X e t) (i : ∀ σ H Q, t' σ H Q → t σ H Q) : PW X e t' := ⟨fun w pins s σ H Q I q => h.run w pins s σ H Q I (i σ H Q q)⟩
theorem PA.imp {es : List Expr} {t t' : TA} (h : PA X es t) (i : ∀ σ H Q, t' σ H Q → t σ H Q) : PA X es t' := ⟨fun p pins s σ H Q I q => h.run p pins s σ H Q I (i σ H Q q)⟩
end

section
variable {K : PySem.W.Frag} {T : List Addr} {F F' H H' : Hp} {σ σ' : L2.St} {ρ ρ' : Rho}
theorem OK.no (o : OK K T F H σ ρ) (i : Nat) : OK K T F H σ (ρ.set i .no) := by
  have get : ∀ (j : Nat) (s : Sl), s ≠ .no → (ρ.set i .no)[j]? = some s → ρ[j]? = some s := fun j s hs e => by
    rw [List.getElem?_set] at e
    split at e
    · split at e
      · cases e; exact (hs rfl).elim
      · cases e
    · exact e
  exact ⟨o.same, o.tabs, by rw [List.length_set]; exact o.len, fun j d e => o.fz j d (get j _ (by simp) e), fun j d e => o.ow j d (get j _ (by simp) e),
    fun j k d e a h1 h2 => o.inj j k d e a (get j _ (by simp) h1) (get k _ (by simp) h2)⟩
theorem own_no {i : Nat} {a : Addr} (h : Owns σ (ρ.set i .no) a) : Owns σ ρ a := by
  obtain ⟨j, d, e, q⟩ := h
  rw [List.getElem?_set] at e
  split at e
  · split at e
    · cases e
    · cases e
  · exact ⟨j, d, e, q⟩
/-- the slot's own object becomes shared -/
theorem var_post {i : Nat} {d : D} {v : V} (o : OK K T F H σ ρ) (h : ρ[i]? = some (.ow d)) (hv : σ[i]? = some (some v)) : ∃ F', Post K T F H σ ρ (.fz d) v F' H (ρ.set i (.fz d)) := by
  obtain ⟨a, e1, t⟩ := o.ow i d h
  rw [hv] at e1
  cases e1
  have o1 := o.no i
  have nO : ¬ Owns σ (ρ.set i .no) a := fun ⟨j, e, g1, g2⟩ => by
    rw [List.getElem?_set] at g1
    split at g1
    · split at g1
      · cases g1
      · cases g1
    · rename_i nij
      exact nij (o.inj i j d e a h g1 hv g2)
  have st : Stp T F H σ ρ F H σ (ρ.set i .no) := ⟨Same.refl F, fun _ _ e _ _ => e, fun _ _ e => .inl e, fun _ q => .inl (own_no q)⟩
  obtain ⟨F', k1, k2, k3, k4⟩ := RR.frozen (K := K) (r := .ow d) (v := .ref a) ⟨a, rfl, t, nO⟩ o1 rfl (H1 := H) (σ := σ) (ρ1 := ρ) (F1 := F) (fun d' a' _ e => by
    cases e
    exact .inr ⟨i, d, h, hv⟩) st
  have hi : i < ρ.length := (List.getElem?_eq_some_iff.mp h).1
  have get : ∀ (j : Nat) (s : Sl), (ρ.set i (.fz d))[j]? = some s → (j = i ∧ s = .fz d) ∨ (ρ.set i .no)[j]? = some s ∧ j ≠ i := fun j s e => by
    by_cases z : i = j
    · subst z
      rw [List.getElem?_set_self hi] at e
      cases e
      exact .inl ⟨rfl, rfl⟩
    · rw [List.getElem?_set_ne z] at e
      exact .inr ⟨by rw [List.getElem?_set_ne z]; exact e, fun q => z q.symm⟩
  refine ⟨F', ⟨⟨k1.same, k1.tabs, by rw [List.length_set]; exact o.len, fun j e q => ?_, fun j e q => ?_, fun j k e e' a' q1 q2 q3 q4 => ?_⟩, ⟨k2.grow, k2.keep, k2.new, fun a' q => ?_⟩, k3, fun d' a' e => by cases e⟩⟩
  · rcases get j _ q with ⟨rfl, z⟩ | ⟨z, _⟩
    · cases z
      exact ⟨_, hv, k3⟩
    · exact k1.fz j e z
  · rcases get j _ q with ⟨rfl, z⟩ | ⟨z, _⟩
    · cases z
    · exact k1.ow j e z
  · rcases get j _ q1 with ⟨rfl, z1⟩ | ⟨z1, _⟩
    · cases z1
    · rcases get k _ q2 with ⟨rfl, z2⟩ | ⟨z2, _⟩
      · cases z2
      · exact k1.inj j k e e' a' z1 z2 q3 q4
  · obtain ⟨j, e, q1, q2⟩ := q
    rcases get j _ q1 with ⟨rfl, z1⟩ | ⟨z1, _⟩
    · cases z1
    · exact k2.own a' ⟨j, e, z1, q2⟩
theorem mv_post {i : Nat} {d : D} {v : V} (o : OK K T F H σ ρ) (h : ρ[i]? = some (.ow d)) (hv : σ[i]? = some (some v)) : Post K T F H σ ρ (.ow d) v F H (ρ.set i .no) := by
  obtain ⟨a, e1, t⟩ := o.ow i d h
  rw [hv] at e1
  cases e1
  refine ⟨o.no i, ⟨Same.refl F, fun _ _ e _ _ => e, fun _ _ e => .inl e, fun _ q => .inl (own_no q)⟩, ⟨a, rfl, t, fun ⟨j, e, g1, g2⟩ => ?_⟩, fun d' a' e1 e2 => ?_⟩
  · rw [List.getElem?_set] at g1
    split at g1
    · split at g1
      · cases g1
      · cases g1
    · rename_i nij
      exact nij (o.inj i j d e a h g1 hv g2)
  · cases e2
    exact .inr ⟨i, d, h, hv⟩
theorem Post.same (o : OK K T F H σ ρ) {r : R} {v : V} (h : RR K T F H σ ρ r v) (n : ∀ d, r ≠ .ow d) : Post K T F H σ ρ r v F H ρ := ⟨o, Stp.refl, h, fun d a e => (n d e).elim⟩
end

section
variable {X : Cx} {T : List Addr} {c : Cl} {pos : Pos}
theorem e_int {i : Int} {j : Nat} : PE X (.Constant (.int i) j pos) (tE X.K T c (.cst (.int i))) := by
  refine PE.imp pe_int fun σ H Q ⟨F, ρ, r, ρ', ok, ev, q⟩ => ?_
  simp only [evE] at ev
  cases ev
  exact q _ _ _ (Post.same ok (.int i) (by simp))
theorem e_bl {i : Bool} {j : Nat} : PE X (.Constant (.bool i) j pos) (tE X.K T c (.cst (.bl i))) := by
  refine PE.imp pe_bl fun σ H Q ⟨F, ρ, r, ρ', ok, ev, q⟩ => ?_
  simp only [evE] at ev
  cases ev
  exact q _ _ _ (Post.same ok (.bl i) (by simp))
theorem e_non {j : Nat} : PE X (.Constant .none j pos) (tE X.K T c (.cst .non)) := by
  refine PE.imp pe_non fun σ H Q ⟨F, ρ, r, ρ', ok, ev, q⟩ => ?_
  simp only [evE] at ev
  cases ev
  exact q _ _ _ (Post.same ok .non (by simp))
theorem e_str {s : List Nat} {j : Nat} : PE X (.Constant (.str (toS s)) j pos) (tE X.K T c (.cst (.str s))) := by
  refine PE.imp pe_str fun σ H Q ⟨F, ρ, r, ρ', ok, ev, q⟩ => ?_
  simp only [evE] at ev
  cases ev
  exact q _ _ _ (Post.same ok (.str s) (by simp))
theorem fz_name {i : Nat} {d : D} {F H : Hp} {σ : L2.St} {ρ : Rho} {Q : VK} (ok : OK X.K T F H σ ρ) (e : ρ[i]? = some (.fz d)) (q : ∀ v F' H', Post X.K T F H σ ρ (.fz d) v F' H' ρ → Q v H') : tVar i σ H Q := by
  obtain ⟨v, h1, h2⟩ := ok.fz i d e
  exact ⟨v, h1, q v F H (Post.same ok h2 (by simp))⟩
section
variable {x : Str} {i : Nat} (hN : X.N[i]? = some x) (hv : Vis X.env.scope x) (hd : (x == ("__debug__" : Str)) = false) (hcd : (x == ("__classdict__" : Str)) = false)
include hN hv hd hcd
theorem e_var : PE X (.Name x pos) (tE X.K T c (.var i)) := by
  refine PE.imp (pe_var hN hv hd hcd) fun σ H Q ⟨F, ρ, r, ρ', ok, ev, q⟩ => ?_
  simp only [evE] at ev
  cases e : ρ[i]? with
  | none => rw [e] at ev; cases ev
  | some s =>
    rw [e] at ev
    cases s with
    | no => cases ev
    | fz d =>
      cases ev
      exact fz_name ok e q
    | ow d =>
      cases ev
      obtain ⟨a, h1, _⟩ := ok.ow i d e
      obtain ⟨F', p⟩ := var_post ok e h1
      exact ⟨_, h1, q _ _ _ p⟩
theorem e_mv : PE X (.Name x pos) (tE X.K T c (.mv i)) := by
  refine PE.imp (pe_var hN hv hd hcd) fun σ H Q ⟨F, ρ, r, ρ', ok, ev, q⟩ => ?_
  simp only [evE] at ev
  cases e : ρ[i]? with
  | none => rw [e] at ev; cases ev
  | some s =>
    rw [e] at ev
    cases s with
    | no => cases ev
    | fz d =>
      cases ev
      exact fz_name ok e q
    | ow d =>
      cases ev
      obtain ⟨a, h1, _⟩ := ok.ow i d e
      exact ⟨_, h1, q _ _ _ (mv_post ok e h1)⟩
theorem e_peek : PE X (.Name x pos) (tE X.K T c (.peek i)) := by
  refine PE.imp (pe_var hN hv hd hcd) fun σ H Q ⟨F, ρ, r, ρ', ok, ev, q⟩ => ?_
  simp only [evE] at ev
  cases e : ρ[i]? with
  | none => rw [e] at ev; cases ev
  | some s =>
    rw [e] at ev
    cases s with
    | no => cases ev
    | fz d =>
      cases ev
      exact fz_name ok e q
    | ow d =>
      cases ev
      obtain ⟨a, h1, _⟩ := ok.ow i d e
      exact ⟨_, h1, q _ _ _ (Post.same ok h1 (by simp))⟩
end
theorem e_glo {x : Str} {u : Value} {v : V} {d : D} (hg : Gl X x) (hm : X.mg x = some u) (r : RelV v u) (hr : ∀ F, Rp X.K F v d) (hd : (x == ("__debug__" : Str)) = false) : PE X (.Name x pos) (tE X.K T c (.glo d)) := by
  refine PE.imp (pe_glob hg hm r hd) fun σ H Q ⟨F, ρ, r, ρ', ok, ev, q⟩ => ?_
  simp only [evE] at ev
  cases ev
  exact q _ _ _ (Post.same ok (hr F) (by simp))

variable {a b d : Expr} {ea eb ed : E}
theorem e_bin {op : Operator} {o : O2} (ho : OpR X (binaryOp op) (rD2 X.K (ap2 o))) (ha : PE X a (tE X.K T c ea)) (hb : PE X b (tE X.K T c eb)) : PE X (.BinOp a op b pos) (tE X.K T c (.o2 o ea eb)) :=
  PE.imp (pe_op ho ha hb) fun _ _ _ h => tE_o2 h
theorem e_neg (ha : PE X a (tE X.K T c ea)) : PE X (.UnaryOp .USub a pos) (tE X.K T c (.o1 .neg ea)) :=
  PE.imp (pe_un neg_ok ha) fun _ _ _ h => tE_o1 h
theorem e_cmp {op : CmpOp} {o : O2} (ho : OpR X (compareOp op) (rD2 X.K (ap2 o))) (ha : PE X a (tE X.K T c ea)) (hb : PE X b (tE X.K T c eb)) (hm : behindInMarks op b = false) : PE X (.Compare a [op] [b] pos) (tE X.K T c (.o2 o ea eb)) :=
  PE.imp (pe_cmpR ho ha hb hm) fun _ _ _ h => tE_o2 h
/-- a test by its value's truth -/
def tTr (K : PySem.W.Frag) (t : TE) : TT := fun σ H Q => t σ H fun x H1 => ∃ k, TruV K x H1 k ∧ Q k H1
theorem tE_mono {K : PySem.W.Frag} {e : E} {σ : L2.St} {H : Hp} {Q Q' : VK} (h : tE K T c e σ H Q) (i : ∀ v H', Q v H' → Q' v H') : tE K T c e σ H Q' := by
  obtain ⟨F, ρ, r, ρ', ok, ev, q⟩ := h
  exact ⟨F, ρ, r, ρ', ok, ev, fun v F' H' P => i _ _ (q v F' H' P)⟩
theorem rD2_bl {K : PySem.W.Frag} {f : D → D → Option (Bool × D)} (hf : ∀ d e p, f d e = some p → ∃ b, p = (false, .bl b)) {x y : V} {H : Hp} {Q : Bool → Hp → Prop}
    (h : rD2 K f x y H fun z H1 => ∃ k, TruV K z H1 k ∧ Q k H1) : rD2 K f x y H fun z H1 => ∃ k, z = .bl k ∧ Q k H1 := by
  obtain ⟨F, d, e, p, sm, rx, ry, hp, q⟩ := h
  obtain ⟨b, rfl⟩ := hf d e p hp
  refine ⟨F, d, e, _, sm, rx, ry, hp, fun v F' H' n => ?_⟩
  have hq := q v F' H' n
  cases n with
  | val r =>
    cases r
    obtain ⟨k, e, q2⟩ := hq
    have e : k = b := e
    subst e
    exact ⟨_, rfl, q2⟩
theorem t_cmp {op : CmpOp} {o : O2} (ho : OpR X (compareOp op) (rD2 X.K (ap2 o))) (hf : ∀ d e p, ap2 o d e = some p → ∃ b, p = (false, .bl b)) (ha : PE X a (tE X.K T c ea)) (hb : PE X b (tE X.K T c eb)) (hm : behindInMarks op b = false) :
    PT X (.Compare a [op] [b] pos) (tTr X.K (tE X.K T c (.o2 o ea eb))) :=
  PT.imp (pt_cmpR ho ha hb hm) fun σ H Q h => tE_mono (tE_o2 h) fun x H1 h1 => tE_mono h1 fun y H2 h2 => rD2_bl hf h2
theorem cmp_bl {o : O2} (h : o = .lt ∨ o = .le ∨ o = .gt ∨ o = .ge ∨ o = .eq ∨ o = .ne ∨ o = .isin ∨ o = .notin) : ∀ d e p, ap2 o d e = some p → ∃ b, p = (false, .bl b) := by
  intro d e p hp
  have key : ∀ (o : O2), cmpD o d e = some p → ∃ b, p = (false, .bl b) := fun o h => by
    cases d <;> cases e <;> simp only [cmpD] at h <;> try cases h
    · exact ⟨_, rfl⟩
    · split at h
      · cases h; exact ⟨_, rfl⟩
      · cases h
  rcases h with rfl | rfl | rfl | rfl | rfl | rfl | rfl | rfl
  · exact key .lt (by cases d <;> cases e <;> exact hp)
  · exact key .le (by cases d <;> cases e <;> exact hp)
  · exact key .gt (by cases d <;> cases e <;> exact hp)
  · exact key .ge (by cases d <;> cases e <;> exact hp)
  · obtain ⟨b, _, e⟩ := ap_eq hp; exact ⟨_, e⟩
  · obtain ⟨b, _, e⟩ := ap_ne hp; exact ⟨_, e⟩
  · have hp : (match inD d e with | some b => b1 b | none => none) = some p := by cases d <;> exact hp
    cases q : inD d e with
    | none => rw [q] at hp; cases hp
    | some b => rw [q] at hp; cases hp; exact ⟨_, rfl⟩
  · have hp : (match inD d e with | some b => b1 (!b) | none => none) = some p := by cases d <;> exact hp
    cases q : inD d e with
    | none => rw [q] at hp; cases hp
    | some b => rw [q] at hp; cases hp; exact ⟨_, rfl⟩
/-- x is None -/
theorem e_isN {j : Nat} {p2 : Pos} (ha : PE X a (tE X.K T c ea)) : PE X (.Compare a [.Is] [.Constant .none j p2] pos) (tE X.K T c (.o1 .isN ea)) :=
  PE.imp (pe_cmpR isN_ok ha pe_non rfl) fun σ H Q h => tE_mono (tE_o1 h) fun x H1 h1 => ⟨rfl, h1⟩
theorem e_notN {j : Nat} {p2 : Pos} (ha : PE X a (tE X.K T c ea)) : PE X (.Compare a [.IsNot] [.Constant .none j p2] pos) (tE X.K T c (.o1 .notN ea)) :=
  PE.imp (pe_cmpR notN_ok ha pe_non rfl) fun σ H Q h => tE_mono (tE_o1 h) fun x H1 h1 => ⟨rfl, h1⟩
theorem rD1_bl {K : PySem.W.Frag} {f : D → Option (Bool × D)} (hf : ∀ d p, f d = some p → ∃ b, p = (false, .bl b)) {x : V} {H : Hp} {Q : Bool → Hp → Prop}
    (h : rD1 K f x H fun z H1 => ∃ k, TruV K z H1 k ∧ Q k H1) : rD1 K f x H fun z H1 => ∃ k, z = .bl k ∧ Q k H1 := by
  obtain ⟨F, d, p, sm, rx, hp, q⟩ := h
  obtain ⟨b, rfl⟩ := hf d p hp
  refine ⟨F, d, _, sm, rx, hp, fun v F' H' n => ?_⟩
  have hq := q v F' H' n
  cases n with
  | val r =>
    cases r
    obtain ⟨k, e, q2⟩ := hq
    have e : k = b := e
    subst e
    exact ⟨_, rfl, q2⟩
theorem t_isN {j : Nat} {p2 : Pos} (ha : PE X a (tE X.K T c ea)) : PT X (.Compare a [.Is] [.Constant .none j p2] pos) (tTr X.K (tE X.K T c (.o1 .isN ea))) :=
  PT.imp (pt_cmpR isN_ok ha pe_non rfl) fun σ H Q h => tE_mono (tE_o1 h) fun x H1 h1 => ⟨rfl, rD1_bl (by intro d p h; cases d <;> simp only [ap1] at h <;> cases h <;> exact ⟨_, rfl⟩) h1⟩
theorem t_notN {j : Nat} {p2 : Pos} (ha : PE X a (tE X.K T c ea)) : PT X (.Compare a [.IsNot] [.Constant .none j p2] pos) (tTr X.K (tE X.K T c (.o1 .notN ea))) :=
  PT.imp (pt_cmpR notN_ok ha pe_non rfl) fun σ H Q h => tE_mono (tE_o1 h) fun x H1 h1 => ⟨rfl, rD1_bl (by intro d p h; cases d <;> simp only [ap1] at h <;> cases h <;> exact ⟨_, rfl⟩) h1⟩
theorem e_idx (ha : PE X a (tE X.K T c ea)) (hb : PE X b (tE X.K T c eb)) (hs : PlainIx b) : PE X (.Subscript a b pos) (tE X.K T c (.o2 .idx ea eb)) :=
  PE.imp (pe_ix ix_ok ha hb hs) fun _ _ _ h => tE_o2 h

theorem emp_len (s : List Nat) : (!s.isEmpty) = ((s.length : Int) != 0) := by
  cases s with
  | nil => rfl
  | cons x xs =>
    have h : ((x :: xs).length : Int) ≠ 0 := by
      rw [List.length_cons]
      omega
    rw [bne_iff_ne.mpr h]
    rfl
theorem t_val {e : Expr} {ee : E} (h : PT X e (tTr X.K (tE X.K T c ee))) : PT X e (tT X.K T c (.val ee)) := by
  refine PT.imp h fun σ H Q ⟨F, ρ, k, ρ', ok, ev, q⟩ => ?_
  simp only [evT] at ev
  cases e1 : evE c ee ρ with
  | none => rw [e1] at ev; cases ev
  | some p =>
    obtain ⟨r, ρ1⟩ := p
    rw [e1] at ev
    simp only at ev
    cases g : r.get ρ1 with
    | none => rw [g] at ev; cases ev
    | some d =>
      rw [g] at ev
      simp only at ev
      cases ht : truth d with
      | none => rw [ht] at ev; cases ev
      | some k' =>
        rw [ht] at ev
        cases ev
        refine ⟨F, ρ, r, _, ok, e1, fun v F' H' P => ⟨_, ?_, q F' H' ⟨P.ok, P.stp⟩⟩⟩
        have rd := P.rr.read P.ok g
        cases d <;> simp only [truth] at ht <;> try cases ht
        · rw [rd.non]; rfl
        · rw [rd.bl]; rfl
        · rw [rd.int]; rfl
        · split at ht
          · rename_i hl
            cases ht
            rw [rd.str]
            refine ⟨by rw [toS_length, line24]; exact hl, ?_⟩
            rw [toS_length]
            exact emp_len _
          · cases ht
        · obtain ⟨w, xs, rfl, _, hx, lx⟩ := rd.tupE P.ok.same
          refine .inr (.inl ⟨xs, hx, ?_⟩)
          cases lx <;> rfl
        · obtain ⟨w, xs, rfl, hx, lx⟩ := rd
          refine .inl ⟨xs, hx, ?_⟩
          cases lx <;> rfl
theorem t_truth {e : Expr} {ee : E} (h : PE X e (tE X.K T c ee)) (hp : plainT e = true) : PT X e (tTr X.K (tE X.K T c ee)) := pt_truth h (plainT_of hp)
end
end NW
namespace NW
open PySem PySem.Spec PyProof.Rows L2
section
variable {X : Cx} {T : List Addr} {c : Cl} {pos : Pos} {a b d : Expr} {ea eb ed : E} {ta tb : NW.T}
theorem pw_of_pt {op : BoolOp} {es : List Expr} {t : TT} (h : PT X (.BoolOp op es pos) t) : PW X (.BoolOp op es pos) t := ⟨fun w pins s σ H Q I q => h.run pins s σ H Q I q⟩
theorem tT_and {σ : L2.St} {H : Hp} {Q : Bool → Hp → Prop} (h : tT X.K T c (.and_ ta tb) σ H Q) : tAnd (tT X.K T c ta) (tT X.K T c tb) σ H Q := by
  obtain ⟨F, ρ, k, ρ', ok, ev, q⟩ := h
  simp only [evT] at ev
  cases e1 : evT c ta ρ with
  | none => rw [e1] at ev; cases ev
  | some p =>
    obtain ⟨b1, ρ1⟩ := p
    rw [e1] at ev
    refine ⟨F, ρ, b1, ρ1, ok, e1, fun F1 H1 P1 => ?_⟩
    cases b1 with
    | true =>
      refine iteT ⟨F1, ρ1, k, ρ', P1.ok, ev, fun F2 H2 P2 => q F2 H2 ⟨P2.ok, P1.stp.trans P2.stp P1.ok.tabs'⟩⟩
    | false =>
      cases ev
      exact iteF (q F1 H1 P1)
theorem tT_or {σ : L2.St} {H : Hp} {Q : Bool → Hp → Prop} (h : tT X.K T c (.or_ ta tb) σ H Q) : tOr (tT X.K T c ta) (tT X.K T c tb) σ H Q := by
  obtain ⟨F, ρ, k, ρ', ok, ev, q⟩ := h
  simp only [evT] at ev
  cases e1 : evT c ta ρ with
  | none => rw [e1] at ev; cases ev
  | some p =>
    obtain ⟨b1, ρ1⟩ := p
    rw [e1] at ev
    refine ⟨F, ρ, b1, ρ1, ok, e1, fun F1 H1 P1 => ?_⟩
    cases b1 with
    | true =>
      cases ev
      exact iteT (q F1 H1 P1)
    | false =>
      refine iteF ⟨F1, ρ1, k, ρ', P1.ok, ev, fun F2 H2 P2 => q F2 H2 ⟨P2.ok, P1.stp.trans P2.stp P1.ok.tabs'⟩⟩
theorem t_not (h : PT X a (tT X.K T c ta)) : PT X (.UnaryOp .Not a pos) (tT X.K T c (.not_ ta)) := by
  refine PT.imp (pt_not h) fun σ H Q ⟨F, ρ, k, ρ', ok, ev, q⟩ => ?_
  simp only [evT] at ev
  cases e1 : evT c ta ρ with
  | none => rw [e1] at ev; cases ev
  | some p =>
    obtain ⟨b1, ρ1⟩ := p
    rw [e1] at ev
    cases ev
    exact ⟨F, ρ, b1, _, ok, e1, q⟩
theorem t_and2 (ha : PT X a (tT X.K T c ta)) (hb : PT X b (tT X.K T c tb)) : PT X (.BoolOp .And [a, b] pos) (tT X.K T c (.and_ ta tb)) :=
  PT.imp (PW.pt (pw_and ha (pw_and1 hb))) fun _ _ _ h => tT_and h
theorem t_and {e : Expr} {es : List Expr} (ha : PT X a (tT X.K T c ta)) (hb : PT X (.BoolOp .And (b :: e :: es) pos) (tT X.K T c tb)) : PT X (.BoolOp .And (a :: b :: e :: es) pos) (tT X.K T c (.and_ ta tb)) :=
  PT.imp (PW.pt (pw_and ha (pw_of_pt hb))) fun _ _ _ h => tT_and h
theorem t_or2 (ha : PT X a (tT X.K T c ta)) (hb : PT X b (tT X.K T c tb)) : PT X (.BoolOp .Or [a, b] pos) (tT X.K T c (.or_ ta tb)) :=
  PT.imp (PW.pt (pw_or ha (pw_or1 hb))) fun _ _ _ h => tT_or h
theorem t_or {e : Expr} {es : List Expr} (ha : PT X a (tT X.K T c ta)) (hb : PT X (.BoolOp .Or (b :: e :: es) pos) (tT X.K T c tb)) : PT X (.BoolOp .Or (a :: b :: e :: es) pos) (tT X.K T c (.or_ ta tb)) :=
  PT.imp (PW.pt (pw_or ha (pw_of_pt hb))) fun _ _ _ h => tT_or h

theorem tE_andor {K : PySem.W.Frag} {σ : L2.St} {H : Hp} {Q : VK} {F F1 H1 : Hp} {ρ ρ1 ρ' : Rho} {r : R} {e : E} (P : PostB K T F H σ ρ F1 H1 ρ1) (ev : evE c e ρ1 = some (r, ρ')) (q : ∀ v F' H', Post K T F H σ ρ r v F' H' ρ' → Q v H') : tE K T c e σ H1 Q :=
  ⟨F1, ρ1, r, ρ', P.ok, ev, fun v F2 H2 P2 => q v F2 H2 (Post.then P.stp P.ok P2)⟩
theorem e_and {es : List Expr} (ha : PE X a (tE X.K T c ea)) (hb : PE X (.BoolOp .And (b :: es) pos) (tE X.K T c eb)) : PE X (.BoolOp .And (a :: b :: es) pos) (tE X.K T c (.and_ ea eb)) := by
  refine PE.imp (pe_and ha hb) fun σ H Q ⟨F, ρ, r, ρ', ok, ev, q⟩ => ?_
  simp only [evE] at ev
  cases e1 : evE c ea ρ with
  | none => rw [e1] at ev; cases ev
  | some p =>
    obtain ⟨r1, ρ1⟩ := p
    rw [e1] at ev
    refine ⟨F, ρ, r1, ρ1, ok, e1, fun v F1 H1 P1 => ?_⟩
    have key : ∃ k, r1 = .fz (.bl k) := by
      rcases r1 with (_ | k | _ | _ | _ | _ | _) | _ | _ | _ <;> first | exact ⟨_, rfl⟩ | (simp at ev; done)
    obtain ⟨k, rfl⟩ := key
    have e2 := P1.rr
    have e2 : Rp X.K F1 v (.bl k) := e2
    rw [e2.blE]
    refine ⟨k, rfl, ?_⟩
    cases k with
    | true => exact iteT (tE_andor ⟨P1.ok, P1.stp⟩ ev q)
    | false =>
      cases ev
      exact iteF (q _ _ _ ⟨P1.ok, P1.stp, .bl false, fun d a e => by cases e⟩)
theorem e_or {es : List Expr} (ha : PE X a (tE X.K T c ea)) (hb : PE X (.BoolOp .Or (b :: es) pos) (tE X.K T c eb)) : PE X (.BoolOp .Or (a :: b :: es) pos) (tE X.K T c (.or_ ea eb)) := by
  refine PE.imp (pe_or ha hb) fun σ H Q ⟨F, ρ, r, ρ', ok, ev, q⟩ => ?_
  simp only [evE] at ev
  cases e1 : evE c ea ρ with
  | none => rw [e1] at ev; cases ev
  | some p =>
    obtain ⟨r1, ρ1⟩ := p
    rw [e1] at ev
    refine ⟨F, ρ, r1, ρ1, ok, e1, fun v F1 H1 P1 => ?_⟩
    have key : ∃ k, r1 = .fz (.bl k) := by
      rcases r1 with (_ | k | _ | _ | _ | _ | _) | _ | _ | _ <;> first | exact ⟨_, rfl⟩ | (simp at ev; done)
    obtain ⟨k, rfl⟩ := key
    have e2 := P1.rr
    have e2 : Rp X.K F1 v (.bl k) := e2
    rw [e2.blE]
    refine ⟨k, rfl, ?_⟩
    cases k with
    | false => exact iteF (tE_andor ⟨P1.ok, P1.stp⟩ ev q)
    | true =>
      cases ev
      exact iteT (q _ _ _ ⟨P1.ok, P1.stp, .bl true, fun d a e => by cases e⟩)
theorem e_one {op : BoolOp} (ha : PE X a (tE X.K T c ea)) : PE X (.BoolOp op [a] pos) (tE X.K T c ea) := pe_one ha
theorem e_not (ha : PE X a (tE X.K T c ea)) : PE X (.UnaryOp .Not a pos) (tE X.K T c (.not_ ea)) := by
  refine PE.imp (pe_not ha) fun σ H Q ⟨F, ρ, r, ρ', ok, ev, q⟩ => ?_
  simp only [evE] at ev
  cases e1 : evE c ea ρ with
  | none => rw [e1] at ev; cases ev
  | some p =>
    obtain ⟨r1, ρ1⟩ := p
    rw [e1] at ev
    refine ⟨F, ρ, r1, ρ1, ok, e1, fun v F1 H1 P1 => ?_⟩
    have key : ∃ k, r1 = .fz (.bl k) := by
      rcases r1 with (_ | k | _ | _ | _ | _ | _) | _ | _ | _ <;> first | exact ⟨_, rfl⟩ | (simp at ev; done)
    obtain ⟨k, rfl⟩ := key
    cases ev
    have e2 : Rp X.K F1 v (.bl k) := P1.rr
    rw [e2.blE]
    exact ⟨k, rfl, q _ _ _ ⟨P1.ok, P1.stp, .bl _, fun d a e => by cases e⟩⟩
theorem e_ite {t : Expr} (ht : PT X t (tT X.K T c ta)) (ha : PE X a (tE X.K T c ea)) (hb : PE X b (tE X.K T c eb)) : PE X (.IfExp t a b pos) (tE X.K T c (.ite ta ea eb)) := by
  refine PE.imp (pe_ifExp ht ha hb) fun σ H Q ⟨F, ρ, r, ρ', ok, ev, q⟩ => ?_
  simp only [evE] at ev
  cases e1 : evT c ta ρ with
  | none => rw [e1] at ev; cases ev
  | some p =>
    obtain ⟨k, ρ1⟩ := p
    rw [e1] at ev
    refine ⟨F, ρ, k, ρ1, ok, e1, fun F1 H1 P1 => ?_⟩
    cases k with
    | true => exact iteT (tE_andor P1 ev q)
    | false => exact iteF (tE_andor P1 ev q)
theorem e_chain {op op' : CmpOp} {o p : O2} (ho : OpR X (compareOp op) (rD2 X.K (ap2 o))) (hp : OpR X (compareOp op') (rD2 X.K (ap2 p))) (ha : PE X a (tE X.K T c ea)) (hb : PE X b (tE X.K T c eb)) (hd : PE X d (tE X.K T c ed))
    (hm : lastMarks [op, op'] [b, d] = false) : PE X (.Compare a [op, op'] [b, d] pos) (tE X.K T c (.chain o p ea eb ed)) ∧ PT X (.Compare a [op, op'] [b, d] pos) (tTr X.K (tE X.K T c (.chain o p ea eb ed))) := by
  have key : ∀ (σ : L2.St) (H : Hp) (Q : VK), tE X.K T c (.chain o p ea eb ed) σ H Q → tChain (rD2 X.K (ap2 o)) (rD2 X.K (ap2 p)) (tE X.K T c ea) (tE X.K T c eb) (tE X.K T c ed) σ H fun z H1 => ∃ k, z = .bl k ∧ Q (.bl k) H1 := by
    intro σ H Q ⟨F, ρ, r, ρ', ok, ev, q⟩
    simp only [evE] at ev
    cases e1 : evE c ea ρ with
    | none => rw [e1] at ev; cases ev
    | some z =>
      obtain ⟨r1, ρ1⟩ := z
      rw [e1] at ev
      simp only at ev
      cases e2 : evE c eb ρ1 with
      | none => rw [e2] at ev; cases ev
      | some z =>
        obtain ⟨r2, ρ2⟩ := z
        rw [e2] at ev
        simp only at ev
        refine ⟨F, ρ, r1, ρ1, ok, e1, fun v F1 H1 P1 => ⟨F1, ρ1, r2, ρ2, P1.ok, e2, fun w F2 H2 P2 => ?_⟩⟩
        cases g1 : r1.get ρ2 with
        | none => rw [g1] at ev; cases ev
        | some x =>
          cases g2 : r2.get ρ2 with
          | none => rw [g1, g2] at ev; cases ev
          | some y =>
            rw [g1, g2] at ev
            simp only at ev
            have st2 := P1.stp.trans P2.stp P1.ok.tabs'
            cases h1 : ap2 o x y with
            | none => rw [h1] at ev; cases ev
            | some pr =>
              rw [h1] at ev
              refine ⟨F2, x, y, pr, P2.ok.same, (P1.rr.step P2.stp).read P2.ok g1, P2.rr.read P2.ok g2, h1, fun z F3 H3 n => ?_⟩
              obtain ⟨fr, u⟩ := pr
              have key : ∃ k, u = .bl k ∧ fr = fr := by
                rcases u with _ | k | _ | _ | _ | _ | _ <;> first | exact ⟨_, rfl, rfl⟩ | (simp at ev; done)
              obtain ⟨k, rfl, _⟩ := key
              cases n with
              | val rz =>
                cases rz
                refine ⟨k, rfl, ?_⟩
                cases k with
                | false =>
                  cases ev
                  exact iteF ⟨false, rfl, q _ _ _ ⟨P2.ok, st2, .bl false, fun d a e => by cases e⟩⟩
                | true =>
                  refine iteT ?_
                  simp only at ev
                  cases e3 : evE c ed ρ2 with
                  | none => rw [e3] at ev; cases ev
                  | some z =>
                    obtain ⟨r3, ρ3⟩ := z
                    rw [e3] at ev
                    simp only at ev
                    refine ⟨F2, ρ2, r3, ρ3, P2.ok, e3, fun w3 F4 H4 P4 => ?_⟩
                    cases g3 : r2.get ρ3 with
                    | none => rw [g3] at ev; cases ev
                    | some y' =>
                      cases g4 : r3.get ρ3 with
                      | none => rw [g3, g4] at ev; cases ev
                      | some z' =>
                        rw [g3, g4] at ev
                        simp only at ev
                        cases h2 : ap2 p y' z' with
                        | none => rw [h2] at ev; cases ev
                        | some pr =>
                          rw [h2] at ev
                          obtain ⟨fr, u⟩ := pr
                          have key : ∃ k, u = .bl k := by
                            rcases u with _ | k | _ | _ | _ | _ | _ <;> first | exact ⟨_, rfl⟩ | (simp at ev; done)
                          obtain ⟨k, rfl⟩ := key
                          cases ev
                          refine ⟨F4, y', z', _, P4.ok.same, (P2.rr.step P4.stp).read P4.ok g3, P4.rr.read P4.ok g4, h2, fun z F5 H5 n => ?_⟩
                          cases n with
                          | val rz =>
                            cases rz
                            exact ⟨k, rfl, q _ _ _ ⟨P4.ok, st2.trans P4.stp P2.ok.tabs', .bl k, fun d a e => by cases e⟩⟩
  have mono : ∀ (σ : L2.St) (H : Hp) (Q Q' : VK), (∀ v H', Q v H' → Q' v H') → tChain (rD2 X.K (ap2 o)) (rD2 X.K (ap2 p)) (tE X.K T c ea) (tE X.K T c eb) (tE X.K T c ed) σ H Q → tChain (rD2 X.K (ap2 o)) (rD2 X.K (ap2 p)) (tE X.K T c ea) (tE X.K T c eb) (tE X.K T c ed) σ H Q' := by
    intro σ H Q Q' i h
    refine tE_mono h fun v H1 h1 => tE_mono h1 fun w H2 ⟨F, d, e, p, sm, rx, ry, hp, q⟩ => ⟨F, d, e, p, sm, rx, ry, hp, fun z F' H' n => ?_⟩
    obtain ⟨k, e, q2⟩ := q z F' H' n
    refine ⟨k, e, ?_⟩
    cases k with
    | false => exact iteF (i _ _ (by rw [if_neg Bool.false_ne_true] at q2; exact q2))
    | true =>
      rw [if_pos rfl] at q2
      refine iteT (tE_mono q2 fun v H1 ⟨F, d, e, p, sm, rx, ry, hp, q⟩ => ⟨F, d, e, p, sm, rx, ry, hp, fun z F' H' n => i _ _ (q z F' H' n)⟩)
  refine ⟨PE.imp (pe_chain ho hp ha hb hd hm) fun σ H Q h => mono _ _ _ _ (fun v H' ⟨k, e, q⟩ => by rw [e]; exact q) (key σ H Q h), PT.imp (pt_chain ho hp ha hb hd hm) fun σ H Q h => ?_⟩
  refine mono _ _ _ _ (fun v H' ⟨k, e, k', e', q⟩ => ?_) (key σ H _ h)
  have e' : k' = k := e'
  subst e'
  exact ⟨_, e, q⟩

theorem es_nil : PA X [] (tEs X.K T c .nil) := by
  refine PA.imp pa_nil fun σ H Q ⟨F, ρ, ds, ρ', ok, ev, q⟩ => ?_
  simp only [evEs] at ev
  cases ev
  exact q [] F H ⟨ok, Stp.refl, .nil⟩
variable {es : List Expr} {ees : Es}
theorem es_cons (ha : PE X a (tE X.K T c ea)) (hr : PA X es (tEs X.K T c ees)) (hs : notStar a = true) : PA X (a :: es) (tEs X.K T c (.cons ea ees)) := by
  refine PA.imp (pa_cons ha hr (star_cons hs)) fun σ H Q ⟨F, ρ, ds, ρ', ok, ev, q⟩ => ?_
  simp only [evEs] at ev
  cases e1 : evE c ea ρ with
  | none => rw [e1] at ev; cases ev
  | some p =>
    obtain ⟨r1, ρ1⟩ := p
    rw [e1] at ev
    simp only at ev
    cases g : r1.frz with
    | none => rw [g] at ev; cases ev
    | some d1 =>
      rw [g] at ev
      simp only at ev
      cases e2 : evEs c ees ρ1 with
      | none => rw [e2] at ev; cases ev
      | some p =>
        obtain ⟨ds2, ρ2⟩ := p
        rw [e2] at ev
        cases ev
        refine ⟨F, ρ, r1, ρ1, ok, e1, fun v F1 H1 P1 => ?_⟩
        obtain ⟨F', k1, k2, k3, k4⟩ := P1.rr.frozen P1.ok g P1.own P1.stp
        exact ⟨F', ρ1, ds2, _, k1, e2, fun vs F2 H2 P2 => q _ F2 H2 ⟨P2.ok, k2.trans P2.stp k1.tabs', .cons (Rp.mono P2.stp.grow _ _ k3) P2.rp⟩⟩
theorem es_star {p2 : Pos} (ha : PE X a (tE X.K T c ea)) (hr : PA X es (tEs X.K T c ees)) : PA X (.Starred a p2 :: es) (tEs X.K T c (.star ea ees)) := by
  refine PA.imp (StX.pa_star ha hr) fun σ H Q ⟨F, ρ, ds, ρ', ok, ev, q⟩ => ?_
  simp only [evEs] at ev
  cases e1 : evE c ea ρ with
  | none => rw [e1] at ev; cases ev
  | some p =>
    obtain ⟨r1, ρ1⟩ := p
    rw [e1] at ev
    simp only at ev
    cases g : r1.frz with
    | none => rw [g] at ev; cases ev
    | some d1 =>
      rw [g] at ev
      simp only at ev
      cases gs : seqOf d1 with
      | none => rw [gs] at ev; cases ev
      | some xs =>
        rw [gs] at ev
        simp only at ev
        cases e2 : evEs c ees ρ1 with
        | none => rw [e2] at ev; cases ev
        | some p =>
          obtain ⟨ds2, ρ2⟩ := p
          rw [e2] at ev
          cases ev
          refine ⟨F, ρ, r1, ρ1, ok, e1, fun v F1 H1 P1 => ?_⟩
          obtain ⟨F', k1, k2, k3, k4⟩ := P1.rr.frozen P1.ok g P1.own P1.stp
          have sq : ∃ p ws, v = .ref p ∧ (SqT X.K H1 p ws ∨ SqL X.K H1 p ws) ∧ RpL X.K F' ws xs := by
            cases d1 <;> simp only [seqOf] at gs <;> cases gs
            · cases k3 with
              | tup h1 h2 => exact ⟨_, _, rfl, .inl (sqT_mono k1.same h1), h2⟩
            · cases k3 with
              | lst h1 h2 => exact ⟨_, _, rfl, .inr (sqL_mono k1.same h1), h2⟩
          obtain ⟨w, ws, rfl, hw, lw⟩ := sq
          exact ⟨w, ws, rfl, hw, F', ρ1, ds2, _, k1, e2, fun vs F2 H2 P2 => q _ F2 H2 ⟨P2.ok, k2.trans P2.stp k1.tabs', (Rp.monoL P2.stp.grow _ _ lw).append P2.rp⟩⟩
theorem e_tup {k : Nat} (h : PA X es (tEs X.K T c ees)) : PE X (.Tuple es k pos) (tE X.K T c (.tup ees)) := by
  refine PE.imp (pe_tup h) fun σ H Q ⟨F, ρ, r, ρ', ok, ev, q⟩ => ?_
  simp only [evE] at ev
  cases e1 : evEs c ees ρ with
  | none => rw [e1] at ev; cases ev
  | some p =>
    obtain ⟨ds, ρ1⟩ := p
    rw [e1] at ev
    simp only at ev
    split at ev
    · rename_i hl
      cases ev
      exact ⟨F, ρ, ds, _, ok, e1, fun vs F1 H1 P1 => ⟨by rw [P1.rp.length, line24]; exact hl, fun w hw => q _ _ _ (Post.then P1.stp P1.ok ((NewV.tup hw P1.rp).post P1.ok))⟩⟩
    · cases ev
theorem e_lst (h : PA X es (tEs X.K T c ees)) : PE X (.List es pos) (tE X.K T c (.lst ees)) := by
  refine PE.imp (pe_lst h) fun σ H Q ⟨F, ρ, r, ρ', ok, ev, q⟩ => ?_
  simp only [evE] at ev
  cases e1 : evEs c ees ρ with
  | none => rw [e1] at ev; cases ev
  | some p =>
    obtain ⟨ds, ρ1⟩ := p
    rw [e1] at ev
    simp only at ev
    split at ev
    · rename_i hl
      cases ev
      exact ⟨F, ρ, ds, _, ok, e1, fun vs F1 H1 P1 => ⟨by rw [P1.rp.length, line24]; exact hl, fun w hw => q _ _ _ (Post.then P1.stp P1.ok ((NewV.lst hw P1.rp).post P1.ok))⟩⟩
    · cases ev
end
end NW
namespace NW
open PySem PySem.Spec PyProof.Rows L2
section
variable {K : PySem.W.Frag} {T : List Addr} {c : Cl} {F F' F1 H H' H1 : Hp} {σ : L2.St} {ρ ρ' ρ1 : Rho}
theorem back (p : Stp T F H σ ρ F1 H1 σ ρ1) (o1 : OK K T F1 H1 σ ρ1) {b : Addr} (h : H1 b = none) : H b = none ∨ Owns σ ρ b := by
  cases hn : H b with
  | none => exact .inl rfl
  | some u =>
    by_cases ho : Owns σ ρ b
    · exact .inr ho
    · by_cases ht : b ∈ T
      · obtain ⟨u', hu'⟩ := o1.tabs' b ht
        rw [hu'] at h; cases h
      · rw [p.keep b u hn ho ht] at h; cases h
end
section
variable {X : Cx} {T : List Addr} {c : Cl} {pos : Pos} {a b d : Expr} {ea eb ed : E} {es : List Expr} {ees : Es}
theorem a_nil : PA X [] (tA X.K T c .nil) := by
  refine PA.imp pa_nil fun σ H Q ⟨F, ρ, ds, ρ', ok, ev, q⟩ => ?_
  simp only [evA] at ev
  cases ev
  exact q [] F H ⟨ok, Stp.refl, rfl, fun j r v h => by simp at h, fun j d a h => by simp at h, fun i j d e a h => by simp at h⟩
theorem a_cons (ha : PE X a (tE X.K T c ea)) (hr : PA X es (tA X.K T c ees)) (hs : notStar a = true) : PA X (a :: es) (tA X.K T c (.cons ea ees)) := by
  refine PA.imp (pa_cons ha hr (star_cons hs)) fun σ H Q ⟨F, ρ, rs, ρ', ok, ev, q⟩ => ?_
  simp only [evA] at ev
  cases e1 : evE c ea ρ with
  | none => rw [e1] at ev; cases ev
  | some p =>
    obtain ⟨r1, ρ1⟩ := p
    rw [e1] at ev
    simp only at ev
    cases e2 : evA c ees ρ1 with
    | none => rw [e2] at ev; cases ev
    | some p =>
      obtain ⟨rs2, ρ2⟩ := p
      rw [e2] at ev
      cases ev
      refine ⟨F, ρ, r1, ρ1, ok, e1, fun v F1 H1 P1 => ⟨F1, ρ1, rs2, _, P1.ok, e2, fun vs F2 H2 P2 => ?_⟩⟩
      have clash : ∀ (j : Nat) (d e : D) (a : Addr), r1 = .ow d → v = .ref a → rs2[j]? = some (R.ow e) → vs[j]? = some (V.ref a) → False := fun j d e a h1 h2 h3 h4 => by
        subst h1 h2
        obtain ⟨a', e', t, n⟩ := P1.rr
        cases e'
        obtain ⟨u, hu⟩ := t.ex
        rcases P2.own j e a h3 h4 with z | z
        · rw [hu] at z; cases z
        · exact n z
      refine q _ F2 H2 ⟨P2.ok, P1.stp.trans P2.stp P1.ok.tabs', by rw [List.length_cons, List.length_cons, P2.len], fun j r w h1 h2 => ?_, fun j d a h1 h2 => ?_, fun i j d e a h1 h2 h3 h4 => ?_⟩
      · cases j with
        | zero =>
          simp at h1 h2
          subst h1 h2
          exact P1.rr.step P2.stp
        | succ j => exact P2.rr j r w (by simpa using h1) (by simpa using h2)
      · cases j with
        | zero =>
          simp at h1 h2
          exact P1.own d a h1 h2
        | succ j =>
          rcases P2.own j d a (by simpa using h1) (by simpa using h2) with z | z
          · exact back P1.stp P1.ok z
          · exact (P1.stp.own a z).symm
      · cases i with
        | zero =>
          simp at h1 h3
          cases j with
          | zero => rfl
          | succ j => exact (clash j d e a h1 h3 (by simpa using h2) (by simpa using h4)).elim
        | succ i =>
          cases j with
          | zero =>
            simp at h2 h4
            exact (clash i e d a h2 h4 (by simpa using h1) (by simpa using h3)).elim
          | succ j => rw [P2.apart i j d e a (by simpa using h1) (by simpa using h2) (by simpa using h3) (by simpa using h4)]

theorem getAll_get {ρ : Rho} : ∀ {rs : List R} {ds : List D}, getAll ρ rs = some ds → ds.length = rs.length ∧ ∀ (j : Nat) (r : R) (d : D), rs[j]? = some r → ds[j]? = some d → getA ρ r = some d
  | [], ds, h => by
    simp [getAll] at h
    subst h
    exact ⟨rfl, fun j r d h => by simp at h⟩
  | r :: rs, ds, h => by
    unfold getAll at h
    cases h1 : getA ρ r with
    | none => rw [h1] at h; simp at h
    | some d =>
      rw [h1] at h
      cases h2 : getAll ρ rs with
      | none => rw [h2] at h; simp at h
      | some ds2 =>
        rw [h2] at h
        simp at h
        subst h
        obtain ⟨k1, k2⟩ := getAll_get h2
        refine ⟨by rw [List.length_cons, List.length_cons, k1], fun j r' d' g1 g2 => ?_⟩
        cases j with
        | zero =>
          simp at g1 g2
          subst g1 g2
          exact h1
        | succ j => exact k2 j r' d' (by simpa using g1) (by simpa using g2)
theorem noIo_get : ∀ {rs : List R} {j i : Nat}, noIo rs = true → rs[j]? ≠ some (R.io i)
  | [], j, i, _, h => by simp at h
  | r :: rs, 0, i, h, g => by
    simp at g
    subst g
    simp [noIo] at h
  | r :: rs, j + 1, i, h, g => by
    have h2 : noIo rs = true := by
      cases r <;> first | exact h | (simp [noIo] at h)
    exact noIo_get h2 (by simpa using g)
theorem anyBo_get : ∀ {rs : List R} {j i : Nat}, anyBo rs = false → rs[j]? ≠ some (R.bo i)
  | [], j, i, _, h => by simp at h
  | r :: rs, 0, i, h, g => by
    simp at g
    subst g
    simp [anyBo] at h
  | r :: rs, j + 1, i, h, g => by
    have h2 : anyBo rs = false := by
      cases r <;> first | exact h | (simp [anyBo] at h)
    exact anyBo_get h2 (by simpa using g)
theorem ioAt_none {rs : List R} {j : Option Nat} (h : ioAt rs none = some j) : j = none ∧ noIo rs = true := by
  unfold ioAt at h
  simp only at h
  split at h
  · rename_i g
    cases h
    exact ⟨rfl, g⟩
  · cases h
theorem ioAt_some {rs : List R} {k : Nat} {j : Option Nat} (h : ioAt rs (some k) = some j) : ∃ i, j = some i ∧ rs[k]? = some (R.io i) ∧ (∀ n i', n ≠ k → rs[n]? ≠ some (R.io i')) ∧ anyBo rs = false := by
  unfold ioAt at h
  simp only at h
  split at h
  · rename_i i g
    split at h
    · rename_i c
      cases h
      simp only [Bool.and_eq_true, Bool.not_eq_true'] at c
      obtain ⟨⟨c1, c2⟩, c3⟩ := c
      refine ⟨i, rfl, g, fun n i' hn q => ?_, c3⟩
      rcases Nat.lt_or_ge n k with z | z
      · exact noIo_get (j := n) (i := i') c1 (by rw [List.getElem?_take_of_lt z]; exact q)
      · have : k + 1 + (n - (k + 1)) = n := by omega
        exact noIo_get (j := n - (k + 1)) (i := i') c2 (by rw [List.getElem?_drop, this]; exact q)
    · cases h
  · cases h

theorem pur_tops {K : PySem.W.Frag} {F F' : Hp} (h : SameT F F') {d : D} {v : V} {T : List Addr} {H : Hp} {a : Addr} (p : purO true d = true) (t : Top K T F H a d) (n : F' a = none) : Top K T F' H a d := by
  obtain ⟨_, t2, m⟩ := t
  refine ⟨n, t2, ?_⟩
  cases d with
  | lst ds =>
    obtain ⟨xs, e, r⟩ := m
    exact ⟨xs, e, Rp.pureL h _ _ (by simpa [purO] using p) r⟩
  | dct es =>
    have p : (es.all fun p => p.1.pur && p.2.pur) = true := by simpa [purO] using p
    rcases m with ⟨kvs, e, r⟩ | ⟨kvs, e, r⟩
    · exact .inl ⟨kvs, e, Rp.pureM h _ _ p r⟩
    · exact .inr ⟨kvs, e, Rp.pureN h _ _ p r⟩
  | _ => exact m.elim
theorem pur_of {d : D} (p : purO false d = true) : d.pur = true := by
  cases d <;> first | (simpa [purO] using p) | (simp [purO] at p)

open Classical in
theorem call_step {f : Nat} {k : Option Nat} {np : Nat} {σ : L2.St} {H : Hp} {Q : VK} {E : XK} (hnp : ∀ ρ rs ρ', evA c ees ρ = some (rs, ρ') → rs.length = np) (h : tE X.K T c (.call f k ees) σ H Q) :
    tA X.K T c ees σ H fun vs H1 => spOf X.K T c f np (vs ++ []) H1 Q E := by
  obtain ⟨F, ρ, r, ρ', ok, ev, q⟩ := h
  simp only [evE] at ev
  cases e1 : evA c ees ρ with
  | none => rw [e1] at ev; cases ev
  | some p =>
    obtain ⟨rs, ρ1⟩ := p
    rw [e1] at ev
    simp only at ev
    have hlen := hnp _ _ _ e1
    refine ⟨F, ρ, rs, ρ1, ok, e1, fun vs F1 H1 P => ?_⟩
    show spOf X.K T c f np (vs ++ []) H1 Q E
    rw [List.append_nil]
    unfold doCall at ev
    cases hio : ioAt rs k with
    | none => rw [hio] at ev; cases ev
    | some j =>
      cases hga : getAll ρ1 rs with
      | none => rw [hio, hga] at ev; cases ev
      | some ds =>
        rw [hio, hga] at ev
        simp only at ev
        cases hc : c f k ds with
        | none => rw [hc] at ev; cases ev
        | some z =>
          obtain ⟨own, d, x⟩ := z
          rw [hc] at ev
          simp only at ev
          obtain ⟨gl, gg⟩ := getAll_get hga
          -- the temporaries and what is lent
          have ok1 := P.ok
          have vget : ∀ (n : Nat) (r : R), rs[n]? = some r → ∃ v, vs[n]? = some v := fun n r e => by
            have hn := (List.getElem?_eq_some_iff.mp e).1
            exact ⟨vs[n]'(by rw [P.len]; exact hn), List.getElem?_eq_getElem _⟩
          have dget : ∀ (n : Nat) (r : R), rs[n]? = some r → ∃ d, ds[n]? = some d := fun n r e => by
            have hn := (List.getElem?_eq_some_iff.mp e).1
            exact ⟨ds[n]'(by rw [gl]; exact hn), List.getElem?_eq_getElem _⟩
          let Bw : Addr → Prop := fun b => ∃ (n : Nat) (d : D), rs[n]? = some (R.ow d) ∧ vs[n]? = some (V.ref b)
          let Bb : Addr → Prop := fun b => ∃ (n i : Nat), rs[n]? = some (R.bo i) ∧ vs[n]? = some (V.ref b)
          have topW : ∀ b, Bw b → (∃ d, Top X.K T F1 H1 b d) ∧ ¬ Owns σ ρ1 b := fun b ⟨n, d, h1, h2⟩ => by
            obtain ⟨a, e, t, no⟩ := P.rr n _ _ h1 h2
            cases e
            exact ⟨⟨_, t⟩, no⟩
          have topB : ∀ b, Bb b → (∃ d, Top X.K T F1 H1 b d) ∧ Owns σ ρ1 b := fun b ⟨n, i, h1, h2⟩ => by
            obtain ⟨d, hd⟩ := dget n _ h1
            have g := gg n _ d h1 hd
            have g : (match ρ1[i]? with | some (.ow d) => some d | _ => none) = some d := g
            split at g
            · rename_i e q
              cases g
              obtain ⟨a, s1, t⟩ := ok1.ow i _ q
              have s2 : σ[i]? = some (some (.ref b)) := P.rr n _ _ h1 h2
              rw [s1] at s2
              cases s2
              exact ⟨⟨_, t⟩, i, _, q, s1⟩
            · cases g
          let Fc : Hp := fun b => if Bw b ∨ Bb b then H1 b else F1 b
          have topA : ∀ b, Bw b ∨ Bb b → ∃ d, Top X.K T F1 H1 b d := fun b h => h.elim (fun h => (topW b h).1) (fun h => (topB b h).1)
          have fcN : ∀ b, ¬ (Bw b ∨ Bb b) → Fc b = F1 b := fun b h => if_neg h
          have fcY : ∀ b, (Bw b ∨ Bb b) → Fc b = H1 b := fun b h => if_pos h
          have f1c : Same F1 Fc := fun b o e => by
            have nb : ¬ (Bw b ∨ Bb b) := fun h => by
              obtain ⟨d, t⟩ := topA b h
              rw [t.1] at e; cases e
            rw [fcN b nb]; exact e
          have fcH : Same Fc H1 := fun b o e => by
            by_cases h : Bw b ∨ Bb b
            · rw [fcY b h] at e; exact e
            · rw [fcN b h] at e; exact ok1.same _ _ e
          have rpTop : ∀ b d, (Bw b ∨ Bb b) → Top X.K T F1 H1 b d → Rp X.K Fc (.ref b) d := fun b d h t => by
            obtain ⟨_, _, m⟩ := t
            cases d with
            | lst ds => obtain ⟨xs, e, r⟩ := m; exact .lst (.of ((fcY b h).trans e)) (Rp.monoL f1c _ _ r)
            | dct es =>
              rcases m with ⟨kvs, e, r⟩ | ⟨kvs, e, r⟩
              · exact .dK ((fcY b h).trans e) (Rp.monoM f1c _ _ r)
              · exact .dT ((fcY b h).trans e) (Rp.monoN f1c _ _ r)
            | _ => exact m.elim
          have tabC : ∀ P ∈ T, GxR.TabG H1 P ∧ Fc P = none := fun P hP => by
            obtain ⟨h1, h2⟩ := ok1.tabs P hP
            refine ⟨h1, ?_⟩
            rw [fcN P fun h => ?_]
            · exact h2
            · obtain ⟨d, t⟩ := topA P h
              exact t.2.1 hP
          -- the changed argument
          have ioF : ∀ n, k = some n → ∃ i a e, j = some i ∧ rs[n]? = some (R.io i) ∧ vs[n]? = some (V.ref a) ∧ σ[i]? = some (some (V.ref a)) ∧ ρ1[i]? = some (.ow e) ∧ ds[n]? = some e ∧ Top X.K T F1 H1 a e := fun n hn => by
            subst hn
            obtain ⟨i, hj, hr, _, _⟩ := ioAt_some hio
            obtain ⟨v, hv⟩ := vget n _ hr
            obtain ⟨e, he⟩ := dget n _ hr
            have g : ρ1[i]? = some (.ow e) := by
              have g : (match ρ1[i]? with | some (.ow d) => some d | _ => none) = some e := gg n _ e hr he
              split at g
              · cases g; assumption
              · cases g
            obtain ⟨a, s1, t⟩ := ok1.ow i _ g
            have s2 : σ[i]? = some (some v) := P.rr n _ _ hr hv
            rw [s1] at s2
            cases s2
            exact ⟨i, a, e, hj, hr, hv, s1, g, he, t⟩
          have noBo : k ≠ none → anyBo rs = false := fun hk => by
            cases k with
            | none => exact (hk rfl).elim
            | some n =>
              obtain ⟨_, _, _, _, h⟩ := ioAt_some hio
              exact h
          refine ⟨Fc, k, ds, own, d, x, fcH, tabC, by rw [P.len]; exact hlen, by rw [gl]; exact hlen, fun n v e hv he => ?_, hc, fun v F' H' C => ?_⟩
          · have hn : n < rs.length := by rw [← P.len]; exact (List.getElem?_eq_some_iff.mp hv).1
            have hr : rs[n]? = some rs[n] := List.getElem?_eq_getElem hn
            by_cases hk : k = some n
            · rw [if_pos hk]
              obtain ⟨i, a, e', hj, hr', hv', s1, g, he', t⟩ := ioF n hk
              rw [hv] at hv'
              rw [he] at he'
              cases hv'
              cases he'
              refine ⟨a, rfl, t.step f1c ?_ fun o e => e⟩
              rw [fcN a fun h => ?_]
              · exact t.1
              · rcases h with h | ⟨n', i', h1, _⟩
                · exact (topW a h).2 ⟨i, _, g, s1⟩
                · exact anyBo_get (noBo (by rw [hk]; simp)) h1
            · rw [if_neg hk]
              have rr := P.rr n _ v hr hv
              have g := gg n _ e hr he
              generalize rs[n] = r0 at hr rr g
              cases r0 with
              | fz e' =>
                cases g
                exact Rp.mono f1c _ _ rr
              | ow e' =>
                cases g
                obtain ⟨a, rfl, t, _⟩ := rr
                exact rpTop a _ (.inl ⟨n, _, hr, hv⟩) t
              | bo i =>
                have g : (match ρ1[i]? with | some (.ow d) => some d | _ => none) = some e := g
                split at g
                · rename_i e' q
                  cases g
                  obtain ⟨a, s1, t⟩ := ok1.ow i _ q
                  have s2 : σ[i]? = some (some v) := rr
                  rw [s1] at s2
                  cases s2
                  exact rpTop a _ (.inr ⟨n, i, hr, hv⟩) t
                · cases g
              | io i =>
                exfalso
                cases k with
                | none => exact noIo_get (ioAt_none hio).2 hr
                | some m =>
                  obtain ⟨_, _, _, h, _⟩ := ioAt_some hio
                  exact h n i (fun z => hk (by rw [z])) hr
          · -- behind the call
            let Fr : Hp := fun b => if Bb b then none else F' b
            have frN : ∀ b, ¬ Bb b → Fr b = F' b := fun b h => if_neg h
            have frY : ∀ b, Bb b → Fr b = none := fun b h => if_pos h
            have frF : Same Fr F' := fun b o e => by
              by_cases h : Bb b
              · rw [frY b h] at e; cases e
              · rw [frN b h] at e; exact e
            have f1r : Same F1 Fr := fun b o e => by
              have nb : ¬ Bb b := fun h => by
                obtain ⟨⟨d, t⟩, _⟩ := topB b h
                rw [t.1] at e; cases e
              rw [frN b nb]
              exact C.grow _ _ (f1c _ _ e)
            have stF : SameT F' Fr := fun b xs => by
              have nb : ∀ u, F' b = some u → (u = .tup xs ∨ ∃ o, u = .frz o (.tup xs)) → ¬ Bb b := fun u e hu h => by
                obtain ⟨⟨d, t⟩, _⟩ := topB b h
                obtain ⟨_, _, m⟩ := t
                have key : ∀ w, H1 b = some w → F' b = some w := fun w ew => C.grow _ _ ((fcY b (.inr h)).trans ew)
                cases d with
                | lst ds =>
                  obtain ⟨xs', e', _⟩ := m
                  rw [key _ e'] at e
                  cases e
                  rcases hu with z | ⟨_, z⟩ <;> cases z
                | dct es =>
                  rcases m with ⟨kvs, e', _⟩ | ⟨kvs, e', _⟩
                  · rw [key _ e'] at e
                    cases e
                    rcases hu with z | ⟨_, z⟩ <;> cases z
                  · rw [key _ e'] at e
                    cases e
                    rcases hu with z | ⟨_, z⟩ <;> cases z
                | _ => exact m
              exact ⟨fun e => by rw [frN b (nb _ e (.inl rfl))]; exact e, fun o e => by rw [frN b (nb _ e (.inr ⟨o, rfl⟩))]; exact e⟩
            have noBb : anyBo rs = false → Same F' Fr := fun h b o e => by
              rw [frN b fun ⟨n, i, h1, _⟩ => anyBo_get h h1]; exact e
            have hpur : anyBo rs = true → purO own d = true := fun h => by
              rw [h] at ev
              cases hp : purO own d with
              | true => rfl
              | false => rw [hp] at ev; simp at ev
            have ev2 : putIo own d ρ1 j x = some (r, ρ') := by
              split at ev
              · cases ev
              · exact ev
            -- the store behind
            have store : (k = none ∧ j = none ∧ r = mk (own, d) ∧ ρ' = ρ1) ∨ ∃ n i e', k = some n ∧ j = some i ∧ x = some e' ∧ r = mk (own, d) ∧ ρ' = ρ1.set i (.ow e') := by
              cases k with
              | none =>
                obtain ⟨hj, _⟩ := ioAt_none hio
                subst hj
                cases x with
                | none => cases ev2; exact .inl ⟨rfl, rfl, rfl, rfl⟩
                | some _ => cases ev2
              | some n =>
                obtain ⟨i, hj, _⟩ := ioAt_some hio
                subst hj
                cases x with
                | none => cases ev2
                | some e' => cases ev2; exact .inr ⟨n, i, e', rfl, rfl, rfl, rfl, rfl⟩
            have hr : r = mk (own, d) := by rcases store with ⟨_, _, h, _⟩ | ⟨_, _, _, _, _, _, h, _⟩ <;> exact h
            -- owned slots behind: ahead too
            have slot : ∀ (n : Nat) (e : D), ρ'[n]? = some (Sl.ow e) → (∃ m a, k = some m ∧ vs[m]? = some (V.ref a) ∧ σ[n]? = some (some (V.ref a)) ∧ x = some e ∧ ∃ e0, ρ1[n]? = some (Sl.ow e0)) ∨ (ρ1[n]? = some (Sl.ow e) ∧ ∀ m a, k = some m → vs[m]? = some (V.ref a) → σ[n]? ≠ some (some (V.ref a))) := fun n e h => by
              rcases store with ⟨hk, _, _, h2⟩ | ⟨m, i, e', hk, hj, hx, _, h2⟩
              · rw [h2] at h
                exact .inr ⟨h, fun m a hm => by rw [hk] at hm; cases hm⟩
              · obtain ⟨i', a, e0, hj', hr', hv', s1, g, he', t⟩ := ioF m hk
                rw [hj] at hj'
                cases hj'
                rw [h2] at h
                by_cases z : i = n
                · subst z
                  rw [List.getElem?_set_self (List.getElem?_eq_some_iff.mp g).1] at h
                  cases h
                  exact .inl ⟨m, a, hk, hv', s1, hx, e0, g⟩
                · rw [List.getElem?_set_ne z] at h
                  refine .inr ⟨h, fun m' a' hm' hv'' s2 => z ?_⟩
                  rw [hk] at hm'
                  cases hm'
                  rw [hv'] at hv''
                  cases hv''
                  exact ok1.inj i n _ _ a g h s1 s2
            have ownOf : ∀ a, Owns σ ρ' a → Owns σ ρ1 a := fun a ⟨n, e, h1, h2⟩ => by
              rcases slot n e h1 with ⟨m, a', _, _, _, _, e0, h3⟩ | ⟨h3, _⟩
              · exact ⟨n, e0, h3, h2⟩
              · exact ⟨n, e, h3, h2⟩
            have keepO : ∀ (n : Nat) (e : D) (a : Addr) (u : HO), ρ1[n]? = some (Sl.ow e) → σ[n]? = some (some (V.ref a)) → (∀ m a, k = some m → vs[m]? = some (V.ref a) → σ[n]? ≠ some (some (V.ref a))) → a ∉ T → H1 a = some u → H' a = some u := fun n e a u h1 h2 h3 h4 h5 =>
              C.keep a u h5 (fun m hm hv => h3 m a hm hv h2) h4
            have keepN : ∀ (a : Addr) (u : HO), ¬ Owns σ ρ1 a → a ∉ T → H1 a = some u → H' a = some u := fun a u h1 h2 h3 => C.keep a u h3 (fun m hm hv => by
              obtain ⟨i, a', e, hj, hr', hv', s1, g, he', t⟩ := ioF m hm
              rw [hv] at hv'
              cases hv'
              exact h1 ⟨i, e, g, s1⟩) h2
            have okr : OK X.K T Fr H' σ ρ' := by
              refine ⟨fun b o e => C.same _ _ (frF _ _ e), fun P hP => ⟨(C.tabs P hP).1, ?_⟩, ?_, fun n e h => ?_, fun n e h => ?_, fun n m e e' a h1 h2 h3 h4 => ?_⟩
              · cases z : Fr P with
                | none => rfl
                | some o => exact absurd (C.tabs P hP).2 (by rw [frF _ _ z]; simp)
              · rcases store with ⟨_, _, _, h⟩ | ⟨_, _, _, _, _, _, _, h⟩ <;> rw [h]
                · exact ok1.len
                · rw [List.length_set]; exact ok1.len
              · have h1 : ρ1[n]? = some (Sl.fz e) := by
                  rcases store with ⟨_, _, _, h2⟩ | ⟨m, i, e', hk, hj, hx, _, h2⟩
                  · rw [h2] at h; exact h
                  · rw [h2, List.getElem?_set] at h
                    split at h
                    · split at h
                      · cases h
                      · cases h
                    · exact h
                obtain ⟨v, s1, rp⟩ := ok1.fz n e h1
                exact ⟨v, s1, Rp.mono f1r _ _ rp⟩
              · rcases slot n e h with ⟨m, a, hk, hv, s1, hx, e0, h3⟩ | ⟨h3, h4⟩
                · obtain ⟨a', d', hv', hx', t⟩ := C.io m hk
                  rw [hv] at hv'
                  rw [hx] at hx'
                  cases hv'
                  cases hx'
                  refine ⟨a, s1, t.step (noBb (noBo (by rw [hk]; simp))) ?_ fun o e => e⟩
                  cases z : Fr a with
                  | none => rfl
                  | some o => exact absurd (frF _ _ z) (by rw [t.1]; simp)
                · obtain ⟨a, s1, t⟩ := ok1.ow n e h3
                  obtain ⟨u, hu⟩ := t.ex
                  refine ⟨a, s1, t.step f1r ?_ fun o eo => keepO n e a o h3 s1 h4 t.2.1 eo⟩
                  by_cases hb : Bb a
                  · exact frY a hb
                  · rw [frN a hb]
                    have nb : ¬ (Bw a ∨ Bb a) := fun h => h.elim (fun h => (topW a h).2 ⟨n, e, h3, s1⟩) hb
                    cases z : F' a with
                    | none => rfl
                    | some o =>
                      rcases C.new a o z with w | w
                      · rw [fcN a nb, t.1] at w; cases w
                      · rw [hu] at w; cases w
              · have g : ∀ (n : Nat) (e : D), ρ'[n]? = some (Sl.ow e) → ∃ e0, ρ1[n]? = some (Sl.ow e0) := fun n e h => by
                  rcases slot n e h with ⟨_, _, _, _, _, _, h⟩ | ⟨h, _⟩
                  · exact h
                  · exact ⟨_, h⟩
                obtain ⟨d1, g1⟩ := g n e h1
                obtain ⟨d2, g2⟩ := g m e' h2
                exact ok1.inj n m d1 d2 a g1 g2 h3 h4
            refine q v Fr H' ⟨okr, ⟨P.stp.grow.trans f1r, fun b o e n t => ?_, fun b o e => ?_, fun a h => P.stp.own a (ownOf a h)⟩, ?_, fun d0 a e1 e2 => ?_⟩
            · have h1 := P.stp.keep b o e n t
              exact keepN b o (not_own_step P.stp e n) t h1
            · have e' := frF _ _ e
              rcases C.new b o e' with z | z
              · by_cases hb : Bw b ∨ Bb b
                · rcases hb with ⟨m, d0, h1, h2⟩ | hb
                  · exact .inr (P.own m d0 b h1 h2)
                  · rw [frY b hb] at e; cases e
                · rw [fcN b hb] at z
                  exact P.stp.new b o z
              · exact .inr (back P.stp ok1 z)
            · rw [hr]
              have res := C.res
              cases own with
              | true =>
                rw [if_pos rfl] at res
                obtain ⟨a, rfl, hn, t⟩ := res
                have fa : Fr a = none := by
                  cases z : Fr a with
                  | none => rfl
                  | some o => exact absurd (frF _ _ z) (by rw [t.1]; simp)
                refine ⟨a, rfl, ?_, fun h => ?_⟩
                · cases hb : anyBo rs with
                  | true => exact pur_tops stF (v := .ref a) (hpur hb) t fa
                  | false => exact t.step (noBb hb) fa fun o e => e
                · obtain ⟨⟨u, hu⟩, _⟩ := ok1.owH (ownOf a h)
                  rw [hn] at hu; cases hu
              | false =>
                rw [if_neg Bool.false_ne_true] at res
                show Rp X.K Fr v d
                cases hb : anyBo rs with
                | true => exact Rp.pure stF _ _ (pur_of (hpur hb)) res
                | false => exact Rp.mono (noBb hb) _ _ res
            · rw [hr] at e1
              cases own with
              | false => cases e1
              | true =>
                have res := C.res
                rw [if_pos rfl] at res
                obtain ⟨a', e3, hn, _⟩ := res
                rw [e2] at e3
                cases e3
                exact back P.stp ok1 hn
end
end NW
namespace NW
open PySem PySem.Spec PyProof.Rows L2
section
variable {X : Cx} {T : List Addr} {c : Cl} {pos p : Pos} {a b d : Expr} {ea eb ed : E}
theorem e_blt1 {x : Str} {id : String} {o : O1} (hc : CallR X (.builtin id) (cD1 X.K (ap1 o))) (hg : Gl X x) (hm : X.mg x = none) (hv : bootBuiltins x = some (.builtin id)) (ha : PE X a (tE X.K T c ea)) (hs : notStar a = true) (hn : x ≠ "__name__") (hd : (x == ("__debug__" : Str)) = false) :
    PE X (.Call (.Name x p) [a] [] pos) (tE X.K T c (.o1 o ea)) :=
  PE.imp (pe_callB hc hg hm hv (pa_cons ha pa_nil (star_cons hs)) hn hd (star_cons hs) rfl) fun σ H Q h => tE_mono (tE_o1 h) fun v H1 q => ⟨v, rfl, q⟩
theorem e_blt2 {x : Str} {id : String} {o : O2} (hc : CallR X (.builtin id) (cD2 X.K (ap2 o))) (hg : Gl X x) (hm : X.mg x = none) (hv : bootBuiltins x = some (.builtin id)) (ha : PE X a (tE X.K T c ea)) (hb : PE X b (tE X.K T c eb)) (hs : notStar a = true) (hs2 : notStar b = true) (hn : x ≠ "__name__") (hd : (x == ("__debug__" : Str)) = false) :
    PE X (.Call (.Name x p) [a, b] [] pos) (tE X.K T c (.o2 o ea eb)) :=
  PE.imp (pe_callB hc hg hm hv (pa_cons ha (pa_cons hb pa_nil (star_cons hs2)) (star_cons hs)) hn hd (star_cons hs) (back_any (stars_none (es := [b]) (by simp [hs2])))) fun σ H Q h => tE_mono (tE_o2 h) fun v H1 q => tE_mono q fun w H2 q => ⟨v, w, rfl, q⟩
theorem e_imp2 {x : Str} {id : String} {o : O2} (hc : CallR X (.builtin id) (cD2 X.K (ap2 o))) (hg : Gl X x) (hm : X.mg x = some (.builtin id)) (ha : PE X a (tE X.K T c ea)) (hb : PE X b (tE X.K T c eb)) (hs : notStar a = true) (hs2 : notStar b = true) (hd : (x == ("__debug__" : Str)) = false) :
    PE X (.Call (.Name x p) [a, b] [] pos) (tE X.K T c (.o2 o ea eb)) :=
  PE.imp (pe_callBfun hc hg hm (pa_cons ha (pa_cons hb pa_nil (star_cons hs2)) (star_cons hs)) hd (star_cons hs) (back_any (stars_none (es := [b]) (by simp [hs2])))) fun σ H Q h => tE_mono (tE_o2 h) fun v H1 q => tE_mono q fun w H2 q => ⟨v, w, rfl, q⟩
theorem e_typ1 {x : Str} {id : String} {o : O1} (hc : CallR X (.type id) (cD1 X.K (ap1 o))) (hg : Gl X x) (hm : X.mg x = none) (hv : bootBuiltins x = some (.type id)) (ha : PE X a (tE X.K T c ea)) (hs : notStar a = true) (hn : x ≠ "__name__") (hd : (x == ("__debug__" : Str)) = false) :
    PE X (.Call (.Name x p) [a] [] pos) (tE X.K T c (.o1 o ea)) :=
  PE.imp (pe_callTy hc hg hm hv (pa_cons ha pa_nil (star_cons hs)) hn hd (star_cons hs) rfl) fun σ H Q h => tE_mono (tE_o1 h) fun v H1 q => ⟨v, rfl, q⟩

theorem o_none : PO X none (tO X.K T c .no) := by
  have h := (po_none (X := X))
  refine ⟨fun pins s σ H Q I ⟨F, ρ, i, ρ', ok, ev, q⟩ => h.run pins s σ H Q I ?_⟩
  simp only [evO] at ev
  cases ev
  exact q F H ⟨ok, Stp.refl⟩
theorem o_some (ha : PE X a (tE X.K T c ea)) : PO X (some a) (tO X.K T c (.so ea)) := by
  have h := po_some ha
  refine ⟨fun pins s σ H Q I ⟨F, ρ, i, ρ', ok, ev, q⟩ => h.run pins s σ H Q I ?_⟩
  simp only [evO] at ev
  cases e1 : evE c ea ρ with
  | none => rw [e1] at ev; cases ev
  | some p =>
    obtain ⟨r1, ρ1⟩ := p
    rw [e1] at ev
    have key : ∃ k, r1 = .fz (.int k) := by
      rcases r1 with (_ | _ | k | _ | _ | _ | _) | _ | _ | _ <;> first | exact ⟨_, rfl⟩ | (simp at ev; done)
    obtain ⟨k, rfl⟩ := key
    cases ev
    refine ⟨F, ρ, _, _, ok, e1, fun v F1 H1 P1 => ?_⟩
    have e2 : Rp X.K F1 v (.int k) := P1.rr
    rw [e2.intE]
    exact ⟨k, rfl, q F1 H1 ⟨P1.ok, P1.stp⟩⟩
theorem rpl_cut {K : PySem.W.Frag} {F : Hp} {vs : List V} {ds : List D} (r : RpL K F vs ds) (lo hi : Option Int) : RpL K F (cutV vs lo hi) (cutL ds lo hi) := by
  unfold cutV cutL
  rw [r.length]
  exact (r.drop _).take _
theorem cut_whole {ds : List D} {lo hi : Option Int} (h : HT.sIx ds.length 0 lo = 0 ∧ HT.sIx ds.length ds.length hi = ds.length) : cutL ds lo hi = ds := by
  have h1 : NW.sIx ds.length 0 lo = 0 := h.1
  have h2 : NW.sIx ds.length ds.length hi = ds.length := h.2
  unfold cutL
  rw [h1, h2]
  simp
theorem toS_cut (s : List Nat) (lo hi : Option Int) : cutS (toS s) lo hi = toS (cutL s lo hi) := by
  unfold cutS cutL
  rw [toS_length]
  have e : (toS s).cps.toList = s := by simp
  rw [e]
  rfl
theorem e_sl {lo hi : Option Expr} {elo ehi : Oe} {p2 : Pos} (ha : PE X a (tE X.K T c ea)) (hl : PO X lo (tO X.K T c elo)) (hh : PO X hi (tO X.K T c ehi)) : PE X (.Subscript a (.Slice lo hi none p2) pos) (tE X.K T c (.sl ea elo ehi)) := by
  refine PE.imp (pe_slice (sl_tupA.or (sl_list.or sl_str)) ha hl hh) fun σ H Q ⟨F, ρ, r, ρ', ok, ev, q⟩ => ?_
  simp only [evE] at ev
  cases e1 : evE c ea ρ with
  | none => rw [e1] at ev; cases ev
  | some p =>
    obtain ⟨r1, ρ1⟩ := p
    rw [e1] at ev
    simp only at ev
    cases e2 : evO c elo ρ1 with
    | none => rw [e2] at ev; cases ev
    | some p =>
      obtain ⟨l, ρ2⟩ := p
      rw [e2] at ev
      simp only at ev
      cases e3 : evO c ehi ρ2 with
      | none => rw [e3] at ev; cases ev
      | some p =>
        obtain ⟨h, ρ3⟩ := p
        rw [e3] at ev
        simp only at ev
        refine ⟨F, ρ, r1, ρ1, ok, e1, fun v F1 H1 P1 => ⟨F1, ρ1, l, ρ2, P1.ok, e2, fun F2 H2 P2 => ⟨F2, ρ2, h, ρ3, P2.ok, e3, fun F3 H3 P3 => ?_⟩⟩⟩
        have st12 := P2.stp.trans P3.stp P2.ok.tabs'
        have st := P1.stp.trans st12 P1.ok.tabs'
        cases g : r1.get ρ3 with
        | none => rw [g] at ev; cases ev
        | some d =>
          rw [g] at ev
          have rd := (P1.rr.step st12).read P3.ok g
          cases d <;> simp only at ev <;> try cases ev
          · split at ev
            · rename_i hl
              cases ev
              rw [rd.str]
              refine .inr (.inr ⟨_, rfl, by rw [toS_length, line24]; exact hl, ?_⟩)
              rw [toS_cut]
              exact q _ _ _ (Post.then st P3.ok ((NewV.val (.str _)).post P3.ok))
            · cases ev
          · obtain ⟨w, ws, rfl, fw, hw, lw⟩ := rd.tupE P3.ok.same
            refine .inl ⟨w, ws, rfl, hw, fun z => ?_, fun _ z hz => q _ _ _ (Post.then st P3.ok ((NewV.tup hz (rpl_cut lw l h)).post P3.ok))⟩
            rw [lw.length] at z
            refine q _ _ _ (Post.then st P3.ok ((NewV.val ?_).post P3.ok))
            rw [cut_whole z]
            exact .tup fw lw
          · obtain ⟨w, ws, rfl, hw, lw⟩ := rd
            exact .inr (.inl ⟨w, ws, rfl, hw, fun z hz => q _ _ _ (Post.then st P3.ok ((NewV.lst hz (rpl_cut lw l h)).post P3.ok))⟩)

end
def Src.at : Src → Nat → Option D
  | .ls ds, i => ds[i]?
  | .rg lo st n, i => if i < n then some (.int (lo + i * st)) else none
def Src.len : Src → Nat
  | .ls ds => ds.length
  | .rg _ _ n => n
def Src.from : Src → Nat → Src
  | .ls ds, i => .ls (ds.drop i)
  | .rg lo st n, i => .rg (lo + i * st) st (n - i)
theorem Src.at_none {s : Src} {i : Nat} : s.at i = none ↔ s.len ≤ i := by
  cases s with
  | ls ds => exact List.getElem?_eq_none_iff
  | rg lo st n =>
    show (if i < n then some _ else none) = none ↔ n ≤ i
    by_cases h : i < n
    · rw [if_pos h]; simp; exact h
    · rw [if_neg h]; simp; omega
theorem Src.at_lt {s : Src} {i : Nat} {d : D} (h : s.at i = some d) : i < s.len := by
  rcases Nat.lt_or_ge i s.len with z | z
  · exact z
  · rw [Src.at_none.mpr z] at h; cases h
theorem Src.walk_none {s : Src} {i : Nat} {f : D → Rho → Option (List D × Rho)} {ρ : Rho} (h : s.at i = none) : (s.from i).walk f ρ = some ([], ρ) := by
  have z := Src.at_none.mp h
  cases s with
  | ls ds =>
    show walkL f (ds.drop i) ρ = _
    rw [List.drop_of_length_le z]; rfl
  | rg lo st n =>
    show walkN f st (n - i) _ ρ = _
    have e : n - i = 0 := by have z : n ≤ i := z; omega
    rw [e]; rfl
theorem Src.walk_some {s : Src} {i : Nat} {d : D} {f : D → Rho → Option (List D × Rho)} {ρ : Rho} (h : s.at i = some d) :
    (s.from i).walk f ρ = (match f d ρ with | some (xs, ρ1) => (match (s.from (i + 1)).walk f ρ1 with | some (ys, ρ2) => some (xs ++ ys, ρ2) | none => none) | none => none) := by
  have z := Src.at_lt h
  cases s with
  | ls ds =>
    have h : ds[i]? = some d := h
    have z : i < ds.length := z
    show walkL f (ds.drop i) ρ = _
    rw [List.drop_eq_getElem_cons z]
    have e : ds[i] = d := by rw [List.getElem?_eq_getElem z] at h; exact Option.some.inj h
    rw [e]
    rfl
  | rg lo st n =>
    have z : i < n := z
    have h : (if i < n then some (D.int (lo + i * st)) else none) = some d := h
    rw [if_pos z] at h
    cases h
    show walkN f st (n - i) _ ρ = _
    obtain ⟨m, hm⟩ : ∃ m, n - i = m + 1 := ⟨n - i - 1, by omega⟩
    have e2 : lo + (i : Int) * st + st = lo + ((i + 1 : Nat) : Int) * st := by
      rw [Int.natCast_add, Int.add_mul]
      simp
      omega
    show walkN f st (n - i) (lo + i * st) ρ = (match f (.int (lo + i * st)) ρ with | some (xs, ρ1) => (match walkN f st (n - (i + 1)) (lo + ((i + 1 : Nat) : Int) * st) ρ1 with | some (ys, ρ2) => some (xs ++ ys, ρ2) | none => none) | none => none)
    rw [hm, ← e2, show n - (i + 1) = m by omega]
    rfl
/-- an iterator that feeds the data of a source, whatever more stands behind -/
def Feeds (K : PySem.W.Frag) (T : List Addr) (F0 : Hp) (J : It) (s : Src) : Prop := ∀ (i : Nat) (F H : Hp) (σ : L2.St) (ρ : Rho), Same F0 F → OK K T F H σ ρ →
  (s.at i = none → J.stop i H) ∧ ∀ d, s.at i = some d → J.go i H ∧ ∀ x H', J.yld i H x H' → ∃ F', OK K T F' H' σ ρ ∧ Stp T F H σ ρ F' H' σ ρ ∧ Rp K F' x d
def tI (K : PySem.W.Frag) (T : List Addr) (c : Cl) (i : I) : TI := fun σ H R => ∃ F ρ s ρ', OK K T F H σ ρ ∧ evI c i ρ = some (s, ρ') ∧ ∀ J F' H', PostB K T F H σ ρ F' H' ρ' → Feeds K T F' J s → R J H'
section
variable {K : PySem.W.Frag} {T : List Addr} {F : Hp}
theorem feeds_list {a : Addr} {xs : List V} {ds : List D} (h : SqL K F a xs) (r : RpL K F xs ds) : Feeds K T F (Itl K a) (.ls ds) := by
  intro i F1 H σ ρ s1 ok
  have hH : SqL K H a xs := sqL_mono ok.same (sqL_mono s1 h)
  refine ⟨fun e => ⟨xs, hH, ?_⟩, fun d e => ?_⟩
  · have := Src.at_none.mp e
    rw [r.length]; exact this
  · obtain ⟨v, h1, h2⟩ := r.get (show ds[i]? = some d from e)
    refine ⟨⟨xs, v, hH, h1⟩, fun x H' y => ?_⟩
    obtain ⟨rfl, y⟩ := y
    have e2 := y xs hH
    rw [h1] at e2
    cases e2
    exact ⟨F1, ok, Stp.refl, Rp.mono s1 _ _ h2⟩
theorem feeds_tup {a : Addr} {xs : List V} {ds : List D} (h : SqT K F a xs) (r : RpL K F xs ds) : Feeds K T F (Itt K a) (.ls ds) := by
  intro i F1 H σ ρ s1 ok
  have hH : SqT K H a xs := sqT_mono ok.same (sqT_mono s1 h)
  refine ⟨fun e => ⟨xs, hH, ?_⟩, fun d e => ?_⟩
  · have := Src.at_none.mp e
    rw [r.length]; exact this
  · obtain ⟨v, h1, h2⟩ := r.get (show ds[i]? = some d from e)
    refine ⟨⟨xs, v, hH, h1⟩, fun x H' y => ?_⟩
    obtain ⟨rfl, y⟩ := y
    have e2 := y xs hH
    rw [h1] at e2
    cases e2
    exact ⟨F1, ok, Stp.refl, Rp.mono s1 _ _ h2⟩
theorem feeds_str {s : List Nat} : Feeds K T F (Its (toS s)) (.ls (signs s)) := by
  intro i F1 H σ ρ s1 ok
  have el : (toS s).cps.size = s.length := by simp
  refine ⟨fun e => ?_, fun d e => ?_⟩
  · have := Src.at_none.mp e
    show (toS s).cps.size ≤ i
    rw [el]
    have h2 : (signs s).length = s.length := by unfold signs; simp
    rw [← h2]; exact this
  · have e : (signs s)[i]? = some d := e
    unfold signs at e
    rw [List.getElem?_map] at e
    cases g : s[i]? with
    | none => rw [g] at e; cases e
    | some ch =>
      rw [g] at e
      cases e
      have hi := (List.getElem?_eq_some_iff.mp g).1
      refine ⟨by show i < (toS s).cps.size; rw [el]; exact hi, fun x H' y => ?_⟩
      obtain ⟨rfl, c', h1, rfl⟩ := y
      have h2 : (toS s).cps[i]? = some ch := by
        show (s.toArray)[i]? = some ch
        simpa using g
      rw [h2] at h1
      cases h1
      exact ⟨F1, ok, Stp.refl, .str [_]⟩
theorem feeds_rng {lo : Int} {n : Nat} : Feeds K T F (Itr lo n) (.rg lo 1 n) := by
  intro i F1 H σ ρ s1 ok
  refine ⟨fun e => Src.at_none.mp e, fun d e => ?_⟩
  have hi : i < n := Src.at_lt e
  have e : (if i < n then some (D.int (lo + i * 1)) else none) = some d := e
  rw [if_pos hi] at e
  cases e
  refine ⟨hi, fun x H' y => ?_⟩
  obtain ⟨rfl, rfl⟩ := y
  rw [Int.mul_one]
  exact ⟨F1, ok, Stp.refl, .int _⟩
end
section
variable {X : Cx} {T : List Addr} {c : Cl} {pos p : Pos} {a b d tg : Expr} {ea eb ed : E}
theorem PI.imp {e : Expr} {t t' : TI} (h : PI X tg e t) (i : ∀ σ H R, t' σ H R → t σ H R) : PI X tg e t' := ⟨fun pins s σ H R I q => h.run pins s σ H R I (i σ H R q)⟩
/-- over a list, a tuple, a text, whichever comes -/
theorem pi_seq {tl : TE} (hl : PE X a tl) : PI X tg a (fun σ H R => tl σ H fun x H1 => (∃ a, x = .ref a ∧ (∃ xs, SqL X.K H1 a xs) ∧ R (Itl X.K a) H1) ∨ (∃ a, x = .ref a ∧ (∃ xs, SqT X.K H1 a xs) ∧ R (Itt X.K a) H1) ∨ ∃ z, x = .str z ∧ R (Its z) H1) := by
  refine ⟨fun pins s σ H R I h => ?_⟩
  refine thn (hl.run pins s σ H _ I h) fun v s1 ⟨x, H1, I1, r1, q1⟩ => ?_
  rcases q1 with ⟨a, e, ⟨xs, hq⟩, q⟩ | ⟨a, e, ⟨xs, hq⟩, q⟩ | ⟨z, e, q⟩
  · subst e
    cases r1
    obtain ⟨its, rv, p, hz⟩ := I1.list hq
    refine wpAny_pyIter_list p.isList ?_
    refine ⟨s1.heap.objs.size, [s1.heap.objs.size], _, _, H1, rfl, I1.kept (t' := s1.toks) fun b o e => Heap.get?_push_of_some _ e, turn_list a _, ⟨_, Heap.get?_push_size _ rfl, rfl, rfl⟩, fun b hb => ?_, q⟩
    have e : b = s1.heap.objs.size := by simpa using hb
    subst e
    exact I1.fpOk (Nat.le_refl _) (I1.hok.fresh (Nat.le_refl _))
  · subst e
    cases r1
    obtain ⟨its, rv, p, hz⟩ := I1.tuple hq
    refine wpAny_pyIter_tuple (show s1.heap.IsTuple a its.toArray from p) ?_
    refine ⟨s1.heap.objs.size, [s1.heap.objs.size], _, _, H1, rfl, I1.kept (t' := s1.toks) fun b o e => Heap.get?_push_of_some _ e, turn_tuple a _, ⟨_, Heap.get?_push_size _ rfl, rfl, rfl⟩, fun b hb => ?_, q⟩
    have e : b = s1.heap.objs.size := by simpa using hb
    subst e
    exact I1.fpOk (Nat.le_refl _) (I1.hok.fresh (Nat.le_refl _))
  · subst e
    obtain ⟨t, rfl⟩ := r1
    cases ha : z.cps.all (· < 128)
    · exact wpAny_pyIter_wide ha (pi_one (tk := s1.toks) I1 _ (turn_str _ z t "str_iterator" (.inr rfl)) ⟨_, Heap.get?_push_size _ rfl, rfl, rfl⟩ q)
    · exact wpAny_pyIter_ascii ha (pi_one (tk := s1.toks) I1 _ (turn_str _ z t "str_ascii_iterator" (.inl rfl)) ⟨_, Heap.get?_push_size _ rfl, rfl, rfl⟩ q)
theorem i_seq (ha : PE X a (tE X.K T c ea)) : PI X tg a (tI X.K T c (.seq ea)) := by
  refine PI.imp (pi_seq ha) fun σ H R ⟨F, ρ, s, ρ', ok, ev, q⟩ => ?_
  simp only [evI] at ev
  cases e1 : evE c ea ρ with
  | none => rw [e1] at ev; cases ev
  | some p =>
    obtain ⟨r1, ρ1⟩ := p
    rw [e1] at ev
    simp only at ev
    cases g : r1.frz with
    | none => rw [g] at ev; cases ev
    | some d =>
      rw [g] at ev
      simp only at ev
      cases gs : srcOf d with
      | none => rw [gs] at ev; cases ev
      | some s1 =>
        rw [gs] at ev
        cases ev
        refine ⟨F, ρ, r1, _, ok, e1, fun v F1 H1 P1 => ?_⟩
        obtain ⟨F', k1, k2, k3, k4⟩ := P1.rr.frozen P1.ok g P1.own P1.stp
        have q := fun J h => q J F' H1 ⟨k1, k2⟩ h
        cases d <;> simp only [srcOf] at gs <;> try cases gs
        · split at gs
          · cases gs
            rw [k3.strE]
            exact .inr (.inr ⟨_, rfl, q _ feeds_str⟩)
          · cases gs
        · cases k3 with
          | tup h1 h2 => exact .inr (.inl ⟨_, rfl, ⟨_, sqT_mono k1.same h1⟩, q _ (feeds_tup h1 h2)⟩)
        · cases k3 with
          | lst h1 h2 => exact .inl ⟨_, rfl, ⟨_, sqL_mono k1.same h1⟩, q _ (feeds_list h1 h2)⟩
theorem fz_int {r1 : R} {ρ1 : Rho} {α : Type} {f : Int → Option α} {z : α} (ev : (match (r1 : R) with | .fz (.int j) => f j | _ => none) = some z) : ∃ k, r1 = .fz (.int k) ∧ f k = some z := by
  rcases r1 with (_ | _ | k | _ | _ | _ | _) | _ | _ | _ <;> first | exact ⟨_, rfl, ev⟩ | (simp at ev; done)
theorem rg_of {i : Int} (h : rgOk i = true) : -(2 ^ 62) ≤ i ∧ i < 2 ^ 62 := by
  unfold rgOk at h
  simp only [Bool.and_eq_true, decide_eq_true_eq] at h
  omega
theorem i_rng1 (ha : PE X a (tE X.K T c ea)) (hg : Gl X "range") (hm : X.mg "range" = none) (hs : notStar a = true) : PI X tg (.Call (.Name "range" p) [a] [] pos) (tI X.K T c (.rng1 ea)) := by
  refine PI.imp (pi_range1 hg hm (pa_cons ha pa_nil (star_cons hs)) (star_cons hs)) fun σ H R ⟨F, ρ, s, ρ', ok, ev, q⟩ => ?_
  simp only [evI] at ev
  cases e1 : evE c ea ρ with
  | none => rw [e1] at ev; cases ev
  | some z =>
    obtain ⟨r1, ρ1⟩ := z
    rw [e1] at ev
    have key : ∃ k, r1 = .fz (.int k) := by
      rcases r1 with (_ | _ | k | _ | _ | _ | _) | _ | _ | _ <;> first | exact ⟨_, rfl⟩ | (simp at ev; done)
    obtain ⟨k, rfl⟩ := key
    simp only at ev
    split at ev
    · rename_i hk
      cases ev
      refine ⟨F, ρ, _, _, ok, e1, fun v F1 H1 P1 => ?_⟩
      have e2 : Rp X.K F1 v (.int k) := P1.rr
      rw [e2.intE]
      exact ⟨k, rfl, (rg_of hk).1, (rg_of hk).2, q _ F1 H1 ⟨P1.ok, P1.stp⟩ feeds_rng⟩
    · cases ev
theorem i_rng2 (ha : PE X a (tE X.K T c ea)) (hb : PE X b (tE X.K T c eb)) (hg : Gl X "range") (hm : X.mg "range" = none) (hs : notStar a = true) (hs2 : notStar b = true) : PI X tg (.Call (.Name "range" p) [a, b] [] pos) (tI X.K T c (.rng2 ea eb)) := by
  refine PI.imp (pi_range2 hg hm (pa_cons ha (pa_cons hb pa_nil (star_cons hs2)) (star_cons hs)) (by rw [star_cons hs, star_cons hs2]; rfl) (star_cons hs2)) fun σ H R ⟨F, ρ, s, ρ', ok, ev, q⟩ => ?_
  simp only [evI] at ev
  cases e1 : evE c ea ρ with
  | none => rw [e1] at ev; cases ev
  | some z =>
    obtain ⟨r1, ρ1⟩ := z
    rw [e1] at ev
    have key : ∃ k, r1 = .fz (.int k) := by
      rcases r1 with (_ | _ | k | _ | _ | _ | _) | _ | _ | _ <;> first | exact ⟨_, rfl⟩ | (simp at ev; done)
    obtain ⟨k, rfl⟩ := key
    simp only at ev
    cases e2 : evE c eb ρ1 with
    | none => rw [e2] at ev; cases ev
    | some z =>
      obtain ⟨r2, ρ2⟩ := z
      rw [e2] at ev
      have key : ∃ k, r2 = .fz (.int k) := by
        rcases r2 with (_ | _ | k | _ | _ | _ | _) | _ | _ | _ <;> first | exact ⟨_, rfl⟩ | (simp at ev; done)
      obtain ⟨m, rfl⟩ := key
      simp only at ev
      split at ev
      · rename_i hk
        rw [Bool.and_eq_true] at hk
        cases ev
        refine ⟨F, ρ, _, ρ1, ok, e1, fun v F1 H1 P1 => ⟨F1, ρ1, _, _, P1.ok, e2, fun w F2 H2 P2 => ?_⟩⟩
        have g1 : Rp X.K F1 v (.int k) := P1.rr
        have g2 : Rp X.K F2 w (.int m) := P2.rr
        rw [g1.intE, g2.intE]
        exact ⟨k, m, rfl, ⟨(rg_of hk.1).1, (rg_of hk.1).2, (rg_of hk.2).1, (rg_of hk.2).2⟩, q _ F2 H2 ⟨P2.ok, P1.stp.trans P2.stp P1.ok.tabs'⟩ feeds_rng⟩
      · cases ev
end
end NW
namespace NW
open PySem PySem.Spec PyProof.Rows L2

mutual
def Tg.ix : Tg → List Nat
  | .nm i => [i]
  | .tup ts => Tgs.ix ts
def Tgs.ix : Tgs → List Nat
  | .nil => []
  | .cons t ts => Tg.ix t ++ Tgs.ix ts
end
section
variable {K : PySem.W.Frag} {T : List Addr} {F F' F1 F2 H H' H1 H2 : Hp} {σ σ' σ1 σ2 : L2.St} {ρ ρ' ρ1 ρ2 : Rho}
/-- a slot stored -/
theorem set_ok {s : Sl} {v : V} {i : Nat} (o : OK K T F H σ ρ) (hi : i < ρ.length) (hs : match s with | .no => True | .fz d => Rp K F v d | .ow d => ∃ a, v = .ref a ∧ Top K T F H a d ∧ ¬ Owns σ ρ a) :
    OK K T F H (σ.set i (some v)) (ρ.set i s) := by
  have hi' : i < σ.length := by rw [← o.len]; exact hi
  refine ⟨o.same, o.tabs, by rw [List.length_set, List.length_set]; exact o.len, fun j d e => ?_, fun j d e => ?_, fun j k d e a h1 h2 h3 h4 => ?_⟩
  · by_cases z : i = j
    · subst z
      rw [List.getElem?_set_self hi] at e
      cases e
      exact ⟨v, List.getElem?_set_self hi', hs⟩
    · rw [List.getElem?_set_ne z] at e ⊢
      exact o.fz j d e
  · by_cases z : i = j
    · subst z
      rw [List.getElem?_set_self hi] at e
      cases e
      obtain ⟨a, rfl, t, _⟩ := hs
      exact ⟨a, List.getElem?_set_self hi', t⟩
    · rw [List.getElem?_set_ne z] at e ⊢
      exact o.ow j d e
  · by_cases z : i = j
    · by_cases z2 : i = k
      · exact z.symm.trans z2
      · subst z
        rw [List.getElem?_set_self hi] at h1
        rw [List.getElem?_set_self hi'] at h3
        rw [List.getElem?_set_ne z2] at h2 h4
        cases h1
        cases h3
        obtain ⟨a', e', t, n⟩ := hs
        cases e'
        exact (n ⟨k, e, h2, h4⟩).elim
    · by_cases z2 : i = k
      · subst z2
        rw [List.getElem?_set_self hi] at h2
        rw [List.getElem?_set_self hi'] at h4
        rw [List.getElem?_set_ne z] at h1 h3
        cases h2
        cases h4
        obtain ⟨a', e', t, n⟩ := hs
        cases e'
        exact (n ⟨j, d, h1, h3⟩).elim
      · rw [List.getElem?_set_ne z] at h1 h3
        rw [List.getElem?_set_ne z2] at h2 h4
        exact o.inj j k d e a h1 h2 h3 h4
theorem set_stp {s : Sl} {v : V} {i : Nat} (o : OK K T F H σ ρ) (hs : ∀ d a, s = .ow d → v = .ref a → Owns σ ρ a ∨ H a = none ∨ True) (hn : ∀ d, s ≠ .ow d) : Stp T F H σ ρ F H (σ.set i (some v)) (ρ.set i s) := by
  refine ⟨Same.refl F, fun _ _ e _ _ => e, fun _ _ e => .inl e, fun a ⟨j, d, h1, h2⟩ => ?_⟩
  rw [List.getElem?_set] at h1
  split at h1
  · split at h1
    · cases h1
      exact (hn d rfl).elim
    · cases h1
  · rename_i z
    rw [List.getElem?_set_ne z] at h2
    exact .inl ⟨j, d, h1, h2⟩
structure PostG (K : PySem.W.Frag) (T : List Addr) (F H : Hp) (σ : L2.St) (ρ : Rho) (is : List Nat) (σ' : L2.St) (ρ' : Rho) : Prop where
  ok : OK K T F H σ' ρ'
  stp : Stp T F H σ ρ F H σ' ρ'
  len : σ'.length = σ.length
  out : ∀ i, i ∉ is → σ'[i]? = σ[i]?
end
def tG (K : PySem.W.Frag) (T : List Addr) (t : Tg) : TG := fun v σ H Q => ∃ F ρ d ρ', OK K T F H σ ρ ∧ Rp K F v d ∧ stT t d ρ = some ρ' ∧ ∀ σ', PostG K T F H σ ρ t.ix σ' ρ' → Q σ' H
def tGs (K : PySem.W.Frag) (T : List Addr) (ts : Tgs) : TGs := fun vs σ H Q => ∃ F ρ ds ρ', OK K T F H σ ρ ∧ RpL K F vs ds ∧ stTs ts ds ρ = some ρ' ∧ ∀ σ', PostG K T F H σ ρ ts.ix σ' ρ' → Q σ' H
section
variable {X : Cx} {T : List Addr} {pos : Pos}
theorem PG.imp {e : Expr} {t t' : TG} (h : PG X e t) (i : ∀ v σ H Q, t' v σ H Q → t v σ H Q) : PG X e t' := ⟨fun pins s σ H v u Q I r q => h.run pins s σ H v u Q I r (i v σ H Q q)⟩
theorem PGs.imp {es : List Expr} {t t' : TGs} (h : PGs X es t) (i : ∀ v σ H Q, t' v σ H Q → t v σ H Q) : PGs X es t' := ⟨fun pins s σ H v u Q I r q => h.run pins s σ H v u Q I r (i v σ H Q q)⟩
theorem g_nm {i : Nat} {x : Str} (hN : X.N.Nodup) (hi : X.N[i]? = some x) (hx : Loc X.env.scope x) (hf : X.fn x = true ∨ X.env.scope.names.lookup x = some .local) : PG X (.Name x pos) (tG X.K T (.nm i)) := by
  refine PG.imp (pg_name hN hi hx hf) fun v σ H Q ⟨F, ρ, d, ρ', ok, rp, st, q⟩ => ?_
  simp only [stT] at st
  split at st
  · rename_i h
    cases st
    have h' : i < σ.length := by rw [← ok.len]; exact h
    refine q _ ⟨set_ok (s := .fz d) ok h rp, set_stp (s := .fz d) ok (fun d a e => by cases e) (fun d e => by cases e), by rw [List.length_set], fun j hj => ?_⟩
    rw [List.getElem?_set_ne]
    intro z
    exact hj (by show j ∈ [i]; rw [z]; exact List.mem_singleton.mpr rfl)
  · cases st
theorem gs_nil' : PGs X [] (tGs X.K T .nil) := by
  refine PGs.imp pgs_nil fun v σ H Q ⟨F, ρ, d, ρ', ok, rp, st, q⟩ => ?_
  simp only [stTs] at st
  cases d with
  | nil =>
    cases st
    cases rp
    exact ⟨rfl, q σ ⟨ok, Stp.refl, rfl, fun _ _ => rfl⟩⟩
  | cons _ _ => cases st
variable {e : Expr} {es : List Expr} {t : Tg} {ts : Tgs}
theorem asn_cons {e : Expr} {es : List Expr} {env : Env} (h : notStar e = true) : assignEach (e :: es) env = (false, assign e env) :: assignEach es env := by
  cases e <;> first | rfl | (simp [notStar] at h)
theorem asn_len {env : Env} : ∀ {es : List Expr}, es.all notStar = true → (assignEach es env).length = es.length ∧ (assignEach es env).findIdx? (·.1) = none
  | [], _ => ⟨rfl, rfl⟩
  | e :: es, h => by
    simp only [List.all_cons, Bool.and_eq_true] at h
    rw [asn_cons h.1]
    obtain ⟨k1, k2⟩ := asn_len (env := env) h.2
    refine ⟨by rw [List.length_cons, List.length_cons, k1], ?_⟩
    rw [List.findIdx?_cons]
    simp only [Bool.false_eq_true, if_false]
    rw [k2]; rfl
theorem gs_cons' (h1 : PG X e (tG X.K T t)) (h2 : PGs X es (tGs X.K T ts)) (hs : notStar e = true) : PGs X (e :: es) (tGs X.K T (.cons t ts)) := by
  refine PGs.imp (pgs_cons h1 h2 (by rw [asn_cons hs]; rfl)) fun v σ H Q ⟨F, ρ, ds, ρ', ok, rp, st, q⟩ => ?_
  simp only [stTs] at st
  cases ds with
  | nil => cases st
  | cons d ds =>
    simp only at st
    cases e1 : stT t d ρ with
    | none => rw [e1] at st; cases st
    | some ρ1 =>
      rw [e1] at st
      cases rp with
      | cons a b =>
        refine ⟨_, _, rfl, F, ρ, d, ρ1, ok, a, e1, fun σ1 P1 => ⟨F, ρ1, ds, ρ', P1.ok, b, st, fun σ2 P2 => q σ2 ⟨P2.ok, P1.stp.trans P2.stp P1.ok.tabs', P2.len.trans P1.len, fun i hi => ?_⟩⟩⟩
        have hi : i ∉ t.ix ++ ts.ix := hi
        rw [List.mem_append, not_or] at hi
        rw [P2.out i hi.2, P1.out i hi.1]
theorem stTs_len : ∀ {ts : Tgs} {es : List Expr} {ds : List D} {ρ ρ' : Rho}, stTs ts ds ρ = some ρ' → (∀ (n : Nat), True) → True := fun _ _ => trivial
def Tgs.len : Tgs → Nat
  | .nil => 0
  | .cons _ ts => ts.len + 1
theorem stTs_len' : ∀ (ts : Tgs) {ds : List D} {ρ ρ' : Rho}, stTs ts ds ρ = some ρ' → ds.length = ts.len
  | .nil, ds, ρ, ρ', h => by
    simp only [stTs] at h
    cases ds with
    | nil => rfl
    | cons _ _ => cases h
  | .cons t ts, ds, ρ, ρ', h => by
    simp only [stTs] at h
    cases ds with
    | nil => cases h
    | cons d ds =>
      simp only at h
      cases e1 : stT t d ρ with
      | none => rw [e1] at h; cases h
      | some ρ1 =>
        rw [e1] at h
        show ds.length + 1 = ts.len + 1
        rw [stTs_len' ts h]
theorem g_tup {k : Nat} (hc : X.calm = true) (h : PGs X es (tGs X.K T ts)) (hs : es.all notStar = true) (hl : es.length = ts.len) : PG X (.Tuple es k pos) (tG X.K T (.tup ts)) := by
  obtain ⟨k1, k2⟩ := asn_len (env := X.env) hs
  refine PG.imp (pg_tup hc h k1 k2) fun v σ H Q ⟨F, ρ, d, ρ', ok, rp, st, q⟩ => ?_
  simp only [stT] at st
  cases d <;> simp only at st <;> try cases st
  cases rp with
  | tup h1 h2 =>
    refine ⟨_, _, rfl, sqT_mono ok.same h1, ?_, F, ρ, _, ρ', ok, h2, st, q⟩
    rw [h2.length, stTs_len' ts st, hl]
end

theorem wipeR_len : ∀ (is : List Nat) (ρ : Rho), (wipeR is ρ).length = ρ.length
  | [], _ => rfl
  | i :: is, ρ => by
    unfold wipeR
    rw [wipeR_len is, List.length_set]
theorem wipeR_get : ∀ {is : List Nat} {ρ : Rho} {j : Nat} {s : Sl}, (wipeR is ρ)[j]? = some s → s ≠ .no → j ∉ is ∧ ρ[j]? = some s
  | [], _, _, _, h, _ => ⟨by simp, h⟩
  | i :: is, ρ, j, s, h, hs => by
    unfold wipeR at h
    obtain ⟨k1, k2⟩ := wipeR_get h hs
    rw [List.getElem?_set] at k2
    split at k2
    · split at k2
      · cases k2; exact (hs rfl).elim
      · cases k2
    · rename_i z
      exact ⟨by simp only [List.mem_cons, not_or]; exact ⟨fun e => z e.symm, k1⟩, k2⟩
theorem wipeR_out : ∀ {is : List Nat} {ρ : Rho} {j : Nat}, j ∉ is → (wipeR is ρ)[j]? = ρ[j]?
  | [], _, _, _ => rfl
  | i :: is, ρ, j, h => by
    simp only [List.mem_cons, not_or] at h
    unfold wipeR
    rw [wipeR_out h.2, List.getElem?_set_ne (fun e => h.1 e.symm)]
theorem wipe_out' : ∀ {is : List Nat} {σ : L2.St} {j : Nat}, j ∉ is → (wipe σ is)[j]? = σ[j]?
  | [], _, _, _ => rfl
  | i :: is, σ, j, h => by
    simp only [List.mem_cons, not_or] at h
    unfold wipe
    rw [List.getElem?_set_ne (fun e => h.1 e.symm), wipe_out' h.2]
theorem wipe_in : ∀ {is : List Nat} {σ : L2.St} {j : Nat}, j ∈ is → (wipe σ is)[j]? = if j < σ.length then some none else none
  | [], _, _, h => by cases h
  | i :: is, σ, j, h => by
    unfold wipe
    rw [List.getElem?_set]
    by_cases z : i = j
    · subst z
      rw [if_pos rfl, wipe_length]
    · rw [if_neg z]
      rcases List.mem_cons.mp h with e | h
      · exact (z e.symm).elim
      · exact wipe_in h
theorem wipe_eq {is : List Nat} {σ σ' : L2.St} (hl : σ'.length = σ.length) (h : ∀ i, i ∉ is → σ'[i]? = σ[i]?) : wipe σ' is = wipe σ is := by
  apply List.ext_getElem?
  intro j
  by_cases z : j ∈ is
  · rw [wipe_in z, wipe_in z, hl]
  · rw [wipe_out' z, wipe_out' z, h j z]
theorem wipe_wipe {is : List Nat} {σ : L2.St} : wipe (wipe σ is) is = wipe σ is := wipe_eq (wipe_length σ is) fun i h => wipe_out' h
theorem restore_len (old : Rho) : ∀ (is : List Nat) (ρ : Rho), (restore old is ρ).length = ρ.length
  | [], _ => rfl
  | i :: is, ρ => by
    unfold restore
    rw [restore_len old is]
    split
    · rw [List.length_set]
    · rfl
theorem restore_get {old : Rho} : ∀ {is : List Nat} {ρ : Rho} {j : Nat} {s : Sl}, ρ.length = old.length → (restore old is ρ)[j]? = some s → (j ∈ is ∧ old[j]? = some s) ∨ (j ∉ is ∧ ρ[j]? = some s)
  | [], _, _, _, _, h => .inr ⟨by simp, h⟩
  | i :: is, ρ, j, s, hl, h => by
    unfold restore at h
    have hl' : (match old[i]? with | some s => ρ.set i s | none => ρ).length = old.length := by
      split
      · rw [List.length_set]; exact hl
      · exact hl
    rcases restore_get hl' h with ⟨h1, h2⟩ | ⟨h1, h2⟩
    · exact .inl ⟨List.mem_cons_of_mem _ h1, h2⟩
    · by_cases z : i = j
      · subst z
        refine .inl ⟨List.mem_cons_self, ?_⟩
        cases g : old[i]? with
        | none =>
          rw [g] at h2
          have h3 : ρ[i]? = some s := h2
          have := (List.getElem?_eq_some_iff.mp h3).1
          rw [hl] at this
          rw [List.getElem?_eq_getElem this] at g
          cases g
        | some s' =>
          rw [g] at h2
          have hi : i < ρ.length := by rw [hl]; exact (List.getElem?_eq_some_iff.mp g).1
          have h2 : (ρ.set i s')[i]? = some s := h2
          rw [List.getElem?_set_self hi] at h2
          exact h2
      · refine .inr ⟨by simp only [List.mem_cons, not_or]; exact ⟨fun e => z e.symm, h1⟩, ?_⟩
        cases g : old[i]? with
        | none => rw [g] at h2; exact h2
        | some s' =>
          rw [g] at h2
          have h2 : (ρ.set i s')[j]? = some s := h2
          rw [List.getElem?_set_ne z] at h2
          exact h2
section
variable {K : PySem.W.Frag} {T : List Addr} {F F' F1 F2 H H' H1 H2 : Hp} {σ σ' σ1 σ2 : L2.St} {ρ ρ' ρ1 ρ2 : Rho} {is : List Nat}
theorem own_wipe {a : Addr} (h : Owns (wipe σ is) (wipeR is ρ) a) : Owns σ ρ a := by
  obtain ⟨j, d, h1, h2⟩ := h
  obtain ⟨k1, k2⟩ := wipeR_get h1 (by simp)
  rw [wipe_out' k1] at h2
  exact ⟨j, d, k2, h2⟩
theorem ok_wipe (o : OK K T F H σ ρ) : OK K T F H (wipe σ is) (wipeR is ρ) := by
  refine ⟨o.same, o.tabs, by rw [wipeR_len, wipe_length]; exact o.len, fun j d e => ?_, fun j d e => ?_, fun j k d e a h1 h2 h3 h4 => ?_⟩
  · obtain ⟨k1, k2⟩ := wipeR_get e (by simp)
    rw [wipe_out' k1]
    exact o.fz j d k2
  · obtain ⟨k1, k2⟩ := wipeR_get e (by simp)
    rw [wipe_out' k1]
    exact o.ow j d k2
  · obtain ⟨k1, k2⟩ := wipeR_get h1 (by simp)
    obtain ⟨k3, k4⟩ := wipeR_get h2 (by simp)
    rw [wipe_out' k1] at h3
    rw [wipe_out' k3] at h4
    exact o.inj j k d e a k2 k4 h3 h4
theorem stp_wipe : Stp T F H σ ρ F H (wipe σ is) (wipeR is ρ) := ⟨Same.refl F, fun _ _ e _ _ => e, fun _ _ e => .inl e, fun _ h => .inl (own_wipe h)⟩
/-- an object that stands apart is written -/
theorem ok_upd {b : Addr} {w : HO} (o : OK K T F H σ ρ) (hF : F b = none) (hT : b ∉ T) (hO : ¬ Owns σ ρ b) : OK K T F (upd H b w) σ ρ := by
  refine ⟨fun c u e => ?_, fun P hP => ?_, o.len, o.fz, fun i d e => ?_, o.inj⟩
  · rw [upd_ne (fun z => by rw [z, hF] at e; cases e)]
    exact o.same _ _ e
  · obtain ⟨⟨ps, h1, h2⟩, h3⟩ := o.tabs P hP
    exact ⟨⟨ps, by rw [upd_ne (fun z => hT (by rw [← z]; exact hP))]; exact h1, h2⟩, h3⟩
  · obtain ⟨a, h1, t⟩ := o.ow i d e
    exact ⟨a, h1, t.step (Same.refl F) t.1 fun u eu => by rw [upd_ne (fun z => hO ⟨i, d, e, by rw [← z]; exact h1⟩)]; exact eu⟩
theorem stp_upd {b : Addr} {w : HO} (s : Stp T F H σ ρ F1 H1 σ1 ρ1) (hb : H b = none) : Stp T F H σ ρ F1 (upd H1 b w) σ1 ρ1 :=
  ⟨s.grow, fun c u e n t => by rw [upd_ne (ne_of_none e hb)]; exact s.keep c u e n t, s.new, s.own⟩
/-- behind a comprehension: the names it hid come back -/
theorem ok_restore (o1 : OK K T F1 H1 σ ρ1) (o2 : OK K T F2 H2 (wipe σ is) ρ2) (s : Stp T F1 H1 (wipe σ is) (wipeR is ρ1) F2 H2 (wipe σ is) ρ2) : OK K T F2 H2 σ (restore ρ1 is ρ2) ∧ Stp T F1 H1 σ ρ1 F2 H2 σ (restore ρ1 is ρ2) := by
  have hl : ρ2.length = ρ1.length := by rw [o2.len, wipe_length, o1.len]
  have nO : ∀ (j : Nat) (d : D) (a : Addr), ρ1[j]? = some (Sl.ow d) → σ[j]? = some (some (.ref a)) → j ∈ is → ¬ Owns (wipe σ is) (wipeR is ρ1) a := fun j d a h1 h2 hj ⟨k, e, g1, g2⟩ => by
    obtain ⟨k1, k2⟩ := wipeR_get g1 (by simp)
    rw [wipe_out' k1] at g2
    have := o1.inj j k d e a h1 k2 h2 g2
    exact k1 (by rw [← this]; exact hj)
  have old : ∀ (j : Nat) (d : D), ρ1[j]? = some (Sl.ow d) → j ∈ is → ∃ a, σ[j]? = some (some (.ref a)) ∧ Top K T F2 H2 a d ∧ ¬ Owns (wipe σ is) ρ2 a := fun j d h1 hj => by
    obtain ⟨a, h2, t⟩ := o1.ow j d h1
    obtain ⟨u, hu⟩ := t.ex
    have n := nO j d a h1 h2 hj
    exact ⟨a, h2, t.step s.grow (new_none s t.1 hu n) fun o e => s.keep a o e n t.2.1, not_own_step s hu n⟩
  refine ⟨⟨o2.same, o2.tabs, by rw [restore_len, hl]; exact o1.len, fun j d e => ?_, fun j d e => ?_, fun j k d e a h1 h2 h3 h4 => ?_⟩, ⟨s.grow, fun b u e n t => s.keep b u e (fun h => n (own_wipe h)) t, fun b u e => ?_, fun a h => ?_⟩⟩
  · rcases restore_get hl e with ⟨h1, h2⟩ | ⟨h1, h2⟩
    · obtain ⟨v, g1, g2⟩ := o1.fz j d h2
      exact ⟨v, g1, Rp.mono s.grow _ _ g2⟩
    · obtain ⟨v, g1, g2⟩ := o2.fz j d h2
      rw [wipe_out' h1] at g1
      exact ⟨v, g1, g2⟩
  · rcases restore_get hl e with ⟨h1, h2⟩ | ⟨h1, h2⟩
    · obtain ⟨a, g1, g2, _⟩ := old j d h2 h1
      exact ⟨a, g1, g2⟩
    · obtain ⟨a, g1, g2⟩ := o2.ow j d h2
      rw [wipe_out' h1] at g1
      exact ⟨a, g1, g2⟩
  · rcases restore_get hl h1 with ⟨q1, q2⟩ | ⟨q1, q2⟩
    · rcases restore_get hl h2 with ⟨r1, r2⟩ | ⟨r1, r2⟩
      · exact o1.inj j k d e a q2 r2 h3 h4
      · obtain ⟨a', g1, _, g3⟩ := old j d q2 q1
        rw [h3] at g1
        cases g1
        exact (g3 ⟨k, e, r2, by rw [wipe_out' r1]; exact h4⟩).elim
    · rcases restore_get hl h2 with ⟨r1, r2⟩ | ⟨r1, r2⟩
      · obtain ⟨a', g1, _, g3⟩ := old k e r2 r1
        rw [h4] at g1
        cases g1
        exact (g3 ⟨j, d, q2, by rw [wipe_out' q1]; exact h3⟩).elim
      · exact o2.inj j k d e a q2 r2 (by rw [wipe_out' q1]; exact h3) (by rw [wipe_out' r1]; exact h4)
  · rcases s.new b u e with z | z | z
    · exact .inl z
    · exact .inr (.inl z)
    · exact .inr (.inr (own_wipe z))
  · obtain ⟨j, d, h1, h2⟩ := h
    rcases restore_get hl h1 with ⟨q1, q2⟩ | ⟨q1, q2⟩
    · exact .inl ⟨j, d, q2, h2⟩
    · rcases s.own a ⟨j, d, q2, by rw [wipe_out' q1]; exact h2⟩ with z | z
      · exact .inl (own_wipe z)
      · exact .inr z
end

theorem Src.from_zero (s : Src) : s.from 0 = s := by
  cases s with
  | ls ds => rfl
  | rg lo st n =>
    show Src.rg (lo + ((0 : Nat) : Int) * st) st (n - 0) = .rg lo st n
    simp
section
variable {X : Cx} {T : List Addr} {c : Cl}
theorem lc_read {t : Tg} {own : List Nat} {src : I} {ifs : NW.T} {e : E} (hsub : ∀ i ∈ t.ix, i ∈ own) {σ : L2.St} {H : Hp} {Q : VK} (h : tE X.K T c (.lc t own src ifs e) σ H Q) :
    tLc (tI X.K T c src) (tG X.K T t) (tT X.K T c ifs) (tE X.K T c e) own σ H Q := by
  obtain ⟨F, ρ, r, ρ', ok, ev, q⟩ := h
  simp only [evE] at ev
  cases e1 : evI c src ρ with
  | none => rw [e1] at ev; cases ev
  | some p =>
    obtain ⟨s, ρ1⟩ := p
    rw [e1] at ev
    simp only at ev
    generalize hf : (fun (d : D) (ρ : Rho) => (match stT t d ρ with
        | some ρ => (match evT c ifs ρ with
          | some (true, ρ) => (match evE c e ρ with
            | some (r, ρ) => (match r.frz with
              | some d => some ([d], wipeR own ρ)
              | none => none)
            | none => none)
          | some (false, ρ) => some ([], wipeR own ρ)
          | none => none)
        | none => none : Option (List D × Rho))) = f at ev
    cases e2 : s.walk f (wipeR own ρ1) with
    | none => rw [e2] at ev; cases ev
    | some p =>
      obtain ⟨ds, ρ2⟩ := p
      rw [e2] at ev
      simp only at ev
      split at ev
      · rename_i hl
        cases ev
        refine ⟨F, ρ, s, ρ1, ok, e1, fun J F1 H1 P1 fd D hD => ?_⟩
        have ok1 := P1.ok
        have f1D : F1 D = none := by
          cases z : F1 D with
          | none => rfl
          | some o => rw [ok1.same _ _ z] at hD; cases hD
        have tD : D ∉ T := fun z => by
          obtain ⟨u, hu⟩ := ok1.tabs' D z
          rw [hD] at hu; cases hu
        have nD : ¬ Owns (wipe σ own) (wipeR own ρ1) D := fun z => by
          obtain ⟨⟨u, hu⟩, _⟩ := ok1.owH (own_wipe z)
          rw [hD] at hu; cases hu
        refine ⟨fun i m G => m = s.len - i ∧ i ≤ s.len ∧ ∃ (F' : Hp) (ρc : Rho) (acc : List V) (ds1 ds2 : List NW.D), OK X.K T F' G (wipe σ own) ρc ∧ Stp T F1 H1 (wipe σ own) (wipeR own ρ1) F' G (wipe σ own) ρc ∧ G D = some (.lst acc) ∧ F' D = none ∧ ¬ Owns (wipe σ own) ρc D ∧
            RpL X.K F' acc ds1 ∧ (s.from i).walk f ρc = some (ds2, ρ2) ∧ ds1 ++ ds2 = ds,
          ⟨s.len, by simp, Nat.zero_le _, F1, wipeR own ρ1, [], [], ds, ok_upd (ok_wipe ok1) f1D tD nD, stp_upd Stp.refl hD, upd_same, f1D, nD, .nil, by rw [Src.from_zero]; exact e2, rfl⟩, ?_⟩
        rintro i m G ⟨rfl, hi, F', ρc, acc, ds1, ds2, okc, sc, hG, fD, oD, rp, hw, hds⟩
        obtain ⟨fs, fg⟩ := fd i F' G (wipe σ own) ρc sc.grow okc
        cases ha : s.at i with
        | none =>
          rw [Src.walk_none ha] at hw
          cases hw
          rw [List.append_nil] at hds
          subst hds
          obtain ⟨okr, sr⟩ := ok_restore ok1 okc sc
          refine .inl ⟨fs ha, q (.ref D) F' G ⟨okr, P1.stp.trans sr ok1.tabs', ⟨D, rfl, ⟨fD, tD, acc, hG, rp⟩, fun z => ?_⟩, fun d a _ z => ?_⟩⟩
          · obtain ⟨j, d, g1, g2⟩ := z
            rcases restore_get (by rw [okc.len, wipe_length, ok1.len]) g1 with ⟨q1, q2⟩ | ⟨q1, q2⟩
            · obtain ⟨⟨u, hu⟩, _⟩ := ok1.owH ⟨j, d, q2, g2⟩
              rw [hD] at hu; cases hu
            · exact oD ⟨j, d, q2, by rw [wipe_out' q1]; exact g2⟩
          · cases z
            exact back P1.stp ok1 hD
        | some d =>
          rw [Src.walk_some ha] at hw
          obtain ⟨go, yl⟩ := fg d ha
          refine .inr ⟨go, fun G' => (∃ (F' : Hp) (ρc : Rho) (acc : List V) (ds1 ds2 : List NW.D), OK X.K T F' G' (wipe σ own) ρc ∧ Stp T F1 H1 (wipe σ own) (wipeR own ρ1) F' G' (wipe σ own) ρc ∧ G' D = some (.lst acc) ∧ F' D = none ∧ ¬ Owns (wipe σ own) ρc D ∧
            RpL X.K F' acc ds1 ∧ (s.from (i + 1)).walk f ρc = some (ds2, ρ2) ∧ ds1 ++ ds2 = ds), fun G' hN => ⟨s.len - (i + 1), ?_, rfl, Src.at_lt ha, hN⟩, fun x G1 hy => ?_⟩
          · have := Src.at_lt ha
            omega
          obtain ⟨F2, ok2, s2, rx⟩ := yl x G1 hy
          have c2 := sc.trans s2 okc.tabs'
          have g1D : G1 D = some (.lst acc) := s2.keep D _ hG oD tD
          have o1D : ¬ Owns (wipe σ own) ρc D := oD
          have f2D : F2 D = none := new_none s2 fD hG oD
          cases hfd : f d ρc with
          | none => rw [hfd] at hw; cases hw
          | some p =>
            obtain ⟨xs, ρ3⟩ := p
            rw [hfd] at hw
            simp only at hw
            cases hrest : (s.from (i + 1)).walk f ρ3 with
            | none => rw [hrest] at hw; cases hw
            | some p =>
              obtain ⟨ys, ρ4⟩ := p
              rw [hrest] at hw
              cases hw
              rw [← hf] at hfd
              simp only at hfd
              cases hst : stT t d ρc with
              | none => rw [hst] at hfd; cases hfd
              | some ρa =>
                rw [hst] at hfd
                simp only at hfd
                refine ⟨F2, ρc, d, ρa, ok2, rx, hst, fun σ2 PG => ⟨?_, ?_⟩⟩
                · rw [← wipe_wipe (σ := σ) (is := own)]
                  exact wipe_eq PG.len fun j hj => PG.out j fun z => hj (hsub j z)
                have ew : wipe σ2 own = wipe σ own := by
                  rw [← wipe_wipe (σ := σ) (is := own)]
                  exact wipe_eq PG.len fun j hj => PG.out j fun z => hj (hsub j z)
                have c3 := c2.trans PG.stp ok2.tabs'
                have oaD : ¬ Owns σ2 ρa D := not_own_step PG.stp g1D (not_own_step s2 hG oD)
                cases htt : evT c ifs ρa with
                | none => rw [htt] at hfd; cases hfd
                | some p =>
                  obtain ⟨b, ρb⟩ := p
                  rw [htt] at hfd
                  refine ⟨F2, ρa, b, ρb, PG.ok, htt, fun F3 G3 P3 => ?_⟩
                  have c4 := c3.trans P3.stp PG.ok.tabs'
                  have g3D : G3 D = some (.lst acc) := P3.stp.keep D _ g1D oaD tD
                  have f3D : F3 D = none := new_none P3.stp f2D g1D oaD
                  have obD : ¬ Owns σ2 ρb D := not_own_step P3.stp g1D oaD
                  cases b with
                  | false =>
                    cases hfd
                    refine iteF ⟨F3, wipeR own ρb, acc, ds1, ys, ?_, ?_, g3D, f3D, ?_, Rp.monoL (s2.grow.trans P3.stp.grow) _ _ rp, hrest, ?_⟩
                    · rw [← ew]; exact ok_wipe P3.ok
                    · have z := c4.trans (stp_wipe (is := own)) P3.ok.tabs'
                      rw [ew] at z
                      exact z
                    · rw [← ew]; exact fun z => obD (own_wipe z)
                    · rw [List.nil_append] at hds; exact hds
                  | true =>
                    simp only at hfd
                    refine iteT ?_
                    cases hee : evE c e ρb with
                    | none => rw [hee] at hfd; cases hfd
                    | some p =>
                      obtain ⟨r, ρd⟩ := p
                      rw [hee] at hfd
                      simp only at hfd
                      cases hfr : r.frz with
                      | none => rw [hfr] at hfd; cases hfd
                      | some dd =>
                        rw [hfr] at hfd
                        cases hfd
                        refine ⟨F3, ρb, r, ρd, P3.ok, hee, fun y F4 G4 P4 => ?_⟩
                        have g4D : G4 D = some (.lst acc) := P4.stp.keep D _ g3D obD tD
                        have odD : ¬ Owns σ2 ρd D := not_own_step P4.stp g3D obD
                        obtain ⟨F5, k1, k2, k3, k4⟩ := P4.rr.frozen P4.ok hfr P4.own P4.stp
                        have f5D : F5 D = none := new_none k2 f3D g3D obD
                        have c5 := c4.trans k2 P3.ok.tabs'
                        have grow5 : Same F' F5 := s2.grow.trans (P3.stp.grow.trans k2.grow)
                        have len : acc.length < sizeLine := by
                          have l1 := rp.length
                          have l2 := congrArg List.length hds
                          simp only [List.length_append, List.length_cons, List.length_nil] at l2
                          rw [line24]
                          omega
                        refine ⟨acc, g4D, len, F5, wipeR own ρd, acc ++ [y], ds1 ++ [dd], ys, ?_, ?_, upd_same, f5D, ?_, (Rp.monoL grow5 _ _ rp).append (.cons k3 .nil), hrest, ?_⟩
                        · rw [← ew]
                          exact ok_upd (ok_wipe k1) f5D tD fun z => odD (own_wipe z)
                        · have z := stp_upd (w := .lst (acc ++ [y])) (c5.trans (stp_wipe (is := own)) k1.tabs') hD
                          rw [ew] at z
                          exact z
                        · rw [← ew]; exact fun z => odD (own_wipe z)
                        · rw [List.append_assoc]
                          exact hds
      · cases ev
end
end NW
namespace NW
open PySem PySem.Spec PyProof.Rows L2

structure PostN (K : PySem.W.Frag) (T : List Addr) (k : Option Nat) (F H : Hp) (σ : L2.St) (ρ : Rho) (F' H' : Hp) (σ' : L2.St) (ρ' : Rho) : Prop where
  ok : OK K T F' H' σ' ρ'
  stp : Stp T F H σ ρ F' H' σ' ρ'
  io : ∀ j, k = some j → σ'[j]? = σ[j]?
structure PostR (K : PySem.W.Frag) (T : List Addr) (k : Option Nat) (F H : Hp) (σ : L2.St) (ρ : Rho) (r : R) (v : V) (F' H' : Hp) (σ' : L2.St) (ρ' : Rho) : Prop where
  ok : OK K T F' H' σ' ρ'
  stp : Stp T F H σ ρ F' H' σ' ρ'
  io : ∀ j, k = some j → σ'[j]? = σ[j]?
  rr : RR K T F' H' σ' ρ' r v
  own : ∀ d a, r = .ow d → v = .ref a → H a = none ∨ Owns σ ρ a
def fin (K : PySem.W.Frag) (T : List Addr) (k : Option Nat) (F H : Hp) (σ : L2.St) (ρ : Rho) (o : Out) (D : Ends) : Prop := match o with
  | .nx ρ' => ∀ F' H' σ', PostN K T k F H σ ρ F' H' σ' ρ' → D.nx σ' H'
  | .bk ρ' => ∀ F' H' σ', PostN K T k F H σ ρ F' H' σ' ρ' → D.bk σ' H'
  | .ct ρ' => ∀ F' H' σ', PostN K T k F H σ ρ F' H' σ' ρ' → D.ct σ' H'
  | .rt r ρ' => ∀ v F' H' σ', PostR K T k F H σ ρ r v F' H' σ' ρ' → D.rt v H'
def tS (K : PySem.W.Frag) (T : List Addr) (L : Nat) (c : Cl) (k : Option Nat) (s : S) : TS := fun D σ H => ∃ F ρ o, OK K T F H σ ρ ∧ evS L c s ρ = some o ∧ fin K T k F H σ ρ o D
def tSs (K : PySem.W.Frag) (T : List Addr) (L : Nat) (c : Cl) (k : Option Nat) (s : Ss) : TS := fun D σ H => ∃ F ρ o, OK K T F H σ ρ ∧ evSs L c s ρ = some o ∧ fin K T k F H σ ρ o D
section
variable {K : PySem.W.Frag} {T : List Addr} {k : Option Nat} {F F' F1 F2 H H' H1 H2 : Hp} {σ σ' σ1 σ2 : L2.St} {ρ ρ' ρ1 ρ2 : Rho}
theorem PostN.trans (p : PostN K T k F H σ ρ F1 H1 σ1 ρ1) (q : PostN K T k F1 H1 σ1 ρ1 F2 H2 σ2 ρ2) : PostN K T k F H σ ρ F2 H2 σ2 ρ2 :=
  ⟨q.ok, p.stp.trans q.stp p.ok.tabs', fun j e => (q.io j e).trans (p.io j e)⟩
theorem back' (p : Stp T F H σ ρ F1 H1 σ1 ρ1) (o1 : OK K T F1 H1 σ1 ρ1) {b : Addr} (h : H1 b = none) : H b = none ∨ Owns σ ρ b := by
  cases hn : H b with
  | none => exact .inl rfl
  | some u =>
    by_cases ho : Owns σ ρ b
    · exact .inr ho
    · by_cases ht : b ∈ T
      · obtain ⟨w, hw⟩ := o1.tabs' b ht
        rw [hw] at h; cases h
      · rw [p.keep b u hn ho ht] at h; cases h
theorem PostN.ret (p : PostN K T k F H σ ρ F1 H1 σ1 ρ1) {r : R} {v : V} (q : PostR K T k F1 H1 σ1 ρ1 r v F2 H2 σ2 ρ2) : PostR K T k F H σ ρ r v F2 H2 σ2 ρ2 :=
  ⟨q.ok, p.stp.trans q.stp p.ok.tabs', fun j e => (q.io j e).trans (p.io j e), q.rr, fun d a e1 e2 => by
    rcases q.own d a e1 e2 with z | z
    · exact back' p.stp p.ok z
    · exact (p.stp.own a z).symm⟩
theorem fin.step {o : Out} {D : Ends} (h : fin K T k F H σ ρ o D) (p : PostN K T k F H σ ρ F1 H1 σ1 ρ1) : fin K T k F1 H1 σ1 ρ1 o D := by
  cases o with
  | nx ρ' => exact fun F' H' σ' q => h F' H' σ' (p.trans q)
  | bk ρ' => exact fun F' H' σ' q => h F' H' σ' (p.trans q)
  | ct ρ' => exact fun F' H' σ' q => h F' H' σ' (p.trans q)
  | rt r ρ' => exact fun v F' H' σ' q => h v F' H' σ' (p.ret q)
theorem PostN.of (ok : OK K T F' H' σ ρ') (s : Stp T F H σ ρ F' H' σ ρ') : PostN K T k F H σ ρ F' H' σ ρ' := ⟨ok, s, fun _ _ => rfl⟩
/-- a value stored -/
theorem put_post {r : R} {v : V} {i : Nat} (P : Post K T F H σ ρ r v F1 H1 ρ1) (hp : put i r ρ1 = some ρ2) (hk : k ≠ some i) : PostN K T k F H σ ρ F1 H1 (σ.set i (some v)) ρ2 := by
  unfold put at hp
  split at hp
  · rename_i hi
    have io : ∀ j, k = some j → (σ.set i (some v))[j]? = σ[j]? := fun j e => List.getElem?_set_ne fun z => hk (by rw [z]; exact e)
    cases r with
    | bo i => cases hp
    | io i => cases hp
    | fz d =>
      cases hp
      exact ⟨set_ok (s := .fz d) P.ok hi P.rr, P.stp.trans (set_stp (s := .fz d) P.ok (fun d a e => by cases e) (fun d e => by cases e)) P.ok.tabs', io⟩
    | ow d =>
      cases hp
      obtain ⟨a, rfl, t, n⟩ := P.rr
      refine ⟨set_ok (s := .ow d) P.ok hi ⟨a, rfl, t, n⟩, ⟨P.stp.grow, P.stp.keep, P.stp.new, fun b ⟨j, e, h1, h2⟩ => ?_⟩, io⟩
      by_cases z : i = j
      · subst z
        have hi' : i < σ.length := by rw [← P.ok.len]; exact hi
        rw [List.getElem?_set_self hi'] at h2
        cases h2
        exact (P.own d a rfl rfl).symm
      · rw [List.getElem?_set_ne z] at h1 h2
        exact P.stp.own b ⟨j, e, h1, h2⟩
  · cases hp
/-- an object of one's own is changed -/
theorem ow_upd {i : Nat} {d d' : D} {a : Addr} {w : HO} (o : OK K T F H σ ρ) (h : ρ[i]? = some (.ow d)) (hv : σ[i]? = some (some (.ref a))) (t' : Top K T F (upd H a w) a d') :
    OK K T F (upd H a w) σ (ρ.set i (.ow d')) ∧ Stp T F H σ ρ F (upd H a w) σ (ρ.set i (.ow d')) := by
  have ho : Owns σ ρ a := ⟨i, d, h, hv⟩
  obtain ⟨_, tT, fa⟩ := o.owH ho
  have hi : i < ρ.length := (List.getElem?_eq_some_iff.mp h).1
  have og : ∀ {j : Nat} {e : D}, (ρ.set i (.ow d'))[j]? = some (.ow e) → ∃ e', ρ[j]? = some (.ow e') := fun {j e} q => by
    by_cases z : i = j
    · subst z; exact ⟨d, h⟩
    · rw [List.getElem?_set_ne z] at q; exact ⟨e, q⟩
  refine ⟨⟨fun c u e => ?_, fun P hP => ?_, by rw [List.length_set]; exact o.len, fun j e q => ?_, fun j e q => ?_, fun j l e1 e2 b h1 h2 h3 h4 => ?_⟩, ⟨Same.refl F, fun b u e n t => ?_, fun b u e => .inl e, fun b ⟨j, e, q1, q2⟩ => ?_⟩⟩
  · rw [upd_ne (fun z => by rw [z, fa] at e; cases e)]; exact o.same _ _ e
  · obtain ⟨⟨ps, h1, h2⟩, h3⟩ := o.tabs P hP
    exact ⟨⟨ps, by rw [upd_ne (fun z => tT (by rw [← z]; exact hP))]; exact h1, h2⟩, h3⟩
  · by_cases z : i = j
    · subst z; rw [List.getElem?_set_self hi] at q; cases q
    · rw [List.getElem?_set_ne z] at q; exact o.fz j e q
  · by_cases z : i = j
    · subst z
      rw [List.getElem?_set_self hi] at q
      cases q
      exact ⟨a, hv, t'⟩
    · rw [List.getElem?_set_ne z] at q
      obtain ⟨b, h1, t⟩ := o.ow j e q
      exact ⟨b, h1, t.step (Same.refl F) t.1 fun u eu => by rw [upd_ne (fun y => z (o.inj i j d e a h q hv (by rw [← y]; exact h1)))]; exact eu⟩
  · obtain ⟨e1', k1⟩ := og h1
    obtain ⟨e2', k2⟩ := og h2
    exact o.inj j l e1' e2' b k1 k2 h3 h4
  · rw [upd_ne (fun z => n (by rw [z]; exact ho))]; exact e
  · obtain ⟨e', k1⟩ := og q1
    exact .inl ⟨j, e', k1, q2⟩
end

section
variable {X : Cx} {T : List Addr} {L : Nat} {c : Cl} {k : Option Nat} {pos : Pos}
theorem PS.imp {st : Stmt} {t t' : TS} (h : PS X st t) (i : ∀ D σ H, t' D σ H → t D σ H) : PS X st t' := ⟨fun pins s σ H D I q => h.run pins s σ H D I (i D σ H q)⟩
theorem PSs.imp {st : List Stmt} {t t' : TS} (h : PSs X st t) (i : ∀ D σ H, t' D σ H → t D σ H) : PSs X st t' := ⟨fun pins s σ H D I q => h.run pins s σ H D I (i D σ H q)⟩
theorem ss_nil : PSs X [] (tSs X.K T L c k .nil) := by
  refine PSs.imp pss_nil fun D σ H ⟨F, ρ, o, ok, ev, f⟩ => ?_
  simp only [evSs] at ev
  cases ev
  exact f F H σ (.of ok Stp.refl)
theorem ss_cons {st : Stmt} {sts : List Stmt} {s : S} {ss : Ss} (h1 : PS X st (tS X.K T L c k s)) (h2 : PSs X sts (tSs X.K T L c k ss)) : PSs X (st :: sts) (tSs X.K T L c k (.cons s ss)) := by
  refine PSs.imp (pss_cons h1 h2) fun D σ H ⟨F, ρ, o, ok, ev, f⟩ => ?_
  simp only [evSs] at ev
  cases e1 : evS L c s ρ with
  | none => rw [e1] at ev; cases ev
  | some o1 =>
    rw [e1] at ev
    refine ⟨F, ρ, o1, ok, e1, ?_⟩
    cases o1 with
    | nx ρ1 => exact fun F1 H1 σ1 P1 => ⟨F1, ρ1, o, P1.ok, ev, f.step P1⟩
    | bk ρ1 => cases ev; exact f
    | ct ρ1 => cases ev; exact f
    | rt r ρ1 => cases ev; exact f
variable {e : Expr} {ee : E}
theorem s_pass : PS X (.Pass pos) (tS X.K T L c k .pass) := by
  refine PS.imp ps_pass fun D σ H ⟨F, ρ, o, ok, ev, f⟩ => ?_
  simp only [evS] at ev
  cases ev
  exact f F H σ (.of ok Stp.refl)
theorem s_brk : PS X (.Break pos) (tS X.K T L c k .brk) := by
  refine PS.imp ps_break fun D σ H ⟨F, ρ, o, ok, ev, f⟩ => ?_
  simp only [evS] at ev
  cases ev
  exact f F H σ (.of ok Stp.refl)
theorem s_cnt : PS X (.Continue pos) (tS X.K T L c k .cnt) := by
  refine PS.imp ps_continue fun D σ H ⟨F, ρ, o, ok, ev, f⟩ => ?_
  simp only [evS] at ev
  cases ev
  exact f F H σ (.of ok Stp.refl)
theorem s_retN : PS X (.Return none pos) (tS X.K T L c k .retN) := by
  refine PS.imp ps_retN fun D σ H ⟨F, ρ, o, ok, ev, f⟩ => ?_
  simp only [evS] at ev
  cases ev
  exact f .non F H σ ⟨ok, Stp.refl, fun _ _ => rfl, .non, fun d a e => by cases e⟩
theorem s_ret (h : PE X e (tE X.K T c ee)) : PS X (.Return (some e) pos) (tS X.K T L c k (.ret ee)) := by
  refine PS.imp (ps_ret h) fun D σ H ⟨F, ρ, o, ok, ev, f⟩ => ?_
  simp only [evS] at ev
  cases e1 : evE c ee ρ with
  | none => rw [e1] at ev; cases ev
  | some p =>
    obtain ⟨r, ρ1⟩ := p
    rw [e1] at ev
    cases ev
    exact ⟨F, ρ, r, ρ1, ok, e1, fun v F1 H1 P => f v F1 H1 σ ⟨P.ok, P.stp, fun _ _ => rfl, P.rr, P.own⟩⟩
theorem s_ex (h : PE X e (tE X.K T c ee)) (hs : swapsWith e none pos.line X.env = pure false) : PS X (.Expr e pos) (tS X.K T L c k (.ex ee)) := by
  refine PS.imp (ps_expr h hs) fun D σ H ⟨F, ρ, o, ok, ev, f⟩ => ?_
  simp only [evS] at ev
  cases e1 : evE c ee ρ with
  | none => rw [e1] at ev; cases ev
  | some p =>
    obtain ⟨r, ρ1⟩ := p
    rw [e1] at ev
    cases ev
    exact ⟨F, ρ, r, ρ1, ok, e1, fun v F1 H1 P => f F1 H1 σ ⟨P.ok, P.stp, fun _ _ => rfl⟩⟩
theorem s_ite {t : Expr} {a b : List Stmt} {ta : NW.T} {sa sb : Ss} (ht : PT X t (tT X.K T c ta)) (ha : PSs X a (tSs X.K T L c k sa)) (hb : PSs X b (tSs X.K T L c k sb)) : PS X (.If t a b pos) (tS X.K T L c k (.ite ta sa sb)) := by
  refine PS.imp (ps_if ht ha hb) fun D σ H ⟨F, ρ, o, ok, ev, f⟩ => ?_
  simp only [evS] at ev
  cases e1 : evT c ta ρ with
  | none => rw [e1] at ev; cases ev
  | some p =>
    obtain ⟨q, ρ1⟩ := p
    rw [e1] at ev
    refine ⟨F, ρ, q, ρ1, ok, e1, fun F1 H1 P => ?_⟩
    cases q with
    | true => exact iteT ⟨F1, ρ1, o, P.ok, ev, f.step (.of P.ok P.stp)⟩
    | false => exact iteF ⟨F1, ρ1, o, P.ok, ev, f.step (.of P.ok P.stp)⟩
theorem s_whl {t : Expr} {a : List Stmt} {ta : NW.T} {sa : Ss} (hp : PassesOwn (model X.prog X.w) X.A X.env X.xe) (ht : PT X t (tT X.K T c ta)) (ha : PSs X a (tSs X.K T L c k sa)) : PS X (.While t a [] pos) (tS X.K T L c k (.whl ta sa)) := by
  refine PS.imp (ps_while hp ht ha) fun D σ H ⟨F, ρ, o, ok, ev, f⟩ => ?_
  simp only [evS] at ev
  refine ⟨fun m σ' H' => ∃ F' ρ', PostN X.K T k F H σ ρ F' H' σ' ρ' ∧ runW (evT c ta) (evSs L c sa) m ρ' = some o, ⟨L, F, ρ, .of ok Stp.refl, ev⟩, ?_⟩
  rintro m σ' H' ⟨F', ρ', P, rw'⟩
  cases m with
  | zero => cases rw'
  | succ n =>
    simp only [runW] at rw'
    cases e1 : evT c ta ρ' with
    | none => rw [e1] at rw'; cases rw'
    | some p =>
      obtain ⟨q, ρ1⟩ := p
      rw [e1] at rw'
      refine ⟨F', ρ', q, ρ1, P.ok, e1, fun F1 H1 P1 => ?_⟩
      have P2 : PostN X.K T k F H σ ρ F1 H1 σ' ρ1 := P.trans (.of P1.ok P1.stp)
      cases q with
      | false =>
        cases rw'
        exact iteF (f F1 H1 σ' P2)
      | true =>
        refine iteT ⟨fun σ' H' => ∃ F' ρ', PostN X.K T k F H σ ρ F' H' σ' ρ' ∧ runW (evT c ta) (evSs L c sa) n ρ' = some o, fun σ'' H'' w => ⟨n, Nat.lt_succ_self n, w⟩, ?_⟩
        simp only at rw'
        cases e2 : evSs L c sa ρ1 with
        | none => rw [e2] at rw'; cases rw'
        | some o2 =>
          rw [e2] at rw'
          refine ⟨F1, ρ1, o2, P2.ok, e2, ?_⟩
          cases o2 with
          | nx ρ2 => exact fun F3 H3 σ3 P3 => ⟨F3, ρ2, P2.trans P3, rw'⟩
          | ct ρ2 => exact fun F3 H3 σ3 P3 => ⟨F3, ρ2, P2.trans P3, rw'⟩
          | bk ρ2 => cases rw'; exact fun F3 H3 σ3 P3 => f F3 H3 σ3 (P2.trans P3)
          | rt r ρ2 => cases rw'; exact fun v F3 H3 σ3 P3 => f v F3 H3 σ3 (P2.ret P3)
theorem Src.run_none {s : Src} {i : Nat} {f : D → Rho → Option Out} {ρ : Rho} (h : s.at i = none) : (s.from i).run f ρ = some (.nx ρ) := by
  have z := Src.at_none.mp h
  cases s with
  | ls ds =>
    show runL f (ds.drop i) ρ = _
    rw [List.drop_of_length_le z]; rfl
  | rg lo st n =>
    show runN f st (n - i) _ ρ = _
    have e : n - i = 0 := by have z : n ≤ i := z; omega
    rw [e]; rfl
theorem Src.run_some {s : Src} {i : Nat} {d : D} {f : D → Rho → Option Out} {ρ : Rho} (h : s.at i = some d) :
    (s.from i).run f ρ = (match f d ρ with | some (.nx ρ) => (s.from (i + 1)).run f ρ | some (.ct ρ) => (s.from (i + 1)).run f ρ | some (.bk ρ) => some (.nx ρ) | some (.rt r ρ) => some (.rt r ρ) | none => none) := by
  have z := Src.at_lt h
  cases s with
  | ls ds =>
    have h : ds[i]? = some d := h
    have z : i < ds.length := z
    show runL f (ds.drop i) ρ = _
    rw [List.drop_eq_getElem_cons z]
    have e : ds[i] = d := by rw [List.getElem?_eq_getElem z] at h; exact Option.some.inj h
    rw [e]
    rfl
  | rg lo st n =>
    have z : i < n := z
    have h : (if i < n then some (D.int (lo + i * st)) else none) = some d := h
    rw [if_pos z] at h
    cases h
    obtain ⟨m, hm⟩ : ∃ m, n - i = m + 1 := ⟨n - i - 1, by omega⟩
    have e2 : lo + (i : Int) * st + st = lo + ((i + 1 : Nat) : Int) * st := by
      rw [Int.natCast_add, Int.add_mul]
      simp
      omega
    show runN f st (n - i) (lo + i * st) ρ = (match f (.int (lo + i * st)) ρ with | some (.nx ρ) => runN f st (n - (i + 1)) (lo + ((i + 1 : Nat) : Int) * st) ρ | some (.ct ρ) => runN f st (n - (i + 1)) (lo + ((i + 1 : Nat) : Int) * st) ρ | some (.bk ρ) => some (.nx ρ) | some (.rt r ρ) => some (.rt r ρ) | none => none)
    rw [hm, ← e2, show n - (i + 1) = m by omega]
    rfl
theorem s_for {tg iter : Expr} {a : List Stmt} {t : Tg} {src : I} {sa : Ss} (hp : PassesOwn (model X.prog X.w) X.A X.env X.xe) (hc : X.calm = true) (hi : PI X tg iter (tI X.K T c src)) (hg : PG X tg (tG X.K T t)) (ha : PSs X a (tSs X.K T L c k sa))
    (hk : ∀ j, k = some j → j ∉ t.ix) (hs : ∀ x, foldedSetIterable iter X.env x = pure x) : PS X (.For tg iter a [] pos) (tS X.K T L c k (.for_ t src sa)) := by
  refine PS.imp (ps_for hp hc hi hg ha hs) fun D σ H ⟨F, ρ, o, ok, ev, f⟩ => ?_
  simp only [evS] at ev
  cases e1 : evI c src ρ with
  | none => rw [e1] at ev; cases ev
  | some p =>
    obtain ⟨s, ρ1⟩ := p
    rw [e1] at ev
    simp only at ev
    generalize hf : (fun (d : NW.D) (ρ : Rho) => (match stT t d ρ with
      | some ρ => evSs L c sa ρ
      | none => none : Option Out)) = g at ev
    refine ⟨F, ρ, s, ρ1, ok, e1, fun J F1 H1 P1 fd => ?_⟩
    refine ⟨fun i m σ' H' => m = s.len - i ∧ i ≤ s.len ∧ ∃ F' ρ', PostN X.K T k F H σ ρ F' H' σ' ρ' ∧ Same F1 F' ∧ (s.from i).run g ρ' = some o, ⟨s.len, by simp, Nat.zero_le _, F1, ρ1, .of P1.ok P1.stp, Same.refl _, by rw [Src.from_zero]; exact ev⟩, ?_⟩
    rintro i m σ' H' ⟨rfl, hi, F', ρ', P, sm, hr⟩
    obtain ⟨fs, fg⟩ := fd i F' H' σ' ρ' sm P.ok
    cases hat : s.at i with
    | none =>
      rw [Src.run_none hat] at hr
      cases hr
      exact .inl ⟨fs hat, f F' H' σ' P⟩
    | some d =>
      rw [Src.run_some hat] at hr
      obtain ⟨go, yl⟩ := fg d hat
      refine .inr ⟨go, fun σ' H' => ∃ F' ρ', PostN X.K T k F H σ ρ F' H' σ' ρ' ∧ Same F1 F' ∧ (s.from (i + 1)).run g ρ' = some o, fun σ'' H'' w => ⟨s.len - (i + 1), ?_, rfl, Src.at_lt hat, w⟩, fun x G hy => ?_⟩
      · have := Src.at_lt hat
        omega
      obtain ⟨F2, ok2, s2, rx⟩ := yl x G hy
      have P2 : PostN X.K T k F H σ ρ F2 G σ' ρ' := P.trans (.of ok2 s2)
      cases hg : g d ρ' with
      | none => rw [hg] at hr; cases hr
      | some o2 =>
        rw [hg] at hr
        rw [← hf] at hg
        simp only at hg
        cases hst : stT t d ρ' with
        | none => rw [hst] at hg; cases hg
        | some ρa =>
          rw [hst] at hg
          simp only at hg
          refine ⟨F2, ρ', d, ρa, ok2, rx, hst, fun σ3 PG => ?_⟩
          have P3 : PostN X.K T k F H σ ρ F2 G σ3 ρa := P2.trans ⟨PG.ok, PG.stp, fun j e => PG.out j (hk j e)⟩
          have sm3 : Same F1 F2 := sm.trans s2.grow
          refine ⟨F2, ρa, o2, PG.ok, hg, ?_⟩
          cases o2 with
          | nx ρ4 => exact fun F4 H4 σ4 P4 => ⟨F4, ρ4, P3.trans P4, sm3.trans P4.stp.grow, hr⟩
          | ct ρ4 => exact fun F4 H4 σ4 P4 => ⟨F4, ρ4, P3.trans P4, sm3.trans P4.stp.grow, hr⟩
          | bk ρ4 => cases hr; exact fun F4 H4 σ4 P4 => f F4 H4 σ4 (P3.trans P4)
          | rt r ρ4 => cases hr; exact fun v F4 H4 σ4 P4 => f v F4 H4 σ4 (P3.ret P4)
/-- name = value: the reading -/
theorem set_read {i : Nat} {D : Ends} {σ : L2.St} {H : Hp} (hk : k ≠ some i) (h : tS X.K T L c k (.set (.nm i) ee) D σ H) : tE X.K T c ee σ H fun v H1 => D.nx (σ.set i (some v)) H1 := by
  obtain ⟨F, ρ, o, ok, ev, f⟩ := h
  simp only [evS] at ev
  cases e1 : evE c ee ρ with
  | none => rw [e1] at ev; cases ev
  | some p =>
    obtain ⟨r, ρ1⟩ := p
    rw [e1] at ev
    simp only at ev
    cases e2 : put i r ρ1 with
    | none => rw [e2] at ev; cases ev
    | some ρ2 =>
      rw [e2] at ev
      cases ev
      exact ⟨F, ρ, r, ρ1, ok, e1, fun v F1 H1 P => f F1 H1 _ (put_post P e2 hk)⟩
theorem s_set {i : Nat} {x : Str} {p' : Pos} (hN : X.N.Nodup) (hi : X.N[i]? = some x) (hx : Loc X.env.scope x) (h : PE X e (tE X.K T c ee)) (hs : swapsWith e (some (.Name x p')) pos.line X.env = pure false)
    (hf : X.fn x = true ∨ X.env.scope.names.lookup x = some .local) (hk : k ≠ some i) : PS X (.Assign [.Name x p'] e pos) (tS X.K T L c k (.set (.nm i) ee)) :=
  PS.imp (ps_set hN hi hx h hs hf) fun _ _ _ h => set_read hk h
theorem s_setT {tg : Expr} {ts : Tgs} (h : PE X e (tE X.K T c ee)) (hg : PG X tg (tG X.K T (.tup ts))) (hs : swapsWithSole [tg] e pos.line X.env = pure false) (hw : swappedStores [tg] e X.env = pure none)
    (h1 : (assignEach [tg] X.env).map (·.2) = [assign tg X.env]) (hk : ∀ j, k = some j → j ∉ ts.ix) : PS X (.Assign [tg] e pos) (tS X.K T L c k (.set (.tup ts) ee)) := by
  refine PS.imp (ps_asg h hg hs hw h1) fun D σ H ⟨F, ρ, o, ok, ev, f⟩ => ?_
  simp only [evS] at ev
  cases e1 : evE c ee ρ with
  | none => rw [e1] at ev; cases ev
  | some p =>
    obtain ⟨r, ρ1⟩ := p
    rw [e1] at ev
    cases r with
    | ow d => cases ev
    | bo d => cases ev
    | io d => cases ev
    | fz d =>
      simp only at ev
      cases e2 : stT (.tup ts) d ρ1 with
      | none => rw [e2] at ev; cases ev
      | some ρ2 =>
        rw [e2] at ev
        cases ev
        refine ⟨F, ρ, _, ρ1, ok, e1, fun v F1 H1 P => ⟨F1, ρ1, d, ρ2, P.ok, P.rr, e2, fun σ2 PG => f F1 H1 σ2 ?_⟩⟩
        exact ⟨PG.ok, P.stp.trans PG.stp P.ok.tabs', fun j e => PG.out j (hk j e)⟩
end
end NW
namespace NW
open PySem PySem.Spec PyProof.Rows L2

section
variable {K : PySem.W.Frag} {T : List Addr} {k : Option Nat} {F F' F1 F2 H H' H1 H2 : Hp} {σ σ' σ1 σ2 : L2.St} {ρ ρ' ρ1 ρ2 : Rho}
theorem put_step {r : R} {v : V} {i : Nat} (P : PostN K T k F H σ ρ F1 H1 σ1 ρ1) (rr : RR K T F1 H1 σ1 ρ1 r v) (own : ∀ d a, r = .ow d → v = .ref a → H a = none ∨ Owns σ ρ a) (hp : put i r ρ1 = some ρ2) (hk : k ≠ some i) :
    PostN K T k F H σ ρ F1 H1 (σ1.set i (some v)) ρ2 ∧ i < σ1.length := by
  unfold put at hp
  split at hp
  · rename_i hi
    have hi' : i < σ1.length := by rw [← P.ok.len]; exact hi
    have io : ∀ j, k = some j → (σ1.set i (some v))[j]? = σ[j]? := fun j e => (List.getElem?_set_ne fun z => hk (by rw [z]; exact e)).trans (P.io j e)
    cases r with
    | bo i => cases hp
    | io i => cases hp
    | fz d =>
      cases hp
      exact ⟨⟨set_ok (s := .fz d) P.ok hi rr, P.stp.trans (set_stp (s := .fz d) P.ok (fun d a e => by cases e) (fun d e => by cases e)) P.ok.tabs', io⟩, hi'⟩
    | ow d =>
      cases hp
      obtain ⟨a, rfl, t, n⟩ := rr
      refine ⟨⟨set_ok (s := .ow d) P.ok hi ⟨a, rfl, t, n⟩, ⟨P.stp.grow, P.stp.keep, P.stp.new, fun b ⟨j, e, h1, h2⟩ => ?_⟩, io⟩, hi'⟩
      by_cases z : i = j
      · subst z
        rw [List.getElem?_set_self hi'] at h2
        cases h2
        exact (own d a rfl rfl).symm
      · rw [List.getElem?_set_ne z] at h1 h2
        exact P.stp.own b ⟨j, e, h1, h2⟩
  · cases hp
def setAll : List Nat → List V → L2.St → L2.St
  | i :: is, v :: vs, σ => setAll is vs (σ.set i (some v))
  | _, _, σ => σ
theorem putAll_post : ∀ (is : List Nat) (rs : List R) (vs : List V) (σ1 : L2.St) (ρ1 : Rho), PostN K T k F H σ ρ F1 H1 σ1 ρ1 → vs.length = rs.length →
    (∀ (j : Nat) (r : R) (v : V), rs[j]? = some r → vs[j]? = some v → RR K T F1 H1 σ1 ρ1 r v ∨ ∀ d, r ≠ .fz d ∧ r ≠ .ow d) →
    (∀ (j : Nat) (d : D) (a : Addr), rs[j]? = some (R.ow d) → vs[j]? = some (V.ref a) → H a = none ∨ Owns σ ρ a) →
    (∀ (i j : Nat) (d e : D) (a : Addr), rs[i]? = some (R.ow d) → rs[j]? = some (R.ow e) → vs[i]? = some (V.ref a) → vs[j]? = some (V.ref a) → i = j) →
    (∀ i, k = some i → i ∉ is) → ∀ ρ2, putAll is rs ρ1 = some ρ2 → PostN K T k F H σ ρ F1 H1 (setAll is vs σ1) ρ2
  | [], [], vs, σ1, ρ1, P, hl, _, _, _, _, ρ2, hp => by
    cases vs with
    | nil => cases hp; exact P
    | cons _ _ => cases hl
  | [], _ :: _, _, _, _, _, _, _, _, _, _, _, hp => by cases hp
  | _ :: _, [], _, _, _, _, _, _, _, _, _, _, hp => by cases hp
  | i :: is, r :: rs, [], _, _, _, hl, _, _, _, _, _, _ => by cases hl
  | i :: is, r :: rs, v :: vs, σ1, ρ1, P, hl, rr, own, ap, hk, ρ2, hp => by
    simp only [putAll] at hp
    cases e1 : put i r ρ1 with
    | none => rw [e1] at hp; cases hp
    | some ρa =>
      rw [e1] at hp
      simp only at hp
      have rr0 : RR K T F1 H1 σ1 ρ1 r v := by
        rcases rr 0 r v rfl rfl with z | z
        · exact z
        · unfold put at e1
          split at e1
          · cases r with
            | fz d => exact ((z d).1 rfl).elim
            | ow d => exact ((z d).2 rfl).elim
            | bo j => cases e1
            | io j => cases e1
          · cases e1
      obtain ⟨P1, hi'⟩ := put_step P rr0 (fun d a e1 e2 => own 0 d a (by rw [e1]; rfl) (by rw [e2]; rfl)) e1 (fun z => hk i z List.mem_cons_self)
      refine putAll_post is rs vs _ ρa P1 (by simpa using hl) (fun j q w h1 h2 => ?_) (fun j d a h1 h2 => own (j + 1) d a h1 h2) (fun a b d e c h1 h2 h3 h4 => ?_) (fun j e z => hk j e (List.mem_cons_of_mem _ z)) ρ2 hp
      · rcases rr (j + 1) q w h1 h2 with z | z
        · cases q with
          | fz d => exact .inl z
          | bo d => exact .inr fun d => ⟨by simp, by simp⟩
          | io d => exact .inr fun d => ⟨by simp, by simp⟩
          | ow d =>
            obtain ⟨a, rfl, t, n⟩ := z
            refine .inl ⟨a, rfl, t, fun ⟨l, e, g1, g2⟩ => ?_⟩
            by_cases y : i = l
            · subst y
              rw [List.getElem?_set_self hi'] at g2
              cases g2
              unfold put at e1
              split at e1
              · rename_i hi
                cases r with
                | bo i => cases e1
                | io i => cases e1
                | fz d =>
                  cases e1
                  rw [List.getElem?_set_self hi] at g1
                  cases g1
                | ow d' =>
                  have := ap 0 (j + 1) d' d a rfl h1 rfl h2
                  cases this
              · cases e1
            · rw [List.getElem?_set_ne y] at g2
              unfold put at e1
              split at e1
              · cases r with
                | bo i => cases e1
                | io i => cases e1
                | fz d =>
                  cases e1
                  rw [List.getElem?_set_ne y] at g1
                  exact n ⟨l, e, g1, g2⟩
                | ow d' =>
                  cases e1
                  rw [List.getElem?_set_ne y] at g1
                  exact n ⟨l, e, g1, g2⟩
              · cases e1
        · exact .inr z
      · have := ap (a + 1) (b + 1) d e c h1 h2 h3 h4
        omega
end

section
variable {X : Cx} {T : List Addr} {L : Nat} {c : Cl} {k : Option Nat} {pos : Pos}
theorem par_read {is : List Nat} {es : Es} {D : Ends} {σ : L2.St} {H : Hp} (hk : ∀ i, k = some i → i ∉ is) (h : tS X.K T L c k (.par is es) D σ H) : tA X.K T c es σ H fun vs H1 => vs.length = is.length ∧ D.nx (setAll is vs σ) H1 := by
  obtain ⟨F, ρ, o, ok, ev, f⟩ := h
  simp only [evS] at ev
  cases e1 : evA c es ρ with
  | none => rw [e1] at ev; cases ev
  | some p =>
    obtain ⟨rs, ρ1⟩ := p
    rw [e1] at ev
    simp only at ev
    cases e2 : putAll is rs ρ1 with
    | none => rw [e2] at ev; cases ev
    | some ρ2 =>
      rw [e2] at ev
      cases ev
      refine ⟨F, ρ, rs, ρ1, ok, e1, fun vs F1 H1 P => ⟨?_, f F1 H1 _ (putAll_post is rs vs σ ρ1 ⟨P.ok, P.stp, fun _ _ => rfl⟩ P.len (fun j r v h1 h2 => .inl (P.rr j r v h1 h2)) P.own P.apart hk ρ2 e2)⟩⟩
      have : ∀ (is : List Nat) (rs : List R) (ρ : Rho) {ρ2 : Rho}, putAll is rs ρ = some ρ2 → rs.length = is.length := by
        intro is
        induction is with
        | nil =>
          intro rs ρ ρ2 h
          cases rs with
          | nil => rfl
          | cons _ _ => cases h
        | cons i is ih =>
          intro rs ρ ρ2 h
          cases rs with
          | nil => cases h
          | cons r rs =>
            simp only [putAll] at h
            cases g : put i r ρ with
            | none => rw [g] at h; cases h
            | some ρ' =>
              rw [g] at h
              have := ih rs ρ' h
              simp [this]
      rw [P.len]
      exact this is rs ρ1 e2
theorem s_par2 {i j : Nat} {x y : Str} {a b : Expr} {es : Es} {px py pt : Pos} {kt k2 pt2} (hc : X.calm = true) (hN : X.N.Nodup) (hi : X.N[i]? = some x) (hj : X.N[j]? = some y) (hij : i ≠ j)
    (hx : X.env.scope.names.lookup x = some .local) (hy : X.env.scope.names.lookup y = some .local) (ha : PA X [a, b] (tA X.K T c es))
    (hw : swappedStores [.Tuple [.Name x px, .Name y py] kt pt] (.Tuple [a, b] k2 pt2) X.env = pure (some [x, y])) (hki : k ≠ some i) (hkj : k ≠ some j) :
    PS X (.Assign [.Tuple [.Name x px, .Name y py] kt pt] (.Tuple [a, b] k2 pt2) pos) (tS X.K T L c k (.par [i, j] es)) := by
  refine PS.imp (ps_par hc hN hi hj hij hx hy ha hw) fun D σ H h => ?_
  have h := par_read (fun l e z => by
    rcases List.mem_cons.mp z with z | z
    · exact hki (by rw [e, z])
    · exact hkj (by rw [e, List.mem_singleton.mp z])) h
  obtain ⟨F, ρ, rs, ρ1, ok, e1, q⟩ := h
  refine ⟨F, ρ, rs, ρ1, ok, e1, fun vs F1 H1 P => ?_⟩
  obtain ⟨l, q⟩ := q vs F1 H1 P
  match vs, l, q with
  | [v, w], _, q => exact ⟨v, w, rfl, q⟩
theorem s_par3 {i j l : Nat} {x y z : Str} {a b d : Expr} {es : Es} {px py pz pt : Pos} {kt k2 pt2} (hc : X.calm = true) (hN : X.N.Nodup) (hi : X.N[i]? = some x) (hj : X.N[j]? = some y) (hl : X.N[l]? = some z) (hij : i ≠ j) (hil : i ≠ l) (hjl : j ≠ l)
    (hx : X.env.scope.names.lookup x = some .local) (hy : X.env.scope.names.lookup y = some .local) (hz : X.env.scope.names.lookup z = some .local) (ha : PA X [a, b, d] (tA X.K T c es))
    (hw : swappedStores [.Tuple [.Name x px, .Name y py, .Name z pz] kt pt] (.Tuple [a, b, d] k2 pt2) X.env = pure (some [x, y, z])) (hki : k ≠ some i) (hkj : k ≠ some j) (hkl : k ≠ some l) :
    PS X (.Assign [.Tuple [.Name x px, .Name y py, .Name z pz] kt pt] (.Tuple [a, b, d] k2 pt2) pos) (tS X.K T L c k (.par [i, j, l] es)) := by
  refine PS.imp (ps_par3 hc hN hi hj hl hij hil hjl hx hy hz ha hw) fun D σ H h => ?_
  have h := par_read (fun n e q => by
    rcases List.mem_cons.mp q with q | q
    · exact hki (by rw [e, q])
    · rcases List.mem_cons.mp q with q | q
      · exact hkj (by rw [e, q])
      · exact hkl (by rw [e, List.mem_singleton.mp q])) h
  obtain ⟨F, ρ, rs, ρ1, ok, e1, q⟩ := h
  refine ⟨F, ρ, rs, ρ1, ok, e1, fun vs F1 H1 P => ?_⟩
  obtain ⟨l, q⟩ := q vs F1 H1 P
  match vs, l, q with
  | [u, v, w], _, q => exact ⟨u, v, w, rfl, q⟩
theorem apI_imp {K : PySem.W.Frag} {o : O2} {f : D → D → Option (Bool × D)} (hf : ∀ i j, f (.int i) (.int j) = ap2 o (.int i) (.int j)) {x y : V} {H : Hp} {Q : VK} (h : rD2 K (apI o) x y H Q) : rD2 K f x y H Q := by
  obtain ⟨F, d, e, p, sm, rx, ry, hp, q⟩ := h
  refine ⟨F, d, e, p, sm, rx, ry, ?_, q⟩
  cases d <;> cases e <;> simp only [apI] at hp <;> try cases hp
  rw [hf]
  exact hp
theorem iadd_okI : OpR X (inplaceOp .Add) (rD2 X.K (apI .add)) := op_imp iadd_ok fun _ _ _ _ h => apI_imp (f := fun d e => match d, e with | .int i, .int j => i1 (i + j) | _, _ => none) (fun _ _ => rfl) h
theorem isub_okI : OpR X (inplaceOp .Sub) (rD2 X.K (apI .sub)) := op_imp isub_ok fun _ _ _ _ => apI_imp fun _ _ => rfl
theorem imul_okI : OpR X (inplaceOp .Mult) (rD2 X.K (apI .mul)) := op_imp imul_ok fun _ _ _ _ h => apI_imp (f := fun d e => match d, e with | .int i, .int j => ap2 .mul (.int i) (.int j) | _, _ => none) (fun _ _ => rfl) h
theorem ifdiv_okI : OpR X (inplaceOp .FloorDiv) (rD2 X.K (apI .fdiv)) := op_imp ifdiv_ok fun _ _ _ _ => apI_imp fun _ _ => rfl
theorem imod_okI : OpR X (inplaceOp .Mod) (rD2 X.K (apI .mod)) := op_imp imod_ok fun _ _ _ _ => apI_imp fun _ _ => rfl
variable {e : Expr} {ee : E}
theorem s_aug {i : Nat} {x : Str} {p' : Pos} {op : Operator} {o : O2} (hN : X.N.Nodup) (hi : X.N[i]? = some x) (hx : Loc X.env.scope x) (h : PE X e (tE X.K T c ee)) (ho : OpR X (inplaceOp op) (rD2 X.K (apI o)))
    (hf : X.fn x = true ∨ X.env.scope.names.lookup x = some .local) (hk : k ≠ some i) : PS X (.AugAssign (.Name x p') op e pos) (tS X.K T L c k (.aug i o ee)) := by
  refine PS.imp (ps_aug hN hi hx h ho hf) fun D σ H ⟨F, ρ, u, ok, ev, f⟩ => ?_
  simp only [evS] at ev
  cases e0 : ρ[i]? with
  | none => rw [e0] at ev; cases ev
  | some s =>
    rw [e0] at ev
    cases s with
    | no => cases ev
    | ow d => cases ev
    | fz d =>
      simp only at ev
      obtain ⟨v, h1, h2⟩ := ok.fz i d e0
      refine ⟨v, h1, ?_⟩
      cases e1 : evE c ee ρ with
      | none => rw [e1] at ev; cases ev
      | some p =>
        obtain ⟨q, ρ1⟩ := p
        rw [e1] at ev
        simp only at ev
        refine ⟨F, ρ, q, ρ1, ok, e1, fun w F1 H1 P => ?_⟩
        cases e2 : q.get ρ1 with
        | none => rw [e2] at ev; cases ev
        | some y =>
          rw [e2] at ev
          simp only at ev
          cases e3 : apI o d y with
          | none => rw [e3] at ev; cases ev
          | some p =>
            rw [e3] at ev
            simp only at ev
            cases e4 : put i (mk p) ρ1 with
            | none => rw [e4] at ev; cases ev
            | some ρ2 =>
              rw [e4] at ev
              cases ev
              exact ⟨F1, d, y, p, P.ok.same, Rdv.of P.ok.same (Rp.mono P.stp.grow _ _ h2), P.rr.read P.ok e2, e3, fun z F2 H2 n => f F2 H2 _ (put_post (Post.then P.stp P.ok (n.post P.ok)) e4 hk)⟩
theorem set_top {K : PySem.W.Frag} {T : List Addr} {F H : Hp} {a : Addr} {d kd vd d' : D} {kv v : V} (t : Top K T F H a d) (sm : Same F H) (rk : Rp K F kv kd) (rv : Rp K F v vd) (h : NW.setItem d kd vd = some d') {Q : Hp → Prop}
    (q : ∀ H', (∃ w, H' = upd H a w ∧ Top K T F H' a d') → Q H') : rSetL (.ref a) kv v H Q := by
  cases d <;> simp only [NW.setItem] at h <;> try cases h
  cases kd <;> simp only at h <;> try cases h
  rename_i xs i
  cases e : NW.ixN xs.length i with
  | none => rw [e] at h; cases h
  | some j =>
    rw [e] at h
    cases h
    obtain ⟨f, tt, vs, hv, rl⟩ := t
    cases rk
    refine ⟨a, vs, i, j, rfl, rfl, hv, ?_, q _ ⟨_, rfl, f, tt, _, upd_same, rl.set rv j⟩⟩
    rw [rl.length, ixN_eq]
    exact e
theorem assign_sub {o ek : Expr} {p : Pos} {env : Env} (h : notSlice ek = true) (v : Value) : assign (.Subscript o ek p) env v = (do
      let ov ← holding [v] (eval o env)
      let iv ← holding [v, ov] (eval ek env)
      standAt p
      holding [v, ov, iv] (PySem.setItem ov iv v)
      release [v, ov, iv] []) := by
  cases ek <;> first | rfl | (simp [notSlice] at h)
theorem s_setI {i : Nat} {x : Str} {p1 p2 : Pos} {ek : Expr} {eek : E} (hi : X.N[i]? = some x) (hv : Vis X.env.scope x) (hd : (x == ("__debug__" : Str)) = false) (hcd : (x == ("__classdict__" : Str)) = false)
    (hk : PE X ek (tE X.K T c eek)) (h : PE X e (tE X.K T c ee)) (hsl : notSlice ek = true) (hs : swapsWith e (some (.Subscript (.Name x p1) ek p2)) pos.line X.env = pure false) :
    PS X (.Assign [.Subscript (.Name x p1) ek p2] e pos) (tS X.K T L c k (.setI i eek ee)) := by
  refine PS.imp (ps_asg h (pg_sub (pe_var hi hv hd hcd) hk set_list (assign_sub hsl)) hs (by cases e <;> rfl)) fun D σ H ⟨F, ρ, u, ok, ev, f⟩ => ?_
  simp only [evS] at ev
  cases e1 : evE c ee ρ with
  | none => rw [e1] at ev; cases ev
  | some p =>
    obtain ⟨r, ρ1⟩ := p
    rw [e1] at ev
    simp only at ev
    cases e2 : r.frz with
    | none => rw [e2] at ev; cases ev
    | some vd =>
      rw [e2] at ev
      simp only at ev
      refine ⟨F, ρ, r, ρ1, ok, e1, fun v F1 H1 P => ?_⟩
      obtain ⟨F2, ok2, s2, rv, _⟩ := P.rr.frozen P.ok e2 P.own P.stp
      split at ev
      · rename_i d0 e3
        obtain ⟨a, ha, _⟩ := ok2.ow i d0 e3
        refine ⟨_, ha, ?_⟩
        cases e4 : evE c eek ρ1 with
        | none => rw [e4] at ev; cases ev
        | some p =>
          obtain ⟨rk, ρ2⟩ := p
          rw [e4] at ev
          cases rk with
          | ow d => cases ev
          | bo d => cases ev
          | io d => cases ev
          | fz kd =>
            simp only at ev
            refine ⟨F2, ρ1, _, ρ2, ok2, e4, fun kv F3 H3 P3 => ?_⟩
            split at ev
            · rename_i d1 e5
              cases e6 : NW.setItem d1 kd vd with
              | none => rw [e6] at ev; cases ev
              | some d2 =>
                rw [e6] at ev
                cases ev
                obtain ⟨a', ha', t⟩ := P3.ok.ow i d1 e5
                rw [ha] at ha'
                cases ha'
                refine set_top t P3.ok.same P3.rr (Rp.mono P3.stp.grow _ _ rv) e6 fun H' ⟨w, ew, t'⟩ => ?_
                subst ew
                obtain ⟨k1, k2⟩ := ow_upd P3.ok e5 ha t'
                exact f F3 _ σ ⟨k1, (s2.trans P3.stp ok2.tabs').trans k2 P3.ok.tabs', fun _ _ => rfl⟩
            · cases ev
      · cases ev
def rGetL (K : PySem.W.Frag) : V → V → Hp → VK → Prop := fun x y H Q => ∃ p xs i v, x = .ref p ∧ y = .int i ∧ SqL K H p xs ∧ atI xs i = some v ∧ Q v H
theorem get_list : PGet X (rGetL X.K) := by
  intro pins s σ H x y v u Q I rx ry h
  obtain ⟨p, xs, i, z, rfl, rfl, hq, he, q⟩ := h
  cases rx
  obtain ⟨t, rfl⟩ := ry
  obtain ⟨its, r, pl, hz⟩ := I.list hq
  obtain ⟨j, h1, h2, h3, h4, h5⟩ := atI_get he
  obtain ⟨w, ew, rw'⟩ := r.get h2
  have hl := r.length
  have hn := line63
  have fin : EP X pins σ Q w s := ⟨z, H, I, rw', q⟩
  by_cases h0 : 0 ≤ i
  · have hj : i.toNat = j := by
      rw [seqIndex_of h0 h5] at h1
      exact Option.some.inj h1
    exact wpAny_getItem_list pl.isList h0 (by omega) (by rw [hj]; simpa using ew) fin
  · have hj : (i + (its.toArray.size : Int)).toNat = j := by
      rw [seqIndex_neg (by omega) h4] at h1
      rw [List.size_toArray, ← hl]
      exact Option.some.inj h1
    exact wpAny_getItem_list_neg pl.isList (by omega) (by rw [List.size_toArray] <;> omega) (by omega) (by rw [hj]; simpa using ew) fin
theorem aug_sub {ek : Expr} (h : notSlice ek = true) (ov iv new : Value) : augStore ek ov iv new = (do holding [new, ov, iv] (PySem.setItem ov iv new); release [new, ov, iv] []; pure .next) := by
  cases ek <;> first | rfl | (simp [notSlice] at h)
theorem s_augI {i : Nat} {x : Str} {p1 p2 : Pos} {ek : Expr} {eek : E} {op : Operator} {o : O2} (hi : X.N[i]? = some x) (hv : Vis X.env.scope x) (hd : (x == ("__debug__" : Str)) = false) (hcd : (x == ("__classdict__" : Str)) = false)
    (hk : PE X ek (tE X.K T c eek)) (h : PE X e (tE X.K T c ee)) (ho : OpR X (inplaceOp op) (rD2 X.K (apI o))) (hsl : notSlice ek = true) :
    PS X (.AugAssign (.Subscript (.Name x p1) ek p2) op e pos) (tS X.K T L c k (.augI i eek o ee)) := by
  refine PS.imp (ps_augS (pe_var hi hv hd hcd) hk get_list h ho set_list (aug_sub hsl)) fun D σ H ⟨F, ρ, u, ok, ev, f⟩ => ?_
  simp only [evS] at ev
  split at ev
  · rename_i d0 e3
    obtain ⟨a, ha, _⟩ := ok.ow i d0 e3
    refine ⟨_, ha, ?_⟩
    cases e4 : evE c eek ρ with
    | none => rw [e4] at ev; cases ev
    | some p =>
      obtain ⟨rk, ρ2⟩ := p
      rw [e4] at ev
      cases rk with
      | ow d => cases ev
      | bo d => cases ev
      | io d => cases ev
      | fz kd =>
        simp only at ev
        refine ⟨F, ρ, _, ρ2, ok, e4, fun kv F1 H1 P1 => ?_⟩
        split at ev
        · rename_i d1 e5
          obtain ⟨a', ha', t⟩ := P1.ok.ow i d1 e5
          rw [ha] at ha'
          cases ha'
          split at ev
          · rename_i u e6
            have rk : Rp X.K F1 kv kd := P1.rr
            obtain ⟨xs, ki, rfl, rfl, j, hj, hu⟩ : ∃ xs ki, d1 = .lst xs ∧ kd = .int ki ∧ ∃ j, NW.ixN xs.length ki = some j ∧ xs[j]? = some (.int u) := by
              cases d1 with
              | lst xs =>
                cases kd <;> simp only [ap2] at e6 <;> try cases e6
                rename_i ki
                cases g : NW.ixN xs.length ki with
                | none => rw [g] at e6; cases e6
                | some j =>
                  rw [g] at e6
                  simp only at e6
                  cases g2 : xs[j]? with
                  | none => rw [g2] at e6; cases e6
                  | some d => rw [g2] at e6; cases e6; exact ⟨xs, ki, rfl, rfl, j, g, g2⟩
              | dct _ => exact t.2.2.elim (fun _ => by cases kd <;> simp [ap2] at e6) (fun _ => by cases kd <;> simp [ap2] at e6)
              | _ => exact t.2.2.elim
            obtain ⟨t1, t2, vs, hvs, rl⟩ := t
            cases rk
            obtain ⟨w, hw, rw'⟩ := rl.get hu
            cases rw'
            refine ⟨a, vs, ki, .int u, rfl, rfl, .of hvs, ?_, ?_⟩
            · unfold atI
              rw [rl.length, ixN_eq, hj]
              exact hw
            · cases e7 : evE c ee ρ2 with
              | none => rw [e7] at ev; cases ev
              | some p =>
                obtain ⟨q, ρ3⟩ := p
                rw [e7] at ev
                simp only at ev
                refine ⟨F1, ρ2, q, ρ3, P1.ok, e7, fun y F3 H3 P3 => ?_⟩
                cases e8 : q.get ρ3 with
                | none => rw [e8] at ev; cases ev
                | some yd =>
                  rw [e8] at ev
                  simp only at ev
                  split at ev
                  · rename_i vd e9
                    refine ⟨F3, .int u, yd, (false, vd), P3.ok.same, Rdv.of P3.ok.same (.int u), P3.rr.read P3.ok e8, e9, fun z F4 H4 n => ?_⟩
                    have P4 := Post.then P3.stp P3.ok (n.post P3.ok)
                    have rz : Rp X.K F4 z vd := P4.rr
                    split at ev
                    · rename_i d4 e10
                      cases e11 : NW.setItem d4 (.int ki) vd with
                      | none => rw [e11] at ev; cases ev
                      | some d5 =>
                        rw [e11] at ev
                        cases ev
                        obtain ⟨a', ha', t⟩ := P4.ok.ow i d4 e10
                        rw [ha] at ha'
                        cases ha'
                        refine set_top t P4.ok.same (.int ki) rz e11 fun H' ⟨w, ew, t'⟩ => ?_
                        subst ew
                        obtain ⟨k1, k2⟩ := ow_upd P4.ok e10 ha t'
                        exact f F4 _ σ ⟨k1, (P1.stp.trans P4.stp P1.ok.tabs').trans k2 P4.ok.tabs', fun _ _ => rfl⟩
                    · cases ev
                  · cases ev
          · cases ev
        · cases ev
  · cases ev
def nameB : Expr → Bool
  | .Name _ _ => true
  | _ => false
theorem s_app {i : Nat} {x : Str} {p1 ap cp : Pos} (hi : X.N[i]? = some x) (hv : Vis X.env.scope x) (hd : (x == ("__debug__" : Str)) = false) (hcd : (x == ("__classdict__" : Str)) = false)
    (h : PE X e (tE X.K T c ee)) (hst : notStar e = true) (hline : (ap.endLine == cp.line) = true) :
    PS X (.Expr (.Call (.Attribute (.Name x p1) "append" ap) [e] [] cp) pos) (tS X.K T L c k (.app i ee)) := by
  have hse : starEach [e] X.env = [(false, eval e X.env)] := star_cons hst
  have hA : PA X [e] (tA X.K T c (.cons ee .nil)) := a_cons h a_nil hst
  refine PS.imp (ps_expr (pe_bm PySem.F.plainAttrs_list PySem.F.slot_list_append PySem.F.type_list_append mt_append (pe_var hi hv hd hcd) hA rfl (by rw [hse]; rfl) hline hse rfl) rfl) fun D σ H ⟨F, ρ, u, ok, ev, f⟩ => ?_
  simp only [evS] at ev
  split at ev
  · rename_i xs0 e3
    obtain ⟨a, ha, t0, t1, vs0, hvs0, rl0⟩ := ok.ow i _ e3
    refine ⟨_, ha, .inl ⟨rfl, vs0, .of hvs0⟩, ?_⟩
    cases e1 : evE c ee ρ with
    | none => rw [e1] at ev; cases ev
    | some p =>
      obtain ⟨r, ρ1⟩ := p
      rw [e1] at ev
      simp only at ev
      refine ⟨F, ρ, [r], ρ1, ok, by simp only [evA, e1], fun vs F1 H1 P => ?_⟩
      match vs, P.len with
      | [v], _ =>
        cases e2 : r.frz with
        | none => rw [e2] at ev; cases ev
        | some vd =>
          rw [e2] at ev
          simp only at ev
          obtain ⟨F2, ok2, s2, rv, _⟩ := (P.rr 0 r v rfl rfl).frozen P.ok e2 (fun d a h1 h2 => P.own 0 d a (by rw [h1]; rfl) (by rw [h2]; rfl)) P.stp
          split at ev
          · rename_i xs e4
            split at ev
            · rename_i hl
              cases ev
              obtain ⟨a', ha', f2, tT, ws, hws, rl⟩ := ok2.ow i _ e4
              rw [ha] at ha'
              cases ha'
              refine ⟨a, ws, v, rfl, rfl, hws, by rw [rl.length, line24]; exact hl, ?_⟩
              obtain ⟨k1, k2⟩ := ow_upd (d' := .lst (xs ++ [vd])) (w := .lst (ws ++ [v])) ok2 e4 ha ⟨f2, tT, _, upd_same, rl.append (.cons rv .nil)⟩
              exact f F2 _ σ ⟨k1, s2.trans k2 ok2.tabs', fun _ _ => rfl⟩
            · cases ev
          · cases ev
  · cases ev
theorem s_extend {i : Nat} {x : Str} {p1 ap cp : Pos} (hi : X.N[i]? = some x) (hv : Vis X.env.scope x) (hd : (x == ("__debug__" : Str)) = false) (hcd : (x == ("__classdict__" : Str)) = false)
    (h : PE X e (tE X.K T c ee)) (hst : notStar e = true) (hline : (ap.endLine == cp.line) = true) :
    PS X (.Expr (.Call (.Attribute (.Name x p1) "extend" ap) [e] [] cp) pos) (tS X.K T L c k (.ext i ee)) := by
  have hse : starEach [e] X.env = [(false, eval e X.env)] := star_cons hst
  have hA : PA X [e] (tA X.K T c (.cons ee .nil)) := a_cons h a_nil hst
  refine PS.imp (ps_expr (pe_bm PySem.F.plainAttrs_list PySem.F.slot_list_extend PySem.F.type_list_extend mt_extend (pe_var hi hv hd hcd) hA rfl (by rw [hse]; rfl) hline hse rfl) rfl) fun D σ H ⟨F, ρ, u, ok, ev, f⟩ => ?_
  simp only [evS] at ev
  split at ev
  · rename_i xs0 e3
    obtain ⟨a, ha, t0, t1, vs0, hvs0, rl0⟩ := ok.ow i _ e3
    refine ⟨_, ha, .inl ⟨rfl, vs0, .of hvs0⟩, ?_⟩
    cases e1 : evE c ee ρ with
    | none => rw [e1] at ev; cases ev
    | some p =>
      obtain ⟨r, ρ1⟩ := p
      rw [e1] at ev
      simp only at ev
      refine ⟨F, ρ, [r], ρ1, ok, by simp only [evA, e1], fun vs F1 H1 P => ?_⟩
      match vs, P.len with
      | [v], _ =>
        cases e2 : r.get ρ1 with
        | none => rw [e2] at ev; cases ev
        | some vd =>
          rw [e2] at ev
          simp only at ev
          have rr := P.rr 0 r v rfl rfl
          cases e5 : extOf r vd with
          | none => rw [e5] at ev; cases ev
          | some ys =>
            rw [e5] at ev
            simp only at ev
            obtain ⟨b, hb, zs, hzs, rz⟩ : ∃ b, v = .ref b ∧ ∃ zs, H1 b = some (.lst zs) ∧ RpL X.K F1 zs ys := by
              cases r with
              | fz d => cases vd <;> cases e5
              | io d => cases vd <;> cases e5
              | bo j =>
                cases vd <;> cases e5
                have g : (match ρ1[j]? with | some (.ow d) => some d | _ => none) = some (.lst ys) := e2
                split at g
                · rename_i d q
                  cases g
                  obtain ⟨b, h1, t⟩ := P.ok.ow j _ q
                  have rr : σ[j]? = some (some v) := rr
                  rw [h1] at rr
                  cases rr
                  obtain ⟨_, _, zs, h3, h4⟩ := t
                  exact ⟨b, rfl, zs, h3, h4⟩
                · cases g
              | ow d =>
                cases e2
                cases vd <;> cases e5
                obtain ⟨b, h1, ⟨_, _, zs, h3, h4⟩, _⟩ := rr
                exact ⟨b, h1, zs, h3, h4⟩
            subst hb
            split at ev
            · rename_i xs e4
              split at ev
              · rename_i hl
                cases ev
                obtain ⟨a', ha', f2, tT, ws, hws, rl⟩ := P.ok.ow i _ e4
                rw [ha] at ha'
                cases ha'
                refine ⟨a, b, ws, zs, rfl, rfl, hws, hzs, by rw [rl.length, rz.length, line24]; exact hl, ?_⟩
                obtain ⟨k1, k2⟩ := ow_upd (d' := .lst (xs ++ ys)) (w := .lst (ws ++ zs)) P.ok e4 ha ⟨f2, tT, _, upd_same, rl.append rz⟩
                exact f F1 _ σ ⟨k1, P.stp.trans k2 P.ok.tabs', fun _ _ => rfl⟩
              · cases ev
            · cases ev
  · cases ev
theorem last_ix {α : Type} {xs : List α} {d : α} (h : xs.getLast? = some d) : xs[xs.length - 1]? = some d := by
  rw [List.getLast?_eq_getElem?] at h
  exact h
theorem e_pop {i : Nat} {x : Str} {p1 ap cp : Pos} (hi : X.N[i]? = some x) (hv : Vis X.env.scope x) (hd : (x == ("__debug__" : Str)) = false) (hcd : (x == ("__classdict__" : Str)) = false) (hline : (ap.endLine == cp.line) = true) :
    PE X (.Call (.Attribute (.Name x p1) "pop" ap) [] [] cp) (tE X.K T c (.pop i)) := by
  refine PE.imp (pe_bm0 PySem.F.plainAttrs_list PySem.F.slot_list_pop PySem.F.type_list_pop mt_pop (pe_var hi hv hd hcd) rfl hline) fun σ H Q ⟨F, ρ, r, ρ', ok, ev, q⟩ => ?_
  simp only [evE] at ev
  split at ev
  · rename_i xs e3
    obtain ⟨a, ha, t0, t1, vs, hvs, rl⟩ := ok.ow i _ e3
    refine ⟨_, ha, .inl ⟨rfl, vs, .of hvs⟩, ?_⟩
    cases e4 : xs.getLast? with
    | none => rw [e4] at ev; cases ev
    | some d =>
      rw [e4] at ev
      cases ev
      obtain ⟨w, hw, rw'⟩ := rl.get (last_ix e4)
      refine ⟨a, vs, w, rfl, rfl, hvs, by rw [rl.length]; exact hw, ?_⟩
      obtain ⟨k1, k2⟩ := ow_upd (d' := .lst xs.dropLast) (w := .lst vs.dropLast) ok e3 ha ⟨t0, t1, _, upd_same, rl.dropLast⟩
      exact q w F _ ⟨k1, k2, rw', fun d a e => by cases e⟩
  · cases ev
end
end NW
namespace NW
open PySem PySem.Spec PyProof.Rows L2

/-- what is known of the program without looking at a def -/
structure Gm where
  fns : List (Str × List Str)
  glo : List (Str × D)
  blt : List Str
  gcd : Bool
  isq : Bool
/-- a place in the text: the names and their slots, the scope that runs, which cells are the frame's own, whether a table of code stands, generator depth left -/
structure Tc where
  N : List Str
  sc : Scope
  own : Str → Bool
  gx : Bool
  g : Nat
structure Ctx (X : Cx) (G : Gm) (T : List Addr) (c : Cl) (lv : Nat) (t : Tc) : Prop where
  hN : X.N = t.N
  nd : t.N.Nodup
  hs : X.env.scope = t.sc
  kind : t.sc.kind = .function
  calm : X.calm = true
  room : Room (lv + t.g) X.A
  own : ∀ x, t.own x = true → X.fn x = true
  px : PassesOwn (model X.prog X.w) X.A X.env X.xe
  tab : t.gx = true → ∃ cc P, X.env.code = .ref cc ∧ GxR.TabB X.base X.mg cc P ∧ P ∈ T
  blt : ∀ x ∈ G.blt, X.mg x = none
  gcd : G.gcd = true → X.mg ("gcd" : Str) = some (.builtin "math.gcd")
  isq : G.isq = true → X.mg ("isqrt" : Str) = some (.builtin "math.isqrt")
  glo : ∀ x d, (x, d) ∈ G.glo → ∃ u v, X.mg x = some u ∧ RelV v u ∧ ∀ F, Rp X.K F v d
  fn : ∀ (f : Nat) (x : Str) (ps : List Str), G.fns[f]? = some (x, ps) → ∃ (a : Addr) (fd : FuncData), X.mg x = some (.ref a) ∧ PySem.W.keepIn X.K (.ref a) = true ∧ Binds X.K fd ps [] ∧ FnOk X.prog X.w X.K X.mg X.base CX0 lv a fd ps (spOf X.K T c f ps.length)

section
variable {X : Cx} {G : Gm} {T : List Addr} {c : Cl} {lv : Nat} {t : Tc} {pos : Pos}
theorem Ctx.nd' (C : Ctx X G T c lv t) : X.N.Nodup := by rw [C.hN]; exact C.nd
theorem Ctx.rm (C : Ctx X G T c lv t) : Room lv X.A := C.room.mono (Nat.le_add_right _ _)
/-- the block of a comprehension -/
def Tc.blk (t : Tc) (scope : Scope) : Tc := { t with sc := relS scope t.sc, own := fun x => scope.names.lookup x == some .cell }
theorem relabel_eq {scope : Scope} {env : Env} : relabel scope env = relS scope env.scope := rfl
theorem Ctx.blk (C : Ctx X G T c lv t) {scope : Scope} (hk : scope.kind = .function) {s : Shared} {H : Hp} {cl : List (Str × Addr)} {D : Addr} {fp : List Addr} :
    Ctx (X.blk s H scope (compEnvC scope cl D X.env) fp) G T c lv (t.blk scope) where
  hN := C.hN
  nd := C.nd
  hs := by
    show relabel scope X.env = relS scope t.sc
    rw [relabel_eq, C.hs]
  kind := hk
  calm := C.calm
  room := C.room
  own := fun x h => h
  px := PassesOwn.never
  tab := C.tab
  blt := C.blt
  gcd := C.gcd
  isq := C.isq
  glo := C.glo
  fn := C.fn
def nmB (t : Tc) (i : Nat) (x : Str) : Bool := decide (t.N[i]? = some x) && visB t.sc x && plainB x
theorem nm_of (C : Ctx X G T c lv t) {i : Nat} {x : Str} (h : nmB t i x = true) : X.N[i]? = some x ∧ Vis X.env.scope x ∧ (x == ("__debug__" : Str)) = false ∧ (x == ("__classdict__" : Str)) = false := by
  unfold nmB at h
  simp only [Bool.and_eq_true, decide_eq_true_eq] at h
  obtain ⟨k1, k2, _⟩ := plain_of h.2
  exact ⟨by rw [C.hN]; exact h.1.1, by rw [C.hs]; exact vis_of h.1.2, k1, k2⟩
def loB (sc : Scope) (x : Str) : Bool := match sc.names.lookup x with
  | some .local => true
  | _ => false
def ceB (sc : Scope) (x : Str) : Bool := match sc.names.lookup x with
  | some .cell => true
  | _ => false
theorem lo_of {sc : Scope} {x : Str} (h : loB sc x = true) : sc.names.lookup x = some .local := by
  unfold loB at h
  split at h
  · assumption
  · cases h
theorem ce_of {sc : Scope} {x : Str} (h : ceB sc x = true) : sc.names.lookup x = some .cell := by
  unfold ceB at h
  split at h
  · assumption
  · cases h
/-- a name that may be stored to -/
def asB (t : Tc) (i : Nat) (x : Str) : Bool := decide (t.N[i]? = some x) && (loB t.sc x || (ceB t.sc x && t.own x))
theorem as_of (C : Ctx X G T c lv t) {i : Nat} {x : Str} (h : asB t i x = true) : X.N[i]? = some x ∧ Loc X.env.scope x ∧ (X.fn x = true ∨ X.env.scope.names.lookup x = some .local) := by
  unfold asB at h
  simp only [Bool.and_eq_true, Bool.or_eq_true, decide_eq_true_eq] at h
  rw [C.hN, C.hs]
  refine ⟨h.1, ?_⟩
  rcases h.2 with k | k
  · exact ⟨.inl (lo_of k), .inr (lo_of k)⟩
  · exact ⟨.inr (ce_of k.1), .inl (C.own x k.2)⟩
variable {x : Str} {i : Nat} {a b : Expr} {ea eb : E}
theorem e_io (hN : X.N[i]? = some x) (hv : Vis X.env.scope x) (hd : (x == ("__debug__" : Str)) = false) (hcd : (x == ("__classdict__" : Str)) = false) : PE X (.Name x pos) (tE X.K T c (.io i)) := by
  refine PE.imp (pe_var hN hv hd hcd) fun σ H Q ⟨F, ρ, r, ρ', ok, ev, q⟩ => ?_
  simp only [evE] at ev
  cases e : ρ[i]? with
  | none => rw [e] at ev; cases ev
  | some s =>
    rw [e] at ev
    cases s with
    | no => cases ev
    | fz d => cases ev
    | ow d =>
      cases ev
      obtain ⟨a, h1, _⟩ := ok.ow i d e
      exact ⟨_, h1, q _ _ _ (Post.same ok h1 (by simp))⟩
theorem e_rep (ha : PE X a (tE X.K T c ea)) (hb : PE X b (tE X.K T c eb)) : PE X (.BinOp a .Mult b pos) (tE X.K T c (.rep ea eb)) := by
  refine PE.imp (pe_op op_rep ha hb) fun σ H Q ⟨F, ρ, r, ρ', ok, ev, q⟩ => ?_
  simp only [evE] at ev
  cases e1 : evE c ea ρ with
  | none => rw [e1] at ev; cases ev
  | some p =>
    obtain ⟨r1, ρ1⟩ := p
    rw [e1] at ev
    rcases r1 with _ | (_ | _ | _ | _ | _ | xs | _) | _ | _ <;> simp only at ev <;> try cases ev
    refine ⟨F, ρ, _, ρ1, ok, e1, fun v F1 H1 P1 => ?_⟩
    cases e2 : evE c eb ρ1 with
    | none => rw [e2] at ev; cases ev
    | some p =>
      obtain ⟨r2, ρ2⟩ := p
      rw [e2] at ev
      rcases r2 with (_ | _ | j | _ | _ | _ | _) | _ | _ | _ <;> simp only at ev <;> try cases ev
      refine ⟨F1, ρ1, _, ρ2, P1.ok, e2, fun w F2 H2 P2 => ?_⟩
      split at ev
      · rename_i hc
        cases ev
        simp only [Bool.and_eq_true, decide_eq_true_eq] at hc
        obtain ⟨a, rfl, ⟨_, _, vs, hv, rl⟩, _⟩ := P1.rr.step P2.stp
        cases (show Rp X.K F2 w (.int j) from P2.rr)
        refine ⟨a, j, vs, rfl, rfl, hv, hc.1.1, hc.1.2, by rw [rl.length, line24]; exact hc.2, fun z hz => ?_⟩
        exact q _ _ _ (Post.then (P1.stp.trans P2.stp P1.ok.tabs') P2.ok ((NewV.lst hz (rl.rep j.toNat)).post P2.ok))
      · cases ev
/-- the slots of a block's own names, with the names -/
def ownL (N : List Str) (own : List Nat) : List (Str × Nat) := own.map fun i => ((N[i]?).getD default, i)
theorem ownL_snd (N : List Str) (own : List Nat) : (ownL N own).map (·.2) = own := by
  unfold ownL
  rw [List.map_map]
  have : ((fun x : Str × Nat => x.2) ∘ fun i : Nat => ((N[i]?).getD default, i)) = id := rfl
  rw [this, List.map_id]
def notSet : Expr → Bool
  | .Set _ _ _ => false
  | _ => true
theorem folded_of {e : Expr} {env : Env} (h : notSet e = true) (x : Value) : foldedSetIterable e env x = pure x := by
  cases e <;> first | rfl | (simp [notSet] at h)
theorem e_lc {elt tg iter : Expr} {ifs : List Expr} {scope : Scope} {own : List Nat} {tt : Tg} {src : I} {ti : NW.T} {ee : E} (C : Ctx X G T c lv t) (hi : PI X tg iter (tI X.K T c src)) (ok : blkC t.N t.sc scope (ownL t.N own) = true) (hset : notSet iter = true)
    (hg : ∀ (s : Shared) (H : Hp) (D : Addr) (cl : List (Str × Addr)) (fp : List Addr), PG (X.blk s H scope (compEnvC scope cl D X.env) fp) tg (tG X.K T tt)) (ht : ∀ (s : Shared) (H : Hp) (D : Addr) (cl : List (Str × Addr)) (fp : List Addr), PTs (X.blk s H scope (compEnvC scope cl D X.env) fp) ifs (tT X.K T c ti))
    (he : ∀ (s : Shared) (H : Hp) (D : Addr) (cl : List (Str × Addr)) (fp : List Addr), PE (X.blk s H scope (compEnvC scope cl D X.env) fp) elt (tE X.K T c ee)) (hsub : ∀ i ∈ tt.ix, i ∈ own) :
    PE X (.ListComp elt [⟨tg, iter, ifs, 0⟩] scope pos) (tE X.K T c (.lc tt own src ti ee)) := by
  have ok' : BlkOk X.N X.env.scope scope (ownL t.N own) := by rw [C.hN, C.hs]; exact blkOk_by ok
  refine PE.imp (pe_lc (own := ownL t.N own) C.calm C.nd' hi ok' hg ht he (folded_of hset)) fun σ H Q h => ?_
  rw [ownL_snd]
  exact lc_read hsub h
theorem s_setLc {i : Nat} {y : Str} {py spos : Pos} {elt tg iter : Expr} {ifs : List Expr} {scope : Scope} {own : List Nat} {tt : Tg} {src : I} {ti : NW.T} {ee : E} {L : Nat} {k : Option Nat} (C : Ctx X G T c lv t) (hy : X.N[i]? = some y) (hyl : X.env.scope.names.lookup y = some .local)
    (hl : (py.line == pos.line) = true) (hay : (scope.names.any fun (n, k) => n == y && (k == .local || k == .cell)) = false) (hi : PI X tg iter (tI X.K T c src)) (ok : blkC t.N t.sc scope (ownL t.N own) = true) (hset : notSet iter = true)
    (hg : ∀ (s : Shared) (H : Hp) (D : Addr) (cl : List (Str × Addr)) (fp : List Addr), PG (X.blk s H scope (compEnvC scope cl D X.env) fp) tg (tG X.K T tt)) (ht : ∀ (s : Shared) (H : Hp) (D : Addr) (cl : List (Str × Addr)) (fp : List Addr), PTs (X.blk s H scope (compEnvC scope cl D X.env) fp) ifs (tT X.K T c ti))
    (he : ∀ (s : Shared) (H : Hp) (D : Addr) (cl : List (Str × Addr)) (fp : List Addr), PE (X.blk s H scope (compEnvC scope cl D X.env) fp) elt (tE X.K T c ee)) (hsub : ∀ i ∈ tt.ix, i ∈ own) (hk : k ≠ some i) :
    PS X (.Assign [.Name y py] (.ListComp elt [⟨tg, iter, ifs, 0⟩] scope pos) spos) (tS X.K T L c k (.set (.nm i) (.lc tt own src ti ee))) := by
  have ok' : BlkOk X.N X.env.scope scope (ownL t.N own) := by rw [C.hN, C.hs]; exact blkOk_by ok
  refine PS.imp (ps_setLc (own := ownL t.N own) C.calm C.nd' hy hyl (sw_true (by rw [C.hs]; exact C.kind) hyl hl hay) hi ok' hg ht he (folded_of hset)) fun D σ H h => ?_
  rw [ownL_snd]
  exact lc_read hsub (set_read hk h)
theorem pts_tt : PTs X [] (tT X.K T c .tt) := by
  have h := (pts_nil (X := X))
  refine ⟨fun pins s σ H Q I ⟨F, ρ, b, ρ', ok, ev, q⟩ => h.run pins s σ H Q I ?_⟩
  simp only [evT] at ev
  cases ev
  exact q F H ⟨ok, Stp.refl⟩
end
end NW
namespace NW
open PySem PySem.Spec PyProof.Rows L2
section
variable {prog : Program} {w : World} {A : Around} {E : Value → Shared → Prop} {s : Shared}
theorem fm_congr {α β : Type} {f g : α → Option β} : ∀ l : List α, (∀ m ∈ l, f m = g m) → l.filterMap f = l.filterMap g
  | [], _ => rfl
  | x :: xs, h => by
    rw [List.filterMap_cons, List.filterMap_cons, h x List.mem_cons_self, fm_congr xs fun m hm => h m (List.mem_cons_of_mem _ hm)]
theorem fm_all {α : Type} : ∀ ys : List α, (List.range ys.length).filterMap (fun m => ys[m]?) = ys
  | [] => rfl
  | y :: ys => by
    rw [List.length_cons, List.range_succ_eq_map, List.filterMap_cons, List.filterMap_map]
    show y :: (List.range ys.length).filterMap (fun m => (y :: ys)[m + 1]?) = _
    rw [fm_congr (g := fun m => ys[m]?) _ (fun m _ => by rw [List.getElem?_cons_succ]), fm_all ys]
theorem rev_pick (xs : Array Value) : ((List.range xs.size).filterMap fun (m : Nat) => xs[(((xs.size : Int) - 1) + (m : Int) * (-1)).toNat]?).toArray = xs.toList.reverse.toArray := by
  have e : (List.range xs.size).filterMap (fun (m : Nat) => xs[(((xs.size : Int) - 1) + (m : Int) * (-1)).toNat]?) = (List.range xs.size).filterMap (fun m => xs.toList.reverse[m]?) := by
    refine fm_congr _ fun m hm => ?_
    have := List.mem_range.mp hm
    have h1 : (((xs.size : Int) - 1) + (m : Int) * (-1)).toNat = xs.size - 1 - m := by omega
    rw [h1, List.getElem?_reverse (by rw [Array.length_toList]; exact this), Array.length_toList, Array.getElem?_toList]
  rw [e]
  have := fm_all xs.toList.reverse
  rw [List.length_reverse, Array.length_toList] at this
  rw [this]
theorem adjust_rev (n : Nat) : Builtin.Slice.sliceAdjust none none (-1) (n : Int) = ((n : Int) - 1, -1) := by
  unfold Builtin.Slice.sliceAdjust
  simp only [show ((-1 : Int) < 0) = True by simp, if_true]
theorem places_rev (n : Nat) : Builtin.Slice.slicePlaces ((n : Int) - 1) (-1) (-1) = n := by
  unfold Builtin.Slice.slicePlaces
  have h1 : ¬ ((-1 : Int) > 0) := by omega
  simp only [h1, if_false]
  by_cases h : (n : Int) - 1 > -1
  · rw [if_pos h, show -(-1 : Int) = 1 by omega, Int.ediv_one]; omega
  · rw [if_neg h]; omega
theorem applied_rev {sl : Addr} {u : Tok} {n : Nat} {Q : Int × Int × Nat → Shared → Prop} (hs : s.heap.IsSliceOf sl .none .none (.int (-1) u)) (h : Q ((n : Int) - 1, -1, n) s) : wpAny (model prog w) A (Builtin.Slice.sliceApplied (.ref sl) (pure (n : Int))) Q E s := by
  obtain ⟨os, hos, hcs, hds⟩ := id hs
  unfold Builtin.Slice.sliceApplied Builtin.Slice.sliceFields
  refine wpAny_bind (wpAny_bind (wpAny_field hos hds (x := .none) rfl (wpAny_bind (wpAny_field hos hds (x := .none) rfl (wpAny_bind (wpAny_field hos hds (x := .int (-1) u) rfl (wpAny_pure ?_)))))))
  refine wpAny_bind (slicePart_int ?_)
  show wpAny _ _ (if ((-1 : Int) == 0) = true then _ else _) _ _ s
  rw [if_neg (by decide)]
  refine wpAny_bind (slicePart_none (wpAny_bind (slicePart_none (wpAny_bind (wpAny_pure ?_)))))
  show wpAny _ _ (match Builtin.Slice.sliceAdjust none none (-1) (n : Int) with | (lo, hi) => pure (lo, (-1 : Int), Builtin.Slice.slicePlaces lo hi (-1))) _ _ s
  rw [adjust_rev]
  show wpAny _ _ (pure ((n : Int) - 1, (-1 : Int), Builtin.Slice.slicePlaces ((n : Int) - 1) (-1) (-1))) _ _ s
  rw [places_rev]
  exact wpAny_pure h
theorem getItem_tuple_rev {t sl : Addr} {items : Array Value} {u : Tok} {Q : Value → Shared → Prop} (ht : IsTup s.heap t items) (hs : s.heap.IsSliceOf sl .none .none (.int (-1) u))
    (h : Q (.ref s.heap.objs.size) { s with heap := s.heap.push { cls := .type "tuple", data := .seq items.toList.reverse.toArray } }) (hsz : items.size ≤ sizeLine) : wpAny (model prog w) A (getItem (.ref t) (.ref sl)) Q E s := by
  have htake : sizeOk (.seq items.toList.reverse.toArray) := by
    show items.toList.reverse.toArray.size ≤ sizeLine
    rw [List.size_toArray, List.length_reverse, Array.length_toList]
    exact hsz
  obtain ⟨os, hos, hcs, hds⟩ := id hs
  have hTs : s.TypeIs (.ref sl) "slice" := ⟨os, hos, hcs⟩
  unfold getItem
  try with_reducible refine wpAny_holding ?_
  first | refine wpAny_bind (wpAny_pure ?_) | skip
  refine wpAny_bind (wpAny_sequenceKey ht.typeIs (by decide) ?_)
  refine wpAny_bind (wpAny_callSpecial?_slot (name := Str.ofString "__getitem__") ht.typeIs PyProof.Rows.slot_tuple_getitem
    (wpAny_call_entry PyProof.Rows.slot_tuple_getitem ht.typeIs entry_tuple_getitem ?_ (args_tuple_getitem _ _)))
  show wpAny _ _ (Builtin.Tuple.tupleItemsOf (.ref t) >>= _) _ _ s
  refine wpAny_bind (tupleItemsOf_ ht ?_)
  refine wpAny_bind (wpAny_typeOf hTs ?_)
  rw [if_pos (by decide)]
  refine wpAny_bind ?_
  refine applied_rev hs ?_
  have hno : ¬ ((((items.size : Int) - 1) == 0 && (-1 : Int) == 1 && items.size == items.size) = true) := by
    intro q
    rw [Bool.and_eq_true, Bool.and_eq_true] at q
    exact absurd q.1.2 (by decide)
  show wpAny _ _ (if (((items.size : Int) - 1) == 0 && (-1 : Int) == 1 && items.size == items.size) = true then _ else _) _ _ s
  rw [if_neg hno, rev_pick]
  first
    | exact wpAny_bind (m := Builtin.Tuple.tupleExact _) (wpAny_newObj_type (wpAny_pure ⟨_, rfl, wpAny_pure h⟩) htake)
    | exact wpAny_bind (m := Builtin.Tuple.tupleExact _) (wpAny_newObj_type (wpAny_bind (wpAny_pure (wpAny_pure ⟨_, rfl, wpAny_pure h⟩))) htake)
    | exact wpAny_bind (wpAny_bind (m := Builtin.Tuple.tupleExact _) (wpAny_newObj_type (wpAny_pure (wpAny_pure ⟨_, rfl, wpAny_pure h⟩)) htake))
    | exact wpAny_bind (wpAny_bind (m := Builtin.Tuple.tupleExact _) (wpAny_newObj_type (wpAny_pure ⟨_, rfl, wpAny_pure h⟩) htake))
end
/-- xs[::-1] of a list or a tuple -/
def tRev (K : PySem.W.Frag) (te : TE) : TE := fun σ H Q => te σ H fun x H1 => (∃ a xs, x = .ref a ∧ SqL K H1 a xs ∧ ∀ p, H1 p = none → Q (.ref p) (upd H1 p (.lst xs.reverse))) ∨ (∃ a xs, x = .ref a ∧ SqT K H1 a xs ∧ ∀ p, H1 p = none → Q (.ref p) (upd H1 p (.tup xs.reverse)))
section
variable {X : Cx}
theorem pe_rev {e : Expr} {te : TE} {k : Nat} {p1 p2 p3 pos : Pos} (he : PE X e te) : PE X (.Subscript e (.Slice none none (some (.UnaryOp .USub (.Constant (.int 1) k p1) p2)) p3) pos) (tRev X.K te) := by
  refine ⟨fun pins s σ H Q I h => ?_⟩
  refine Subscript_ (thn (he.run pins s σ H _ I h) fun v s1 ⟨x, H1, I1, r1, q1⟩ => ?_)
  have hst : PO X (some (.UnaryOp .USub (.Constant (.int 1) k p1) p2)) (tPart (tUn (rU fun i => .int (-i)) (tC (.int 1)))) := po_some (pe_un un_neg pe_int)
  refine wpAny_Slice (thn (po_none.run pins s1 σ H1 (fun o H2 => o = none ∧ H2 = H1) I1 ⟨rfl, rfl⟩) fun vl s2 ⟨l, H2, I2, pl, el, e2⟩ => ?_)
  subst el e2
  refine thn (po_none.run pins s2 σ H2 (fun o H3 => o = none ∧ H3 = H2) I2 ⟨rfl, rfl⟩) fun vu s3 ⟨u, H3, I3, pu, eu, e3⟩ => ?_
  subst eu e3
  refine thn (hst.run pins s3 σ H3 (fun o H4 => o = some (-1) ∧ H4 = H3) I3 ⟨1, rfl, -1, rfl, rfl, rfl⟩) fun vs s4 ⟨o, H4, I4, ps, eo, e4⟩ => ?_
  subst eo e4
  have I5 : Inv X pins σ H4 { s4 with heap := s4.heap.push { cls := .type "slice", data := .fields #[vl, vu, vs] } } := I4.kept (t' := s4.toks) fun b ob q => Heap.get?_push_of_some _ q
  rcases q1 with ⟨a, xs, ex, hx, q⟩ | ⟨a, xs, ex, hx, q⟩
  · subst ex
    cases r1
    obtain ⟨its, r, ht, hz⟩ := I5.list hx
    have hlen := r.length
    show wpAny (model X.prog X.w) X.A (subscriptTail e (.Slice none none (some (.UnaryOp .USub (.Constant (.int 1) k p1) p2)) p3) (.ref a) (.ref s4.heap.objs.size)) (EP X pins σ Q) X.xe { s4 with heap := s4.heap.push { cls := .type "slice", data := .fields #[vl, vu, vs] } }
    refine tail_any (ops := [.ref a, .ref s4.heap.objs.size]) ht.isList.typeIs (PySem.slot_list_getitem.lookup) ?_ (by with_unfolding_all rfl)
    refine wpAny_getItem_list_slice ht.isList (Heap.IsSliceOf.new _ vl vu vs) pl pu ps (by decide) ?_ (by rw [List.size_toArray]; omega)
    rw [PySem.W.krv_pick]
    refine ⟨.ref _, _, I5.laid (t' := s4.toks) (o := .lst xs.reverse) (fun b ob q => Heap.get?_push_of_some _ q) (Nat.le_refl _) ?_, rfl, q _ (I5.hok.fresh (Nat.le_refl _))⟩
    exact ⟨by rw [List.length_reverse]; exact hz, _, 0, r.reverse, Heap.get?_push_size _ rfl⟩
  · subst ex
    cases r1
    obtain ⟨its, r, ht, hz⟩ := I5.tuple hx
    have hlen : its.toArray.size = xs.length := by rw [List.size_toArray]; exact r.length.symm
    show wpAny (model X.prog X.w) X.A (subscriptTail e (.Slice none none (some (.UnaryOp .USub (.Constant (.int 1) k p1) p2)) p3) (.ref a) (.ref s4.heap.objs.size)) (EP X pins σ Q) X.xe { s4 with heap := s4.heap.push { cls := .type "slice", data := .fields #[vl, vu, vs] } }
    refine tail_any (ops := [.ref a, .ref s4.heap.objs.size]) ht.typeIs (PyProof.Rows.slot_tuple_getitem.lookup) ?_ (by with_unfolding_all rfl)
    cases pl
    cases pu
    cases ps
    refine getItem_tuple_rev ht (Heap.IsSliceOf.new _ _ _ _) ?_ (by rw [hlen]; exact hz)
    refine ⟨.ref _, _, I5.laid (t' := s4.toks) (o := .tup xs.reverse) (fun b ob q => Heap.get?_push_of_some _ q) (Nat.le_refl _) ?_, rfl, q _ (I5.hok.fresh (Nat.le_refl _))⟩
    exact ⟨by rw [List.length_reverse]; exact hz, _, r.reverse, IsTup.new _ _⟩
end
section
variable {X : Cx} {T : List Addr} {c : Cl} {a : Expr} {ea : E} {pos : Pos}
theorem e_rv {k : Nat} {p1 p2 p3 : Pos} (ha : PE X a (tE X.K T c ea)) : PE X (.Subscript a (.Slice none none (some (.UnaryOp .USub (.Constant (.int 1) k p1) p2)) p3) pos) (tE X.K T c (.rv ea)) := by
  refine PE.imp (pe_rev ha) fun σ H Q ⟨F, ρ, r, ρ', ok, ev, q⟩ => ?_
  simp only [evE] at ev
  cases e1 : evE c ea ρ with
  | none => rw [e1] at ev; cases ev
  | some p =>
    obtain ⟨r1, ρ1⟩ := p
    rw [e1] at ev
    simp only at ev
    refine ⟨F, ρ, r1, ρ1, ok, e1, fun v F1 H1 P1 => ?_⟩
    cases g : r1.get ρ1 with
    | none => rw [g] at ev; cases ev
    | some d =>
      rw [g] at ev
      have rd := P1.rr.read P1.ok g
      cases d <;> simp only at ev <;> try cases ev
      · obtain ⟨w, ws, rfl, fw, hw, lw⟩ := rd.tupE P1.ok.same
        exact .inr ⟨w, ws, rfl, hw, fun z hz => q _ _ _ (Post.then P1.stp P1.ok ((NewV.tup hz lw.reverse).post P1.ok))⟩
      · obtain ⟨w, ws, rfl, hw, lw⟩ := rd
        exact .inl ⟨w, ws, rfl, hw, fun z hz => q _ _ _ (Post.then P1.stp P1.ok ((NewV.lst hz lw.reverse).post P1.ok))⟩
/-- {} -/
theorem e_dct0 : PE X (.Dict [] [] pos) (tE X.K T c (.dct .nil)) := by
  refine PE.imp pe_dnewK fun σ H Q ⟨F, ρ, r, ρ', ok, ev, q⟩ => ?_
  simp only [evE, evEs, pairs] at ev
  cases ev
  exact fun z hz => q _ _ _ (Post.then Stp.refl ok ((NewV.dK hz .nil).post ok))
theorem minI_of : ∀ {xs : List Int} {m : Int}, minI xs = some m → m ∈ xs ∧ ∀ y ∈ xs, m ≤ y
  | [], m, h => by cases h
  | [x], m, h => by
    cases h
    exact ⟨List.mem_singleton.mpr rfl, fun y hy => by rw [List.mem_singleton.mp hy]; exact Int.le_refl _⟩
  | x :: y :: ys, m, h => by
    unfold minI at h
    cases e : minI (y :: ys) with
    | none => rw [e] at h; cases h
    | some k =>
      rw [e] at h
      obtain ⟨h1, h2⟩ := minI_of e
      cases h
      by_cases z : k < x
      · rw [if_pos z]
        refine ⟨List.mem_cons_of_mem _ h1, fun w hw => ?_⟩
        rcases List.mem_cons.mp hw with rfl | hw
        · omega
        · exact h2 w hw
      · rw [if_neg z]
        refine ⟨List.mem_cons_self, fun w hw => ?_⟩
        rcases List.mem_cons.mp hw with rfl | hw
        · exact Int.le_refl _
        · have := h2 w hw; omega
theorem maxI_of : ∀ {xs : List Int} {m : Int}, maxI xs = some m → m ∈ xs ∧ ∀ y ∈ xs, y ≤ m
  | [], m, h => by cases h
  | [x], m, h => by
    cases h
    exact ⟨List.mem_singleton.mpr rfl, fun y hy => by rw [List.mem_singleton.mp hy]; exact Int.le_refl _⟩
  | x :: y :: ys, m, h => by
    unfold maxI at h
    cases e : maxI (y :: ys) with
    | none => rw [e] at h; cases h
    | some k =>
      rw [e] at h
      obtain ⟨h1, h2⟩ := maxI_of e
      cases h
      by_cases z : x < k
      · rw [if_pos z]
        refine ⟨List.mem_cons_of_mem _ h1, fun w hw => ?_⟩
        rcases List.mem_cons.mp hw with rfl | hw
        · omega
        · exact h2 w hw
      · rw [if_neg z]
        refine ⟨List.mem_cons_self, fun w hw => ?_⟩
        rcases List.mem_cons.mp hw with rfl | hw
        · exact Int.le_refl _
        · have := h2 w hw; omega
theorem ints_len {xs : List D} {is : List Int} (h : intsD xs = some is) : xs.length = is.length := by rw [ints_eq h, List.length_map]
theorem minL_ok (hc : X.calm = true) : CallR X (.builtin "min") (cD1 X.K (ap1 .min)) := by
  refine call_imp (cr_min hc) fun vs H Q h => ?_
  obtain ⟨x, rfl, F, d, p, sm, r, hp, q⟩ := h
  cases d <;> simp only [ap1] at hp <;> try cases hp
  rename_i xs
  obtain ⟨a, vs, rfl, ha, la⟩ := r
  cases hi : intsD xs with
  | none => rw [hi] at hp; cases hp
  | some is =>
    rw [hi] at hp
    simp only at hp
    cases hm : minI is with
    | none => rw [hm] at hp; cases hp
    | some m =>
      rw [hm] at hp
      cases hp
      rw [ints_eq hi] at la
      rw [la.intsD] at ha
      obtain ⟨k1, k2⟩ := minI_of hm
      refine ⟨a, is, rfl, ha, List.length_pos_of_mem k1, fun n hn hy => ?_⟩
      have : n = m := by have := hy m k1; have := k2 n hn; omega
      rw [this]
      exact q _ _ _ (.val (.int _))
theorem maxL_ok (hc : X.calm = true) : CallR X (.builtin "max") (cD1 X.K (ap1 .max)) := by
  refine call_imp (cr_max hc) fun vs H Q h => ?_
  obtain ⟨x, rfl, F, d, p, sm, r, hp, q⟩ := h
  cases d <;> simp only [ap1] at hp <;> try cases hp
  rename_i xs
  obtain ⟨a, vs, rfl, ha, la⟩ := r
  cases hi : intsD xs with
  | none => rw [hi] at hp; cases hp
  | some is =>
    rw [hi] at hp
    simp only at hp
    cases hm : maxI is with
    | none => rw [hm] at hp; cases hp
    | some m =>
      rw [hm] at hp
      cases hp
      rw [ints_eq hi] at la
      rw [la.intsD] at ha
      obtain ⟨k1, k2⟩ := maxI_of hm
      refine ⟨a, is, rfl, ha, List.length_pos_of_mem k1, fun n hn hy => ?_⟩
      have : n = m := by have := hy m k1; have := k2 n hn; omega
      rw [this]
      exact q _ _ _ (.val (.int _))
theorem insI_perm (x : Int) : ∀ ys : List Int, (insI x ys).Perm (x :: ys)
  | [] => .refl _
  | y :: ys => by
    unfold insI
    split
    · exact .refl _
    · exact ((insI_perm x ys).cons y).trans (.swap x y ys)
theorem insI_pw (x : Int) : ∀ ys : List Int, ys.Pairwise (· ≤ ·) → (insI x ys).Pairwise (· ≤ ·)
  | [], _ => by unfold insI; exact List.pairwise_singleton _ _
  | y :: ys, h => by
    rw [List.pairwise_cons] at h
    unfold insI
    split
    · rename_i hx
      refine List.pairwise_cons.mpr ⟨fun z hz => ?_, List.pairwise_cons.mpr h⟩
      rcases List.mem_cons.mp hz with rfl | hz
      · omega
      · have := h.1 z hz; omega
    · rename_i hx
      refine List.pairwise_cons.mpr ⟨fun z hz => ?_, insI_pw x ys h.2⟩
      rcases List.mem_cons.mp ((insI_perm x ys).mem_iff.mp hz) with rfl | hz
      · omega
      · exact h.1 z hz
theorem sortI_perm : ∀ xs : List Int, (sortI xs).Perm xs
  | [] => .refl _
  | x :: xs => (insI_perm x (sortI xs)).trans ((sortI_perm xs).cons x)
theorem sortI_pw : ∀ xs : List Int, (sortI xs).Pairwise (· ≤ ·)
  | [] => .nil
  | x :: xs => insI_pw x _ (sortI_pw xs)
theorem sortI_is {xs ys : List Int} (h : ys.Perm xs) (k : ys.Pairwise (· ≤ ·)) : ys = sortI xs :=
  List.Perm.eq_of_pairwise (le := (· ≤ ·)) (fun a b _ _ h1 h2 => by omega) k (sortI_pw xs) (h.trans (sortI_perm xs).symm)
theorem sorted_ok : CallR X (.builtin "sorted") (cD1 X.K (ap1 .sorted)) := by
  refine call_imp cr_sortedI fun vs H Q h => ?_
  obtain ⟨x, rfl, F, d, p, sm, r, hp, q⟩ := h
  cases d <;> simp only [ap1] at hp <;> try cases hp
  rename_i xs
  obtain ⟨a, vs, rfl, ha, la⟩ := r
  cases hi : intsD xs with
  | none => rw [hi] at hp; cases hp
  | some is =>
    rw [hi] at hp
    cases hp
    rw [ints_eq hi] at la
    rw [la.intsD] at ha
    refine ⟨a, is, rfl, ha, fun ns' p hperm hpw hz => ?_⟩
    rw [sortI_is hperm hpw]
    exact q _ _ _ (.lst hz (rpl_ints _))
theorem digs_is (n : Nat) : (Nat.repr n).toList.map Char.toNat = digs n := by
  unfold Nat.repr digs
  simp
theorem strI_is (i : Int) : Str.ofString (toString i) = toS (strI i) := by
  rw [Str.ofString_eq_toList]
  have : (toString i).toList.map Char.toNat = strI i := by
    cases i with
    | ofNat n =>
      show (Nat.repr n).toList.map Char.toNat = _
      rw [digs_is]
      unfold strI
      rw [if_neg (by simp)]
      rfl
    | negSucc n =>
      show (("-" ++ Nat.repr (n + 1)) : String).toList.map Char.toNat = _
      unfold strI
      rw [if_pos (Int.negSucc_lt_zero n), String.toList_append, List.map_append, digs_is]
      rfl
  rw [this]
theorem str_ok : CallR X (.type "str") (cD1 X.K (ap1 .toStr)) := by
  refine call_imp call_str_int fun vs H Q h => ?_
  obtain ⟨x, rfl, F, d, p, sm, r, hp, q⟩ := h
  cases d <;> simp only [ap1] at hp <;> try cases hp
  rename_i i
  split at hp
  · rename_i hl
    cases hp
    rw [r.int]
    refine ⟨i, rfl, hl, ?_⟩
    have := q (.str (toS (strI i))) F H (.val (.str _))
    rw [← strI_is] at this
    exact this
  · cases hp
end
theorem zipD_get : ∀ {xs ys : List D} {i : Nat} {d : D}, (zipD xs ys)[i]? = some d → ∃ x y, xs[i]? = some x ∧ ys[i]? = some y ∧ d = .tup [x, y]
  | [], _, _, _, h => by simp [zipD] at h
  | _ :: _, [], _, _, h => by simp [zipD] at h
  | x :: xs, y :: ys, 0, d, h => by
    simp only [zipD, List.getElem?_cons_zero] at h
    cases h
    exact ⟨x, y, rfl, rfl, rfl⟩
  | x :: xs, y :: ys, i + 1, d, h => by
    simp only [zipD, List.getElem?_cons_succ] at h
    obtain ⟨u, w, h1, h2, h3⟩ := zipD_get (xs := xs) (ys := ys) (i := i) h
    exact ⟨u, w, by rw [List.getElem?_cons_succ]; exact h1, by rw [List.getElem?_cons_succ]; exact h2, h3⟩
theorem zipD_none : ∀ {xs ys : List D} {i : Nat}, (zipD xs ys)[i]? = none → xs.length ≤ i ∨ ys.length ≤ i
  | [], _, _, _ => .inl (Nat.zero_le _)
  | _ :: _, [], _, _ => .inr (Nat.zero_le _)
  | x :: xs, y :: ys, 0, h => by simp [zipD] at h
  | x :: xs, y :: ys, i + 1, h => by
    simp only [zipD, List.getElem?_cons_succ] at h
    rcases zipD_none h with k | k
    · exact .inl (Nat.succ_le_succ k)
    · exact .inr (Nat.succ_le_succ k)
theorem enumD_get : ∀ {k : Int} {xs : List D} {i : Nat} {d : D}, (enumD k xs)[i]? = some d → ∃ x, xs[i]? = some x ∧ d = .tup [.int (k + i), x]
  | _, [], _, _, h => by simp [enumD] at h
  | k, x :: xs, 0, d, h => by
    simp only [enumD, List.getElem?_cons_zero] at h
    cases h
    exact ⟨x, rfl, by rw [Int.natCast_zero, Int.add_zero]⟩
  | k, x :: xs, i + 1, d, h => by
    simp only [enumD, List.getElem?_cons_succ] at h
    obtain ⟨y, h1, h2⟩ := enumD_get h
    exact ⟨y, by rw [List.getElem?_cons_succ]; exact h1, by rw [h2, show k + 1 + (i : Int) = k + ((i + 1 : Nat) : Int) by omega]⟩
theorem enumD_none : ∀ {k : Int} {xs : List D} {i : Nat}, (enumD k xs)[i]? = none → xs.length ≤ i
  | _, [], _, _ => Nat.zero_le _
  | k, x :: xs, 0, h => by simp [enumD] at h
  | k, x :: xs, i + 1, h => by
    simp only [enumD, List.getElem?_cons_succ] at h
    exact Nat.succ_le_succ (enumD_none h)
section
variable {K : PySem.W.Frag} {T : List Addr} {F : Hp}
theorem feeds_zipL {a b : Addr} {xs ys : List V} {ds es : List D} (h : SqL K F a xs) (r : RpL K F xs ds) (h2 : SqL K F b ys) (r2 : RpL K F ys es) : Feeds K T F (Itz K a b) (.ls (zipD ds es)) := by
  intro i F1 H σ ρ s1 ok
  have hH : SqL K H a xs := sqL_mono ok.same (sqL_mono s1 h)
  have hH2 : SqL K H b ys := sqL_mono ok.same (sqL_mono s1 h2)
  refine ⟨fun e => ⟨xs, ys, hH, hH2, ?_⟩, fun d e => ?_⟩
  · have := zipD_none (show (zipD ds es)[i]? = none from e)
    rw [r.length, r2.length]; exact this
  · obtain ⟨x, y, e1, e2, rfl⟩ := zipD_get (show (zipD ds es)[i]? = some d from e)
    obtain ⟨v, g1, g2⟩ := r.get e1
    obtain ⟨w, g3, g4⟩ := r2.get e2
    refine ⟨⟨xs, ys, v, w, hH, hH2, g1, g3⟩, fun x' H' y' => ?_⟩
    obtain ⟨p, v', w', rfl, hp, rfl, k1, k2⟩ := y'
    have q1 := k1 xs hH
    have q2 := k2 ys hH2
    rw [g1] at q1
    rw [g3] at q2
    cases q1; cases q2
    have P := (NewV.tup hp (.cons (Rp.mono s1 _ _ g2) (.cons (Rp.mono s1 _ _ g4) .nil))).post ok
    exact ⟨_, P.ok, P.stp, P.rr⟩
theorem feeds_zipT {a b : Addr} {xs ys : List V} {ds es : List D} (h : SqT K F a xs) (r : RpL K F xs ds) (h2 : SqT K F b ys) (r2 : RpL K F ys es) : Feeds K T F (RZ.ItzT K a b) (.ls (zipD ds es)) := by
  intro i F1 H σ ρ s1 ok
  have hH : SqT K H a xs := sqT_mono ok.same (sqT_mono s1 h)
  have hH2 : SqT K H b ys := sqT_mono ok.same (sqT_mono s1 h2)
  refine ⟨fun e => ⟨xs, ys, hH, hH2, ?_⟩, fun d e => ?_⟩
  · have := zipD_none (show (zipD ds es)[i]? = none from e)
    rw [r.length, r2.length]; exact this
  · obtain ⟨x, y, e1, e2, rfl⟩ := zipD_get (show (zipD ds es)[i]? = some d from e)
    obtain ⟨v, g1, g2⟩ := r.get e1
    obtain ⟨w, g3, g4⟩ := r2.get e2
    refine ⟨⟨xs, ys, v, w, hH, hH2, g1, g3⟩, fun x' H' y' => ?_⟩
    obtain ⟨p, v', w', rfl, hp, rfl, k1, k2⟩ := y'
    have q1 := k1 xs hH
    have q2 := k2 ys hH2
    rw [g1] at q1
    rw [g3] at q2
    cases q1; cases q2
    have P := (NewV.tup hp (.cons (Rp.mono s1 _ _ g2) (.cons (Rp.mono s1 _ _ g4) .nil))).post ok
    exact ⟨_, P.ok, P.stp, P.rr⟩
theorem feeds_enum {a : Addr} {xs : List V} {ds : List D} (h : SqL K F a xs) (r : RpL K F xs ds) : Feeds K T F (Ite K a) (.ls (enumD 0 ds)) := by
  intro i F1 H σ ρ s1 ok
  have hH : SqL K H a xs := sqL_mono ok.same (sqL_mono s1 h)
  refine ⟨fun e => ⟨xs, hH, ?_⟩, fun d e => ?_⟩
  · have := enumD_none (show (enumD 0 ds)[i]? = none from e)
    rw [r.length]; exact this
  · obtain ⟨x, e1, rfl⟩ := enumD_get (show (enumD 0 ds)[i]? = some d from e)
    obtain ⟨v, g1, g2⟩ := r.get e1
    refine ⟨⟨xs, v, hH, g1⟩, fun x' H' y' => ?_⟩
    obtain ⟨p, v', rfl, hp, rfl, k1⟩ := y'
    have q1 := k1 xs hH
    rw [g1] at q1
    cases q1
    rw [Int.zero_add]
    have P := (NewV.tup hp (.cons (.int (i : Int)) (.cons (Rp.mono s1 _ _ g2) .nil))).post ok
    exact ⟨_, P.ok, P.stp, P.rr⟩
theorem feeds_revL {a : Addr} {xs : List V} {ds : List D} (h : SqL K F a xs) (r : RpL K F xs ds) : Feeds K T F (Itv K a xs.length) (.ls ds.reverse) := by
  intro i F1 H σ ρ s1 ok
  have hH : SqL K H a xs := sqL_mono ok.same (sqL_mono s1 h)
  refine ⟨fun e => ?_, fun d e => ?_⟩
  · have := List.getElem?_eq_none_iff.mp (show ds.reverse[i]? = none from e)
    rw [List.length_reverse] at this
    show xs.length ≤ i
    rw [r.length]; exact this
  · have e : ds.reverse[i]? = some d := e
    have hi : i < ds.length := by
      have := (List.getElem?_eq_some_iff.mp e).1
      rwa [List.length_reverse] at this
    rw [List.getElem?_reverse hi, ← r.length] at e
    obtain ⟨v, g1, g2⟩ := r.get e
    refine ⟨⟨by rw [r.length]; exact hi, xs, v, hH, g1⟩, fun x' H' y' => ?_⟩
    obtain ⟨rfl, k1⟩ := y'
    have q1 := k1 xs hH
    rw [g1] at q1
    cases q1
    exact ⟨F1, ok, Stp.refl, Rp.mono s1 _ _ g2⟩
theorem feeds_revT {a : Addr} {xs : List V} {ds : List D} (h : SqT K F a xs) (r : RpL K F xs ds) : Feeds K T F (RT.ItvT K a xs.length) (.ls ds.reverse) := by
  intro i F1 H σ ρ s1 ok
  have hH : SqT K H a xs := sqT_mono ok.same (sqT_mono s1 h)
  refine ⟨fun e => ?_, fun d e => ?_⟩
  · have := List.getElem?_eq_none_iff.mp (show ds.reverse[i]? = none from e)
    rw [List.length_reverse] at this
    show xs.length ≤ i
    rw [r.length]; exact this
  · have e : ds.reverse[i]? = some d := e
    have hi : i < ds.length := by
      have := (List.getElem?_eq_some_iff.mp e).1
      rwa [List.length_reverse] at this
    rw [List.getElem?_reverse hi, ← r.length] at e
    obtain ⟨v, g1, g2⟩ := r.get e
    refine ⟨⟨by rw [r.length]; exact hi, xs, v, hH, g1⟩, fun x' H' y' => ?_⟩
    obtain ⟨rfl, k1⟩ := y'
    have q1 := k1 xs hH
    rw [g1] at q1
    cases q1
    exact ⟨F1, ok, Stp.refl, Rp.mono s1 _ _ g2⟩
end
section
variable {X : Cx} {T : List Addr} {c : Cl} {pos p : Pos} {a b tg : Expr} {ea eb : E}
theorem i_rev (ha : PE X a (tE X.K T c ea)) (hg : Gl X "reversed") (hm : X.mg "reversed" = none) (hs : notStar a = true) : PI X tg (.Call (.Name "reversed" p) [a] [] pos) (tI X.K T c (.rev ea)) := by
  refine PI.imp (RT.pi_revA hg hm ha (star_cons hs)) fun σ H R ⟨F, ρ, s, ρ', ok, ev, q⟩ => ?_
  simp only [evI] at ev
  cases e1 : evE c ea ρ with
  | none => rw [e1] at ev; cases ev
  | some z =>
    obtain ⟨r1, ρ1⟩ := z
    rw [e1] at ev
    simp only at ev
    cases g : r1.frz with
    | none => rw [g] at ev; cases ev
    | some d =>
      rw [g] at ev
      simp only at ev
      refine ⟨F, ρ, r1, _, ok, e1, fun v F1 H1 P1 => ?_⟩
      obtain ⟨F', k1, k2, k3, k4⟩ := P1.rr.frozen P1.ok g P1.own P1.stp
      cases d <;> simp only [seqOf] at ev <;> try cases ev
      · cases k3 with
        | tup h1 h2 => exact ⟨_, _, rfl, .inr ⟨sqT_mono k1.same h1, q _ _ _ ⟨k1, k2⟩ (feeds_revT h1 h2)⟩⟩
      · cases k3 with
        | lst h1 h2 => exact ⟨_, _, rfl, .inl ⟨sqL_mono k1.same h1, q _ _ _ ⟨k1, k2⟩ (feeds_revL h1 h2)⟩⟩
theorem i_enum {elts : List Expr} {kk : Nat} {tpos : Pos} (ha : PE X a (tE X.K T c ea)) (hg : Gl X "enumerate") (hm : X.mg "enumerate" = none) (hs : notStar a = true) : PI X (.Tuple elts kk tpos) (.Call (.Name "enumerate" p) [a] [] pos) (tI X.K T c (.enum ea)) := by
  refine PI.imp (pi_enum hg hm (pa_cons ha pa_nil (star_cons hs)) (star_cons hs)) fun σ H R ⟨F, ρ, s, ρ', ok, ev, q⟩ => ?_
  simp only [evI] at ev
  cases e1 : evE c ea ρ with
  | none => rw [e1] at ev; cases ev
  | some z =>
    obtain ⟨r1, ρ1⟩ := z
    rw [e1] at ev
    simp only at ev
    cases g : r1.frz with
    | none => rw [g] at ev; cases ev
    | some d =>
      rw [g] at ev
      simp only at ev
      refine ⟨F, ρ, r1, _, ok, e1, fun v F1 H1 P1 => ?_⟩
      obtain ⟨F', k1, k2, k3, k4⟩ := P1.rr.frozen P1.ok g P1.own P1.stp
      cases d <;> simp only [lstOf] at ev <;> try cases ev
      cases k3 with
      | lst h1 h2 => exact ⟨_, _, rfl, sqL_mono k1.same h1, q _ _ _ ⟨k1, k2⟩ (feeds_enum h1 h2)⟩
theorem i_zip {elts : List Expr} {kk : Nat} {tpos : Pos} (ha : PE X a (tE X.K T c ea)) (hb : PE X b (tE X.K T c eb)) (hg : Gl X "zip") (hm : X.mg "zip" = none) (hs : notStar a = true) (hs2 : notStar b = true) : PI X (.Tuple elts kk tpos) (.Call (.Name "zip" p) [a, b] [] pos) (tI X.K T c (.zip ea eb)) := by
  refine PI.imp (RZ.pi_zipA hg hm (pa_cons ha (pa_cons hb pa_nil (star_cons hs2)) (star_cons hs)) (by rw [star_cons hs, star_cons hs2]) (by rw [star_cons hs2]; rfl)) fun σ H R ⟨F, ρ, s, ρ', ok, ev, q⟩ => ?_
  simp only [evI] at ev
  cases e1 : evE c ea ρ with
  | none => rw [e1] at ev; cases ev
  | some z =>
    obtain ⟨r1, ρ1⟩ := z
    rw [e1] at ev
    simp only at ev
    cases e2 : evE c eb ρ1 with
    | none => rw [e2] at ev; cases ev
    | some z =>
      obtain ⟨r2, ρ2⟩ := z
      rw [e2] at ev
      simp only at ev
      cases g1 : r1.frz with
      | none => rw [g1] at ev; cases ev
      | some x =>
        cases g2 : r2.frz with
        | none => rw [g1, g2] at ev; cases ev
        | some y =>
          rw [g1, g2] at ev
          simp only at ev
          refine ⟨F, ρ, r1, _, ok, e1, fun v F1 H1 P1 => ?_⟩
          obtain ⟨F1', k1, k2, k3, k4⟩ := P1.rr.frozen P1.ok g1 P1.own P1.stp
          refine ⟨F1', ρ1, r2, _, k1, e2, fun w F2 H2 P2 => ?_⟩
          obtain ⟨F2', j1, j2, j3, j4⟩ := P2.rr.frozen P2.ok g2 P2.own P2.stp
          have st := k2.trans j2 k1.tabs'
          have k3' := Rp.mono j2.1 _ _ k3
          cases x <;> cases y <;> simp only [twoOf] at ev <;> try cases ev
          · cases k3' with
            | tup h1 h2 => cases j3 with
              | tup h3 h4 => exact ⟨_, _, _, _, rfl, .inr ⟨sqT_mono j1.same h1, sqT_mono j1.same h3, q _ _ _ ⟨j1, st⟩ (feeds_zipT h1 h2 h3 h4)⟩⟩
          · cases k3' with
            | lst h1 h2 => cases j3 with
              | lst h3 h4 => exact ⟨_, _, _, _, rfl, .inl ⟨sqL_mono j1.same h1, sqL_mono j1.same h3, q _ _ _ ⟨j1, st⟩ (feeds_zipL h1 h2 h3 h4)⟩⟩
end
end NW
namespace NW
open PySem PySem.Spec PyProof.Rows L2

def tyN : D → String
  | .non => "NoneType"
  | .bl _ => "bool"
  | .int _ => "int"
  | .str _ => "str"
  | .tup _ => "tuple"
  | .lst _ => "list"
  | .dct _ => "dict"
theorem tyx {K : PySem.W.Frag} {F H : Hp} {x : V} {d : D} (r : Rdv K F H x d) (sm : Same F H) : TyX K H x (.type (tyN d)) := by
  cases d with
  | non => cases (show Rp K F x .non from r); exact .base .non
  | bl b => cases (show Rp K F x (.bl b) from r); exact .base (.bl b)
  | int i => cases (show Rp K F x (.int i) from r); exact .base (.int i)
  | str s => cases (show Rp K F x (.str s) from r); exact .base (.str _)
  | tup ds =>
    obtain ⟨a, xs, rfl, _, h, _⟩ := r.tupE sm
    rcases h with (h | ⟨o, h⟩) | ⟨o, _, _, h, c, _⟩
    · exact .base (.tup h)
    · exact .fTuple h
    · exact .kTuple h c
  | lst ds =>
    obtain ⟨a, xs, rfl, h, _⟩ := r
    rcases h with (h | ⟨o, h⟩) | ⟨o, _, _, h, c, _⟩
    · exact .base (.lst h)
    · exact .base (.frz h)
    · exact .kList h c
  | dct es =>
    obtain ⟨a, rfl, h⟩ := r
    rcases h with ⟨kvs, h, _⟩ | ⟨kvs, h, _⟩
    · exact .base (.dK h)
    · exact .base (.dT h)
/-- which class an isinstance asks of -/
def isiT : O1 → Option String
  | .isInt => some "int"
  | .isBool => some "bool"
  | .isTup => some "tuple"
  | .isLst => some "list"
  | .isStr => some "str"
  | _ => none
def tyB (a b : String) : Bool := (kitB a b).isSome
theorem kit_is {o : O1} {n : String} {d : D} {p : Bool × D} (h : isiT o = some n) (hp : ap1 o d = some p) : ∃ b, p = (false, .bl b) ∧ kitB (tyN d) n = some b := by
  cases o <;> simp only [isiT] at h <;> cases h <;> cases d <;> simp only [ap1] at hp <;> cases hp <;> exact ⟨_, rfl, by simp only [tyN]; decide +kernel⟩
section
variable {X : Cx} {T : List Addr} {c : Cl} {pos p q : Pos} {a : Expr} {ea : E}
theorem pe_tyN {x : Str} {n : String} (hg : Gl X x) (hm : X.mg x = none) (hv : bootBuiltins x = some (.type n)) (hn : x ≠ "__name__") (hd : (x == ("__debug__" : Str)) = false) : PE X (.Name x pos) (tC (.ty n)) :=
  ⟨fun pins s σ H Q I h => ld_blt I hg hm hv ⟨.ty n, H, I, rfl, h⟩ hn hd⟩
theorem e_isi {x : Str} {n : String} {o : O1} (ho : isiT o = some n) (hg : Gl X "isinstance") (hm : X.mg "isinstance" = none) (hgt : Gl X x) (hmt : X.mg x = none) (hv : bootBuiltins x = some (.type n)) (hn : x ≠ "__name__") (hd : (x == ("__debug__" : Str)) = false)
    (ha : PE X a (tE X.K T c ea)) (hs : notStar a = true) : PE X (.Call (.Name "isinstance" p) [a, .Name x q] [] pos) (tE X.K T c (.o1 o ea)) := by
  refine PE.imp (pe_callB (id := "isinstance") call_isi hg hm (by decide +kernel) (pa_cons ha (pa_cons (pe_tyN hgt hmt hv hn hd) pa_nil rfl) (star_cons hs)) (by decide) (by decide) (star_cons hs) rfl) fun σ H Q h => ?_
  refine tE_mono (tE_o1 h) fun v H1 ⟨F, d, pp, sm, r, hp, q⟩ => ?_
  obtain ⟨b, rfl, hk⟩ := kit_is ho hp
  exact ⟨v, .ty n, _, .type n, b, rfl, .ty n, tyx r sm, kit_ty hk, q _ _ _ (.val (.bl b))⟩
end
end NW
namespace NW
open PySem PySem.Spec PyProof.Rows L2 GenW

abbrev gxE (elt tg iter : Expr) (ifs : List Expr) (scope : Scope) (pos : Pos) : Expr := .GeneratorExp elt [⟨tg, iter, ifs, 0⟩] scope pos
section
variable {A : Around} {elt tg iter : Expr} {ifs : List Expr} {scope : Scope} {pos : Pos} {it : Value} {cenv : Env}
theorem over_start : A.over (.compStart (gxE elt tg iter ifs scope pos) 0 it .none cenv) [] = A.over (.compLoop (gxE elt tg iter ifs scope pos) 0 it .none cenv) [] := rfl
theorem over_fr {l : List Env} (h : A.frames = some l) : (A.over (.compLoop (gxE elt tg iter ifs scope pos) 0 it .none cenv) []).frames = some (cenv :: l) := by
  show pushEnvs [cenv] (pushEnvs [] A.frames) = _
  rw [h]
  rfl
theorem over_room {k : Nat} (r : Room (k + 1) A) : Room k (A.over (.compLoop (gxE elt tg iter ifs scope pos) 0 it .none cenv) []) :=
  ⟨r.hd, by have := r.dp; show A.depth + 0 + 1 + 3 * k + 5 < _; omega, by have := r.un; show A.units + 0 + 3 + 16 * k + 200 < _; omega⟩
end

/-- the generator's frame, with captured cells and cells of its own -/
theorem newEnv_gx {M : Model} {A : Around} {E : Value → Shared → Prop} {s : Shared} {scope : Scope} {globals : Addr} {closure : List (Str × Addr)} {qual : Str} {code : Value} {builtins : Addr} {it : Value} {Q : Env → Shared → Prop}
    (hk : scope.kind = .function) (h0 : scope.names.lookup (".0" : Str) = some NameKind.local)
    (h : ∀ h' tk, h'.Ns s.heap.objs.size (fun y => if y = (".0" : Str) then some it else none) → Heap.SameBut s.heap.objs.size (pushCells (s.heap.push { cls := .type "frame", data := .dict #[] }) scope.names) h' →
      Q (newEnv scope s.heap.objs.size globals (cellsFrom (s.heap.objs.size + 1) scope.names closure) qual none code none builtins) { s with heap := h', toks := tk }) :
    wpAny M A (newFunctionEnv scope globals closure [(".0", it)] qual none code none builtins) Q E s := by
  simp only [newFunctionEnv, Option.isSome_none, Bool.false_eq_true, if_false]
  refine wpAny_bind (wpAny_alloc ?_)
  refine wpAny_bind (wpAny_layCells _ (fun name kind cells => by cases hkc : kind == NameKind.cell <;> simp [hkc]) _ _ _ _ ?_)
  rw [show ({ s with heap := s.heap.push { cls := .type "frame", data := .dict #[] } } : Shared).heap.objs.size = s.heap.objs.size + 1 from Heap.size_push ..]
  simp only [List.forIn_cons, List.forIn_nil]
  refine wpAny_bind (wpAny_bind (wpAny_bind ?_))
  have hns : (pushCells (s.heap.push { cls := .type "frame", data := .dict #[] }) scope.names).Ns s.heap.objs.size (fun _ => none) := (Heap.Ns.new s.heap (.type "frame")).keeps (pushCells_keeps _ _)
  refine wpAny_storeName_local (s := { s with heap := pushCells (s.heap.push { cls := .type "frame", data := .dict #[] }) scope.names }) (env := newEnv scope s.heap.objs.size globals (cellsFrom (s.heap.objs.size + 1) scope.names closure) qual none code none builtins) h0 hns (fun h' hn' hs' => ?_) (by
    rw [show (newEnv scope s.heap.objs.size globals (cellsFrom (s.heap.objs.size + 1) scope.names closure) qual none code none builtins).scope.kind = .function from hk]; rfl)
  refine wpAny_pure ?_
  refine wpAny_pure ?_
  exact wpAny_pure (h h' _ hn' hs')

/-- the context of a generator's frame: s, H: when it was made; A: around its code; pn: its own object -/
abbrev _root_.L2.Cx.gx (X : Cx) (A : Around) (s : Shared) (H : Hp) (scope : Scope) (cenv : Env) (fp : List Addr) (pn : List (Addr × Obj)) : Cx :=
  { X with A := A, s_0 := s, H_0 := H, env := cenv, outer := X.stack, stack := cenv :: X.stack, ex := fp, fn := fun x => scope.names.lookup x == some .cell, pn := pn, xe := fun _ _ => False }
abbrev gxEnv (X : Cx) (s : Shared) (scope : Scope) (qual : Str) (code : Value) : Env :=
  newEnv scope s.heap.objs.size X.env.globals (cellsFrom (s.heap.objs.size + 1) scope.names (cloFrom X.env.cells scope.names [])) qual none code none builtinsNs
section
variable {X : Cx} {pins : List (Addr × Obj)} {σ : L2.St} {H : Hp} {s : Shared}
theorem gx_start {scope : Scope} {own : List (Str × Nat)} {fp : List Addr} {A : Around} {it : Value} {h' : Heap} {tk : Nat} {qual : Str} {code : Value} (I : Inv X pins σ H s) (ok : BlkOk X.N X.env.scope scope own) (hN : X.N.Nodup) (hc : X.calm = true) (hfp : ∀ b ∈ fp, FpOk X pins H b ∧ b < s.heap.objs.size)
    (hA : A.frames = some (gxEnv X s scope qual code :: X.stack)) (hh : A.handled = none) (hns : h'.Ns s.heap.objs.size (fun y => if y = (".0" : Str) then some it else none))
    (hsb : Heap.SameBut s.heap.objs.size (pushCells (s.heap.push { cls := .type "frame", data := .dict #[] }) scope.names) h') :
    Inv (X.gx A s H scope (gxEnv X s scope qual code) fp []) [] (wipe σ (own.map (·.2))) H { s with heap := h', toks := tk } := by
  have hfree : ∀ y ∈ scope.names, y.2 = .free → ∃ c, X.env.cells.lookup y.1 = some c := fun y hy e => by
    rcases ok.free y hy e with k | k
    · exact I.ok.has _ (.inl k)
    · exact I.ok.has _ (.inr k)
  have hL : (gxEnv X s scope qual code).locals = s.heap.objs.size := rfl
  have hcl : (gxEnv X s scope qual code).cells = cellsFrom (s.heap.objs.size + 1) scope.names (cloFrom X.env.cells scope.names []) := rfl
  have hsc : (gxEnv X s scope qual code).scope = scope := rfl
  have hgl : (gxEnv X s scope qual code).globals = mainGlobals := I.ok.glob
  have hbl : (gxEnv X s scope qual code).builtins = builtinsNs := rfl
  have hfr : (gxEnv X s scope qual code).frame = some (gxEnv X s scope qual code).locals := rfl
  generalize gxEnv X s scope qual code = cenv at hA hL hcl hsc hgl hbl hfr ⊢
  have kp0 : ∀ b o, s.heap.get? b = some o → (pushCells (s.heap.push { cls := .type "frame", data := .dict #[] }) scope.names).get? b = some o := fun b o e => pushCells_keeps _ _ _ _ (Heap.get?_push_of_some _ e)
  have kp1 : ∀ b o, b ≠ s.heap.objs.size → (pushCells (s.heap.push { cls := .type "frame", data := .dict #[] }) scope.names).get? b = some o → h'.get? b = some o := fun b o hb e => (hsb.2 b hb).trans e
  have kp : ∀ b o, s.heap.get? b = some o → h'.get? b = some o := fun b o e => kp1 b o (Nat.ne_of_lt (Heap.lt_size e)) (kp0 b o e)
  rw [← Heap.size_push s.heap { cls := .type "frame", data := .dict #[] }] at hcl
  have cm : ∀ {y c}, (y, c) ∈ cloFrom X.env.cells scope.names [] → X.env.cells.lookup y = some c ∧ c < s.heap.objs.size := fun {y c} hm => by
    rcases cloFrom_mem hm with hm | ⟨h1, rfl⟩
    · cases hm
    · obtain ⟨c, hc⟩ := hfree _ h1 rfl
      rw [hc]
      obtain ⟨w, z⟩ := I.cell _ _ hc
      exact ⟨rfl, z.lt⟩
  have mem : ∀ {y c}, cenv.cells.lookup y = some c → (X.env.cells.lookup y = some c ∧ c < s.heap.objs.size) ∨ (s.heap.objs.size + 1 ≤ c ∧ CellAt h' c none) := fun {y c} e => by
    rw [hcl] at e
    rcases cells_mem (PySem.mem_of_lookup e) with hm | ⟨_, h2, o, ho, hd⟩
    · exact .inl (cm hm)
    · rw [Heap.size_push] at h2
      exact .inr ⟨h2, o, kp1 c o (Nat.ne_of_gt h2) ho, hd⟩
  have look : ∀ {y}, scope.names.lookup y = some .free → ∃ c, cenv.cells.lookup y = some c ∧ X.env.cells.lookup y = some c := fun {y} hl => by
    have hy : (y, NameKind.free) ∈ scope.names := PySem.mem_of_lookup hl
    obtain ⟨c', e'⟩ := mem_lookup (cells_acc (names := scope.names) (n := (s.heap.push { cls := .type "frame", data := .dict #[] }).objs.size) (cloFrom_has (cells := X.env.cells) (acc := []) hy))
    rw [← hcl] at e'
    refine ⟨c', e', ?_⟩
    rw [hcl] at e'
    rcases cells_mem (PySem.mem_of_lookup e') with hm | ⟨h1, _, _⟩
    · exact (cm hm).1
    · have := ok.uniq _ h1
      rw [hl] at this; cases this
  have okB : (X.gx A s H scope cenv fp []).Ok := by
    refine ⟨I.ok.mod, by show cenv.scope.kind = _; rw [hsc]; exact ok.kind, hgl, hbl, by show s.heap.objs.size ≤ cenv.locals; rw [hL]; exact Nat.le_refl _,
      fun y z c e1 e2 => ?_, fun y hy => ?_, fun y c z e => ?_, fun _ => hh, hA, .inr ⟨rfl, hfr⟩, fun b hb => ⟨?_, fun y c e z => ?_⟩, I.bs, Nat.le_trans I.ok.bsz I.sz, fun b o e hb => ?_, fun b hb z => ?_, I.stack, I.stkFree⟩
    · have e1 : cenv.cells.lookup y = some c := e1
      have e2 : cenv.cells.lookup z = some c := e2
      rw [hcl] at e1 e2
      refine cells_inj (fun p hp => ?_) (fun y z c a b => I.ok.inj y z c (cm a).1 (cm b).1) (PySem.mem_of_lookup e1) (PySem.mem_of_lookup e2)
      rw [Heap.size_push]
      exact Nat.lt_succ_of_lt (cm (y := p.1) (c := p.2) hp).2
    · show ∃ c, cenv.cells.lookup y = some c
      have key : ∀ k, scope.names.lookup y = some k → (k = .cell ∨ k = .free) → ∃ c, cenv.cells.lookup y = some c := fun k e hk' => by
        rcases hk' with rfl | rfl
        · obtain ⟨c, hm⟩ := cells_has (n := (s.heap.push { cls := .type "frame", data := .dict #[] }).objs.size) (acc := cloFrom X.env.cells scope.names []) (PySem.mem_of_lookup e)
          obtain ⟨c', e'⟩ := mem_lookup hm
          exact ⟨c', by rw [hcl]; exact e'⟩
        · obtain ⟨c, h1, _⟩ := look e
          exact ⟨c, h1⟩
      have hy : cenv.scope.names.lookup y = some .cell ∨ cenv.scope.names.lookup y = some .free := hy
      rw [hsc] at hy
      rcases hy with hy | hy
      · exact key _ hy (.inl rfl)
      · exact key _ hy (.inr rfl)
    · have z : (scope.names.lookup y == some NameKind.cell) = true := z
      have z : scope.names.lookup y = some .cell := by simpa using z
      have e : cenv.cells.lookup y = some c := e
      rw [hcl] at e
      rcases cells_mem (PySem.mem_of_lookup e) with hm | ⟨_, h2, _⟩
      · rcases cloFrom_mem hm with hm | ⟨h1, _⟩
        · cases hm
        · have q := ok.uniq _ h1
          rw [z] at q; cases q
      · rw [Heap.size_push] at h2
        exact Nat.le_of_succ_le h2
    · show b ≠ cenv.locals
      rw [hL]; exact Nat.ne_of_lt (hfp b hb).2
    · have e : cenv.cells.lookup y = some c := e
      rcases mem e with ⟨h1, _⟩ | ⟨h1, _⟩
      · exact (hfp b hb).1.2.2.2.2.1 y c h1 z
      · have h2 : s.heap.objs.size + 1 ≤ b := by rw [← z]; exact h1
        exact absurd (Nat.lt_of_lt_of_le (hfp b hb).2 (Nat.le_of_succ_le h2)) (Nat.lt_irrefl _)
    · rcases (hfp b hb).1.2.2.2.1 with z | z
      · exact I.ok.noex b o e z
      · exact absurd (Nat.lt_of_lt_of_le (Heap.lt_size e) (Nat.le_trans I.ok.bsz z)) (Nat.lt_irrefl _)
    · rcases List.mem_cons.mp (I.stkSub b z) with z | z
      · exact (hfp b hb).1.2.1 z
      · exact (hfp b hb).1.2.2.1 z
  refine ⟨okB, rfl, I.bare, Un.kept kp, ⟨fun y => if y = (".0" : Str) then some it else none, ?_, fun i y av e1 e2 e3 => ?_⟩, fun y c e => ?_, ?_, fun y c e => ?_, fun p hp => ?_, I.hok.kept kp, by rw [wipe_length]; exact I.len⟩
  · show Heap.Ns _ cenv.locals _
    rw [hL]
    exact hns
  · obtain ⟨e2, hne⟩ := wipe_some e2
    have e3 : Vis cenv.scope y := e3
    rw [hsc] at e3
    have no : ∀ k, scope.names.lookup y = some k → ¬ (k = .local ∨ k = .cell) := fun k e hh => by
      rcases ok.own _ (PySem.mem_of_lookup e) hh with e' | e'
      · obtain ⟨p, hp, hpy⟩ := List.mem_map.mp e'
        have e3 := ok.ix p hp
        have : p.1 = y := hpy
        rw [this] at e3
        exact hne (List.mem_map.mpr ⟨p, hp, nodup_ix hN e3 e1⟩)
      · exact e' (List.mem_of_getElem? e1)
    have hfr : scope.names.lookup y = some .free := by
      rcases e3 with e3 | e3 | e3
      · exact (no _ e3 (.inl rfl)).elim
      · exact (no _ e3 (.inr rfl)).elim
      · exact e3
    obtain ⟨m, hn, hl⟩ := I.loc
    have hvis : Vis X.env.scope y := (ok.free _ (PySem.mem_of_lookup hfr) rfl).elim (fun k => .inr (.inl k)) (fun k => .inr (.inr k))
    obtain ⟨w, r, q⟩ := hl i y av e1 e2 hvis
    refine ⟨w, r, .inr ⟨.inr ?_, ?_⟩⟩
    · show cenv.scope.names.lookup y = _
      rw [hsc]; exact hfr
    obtain ⟨c, h1, h2⟩ := look hfr
    rcases q with ⟨k, _⟩ | ⟨_, c', e', z⟩
    · have k : X.env.scope.names.lookup y = some .local := k
      rcases ok.free _ (PySem.mem_of_lookup hfr) rfl with k' | k' <;> rw [show X.env.scope.names.lookup y = _ from k'] at k <;> cases k
    · rw [h2] at e'; cases e'
      exact ⟨c, h1, z.keeps kp⟩
  · have e : cenv.cells.lookup y = some c := e
    rcases mem e with ⟨h1, _⟩ | ⟨_, z⟩
    · obtain ⟨w, z⟩ := I.cell y c h1
      exact ⟨w, z.keeps kp⟩
    · exact ⟨_, z⟩
  · show H cenv.locals = none
    rw [hL]; exact I.hok.fresh (Nat.le_refl _)
  · have e : cenv.cells.lookup y = some c := e
    rcases mem e with ⟨h1, _⟩ | ⟨h1, _⟩
    · exact I.freeC y c h1
    · exact I.hok.fresh (Nat.le_of_succ_le h1)
  · exact absurd (show p ∈ ([] : List (Addr × Obj)) ++ [] from hp) (by simp)
/-- pins more in the context, if they hold -/
theorem gx_pinned {A : Around} {s1 : Shared} {H' : Hp} {scope : Scope} {cenv : Env} {fp : List Addr} {pn ps : List (Addr × Obj)} (I : Inv (X.gx A s H scope cenv fp []) [] σ H' s1)
    (h : ∀ p ∈ pn ++ ps, s1.heap.get? p.1 = some p.2 ∧ H' p.1 = none ∧ p.1 ≠ cenv.locals ∧ p.1 ∉ frs X.stack ∧ ∀ v, p.2.data ≠ .cell v) : Inv (X.gx A s H scope cenv fp pn) ps σ H' s1 :=
  ⟨⟨I.ok.mod, I.ok.kind, I.ok.glob, I.ok.blt, I.ok.above, I.ok.inj, I.ok.has, I.ok.cab, I.ok.hd, I.ok.frames, I.ok.stk, I.ok.exf, I.ok.bs, I.ok.bsz, I.ok.noex, I.ok.exfs, I.ok.funs, I.ok.frf⟩, I.os, I.bare, I.base, I.loc, I.cell, I.free, I.freeC, h, I.hok, I.len⟩
end
end NW
namespace NW
open PySem PySem.Spec PyProof.Rows L2 GenW

theorem compTurn_gx (elt target iter : Expr) (ifs : List Expr) (scope : Scope) (pos : Pos) (it acc : Value) (env : Env) :
    compTurn (gxE elt target iter ifs scope pos) 0 it acc env = (do
      standAt iter.pos
      match ← pyNext it with
      | none => pure (.done .next)
      | some v =>
        letOwnedTupleGo target it v
        assign target env v
        let mut ok := true
        for c in ifs do
          if ok then ok ← isTrue c env (eval c env)
        if ok then
          (do let v ← eval elt env; standAt elt.pos; let _ ← yieldOut env v)
        again (.compLoop (gxE elt target iter ifs scope pos) 0 it acc env)) := compTurn_gen elt target iter ifs scope pos it acc env

section
variable {Z : Cx} {A : Around} {R : GenEnd} {Y : Protocol} {elt tg iter : Expr} {ifs : List Expr} {scope : Scope} {pos : Pos} {it : Addr} {fp : List Addr} {tn : Nat → Heap → Prop} {J : It} {g : TG} {tt : TT} {te : TE} {σw : L2.St} {own : List Nat}
variable {GI : List (Addr × Obj) → List V → L2.St → Hp → Shared → Prop} {W : Nat → Nat → List V → Hp → Prop} {YP D : List V → Hp → Prop}
theorem gx_loop (hc : Z.calm = true) (hco : Z.env.scope.isCoroutine = false) (hxe : Z.xe = fun _ _ => False) (hover : A.over (.compLoop (gxE elt tg iter ifs scope pos) 0 (.ref it) .none Z.env) [] = Z.A)
    (T : Turn Z.prog Z.w Z.K tg J fp it tn) (pg : PG Z tg g) (pt : PTs Z ifs tt) (pe : PE Z elt te) (hfp : ∀ b ∈ fp, b ∈ Z.ex) (hpn : ∀ p ∈ Z.pn, p.1 ∉ fp)
    (hGI : ∀ ip ys σ H s, GI ip ys σ H s → ∃ ex, (∀ p ∈ ex, p.1 ∉ fp) ∧ Inv Z (ex ++ ip) σ H s ∧ ∀ ip' σ' H' s', Inv Z (ex ++ ip') σ' H' s' → GI ip' ys σ' H' s')
    (hY : ∀ (n : Nat) (s₀ : Shared) (ys : List V) (y : V) (v : Value) (ip : List (Addr × Obj)) (σ : L2.St) (H : Hp) (s : Shared) (kap : Resume → Shared → Prop), n + 1 + ys.length = sizeLine → (∀ p ∈ ip, p.1 ∈ fp) → RelV y v → YP (ys ++ [y]) H → GI ip ys σ H s →
      (∀ s', GI ip (ys ++ [y]) σ H s' → kap (.send .none) s') → Y n s₀ v s kap)
    (hR : ∀ (n : Nat) (s₀ : Shared) (ys : List V) (H : Hp) (s : Shared), n + ys.length = sizeLine → GI [] ys σw H s → D ys H → R n s₀ (.ok .next) s)
    (turn : ∀ (i m : Nat) (ys : List V) (H : Hp), W i m ys H → (J.stop i H ∧ D ys H) ∨ (J.go i H ∧ ∃ Nx : List V → Hp → Prop, (∀ ys' H', Nx ys' H' → ∃ m', m' < m ∧ W (i + 1) m' ys' H') ∧ ∀ x H', J.yld i H x H' → g x σw H' fun σ2 H2 => wipe σ2 own = σw ∧ tt σ2 H2 fun b H3 =>
      if b = true then te σ2 H3 fun y H4 => ys.length < sizeLine ∧ YP (ys ++ [y]) H4 ∧ Nx (ys ++ [y]) H4 else Nx ys H3)) :
    ∀ (m n i : Nat) (ys : List V) (s₀ : Shared) (H : Hp) (s : Shared), n + ys.length = sizeLine → GI [] ys σw H s → tn i s.heap → (∀ b ∈ fp, H b = none) → W i m ys H →
      Seg (model Z.prog Z.w) A R Y n s₀ (.compLoop (gxE elt tg iter ifs scope pos) 0 (.ref it) .none Z.env) ((model Z.prog Z.w).den (.compLoop (gxE elt tg iter ifs scope pos) 0 (.ref it) .none Z.env)) [] s := by
  have stat : ∀ {ex : List (Addr × Obj)} {σ' : L2.St} {H' : Hp} {s' : Shared}, Inv Z ex σ' H' s' → (∀ p ∈ ex, p.1 ∉ fp) → (∀ b ∈ fp, H' b = none) → ∀ b ∈ fp, FpOk Z ex H' b := fun {ex σ' H' s'} I' he hn b hb =>
    ⟨hn b hb, (I'.ok.exf b (hfp b hb)).1, I'.ok.exfs b (hfp b hb), .inl (hfp b hb), fun x c e => (I'.ok.exf b (hfp b hb)).2 x c e, fun p hp z => by
      rcases List.mem_append.mp hp with q | q
      · exact hpn p q (by rw [z]; exact hb)
      · exact he p q (by rw [z]; exact hb)⟩
  have noE : ∀ {α : Type} {n : Nat} {s₀ : Shared} {t : Sem α} {Q : α → Shared → Prop} {H' : Value → Sem PySem.Fin} {c : Code} {s : Shared}, wpAny (model Z.prog Z.w) Z.A t Q (fun _ _ => False) s → wpAny (model Z.prog Z.w) Z.A t Q (fun x s' => Seg (model Z.prog Z.w) A R Y n s₀ c (H' x) [] s') s := fun h => thnF h fun _ _ q => q
  intro m
  induction m using Nat.strongRecOn with
  | ind m ih =>
    intro n i ys s₀ H s hn hG hst hnf w
    obtain ⟨ex, hex, I, back⟩ := hGI _ _ _ _ _ hG
    rw [List.append_nil] at I
    show Seg _ A _ _ _ s₀ _ ((compTurn (gxE elt tg iter ifs scope pos) 0 (.ref it) .none Z.env).onRaise (leaving Z.env)) [] s
    rw [compTurn_gx, Sem.onRaise_eq_wrap]
    refine seg_bind_wrap (wpAny_standAt ?_)
    rcases turn i m ys H w with ⟨stop, hDn⟩ | ⟨go, Nx, hNx, step⟩
    · refine seg_bind_wrap ?_
      rw [hover]
      have td := T.done Z rfl rfl rfl hc i ex s _ H (fun _ _ => False) I (stat I hex hnf) hst stop
      refine thnF td fun r s6 ⟨hr, I6⟩ => ?_
      subst hr
      refine seg_end (.ok .next) (hR n s₀ ys H s6 hn (back [] _ _ _ (by rw [List.append_nil]; exact I6)) hDn)
    · refine seg_bind_wrap ?_
      rw [hover]
      have ti := T.item Z rfl rfl rfl hc i ex s _ H (fun _ _ => False) I (stat I hex hnf) hst go
      refine thnF ti fun r s6 ⟨u, hr, h6⟩ => ?_
      subst hr
      refine seg_bind_wrap ?_
      rw [hover]
      refine thnF h6 fun _ s7 ⟨x, H7, I7, r7, y7, st7, n7⟩ => ?_
      have I7' := I7.pinned (stat I7 hex n7) (T.obj _ _ st7)
      refine seg_bind_wrap ?_
      rw [hover]
      have ha := pg.run _ s7 _ H7 x u _ I7' r7 (step x H7 y7)
      rw [hxe] at ha
      refine thnF ha fun _ s8 ⟨σ8, H8, I8, hw8, q8⟩ => ?_
      refine seg_bind_wrap ?_
      rw [hover]
      have hb := pt.run _ s8 σ8 H8 _ I8 q8
      rw [hxe] at hb
      refine thnF hb fun b s9 ⟨H9, I9, q9⟩ => ?_
      -- the turn's end
      have fin : ∀ {ex' : List (Addr × Obj)} {s' : Shared} {H' : Hp}, Inv Z (ex' ++ pinsAt fp s7.heap) σ8 H' s' → Inv Z (ex' ++ []) σw H' s' ∧ tn (i + 1) s'.heap ∧ ∀ b ∈ fp, H' b = none := fun {ex' s' H'} I' => by
        have pin' : ∀ b ∈ fp, ∀ o, s7.heap.get? b = some o → s'.heap.get? b = some o ∧ H' b = none := fun b hb o e =>
          let z := I'.pin (b, o) (List.mem_append_right _ (List.mem_append_right _ (mem_pinsAt hb e)))
          ⟨z.1, z.2.1⟩
        have hl : σw.length = σ8.length := by rw [← hw8, wipe_length]
        have hwk : Inv Z ex' σw H' s' := (I'.unpinned (pins := ex')).weak hl fun j v e => by
          rw [← hw8] at e
          exact (wipe_some e).1
        refine ⟨by rw [List.append_nil]; exact hwk, T.keep _ _ _ st7 fun b hb o e => (pin' b hb o e).1, fun b hb => ?_⟩
        obtain ⟨o, e, _⟩ := T.obj _ _ st7 b hb
        exact (pin' b hb o e).2
      cases b with
      | false =>
        simp only [Bool.false_eq_true, if_false] at q9 ⊢
        obtain ⟨m', hm, w'⟩ := hNx _ _ q9
        obtain ⟨f1, f2, f3⟩ := fin I9
        exact seg_again rfl (ih m' hm n (i + 1) ys s₀ H9 s9 hn (back [] _ _ _ f1) f2 f3 w')
      | true =>
        simp only [if_true] at q9 ⊢
        have hy : ∀ v, yieldOut Z.env v = yieldValue v := fun v => by simp only [yieldOut, hco, Bool.false_eq_true, if_false]
        simp only [hy]
        rw [Sem.bind_eq_wrap', Sem.bind_eq_wrap', Sem.wrap_wrap, Sem.wrap_wrap]
        refine seg_wrap ?_
        rw [hover]
        have he := pe.run _ s9 σ8 H9 _ I9 q9
        rw [hxe] at he
        refine thnF he fun z s10 ⟨yv, H10, I10, r10, hl10, yp, nx⟩ => ?_
        obtain ⟨n, rfl⟩ : ∃ k, n = k + 1 := ⟨n - 1, by omega⟩
        refine seg_at (seg_yield rfl rfl rfl (hY n s₀ ys yv z (pinsAt fp s7.heap) σ8 H10 s10 _ (by omega) (fun p hp => (of_pinsAt hp).1) r10 yp (back _ _ _ _ I10) fun s'' hG'' => ?_))
        obtain ⟨ex'', hex'', I'', back''⟩ := hGI _ _ _ _ _ hG''
        obtain ⟨m', hm, w'⟩ := hNx _ _ nx
        obtain ⟨f1, f2, f3⟩ := fin I''
        exact seg_again rfl (ih m' hm n (i + 1) (ys ++ [yv]) s'' H10 s'' (by rw [List.length_append, List.length_singleton]; omega) (back'' [] _ _ _ f1) f2 f3 w')
/-- from the start -/
theorem gx_first (hc : Z.calm = true) (hover : A.over (.compLoop (gxE elt tg iter ifs scope pos) 0 (.ref it) .none Z.env) [] = Z.A) (T : Turn Z.prog Z.w Z.K tg J fp it tn) {n : Nat} {s₀ s : Shared} (hst : tn 0 s.heap)
    (loop : Seg (model Z.prog Z.w) A R Y n s₀ (.compLoop (gxE elt tg iter ifs scope pos) 0 (.ref it) .none Z.env) ((model Z.prog Z.w).den (.compLoop (gxE elt tg iter ifs scope pos) 0 (.ref it) .none Z.env)) [] s) :
    Seg (model Z.prog Z.w) A R Y n s₀ (.compStart (gxE elt tg iter ifs scope pos) 0 (.ref it) .none Z.env) ((model Z.prog Z.w).den (.compStart (gxE elt tg iter ifs scope pos) 0 (.ref it) .none Z.env)) [] s := by
  show Seg _ A _ _ _ s₀ _ ((compStart (gxE elt tg iter ifs scope pos) 0 (.ref it) .none Z.env).onRaise (leaving Z.env)) [] s
  unfold compStart
  rw [Sem.onRaise_eq_wrap]
  show Seg _ A _ _ _ s₀ _ ((ask >>= _).wrap _ _ _ _) [] s
  refine seg_bind_wrap (wpAny_askSetting ?_)
  split
  · exact seg_again rfl loop
  · first
      | exact seg_bind_wrap (wpAny_rule (seg_bind_wrap (wpAny_standAt (seg_bind_wrap (T.self _ 0 s _ _ hst (seg_again rfl loop))))))
      | (refine seg_bind_wrap (wpAny_rule ?_); show Seg _ A _ _ _ s₀ _ ((standAt iter.pos >>= _).wrap _ _ _ _) [] s; exact seg_bind_wrap (wpAny_standAt (seg_bind_wrap (T.self _ 0 s _ _ hst (seg_again rfl loop)))))
end
end NW
namespace NW
open PySem PySem.Spec PyProof.Rows L2 GenW

abbrev gxC (X : Cx) (sc : Shared) (elt tg iter : Expr) (ifs : List Expr) (scope : Scope) (pos : Pos) (it : Addr) (qual : Str) (code : Value) : Code := .compStart (gxE elt tg iter ifs scope pos) 0 (.ref it) .none (gxEnv X sc scope qual code)
/-- a generator that has not begun -/
structure GxM (X : Cx) (pins : List (Addr × Obj)) (σ : L2.St) (elt tg iter : Expr) (ifs : List Expr) (scope : Scope) (pos : Pos) (it : Addr) (fp : List Addr) (tn : Nat → Heap → Prop) (J : It) (H : Hp) (sc : Shared) (h' : Heap) (qual : Str) (code : Value) (go : Obj) (s' : Shared) : Prop where
  inv : Inv X pins σ H sc
  turn : Turn X.prog X.w X.K tg J fp it tn
  at0 : tn 0 sc.heap
  fpk : ∀ b ∈ fp, FpOk X pins H b ∧ b < sc.heap.objs.size
  ns : h'.Ns sc.heap.objs.size (fun y => if y = (".0" : Str) then some (.ref it) else none)
  sb : Heap.SameBut sc.heap.objs.size (pushCells (sc.heap.push { cls := .type "frame", data := .dict #[] }) scope.names) h'
  gob : ∃ nm qn, go.cls = .type "generator" ∧ go.data = .fields #[.int sc.gens.size 0, nm, qn] ∧ go.slots = #[] ∧ ∀ h : Heap, (h.push go).get? h.objs.size = some go
  is : ∃ tk2, s' = { sc with gens := sc.gens.push (.fresh (gxC X sc elt tg iter ifs scope pos it qual code)), toks := tk2, heap := h'.push go }
def notFold' : Expr → Bool
  | .List _ _ => false
  | .Set _ _ _ => false
  | _ => true
theorem fold_of {iter : Expr} {env : Env} (h : notFold' iter = true) (x : Value) : genFold iter env x = pure x := by
  cases iter <;> first | rfl | (simp [notFold'] at h)

section
variable {X : Cx} {pins : List (Addr × Obj)} {σ : L2.St} {H : Hp} {s : Shared} {elt tg iter : Expr} {ifs : List Expr} {scope : Scope} {pos : Pos} {wi : TI} {R : It → Hp → Prop} {k : Nat} {c P : Addr}
theorem gx_make {own : List (Str × Nat)} (hr : Room k X.A) (TB : GxR.TabB X.base X.mg c P) (hcode : X.env.code = .ref c) (ok : BlkOk X.N X.env.scope scope own) (hco : scope.isCoroutine = false) (h0 : scope.names.lookup (".0" : Str) = some NameKind.local)
    (hs : notFold' iter = true) (hi : PI X tg iter wi) (I : Inv X pins σ H s) (h : wi σ H fun J H1 => GxR.TabG H1 P ∧ ∀ H2, GxR.Tabbed P H1 H2 → R J H2) :
    wpAny (model X.prog X.w) X.A (eval (gxE elt tg iter ifs scope pos) X.env) (fun u s' => ∃ it fp tn J H3 sc h' qual code go, u = .ref h'.objs.size ∧ R J H3 ∧ GxM X pins σ elt tg iter ifs scope pos it fp tn J H3 sc h' qual code go s') X.xe s := by
  have hfree : ∀ y ∈ scope.names, y.2 = .free → ∃ c, X.env.cells.lookup y.1 = some c := fun y hy e => by
    rcases ok.free y hy e with k | k
    · exact I.ok.has _ (.inl k)
    · exact I.ok.has _ (.inr k)
  show wpAny _ _ (eval (.GeneratorExp elt [⟨tg, iter, ifs, 0⟩] scope pos) X.env) _ _ _
  rw [eval_GeneratorExp1 _ _ _ _ _ _ _ hco, closure_ok hfree]
  refine wpAny_bind (thn (hi.run pins s σ H _ I h) fun xv s1 h1 => ?_)
  refine wpAny_bind (wpAny_standAt ?_)
  refine wpAny_bind (wpAny_of_eq (fold_of hs xv) ?_)
  refine wpAny_bind (wpAny_holding (thn h1 fun itv s2 h2 => ?_))
  obtain ⟨it, fp, tn, J, H2, rfl, I2, T, st2, f2, ⟨ps, hP, ht⟩, q⟩ := h2
  refine wpAny_bind (wpAny_enterFrame I2.nolimit (by have := hr.dp; omega) ?_)
  refine wpAny_bind (wpAny_pure ?_)
  have hPs : s2.heap.get? P = some { cls := .none, data := .fields ps } := I2.hok P _ hP
  have cd : PySem.W.CodeHd s2.heap c P := TB.code.keeps fun b u e => I2.bk b u e
  have nP : ∀ b ∈ fp, b ≠ P := fun b hb z => by
    have := (f2 b hb).1
    rw [z, hP] at this; cases this
  have cont : ∀ (code : Value) (h3 : Heap) (tk : Nat) (more : Array Value), Heap.ExtBut P s2.heap h3 → h3.get? P = some { cls := .none, data := .fields (ps ++ more) } → TriplesOk (ps ++ more).toList →
      wpAny (model X.prog X.w) X.A (do
        let bi ← builtinsFor X.env.globals X.env.builtins
        let cenv ← newFunctionEnv scope X.env.globals (cloFrom X.env.cells scope.names []) [(".0", .ref it)] (X.env.qual ++ "<genexpr>.") none code none bi
        newGenerator (.compStart (.GeneratorExp elt [⟨tg, iter, ifs, 0⟩] scope pos) 0 (.ref it) .none cenv) "<genexpr>" (X.env.qual ++ "<genexpr>"))
        (fun u s' => ∃ it fp tn J H3 sc h' qual code go, u = .ref h'.objs.size ∧ R J H3 ∧ GxM X pins σ elt tg iter ifs scope pos it fp tn J H3 sc h' qual code go s') X.xe { s2 with heap := h3, toks := tk } := by
    intro code h3 tk more hx hP3 ht3
    have I3 : Inv X pins σ (upd H2 P (.tbl (ps ++ more))) { s2 with heap := h3, toks := tk } := GxR.inv_tab I2 hP (fun b o hb e => hx b o hb e) hP3 I2.bare
    have st3 : tn 0 h3 := T.keep _ _ _ st2 fun b hb o e => hx b o (nP b hb) e
    generalize hs3 : ({ s2 with heap := h3, toks := tk } : Shared) = s3 at I3 ⊢
    have st3 : tn 0 s3.heap := by rw [← hs3]; exact st3
    obtain ⟨bm, ob, e1, e2, e3, e4, e5, e6, e7, e8⟩ := TB.bm
    refine wpAny_bind (wpAny_builtinsFor (m := X.mg) (by rw [I3.ok.glob]; exact I3.mod.glob.keeps I3.bk) e1 e2 (I3.bk _ _ e5) e6 e7 e8 ?_)
    refine wpAny_bind (newEnv_gx ok.kind h0 fun h' tk' hns hsb => ?_)
    simp only [newGenerator, newFields]
    refine wpAny_bind (wpAny_newGen (wpAny_bind (wpAny_mkText (wpAny_bind (wpAny_mkText (wpAny_newObj_type ?_ (by size_fits)))))))
    refine ⟨it, fp, tn, J, _, s3, h', _, _, _, rfl, q _ ⟨⟨ps ++ more, upd_same, ht3⟩, fun b hb => upd_ne hb⟩, I3, T, st3, fun b hb => ⟨⟨?_, (f2 b hb).2⟩, ?_⟩, hns, hsb, ⟨_, _, rfl, rfl, rfl, fun h => Heap.get?_push_size _ rfl⟩, ⟨_, rfl⟩⟩
    · rw [upd_ne (nP b hb)]; exact (f2 b hb).1
    · obtain ⟨o, e, _⟩ := T.obj _ _ st3 b hb
      exact Heap.lt_size e
  cases hf : codeAmong pos ps.toList with
  | none =>
    refine wpAny_bind (wpAny_genexprCodeX hcode (cd.code hPs ht) (cd.tab hPs) hf fun c' h' tk hx hge hlt hco' _ htab' _ => ?_)
    obtain ⟨o1, vs, f1, tf, fl, tg, inF, tx, tt, op, _, _, _, _, _, _, _, _, _, htr, _⟩ := hco'
    exact cont _ h' tk _ hx htab'.2 htr
  | some cv =>
    refine wpAny_bind (wpAny_genexprCode_hit hcode (cd.code hPs ht) hf ?_)
    have := cont cv s2.heap s2.toks #[] (Heap.ExtBut.refl _ _) (by simpa using hPs) (by simpa using ht)
    exact this

/-- how the state stands while the generator runs, and behind it -/
structure GxS (X : Cx) (fp : List Addr) (H0 : Hp) (sc : Shared) (a : Addr) (g : Nat) (H : Hp) (s : Shared) : Prop where
  os : s.os = sc.os
  bare : AllBare s.gens
  un : Un (frs X.stack) fp H0 H sc.heap s.heap
  hok : HOk X.prog X.w H s.heap
  nl : s.heap.NoLimit
  gen : s.heap.IsGen a g
theorem GxS.back {fp : List Addr} {H0 H' : Hp} {sc s' : Shared} {a : Addr} {g : Nat} (G : GxS X fp H0 sc a g H' s') (I : Inv X pins σ H0 sc) (f : ∀ b ∈ fp, FpOk X pins H0 b) : Inv X pins σ H' s' :=
  I.call' (ch := fp) G.os G.un G.hok G.bare fun b hb => ⟨(f b hb).2.2.2.1, (f b hb).2.1, (f b hb).2.2.2.2.1, (f b hb).2.2.2.2.2⟩
theorem GxS.set {fp : List Addr} {H0 H' : Hp} {sc s' : Shared} {a : Addr} {g j : Nat} {x : GenState} (G : GxS X fp H0 sc a g H' s') (hx : x.bare = true) : GxS X fp H0 sc a g H' (s'.setGen j x) :=
  ⟨G.os, allBare_setGen G.bare hx, G.un, G.hok, G.nl, G.gen⟩
theorem GxS.kept {fp : List Addr} {H0 H' : Hp} {sc s' : Shared} {a : Addr} {g : Nat} {h' : Heap} (G : GxS X fp H0 sc a g H' s') (hk : ∀ b o, s'.heap.get? b = some o → h'.get? b = some o) : GxS X fp H0 sc a g H' { s' with heap := h' } :=
  ⟨G.os, G.bare, G.un.trans (Un.kept hk), G.hok.kept hk, G.nl.keeps hk, G.gen.keeps hk⟩

/-- any, all: an item is told; nothing is changed while the generator sleeps -/
def Y1 (X : Cx) (fp : List Addr) (H0 : Hp) (sc : Shared) (a : Addr) (g : Nat) (YP : List V → Hp → Prop) : Protocol := fun n _ v s kap =>
  ∃ ys y H, n + 1 + ys.length = sizeLine ∧ RelV y v ∧ YP (ys ++ [y]) H ∧ GxS X fp H0 sc a g H s ∧ ∀ s' : Shared, s'.os = s.os → AllBare s'.gens → (∀ b o, s.heap.get? b = some o → s'.heap.get? b = some o) → kap (.send .none) s'
def R1 (X : Cx) (fp : List Addr) (H0 : Hp) (sc : Shared) (a : Addr) (g : Nat) (D : List V → Hp → Prop) : GenEnd := fun n _ r s => ((r = .ok (.ret .none) ∨ r = .ok .next) ∧ ∃ ys H, n + ys.length = sizeLine ∧ D ys H ∧ GxS X fp H0 sc a g H s) ∨ ∃ e, r = .error e ∧ False

/-- the readings of the turns -/
def GxTurns (J : It) (g : TG) (tt : TT) (te : TE) (σw : L2.St) (own : List Nat) (W : Nat → Nat → List V → Hp → Prop) (YP D : List V → Hp → Prop) : Prop :=
  ∀ (i m : Nat) (ys : List V) (H : Hp), W i m ys H → (J.stop i H ∧ D ys H) ∨ (J.go i H ∧ ∃ Nx : List V → Hp → Prop, (∀ ys' H', Nx ys' H' → ∃ m', m' < m ∧ W (i + 1) m' ys' H') ∧ ∀ x H', J.yld i H x H' → g x σw H' fun σ2 H2 => wipe σ2 own = σw ∧ tt σ2 H2 fun b H3 =>
      if b = true then te σ2 H3 fun y H4 => ys.length < sizeLine ∧ YP (ys ++ [y]) H4 ∧ Nx (ys ++ [y]) H4 else Nx ys H3)
/-- the names, tests and element of a generator expression within its frame -/
structure GxB (X : Cx) (k : Nat) (elt tg iter : Expr) (ifs : List Expr) (scope : Scope) (pos : Pos) (g : TG) (tt : TT) (te : TE) : Prop where
  tg : ∀ (A : Around) (s : Shared) (H : Hp) (cenv : Env) (fp : List Addr) (pn : List (Addr × Obj)), Room k A → cenv.scope = scope → PG (X.gx A s H scope cenv fp pn) tg g
  tt : ∀ (A : Around) (s : Shared) (H : Hp) (cenv : Env) (fp : List Addr) (pn : List (Addr × Obj)), Room k A → cenv.scope = scope → PTs (X.gx A s H scope cenv fp pn) ifs tt
  te : ∀ (A : Around) (s : Shared) (H : Hp) (cenv : Env) (fp : List Addr) (pn : List (Addr × Obj)), Room k A → cenv.scope = scope → PE (X.gx A s H scope cenv fp pn) elt te
section
variable {it : Addr} {fp : List Addr} {tn : Nat → Heap → Prop} {J : It} {H3 : Hp} {sc s' : Shared} {h' : Heap} {qual : Str} {code : Value} {go : Obj} {g : TG} {tt : TT} {te : TE} {own : List (Str × Nat)} {W : Nat → Nat → List V → Hp → Prop} {YP D : List V → Hp → Prop}
theorem GxM.keep (M : GxM X pins σ elt tg iter ifs scope pos it fp tn J H3 sc h' qual code go s') : ∀ b o, sc.heap.get? b = some o → h'.get? b = some o := fun b o e =>
  (M.sb.2 b (Nat.ne_of_lt (Heap.lt_size e))).trans (pushCells_keeps _ _ _ _ (Heap.get?_push_of_some _ e))
theorem GxM.size (M : GxM X pins σ elt tg iter ifs scope pos it fp tn J H3 sc h' qual code go s') : sc.heap.objs.size < h'.objs.size := by
  have := M.sb.1
  rw [this]
  have h := pushCells_size scope.names (sc.heap.push { cls := .type "frame", data := .dict #[] })
  rw [Heap.size_push] at h
  exact h
/-- the frame as it stands at any later state -/
theorem GxM.start {A : Around} (M : GxM X pins σ elt tg iter ifs scope pos it fp tn J H3 sc h' qual code go s') (ok : BlkOk X.N X.env.scope scope own) (hN : X.N.Nodup) (hc : X.calm = true) (hh : A.handled = none) (hA : A.frames = some (gxEnv X sc scope qual code :: X.stack))
    {s2 : Shared} (hk : ∀ b o, s'.heap.get? b = some o → s2.heap.get? b = some o) (ho : s2.os = sc.os) (hb : AllBare s2.gens) (ps : List (Addr × Obj)) (hps : ∀ p ∈ ps, s2.heap.get? p.1 = some p.2 ∧ s'.heap.objs.size ≤ p.1 ∧ ∀ v, p.2.data ≠ .cell v) :
    Inv (X.gx A sc H3 scope (gxEnv X sc scope qual code) fp [(h'.objs.size, go)]) ps (wipe σ (own.map (·.2))) H3 s2 ∧ tn 0 s2.heap := by
  obtain ⟨tk2, es⟩ := M.is
  have I0 := gx_start (tk := sc.toks) (own := own) M.inv ok hN hc M.fpk hA hh M.ns M.sb
  obtain ⟨nm, qn, g1, g2, g3, g4⟩ := M.gob
  have hk2 : ∀ b o, h'.get? b = some o → s2.heap.get? b = some o := fun b o e => hk b o (by rw [es]; exact Heap.get?_push_of_some _ e)
  have I1 : Inv (X.gx A sc H3 scope (gxEnv X sc scope qual code) fp []) [] (wipe σ (own.map (·.2))) H3 s2 := I0.call' (ch := []) ho (Un.kept hk2) (I0.hok.kept hk2) hb fun b z => by simp at z
  have sz := M.size
  have young : ∀ b, h'.objs.size ≤ b → H3 b = none ∧ b ≠ (gxEnv X sc scope qual code).locals ∧ b ∉ frs X.stack := fun b hb' => by
    have h1 : sc.heap.objs.size ≤ b := Nat.le_trans (Nat.le_of_lt sz) hb'
    refine ⟨M.inv.hok.fresh h1, Nat.ne_of_gt (Nat.lt_of_lt_of_le sz hb'), fun z => ?_⟩
    rcases List.mem_cons.mp (M.inv.stkSub b z) with z | z
    · exact absurd (Nat.lt_of_lt_of_le M.inv.lt h1) (by rw [z]; exact Nat.lt_irrefl _)
    · exact M.inv.nofs h1 z
  refine ⟨gx_pinned I1 fun p hp => ?_, M.turn.keep _ _ _ M.at0 fun b hb o e => hk2 b o (M.keep b o e)⟩
  rcases List.mem_append.mp hp with hp | hp
  · rw [List.mem_singleton.mp hp]
    obtain ⟨y1, y2, y3⟩ := young h'.objs.size (Nat.le_refl _)
    exact ⟨hk _ _ (by rw [es]; exact g4 h'), y1, y2, y3, fun v q => by rw [g2] at q; cases q⟩
  · obtain ⟨p1, p2, p3⟩ := hps p hp
    have : h'.objs.size ≤ p.1 := by
      rw [es] at p2
      have p2 : (h'.push go).objs.size ≤ p.1 := p2
      rw [Heap.size_push] at p2
      exact Nat.le_of_succ_le p2
    obtain ⟨y1, y2, y3⟩ := young p.1 this
    exact ⟨p1, y1, y2, y3, p3⟩
theorem GxM.isGen (M : GxM X pins σ elt tg iter ifs scope pos it fp tn J H3 sc h' qual code go s') {A : Around} {ps : List (Addr × Obj)} {σ' : L2.St} {H' : Hp} {s2 : Shared}
    (I : Inv (X.gx A sc H3 scope (gxEnv X sc scope qual code) fp [(h'.objs.size, go)]) ps σ' H' s2) : s2.heap.IsGen h'.objs.size sc.gens.size := by
  obtain ⟨nm, qn, g1, g2, g3, g4⟩ := M.gob
  exact ⟨go, nm, qn, (I.pin (h'.objs.size, go) (List.mem_append_left _ (List.mem_singleton.mpr rfl))).1, g1, g2, g3⟩
theorem GxM.gxs (M : GxM X pins σ elt tg iter ifs scope pos it fp tn J H3 sc h' qual code go s') {A : Around} {ps : List (Addr × Obj)} {σ' : L2.St} {H' : Hp} {s2 : Shared}
    (I : Inv (X.gx A sc H3 scope (gxEnv X sc scope qual code) fp [(h'.objs.size, go)]) ps σ' H' s2) : GxS X fp H3 sc h'.objs.size sc.gens.size H' s2 :=
  ⟨I.os, I.bare, I.base, I.hok, I.nolimit, M.isGen I⟩
theorem GxM.fpa (M : GxM X pins σ elt tg iter ifs scope pos it fp tn J H3 sc h' qual code go s') : ∀ b ∈ fp, b < h'.objs.size := fun b hb => Nat.lt_trans (M.fpk b hb).2 M.size
/-- the code of the generator: for any, all -/
theorem gx_seg1 (M : GxM X pins σ elt tg iter ifs scope pos it fp tn J H3 sc h' qual code go s') (ok : BlkOk X.N X.env.scope scope own) (hN : X.N.Nodup) (hc : X.calm = true) (hco : scope.isCoroutine = false) (B : GxB X k elt tg iter ifs scope pos g tt te)
    (tu : GxTurns J g tt te (wipe σ (own.map (·.2))) (own.map (·.2)) W YP D) {m0 : Nat} (w0 : W 0 m0 [] H3) {A : Around} (hr : Room (k + 1) A) (hA : A.frames = some X.stack)
    {s2 : Shared} (hk : ∀ b o, s'.heap.get? b = some o → s2.heap.get? b = some o) (ho : s2.os = sc.os) (hb : AllBare s2.gens) :
    Seg (model X.prog X.w) A (R1 X fp H3 sc h'.objs.size sc.gens.size D) (Y1 X fp H3 sc h'.objs.size sc.gens.size YP) sizeLine s2 (gxC X sc elt tg iter ifs scope pos it qual code) ((model X.prog X.w).den (gxC X sc elt tg iter ifs scope pos it qual code)) [] s2 := by
  generalize hAo : A.over (.compLoop (gxE elt tg iter ifs scope pos) 0 (.ref it) .none (gxEnv X sc scope qual code)) [] = Ao
  have hro : Room k Ao := by rw [← hAo]; exact over_room hr
  have hfo : Ao.frames = some (gxEnv X sc scope qual code :: X.stack) := by rw [← hAo]; exact over_fr hA
  obtain ⟨I0, st0⟩ := M.start (A := Ao) (own := own) ok hN hc hro.hd hfo hk ho hb [] (fun p hp => by simp at hp)
  refine gx_first (Z := X.gx Ao sc H3 scope (gxEnv X sc scope qual code) fp [(h'.objs.size, go)]) hc hAo M.turn st0 ?_
  refine gx_loop (Z := X.gx Ao sc H3 scope (gxEnv X sc scope qual code) fp [(h'.objs.size, go)]) (GI := fun ip _ σ H s => Inv (X.gx Ao sc H3 scope (gxEnv X sc scope qual code) fp [(h'.objs.size, go)]) ip σ H s) (W := W) (YP := YP) (D := D) (own := own.map fun x : Str × Nat => x.2) (σw := wipe σ (own.map fun x : Str × Nat => x.2))
    hc hco rfl hAo M.turn (B.tg Ao _ _ _ _ _ hro rfl) (B.tt Ao _ _ _ _ _ hro rfl) (B.te Ao _ _ _ _ _ hro rfl) (fun b hb => hb) (fun p hp hm => ?_) (fun ip ys σ H s I => ⟨[], fun p hp => by simp at hp, I, fun ip' σ' H' s' I' => I'⟩) ?_ ?_ tu m0 sizeLine 0 [] s2 H3 s2 rfl I0 st0 (fun b hb => (M.fpk b hb).1.1) w0
  · rw [List.mem_singleton.mp hp] at hm
    exact absurd (M.fpa _ hm) (Nat.lt_irrefl _)
  · intro n s₀ ys y v ip σ1 H1 s1 kap hn _ rv yp I1 hkap
    exact ⟨ys, y, H1, hn, rv, yp, M.gxs I1, fun s3 o3 b3 k3 => hkap s3 (I1.call' (ch := []) o3 (Un.kept k3) (I1.hok.kept k3) b3 fun b z => by simp at z)⟩
  · intro n s₀ ys H1 s1 hn I1 hd
    exact .inl ⟨.inr rfl, ys, H1, hn, hd, M.gxs I1⟩
end
end
end NW
namespace NW
open PySem PySem.Spec PyProof.Rows L2 GenW

section
variable {X : Cx} {fp : List Addr} {H0 : Hp} {sc : Shared} {a : Addr} {g : Nat} {bs : List Bool} {Fn : Hp → Prop} {A : Around} {Rr : Result → Shared → Prop}
def YPb (bs : List Bool) (Fn : Hp → Prop) : List V → Hp → Prop := fun ys H => (∃ r, ys ++ r = bs.map V.bl) ∧ Fn H
def Db (bs : List Bool) (Fn : Hp → Prop) : List V → Hp → Prop := fun ys H => ys = bs.map V.bl ∧ Fn H
theorem ypb_at {ys : List V} {y : V} {H : Hp} (h : YPb bs Fn (ys ++ [y]) H) : ∃ b, bs[ys.length]? = some b ∧ y = .bl b := by
  obtain ⟨⟨r, h⟩, _⟩ := h
  have : (bs.map V.bl)[ys.length]? = some y := by
    rw [← h, List.append_assoc, List.getElem?_append_right (Nat.le_refl _), Nat.sub_self]
    rfl
  rw [List.getElem?_map] at this
  cases e : bs[ys.length]? with
  | none => rw [e] at this; cases this
  | some b => rw [e] at this; cases this; exact ⟨b, rfl, rfl⟩
theorem any_first : ∀ {bs : List Bool} {j : Nat}, bs[j]? = some true → bs.any id = true := fun {bs j} h => List.any_eq_true.mpr ⟨true, List.mem_of_getElem? h, rfl⟩
theorem all_first : ∀ {bs : List Bool} {j : Nat}, bs[j]? = some false → bs.all id = false := fun {bs j} h => by
  rw [List.all_eq_false]
  exact ⟨false, List.mem_of_getElem? h, by simp⟩
theorem any_none {bs : List Bool} (h : ∀ i, i < bs.length → bs[i]? = some false) : bs.any id = false := by
  rw [List.any_eq_false]
  intro b hb
  obtain ⟨i, hi, e⟩ := List.getElem_of_mem hb
  have := h i hi
  rw [List.getElem?_eq_getElem hi, e] at this
  cases this
  simp
theorem all_none {bs : List Bool} (h : ∀ i, i < bs.length → bs[i]? = some true) : bs.all id = true := by
  rw [List.all_eq_true]
  intro b hb
  obtain ⟨i, hi, e⟩ := List.getElem_of_mem hb
  have := h i hi
  rw [List.getElem?_eq_getElem hi, e] at this
  cases this
  rfl
theorem setGen_gens {s : Shared} {g : Nat} {x : GenState} : (s.setGen g x).heap = s.heap := rfl

theorem any_loop (hh : A.handled = none) (hd : A.depth < recursionLimit) (hR : ∀ b H s', b = bs.any id → Fn H → GxS X fp H0 sc a g H s' → Rr (.ok (.ret (.bool b))) s') :
    ∀ (n j : Nat) (s : Shared), n + j = sizeLine → (∀ i, i < j → bs[i]? = some false) → s.heap.IsGen a g → s.heap.NoLimit →
      (∃ gs, s.gens[g]? = some gs ∧ gs.Goes (model X.prog X.w) A.in1.in1 (R1 X fp H0 sc a g (Db bs Fn)) (Y1 X fp H0 sc a g (YPb bs Fn)) n (.send .none) (s.setGen g .running)) →
      codeAny (model X.prog X.w) A (.builtin "any.loop" ⟨[.ref a], []⟩) Rr s := by
  have goes : ∀ {gs : GenState} {B : Around} {n : Nat} {r : Resume} {s : Shared}, gs.Goes (model X.prog X.w) B (R1 X fp H0 sc a g (Db bs Fn)) (Y1 X fp H0 sc a g (YPb bs Fn)) n r s →
      gs.Goes (model X.prog X.w) B (fun n s₀ r s1 => ((r = .ok (.ret .none) ∨ r = .ok .next) ∧ (∃ ys H, n + ys.length = sizeLine ∧ Db bs Fn ys H ∧ GxS X fp H0 sc a g H s1)) ∨ ∃ e, r = .error e ∧ False) (Y1 X fp H0 sc a g (YPb bs Fn)) n r s := fun h => h
  intro n
  induction n with
  | zero =>
    intro j s hj hf hg hl ⟨gs, hgs, hgo⟩
    have hgl : g < s.gens.size := (Array.getElem?_eq_some_iff.mp hgs).1
    refine codeAny_builtin F.entry_any_loop ?_
    rw [Around.under_plainId F.plain_any_loop _]
    show wpAny _ A.in1 (pyNext (.ref a) >>= _) _ _ s
    refine wpAny_bind (next_genG (Er := fun _ _ => False) (A := A.in1) hh hl hd hg hgs (goes hgo) (fun v s₁ gs' hbare hv => ?_) (fun s₁ hp h' hk => ?_) fun e s₁ he => False.elim he)
    · obtain ⟨ys, y, H, h1, h2, h3, h4, h5⟩ := hv
      exact False.elim (h5 _ rfl h4.bare fun b o e => e)
    · obtain ⟨ys, H, hn, ⟨e, hF⟩, hG⟩ := hp
      refine wpAny_bind (wpAny_rule (wpAny_pure ?_))
      refine hR false H _ (any_none fun i hi => hf i ?_).symm hF ((hG.set rfl).kept hk)
      rw [e, List.length_map] at hn
      omega
  | succ n ih =>
    intro j s hj hf hg hl ⟨gs, hgs, hgo⟩
    have hgl : g < s.gens.size := (Array.getElem?_eq_some_iff.mp hgs).1
    refine codeAny_builtin F.entry_any_loop ?_
    rw [Around.under_plainId F.plain_any_loop _]
    show wpAny _ A.in1 (pyNext (.ref a) >>= _) _ _ s
    refine wpAny_bind (wpAny_gsz (n := g + 1) hgl (next_genG (Er := fun _ _ => False) (A := A.in1) hh hl hd hg hgs (goes hgo) (fun v s₁ gs' hbare hv hsz => ?_) (fun s₁ hp h' hk _ => ?_) fun e s₁ he => False.elim he))
    · obtain ⟨ys, y, H, h1, h2, h3, h4, h5⟩ := hv
      obtain ⟨b, hb, rfl⟩ := ypb_at h3
      cases h2
      have hF := h3.2
      have hj' : ys.length = j := by omega
      rw [hj'] at hb
      refine wpAny_bind (wpAny_holding (wpAny_truthy_bool ?_))
      refine wpAny_bind (wpAny_letGo ?_)
      cases b with
      | true =>
        simp only [if_true]
        refine wpAny_bind (wpAny_rule (wpAny_pure ?_))
        exact hR true H _ (any_first hb).symm hF (h4.set hbare)
      | false =>
        simp only [Bool.false_eq_true, if_false]
        have hsz1 : g < s₁.gens.size := by
          have q : (s₁.setGen g gs').gens.size = s₁.gens.size := setGen_size _ _ _
          have hsz' : g + 1 ≤ (s₁.setGen g gs').gens.size := hsz
          omega
        have h6 := h4.set (j := g) hbare
        refine wpAny_pure ⟨plainId_quiet F.plain_any_loop _, ih (j + 1) (s₁.setGen g gs') (by omega) (fun i hi => ?_) h6.gen h6.nl ⟨gs', setGen_at hsz1, h5 _ rfl (h6.set (j := g) rfl).bare fun b o e => e⟩⟩
        by_cases z : i = j
        · rw [z]; exact hb
        · exact hf i (by omega)
    · obtain ⟨ys, H, hn, ⟨e, hF⟩, hG⟩ := hp
      refine wpAny_bind (wpAny_rule (wpAny_pure ?_))
      refine hR false H _ (any_none fun i hi => hf i ?_).symm hF ((hG.set rfl).kept hk)
      rw [e, List.length_map] at hn
      omega
theorem all_loop (hh : A.handled = none) (hd : A.depth < recursionLimit) (hR : ∀ b H s', b = bs.all id → Fn H → GxS X fp H0 sc a g H s' → Rr (.ok (.ret (.bool b))) s') :
    ∀ (n j : Nat) (s : Shared), n + j = sizeLine → (∀ i, i < j → bs[i]? = some true) → s.heap.IsGen a g → s.heap.NoLimit →
      (∃ gs, s.gens[g]? = some gs ∧ gs.Goes (model X.prog X.w) A.in1.in1 (R1 X fp H0 sc a g (Db bs Fn)) (Y1 X fp H0 sc a g (YPb bs Fn)) n (.send .none) (s.setGen g .running)) →
      codeAny (model X.prog X.w) A (.builtin "all.loop" ⟨[.ref a], []⟩) Rr s := by
  have goes : ∀ {gs : GenState} {B : Around} {n : Nat} {r : Resume} {s : Shared}, gs.Goes (model X.prog X.w) B (R1 X fp H0 sc a g (Db bs Fn)) (Y1 X fp H0 sc a g (YPb bs Fn)) n r s →
      gs.Goes (model X.prog X.w) B (fun n s₀ r s1 => ((r = .ok (.ret .none) ∨ r = .ok .next) ∧ (∃ ys H, n + ys.length = sizeLine ∧ Db bs Fn ys H ∧ GxS X fp H0 sc a g H s1)) ∨ ∃ e, r = .error e ∧ False) (Y1 X fp H0 sc a g (YPb bs Fn)) n r s := fun h => h
  intro n
  induction n with
  | zero =>
    intro j s hj hf hg hl ⟨gs, hgs, hgo⟩
    have hgl : g < s.gens.size := (Array.getElem?_eq_some_iff.mp hgs).1
    refine codeAny_builtin F.entry_all_loop ?_
    rw [Around.under_plainId F.plain_all_loop _]
    show wpAny _ A.in1 (pyNext (.ref a) >>= _) _ _ s
    refine wpAny_bind (next_genG (Er := fun _ _ => False) (A := A.in1) hh hl hd hg hgs (goes hgo) (fun v s₁ gs' hbare hv => ?_) (fun s₁ hp h' hk => ?_) fun e s₁ he => False.elim he)
    · obtain ⟨ys, y, H, h1, h2, h3, h4, h5⟩ := hv
      exact False.elim (h5 _ rfl h4.bare fun b o e => e)
    · obtain ⟨ys, H, hn, ⟨e, hF⟩, hG⟩ := hp
      refine wpAny_bind (wpAny_rule (wpAny_pure ?_))
      refine hR true H _ (all_none fun i hi => hf i ?_).symm hF ((hG.set rfl).kept hk)
      rw [e, List.length_map] at hn
      omega
  | succ n ih =>
    intro j s hj hf hg hl ⟨gs, hgs, hgo⟩
    have hgl : g < s.gens.size := (Array.getElem?_eq_some_iff.mp hgs).1
    refine codeAny_builtin F.entry_all_loop ?_
    rw [Around.under_plainId F.plain_all_loop _]
    show wpAny _ A.in1 (pyNext (.ref a) >>= _) _ _ s
    refine wpAny_bind (wpAny_gsz (n := g + 1) hgl (next_genG (Er := fun _ _ => False) (A := A.in1) hh hl hd hg hgs (goes hgo) (fun v s₁ gs' hbare hv hsz => ?_) (fun s₁ hp h' hk _ => ?_) fun e s₁ he => False.elim he))
    · obtain ⟨ys, y, H, h1, h2, h3, h4, h5⟩ := hv
      obtain ⟨b, hb, rfl⟩ := ypb_at h3
      cases h2
      have hF := h3.2
      have hj' : ys.length = j := by omega
      rw [hj'] at hb
      refine wpAny_bind (wpAny_holding (wpAny_truthy_bool ?_))
      refine wpAny_bind (wpAny_letGo ?_)
      cases b with
      | false =>
        simp only [Bool.false_eq_true, if_false]
        refine wpAny_bind (wpAny_rule (wpAny_pure ?_))
        exact hR false H _ (all_first hb).symm hF (h4.set hbare)
      | true =>
        simp only [if_true]
        have hsz1 : g < s₁.gens.size := by
          have q : (s₁.setGen g gs').gens.size = s₁.gens.size := setGen_size _ _ _
          have hsz' : g + 1 ≤ (s₁.setGen g gs').gens.size := hsz
          omega
        have h6 := h4.set (j := g) hbare
        refine wpAny_pure ⟨plainId_quiet F.plain_all_loop _, ih (j + 1) (s₁.setGen g gs') (by omega) (fun i hi => ?_) h6.gen h6.nl ⟨gs', setGen_at hsz1, h5 _ rfl (h6.set (j := g) rfl).bare fun b o e => e⟩⟩
        by_cases z : i = j
        · rw [z]; exact hb
        · exact hf i (by omega)
    · obtain ⟨ys, H, hn, ⟨e, hF⟩, hG⟩ := hp
      refine wpAny_bind (wpAny_rule (wpAny_pure ?_))
      refine hR true H _ (all_none fun i hi => hf i ?_).symm hF ((hG.set rfl).kept hk)
      rw [e, List.length_map] at hn
      omega
end

section
variable {X : Cx} {pins : List (Addr × Obj)} {σ : L2.St} {H : Hp} {s : Shared} {elt tg iter : Expr} {ifs : List Expr} {scope : Scope} {pos : Pos} {wi : TI} {k : Nat}
variable {it : Addr} {fp : List Addr} {tn : Nat → Heap → Prop} {J : It} {H3 : Hp} {sc s' : Shared} {h' : Heap} {qual : Str} {code : Value} {go : Obj} {g : TG} {tt : TT} {te : TE} {own : List (Str × Nat)} {W : Nat → Nat → List V → Hp → Prop} {bs : List Bool} {Fn : Hp → Prop} {E : Value → Shared → Prop} {Q : Value → Shared → Prop}
theorem bare_push {g : Array GenState} {x : GenState} (h : AllBare g) (hx : x.bare = true) : AllBare (g.push x) := h.push hx
/-- what any, all begin with -/
theorem gx_ready (M : GxM X pins σ elt tg iter ifs scope pos it fp tn J H3 sc h' qual code go s') (ok : BlkOk X.N X.env.scope scope own) (hN : X.N.Nodup) (hc : X.calm = true) (hco : scope.isCoroutine = false) (B : GxB X k elt tg iter ifs scope pos g tt te)
    (tu : GxTurns J g tt te (wipe σ (own.map fun x : Str × Nat => x.2)) (own.map fun x : Str × Nat => x.2) W (YPb bs Fn) (Db bs Fn)) {m0 : Nat} (w0 : W 0 m0 [] H3) {A : Around} (hr : Room (k + 1) A) (hA : A.frames = some X.stack) :
    s'.heap.IsGen h'.objs.size sc.gens.size ∧ s'.heap.NoLimit ∧ ∃ gs, s'.gens[sc.gens.size]? = some gs ∧ gs.Goes (model X.prog X.w) A (R1 X fp H3 sc h'.objs.size sc.gens.size (Db bs Fn)) (Y1 X fp H3 sc h'.objs.size sc.gens.size (YPb bs Fn)) sizeLine (.send .none) (s'.setGen sc.gens.size .running) := by
  obtain ⟨tk2, es⟩ := M.is
  obtain ⟨nm, qn, g1, g2, g3, g4⟩ := M.gob
  have hgn : s'.heap.IsGen h'.objs.size sc.gens.size := ⟨go, nm, qn, by rw [es]; exact g4 h', g1, g2, g3⟩
  have hbp : AllBare s'.gens := by rw [es]; exact bare_push M.inv.bare rfl
  have hk : ∀ b o, sc.heap.get? b = some o → s'.heap.get? b = some o := fun b o e => by rw [es]; exact Heap.get?_push_of_some _ (M.keep b o e)
  refine ⟨hgn, M.inv.nolimit.keeps hk, .fresh (gxC X sc elt tg iter ifs scope pos it qual code), by rw [es]; exact Array.getElem?_push_size .., rfl, ?_⟩
  exact gx_seg1 M ok hN hc hco B tu w0 hr hA (fun b o e => e) (by rw [es]; rfl) (allBare_setGen hbp rfl)
theorem gx_any (M : GxM X pins σ elt tg iter ifs scope pos it fp tn J H3 sc h' qual code go s') (ok : BlkOk X.N X.env.scope scope own) (hN : X.N.Nodup) (hc : X.calm = true) (hco : scope.isCoroutine = false) (hr : Room (k + 4) X.A) (B : GxB X k elt tg iter ifs scope pos g tt te)
    (tu : GxTurns J g tt te (wipe σ (own.map fun x : Str × Nat => x.2)) (own.map fun x : Str × Nat => x.2) W (YPb bs Fn) (Db bs Fn)) {m0 : Nat} (w0 : W 0 m0 [] H3)
    (hQ : ∀ H4 s4, Inv X pins σ H4 s4 → Fn H4 → Q (.bool (bs.any id)) s4) : wpAny (model X.prog X.w) X.A (call (.builtin "any") [.ref h'.objs.size]) Q E s' := by
  have hr2 : Room (k + 1) X.A.in1.in1 := (Room.in1 (k := k + 2) (hr.mono (by omega))).in1
  obtain ⟨hg, hl, hgo⟩ := gx_ready (A := X.A.in1.in1) M ok hN hc hco B tu w0 hr2 M.inv.ok.frames
  refine call_function_tree F.kind_any F.plain_any F.entry_any (F.args_any1 _) ?_
  unfold Builtin.«any»
  refine wpAny_bind (m := oneArg "any" _) (wpAny_pure ?_)
  refine wpAny_bind (wpAny_pyIter_gen hg ?_)
  refine wpAny_pure ⟨plainId_quiet F.plain_any_loop _, any_loop (A := X.A) hr2.hd hr2.depth (fun b H4 s4 hb hF hG => ?_) sizeLine 0 s' rfl (fun i hi => by omega) hg hl hgo⟩
  subst hb
  exact hQ H4 s4 (hG.back M.inv fun b hb => (M.fpk b hb).1) hF
theorem gx_all (M : GxM X pins σ elt tg iter ifs scope pos it fp tn J H3 sc h' qual code go s') (ok : BlkOk X.N X.env.scope scope own) (hN : X.N.Nodup) (hc : X.calm = true) (hco : scope.isCoroutine = false) (hr : Room (k + 4) X.A) (B : GxB X k elt tg iter ifs scope pos g tt te)
    (tu : GxTurns J g tt te (wipe σ (own.map fun x : Str × Nat => x.2)) (own.map fun x : Str × Nat => x.2) W (YPb bs Fn) (Db bs Fn)) {m0 : Nat} (w0 : W 0 m0 [] H3)
    (hQ : ∀ H4 s4, Inv X pins σ H4 s4 → Fn H4 → Q (.bool (bs.all id)) s4) : wpAny (model X.prog X.w) X.A (call (.builtin "all") [.ref h'.objs.size]) Q E s' := by
  have hr2 : Room (k + 1) X.A.in1.in1 := (Room.in1 (k := k + 2) (hr.mono (by omega))).in1
  obtain ⟨hg, hl, hgo⟩ := gx_ready (A := X.A.in1.in1) M ok hN hc hco B tu w0 hr2 M.inv.ok.frames
  refine call_function_tree F.kind_all F.plain_all F.entry_all (F.args_all1 _) ?_
  unfold Builtin.«all»
  refine wpAny_bind (m := oneArg "all" _) (wpAny_pure ?_)
  refine wpAny_bind (wpAny_pyIter_gen hg ?_)
  refine wpAny_pure ⟨plainId_quiet F.plain_all_loop _, all_loop (A := X.A) hr2.hd hr2.depth (fun b H4 s4 hb hF hG => ?_) sizeLine 0 s' rfl (fun i hi => by omega) hg hl hgo⟩
  subst hb
  exact hQ H4 s4 (hG.back M.inv fun b hb => (M.fpk b hb).1) hF
end
end NW
namespace NW
open PySem PySem.Spec PyProof.Rows L2

theorem Src.out_none {s : Src} {i : Nat} {f : D → Option (List D)} (h : s.at i = none) : (s.from i).out f = some [] := by
  rw [Src.at_none] at h
  cases s with
  | ls ds =>
    have h : ds.length ≤ i := h
    show outL f (ds.drop i) = _
    rw [List.drop_of_length_le h]; rfl
  | rg lo st n =>
    have h : n ≤ i := h
    show outN f st (n - i) _ = _
    rw [Nat.sub_eq_zero_of_le h]; rfl
theorem Src.out_some {s : Src} {i : Nat} {d : D} {f : D → Option (List D)} (h : s.at i = some d) :
    (s.from i).out f = (match f d with | some xs => (match (s.from (i + 1)).out f with | some ys => some (xs ++ ys) | none => none) | none => none) := by
  cases s with
  | ls ds =>
    have h : ds[i]? = some d := h
    obtain ⟨hi, e⟩ := List.getElem?_eq_some_iff.mp h
    show outL f (ds.drop i) = _
    rw [List.drop_eq_getElem_cons hi, e]; rfl
  | rg lo st n =>
    have z : i < n := Src.at_lt h
    have h : (if i < n then some (D.int (lo + i * st)) else none) = some d := h
    rw [if_pos z] at h
    cases h
    show outN f st (n - i) _ = _
    obtain ⟨m, hm⟩ : ∃ m, n - i = m + 1 := ⟨n - i - 1, by omega⟩
    have e2 : lo + (i : Int) * st + st = lo + ((i + 1 : Nat) : Int) * st := by
      rw [Int.natCast_add, Int.add_mul]
      simp
      omega
    show outN f st (n - i) (lo + i * st) = (match f (.int (lo + i * st)) with | some xs => (match outN f st (n - (i + 1)) (lo + ((i + 1 : Nat) : Int) * st) with | some ys => some (xs ++ ys) | none => none) | none => none)
    rw [hm, ← e2, show n - (i + 1) = m by omega]
    rfl
theorem bools_eq : ∀ {ds : List D} {bs : List Bool}, boolsD ds = some bs → ds = bs.map D.bl
  | [], bs, h => by simp [boolsD] at h; subst h; rfl
  | .bl b :: xs, bs, h => by
    unfold boolsD at h
    cases q : boolsD xs with
    | none => rw [q] at h; simp at h
    | some r =>
      rw [q] at h
      simp at h
      subst h
      rw [bools_eq q]; rfl
  | .non :: _, _, h => by simp [boolsD] at h
  | .int _ :: _, _, h => by simp [boolsD] at h
  | .str _ :: _, _, h => by simp [boolsD] at h
  | .tup _ :: _, _, h => by simp [boolsD] at h
  | .lst _ :: _, _, h => by simp [boolsD] at h
  | .dct _ :: _, _, h => by simp [boolsD] at h
section
variable {K : PySem.W.Frag} {T : List Addr} {F F' F1 F2 H H' H1 H2 G : Hp} {σ σ' σ1 σ2 : L2.St} {ρ ρ' ρ1 ρ2 : Rho}
theorem RpL.boolsE : ∀ {bs : List Bool} {vs : List V}, RpL K F vs (bs.map D.bl) → vs = bs.map V.bl
  | [], _, r => by cases r; rfl
  | i :: is, _, r => by
    cases r with
    | cons a b => cases a; rw [RpL.boolsE b]; rfl
def NoOw (ρ : Rho) : Prop := ∀ (i : Nat) (d : D), ρ[i]? ≠ some (.ow d)
theorem frz_get {i : Nat} {s : Sl} (h : (frzR ρ)[i]? = some s) : (∃ d, s = .fz d ∧ (ρ[i]? = some (.fz d) ∨ ρ[i]? = some (.ow d))) ∨ s = .no := by
  unfold frzR at h
  rw [List.getElem?_map] at h
  cases e : ρ[i]? with
  | none => rw [e] at h; cases h
  | some t =>
    rw [e] at h
    cases t with
    | no => cases h; exact .inr rfl
    | fz d => cases h; exact .inl ⟨d, rfl, .inl rfl⟩
    | ow d => cases h; exact .inl ⟨d, rfl, .inr rfl⟩
theorem frz_no : NoOw (frzR ρ) := fun i d h => by
  rcases frz_get h with ⟨d', e, _⟩ | e <;> cases e
theorem frz_len : (frzR ρ).length = ρ.length := by unfold frzR; rw [List.length_map]
theorem wipe_no {is : List Nat} (h : NoOw ρ) : NoOw (wipeR is ρ) := fun i d e => by
  obtain ⟨_, e2⟩ := wipeR_get e (by simp)
  exact h i d e2
theorem no_own (h : NoOw ρ) {a : Addr} : ¬ Owns σ ρ a := fun ⟨i, d, e, _⟩ => h i d e
/-- the table has grown -/
theorem ok_tab {P : Addr} (o : OK K T F H σ ρ) (hP : P ∈ T) (t : GxR.Tabbed P H G) : OK K T F G σ ρ := by
  obtain ⟨t1, t2⟩ := t
  have nP : ∀ b u, F b = some u → b ≠ P := fun b u e z => by
    rw [z, (o.tabs P hP).2] at e; cases e
  refine ⟨fun b u e => by rw [t2 b (nP b u e)]; exact o.same b u e, fun Q hQ => ⟨?_, (o.tabs Q hQ).2⟩, o.len, o.fz, fun i d e => ?_, o.inj⟩
  · by_cases z : Q = P
    · rw [z]; exact t1
    · obtain ⟨ps, h1, h2⟩ := (o.tabs Q hQ).1
      exact ⟨ps, by rw [t2 Q z]; exact h1, h2⟩
  · obtain ⟨a, h1, h2, h3, h4⟩ := o.ow i d e
    have na : a ≠ P := fun z => h3 (by rw [z]; exact hP)
    refine ⟨a, h1, h2, h3, ?_⟩
    rw [t2 a na]
    exact h4
open Classical in
/-- what is shared while the generator runs -/
noncomputable def vwF (σ : L2.St) (ρ : Rho) (F H : Hp) : Hp := fun b => if Owns σ ρ b then H b else F b
theorem vw_own {b : Addr} (h : Owns σ ρ b) : vwF σ ρ F H b = H b := if_pos h
theorem vw_out {b : Addr} (h : ¬ Owns σ ρ b) : vwF σ ρ F H b = F b := if_neg h
theorem vw_same (o : OK K T F H σ ρ) : Same F (vwF σ ρ F H) := fun b u e => by
  have : ¬ Owns σ ρ b := fun z => by
    obtain ⟨_, _, h⟩ := o.owH z
    rw [h] at e; cases e
  rw [vw_out this]; exact e
theorem vw_ok (o : OK K T F H σ ρ) : OK K T (vwF σ ρ F H) H σ (frzR ρ) := by
  have sm := vw_same o
  refine ⟨fun b u e => ?_, fun P hP => ⟨(o.tabs P hP).1, ?_⟩, by rw [frz_len]; exact o.len, fun i d e => ?_, fun i d e => (frz_no i d e).elim, fun i j d e a h => (frz_no i d h).elim⟩
  · by_cases z : Owns σ ρ b
    · rw [vw_own z] at e; exact e
    · rw [vw_out z] at e; exact o.same b u e
  · have : ¬ Owns σ ρ P := fun z => (o.owH z).2.1 hP
    rw [vw_out this]; exact (o.tabs P hP).2
  · rcases frz_get e with ⟨d', e', h⟩ | e'
    · cases e'
      rcases h with h | h
      · obtain ⟨v, h1, h2⟩ := o.fz i d h
        exact ⟨v, h1, Rp.mono sm _ _ h2⟩
      · obtain ⟨a, h1, h2, h3, h4⟩ := o.ow i d h
        have ow : Owns σ ρ a := ⟨i, d, h, h1⟩
        refine ⟨_, h1, ?_⟩
        cases d with
        | lst ds =>
          obtain ⟨xs, h5, h6⟩ := h4
          exact .lst (.inl (.inl (by rw [vw_own ow]; exact h5))) (Rp.monoL sm _ _ h6)
        | dct es =>
          rcases h4 with ⟨kvs, h5, h6⟩ | ⟨kvs, h5, h6⟩
          · exact .dK (by rw [vw_own ow]; exact h5) (Rp.monoM sm _ _ h6)
          · exact .dT (by rw [vw_own ow]; exact h5) (Rp.monoN sm _ _ h6)
        | _ => exact h4.elim
    · cases e'
theorem ok_again (n : NoOw ρ) (o : OK K T F H σ ρ) (o2 : OK K T F2 H2 σ2 ρ2) (s : Same F F2) : OK K T F2 H2 σ ρ :=
  ⟨o2.same, o2.tabs, o.len, fun i d e => by
    obtain ⟨v, h1, h2⟩ := o.fz i d e
    exact ⟨v, h1, Rp.mono s _ _ h2⟩, fun i d e => (n i d e).elim, fun i j d e a h => (n i d h).elim⟩
theorem stp_again (n : NoOw ρ) (s : Stp T F H σ ρ F2 H2 σ2 ρ2) : Stp T F H σ ρ F2 H2 σ ρ := ⟨s.grow, s.keep, s.new, fun a h => (no_own n h).elim⟩
open Classical in
/-- behind the generator -/
noncomputable def bkF (σ : L2.St) (ρ : Rho) (F : Hp) : Hp := fun b => if Owns σ ρ b then none else F b
theorem bk_own {b : Addr} (h : Owns σ ρ b) : bkF σ ρ F b = none := if_pos h
theorem bk_out {b : Addr} (h : ¬ Owns σ ρ b) : bkF σ ρ F b = F b := if_neg h
theorem bk_ok {P : Addr} {is : List Nat} (o : OK K T F1 H1 σ ρ1) (hP : P ∈ T) (t : GxR.Tabbed P H1 H2) (o' : OK K T F' G σ' ρ') (s : Same (vwF σ ρ1 F1 H2) F') (st : Stp T (vwF σ ρ1 F1 H2) H2 (wipe σ is) (wipeR is (frzR ρ1)) F' G (wipe σ is) (wipeR is (frzR ρ1))) :
    OK K T (bkF σ ρ1 F') G σ ρ1 ∧ Stp T F1 H1 σ ρ1 (bkF σ ρ1 F') G σ ρ1 ∧ SameT F' (bkF σ ρ1 F') := by
  have o2 := ok_tab o hP t
  have sm : Same F1 (bkF σ ρ1 F') := fun b u e => by
    have n : ¬ Owns σ ρ1 b := fun z => by
      obtain ⟨_, _, h⟩ := o.owH z
      rw [h] at e; cases e
    rw [bk_out n]
    exact s b u (by rw [vw_out n]; exact e)
  have keepO : ∀ a u, Owns σ ρ1 a → H2 a = some u → G a = some u := fun a u h e => o'.same _ _ (s a u (by rw [vw_own h]; exact e))
  refine ⟨⟨fun b u e => ?_, fun Q hQ => ⟨(o'.tabs Q hQ).1, ?_⟩, o.len, fun i d e => ?_, fun i d e => ?_, o.inj⟩, ⟨sm, fun b u e n nt => ?_, fun b u e => ?_, fun a h => .inl h⟩, fun b xs => ⟨fun e => ?_, fun ob e => ?_⟩⟩
  · by_cases z : Owns σ ρ1 b
    · rw [bk_own z] at e; cases e
    · rw [bk_out z] at e; exact o'.same b u e
  · by_cases z : Owns σ ρ1 Q
    · exact bk_own z
    · rw [bk_out z]; exact (o'.tabs Q hQ).2
  · obtain ⟨v, h1, h2⟩ := o.fz i d e
    exact ⟨v, h1, Rp.mono sm _ _ h2⟩
  · obtain ⟨a, h1, h2, h3, h4⟩ := o2.ow i d e
    have ow : Owns σ ρ1 a := ⟨i, d, e, h1⟩
    refine ⟨a, h1, bk_own ow, h3, ?_⟩
    cases d with
    | lst ds =>
      obtain ⟨xs, h5, h6⟩ := h4
      exact ⟨xs, keepO a _ ow h5, Rp.monoL sm _ _ h6⟩
    | dct es =>
      rcases h4 with ⟨kvs, h5, h6⟩ | ⟨kvs, h5, h6⟩
      · exact .inl ⟨kvs, keepO a _ ow h5, Rp.monoM sm _ _ h6⟩
      · exact .inr ⟨kvs, keepO a _ ow h5, Rp.monoN sm _ _ h6⟩
    | _ => exact h4.elim
  · have nP : b ≠ P := fun z => nt (by rw [z]; exact hP)
    exact st.keep b u (by rw [t.2 b nP]; exact e) (no_own (wipe_no frz_no)) nt
  · have n : ¬ Owns σ ρ1 b := fun z => by rw [bk_own z] at e; cases e
    rw [bk_out n] at e
    rcases st.new b u e with h | h | h
    · rw [vw_out n] at h; exact .inl h
    · have nP : b ≠ P := fun z => by
        rw [z, (o'.tabs P hP).2] at e; cases e
      rw [t.2 b nP] at h
      exact .inr (.inl h)
    · exact (no_own (wipe_no frz_no) h).elim
  · have n : ¬ Owns σ ρ1 b := fun z => by
      obtain ⟨i, d, h1, h2⟩ := z
      obtain ⟨a, h3, h4, h5, h6⟩ := o2.ow i d h1
      rw [h2] at h3; cases h3
      have ow : Owns σ ρ1 b := ⟨i, d, h1, h2⟩
      cases d with
      | lst ds =>
        obtain ⟨ys, h7, _⟩ := h6
        have := s b _ (by rw [vw_own ow]; exact h7)
        rw [this] at e; cases e
      | dct es =>
        rcases h6 with ⟨kvs, h7, _⟩ | ⟨kvs, h7, _⟩
        · have := s b _ (by rw [vw_own ow]; exact h7)
          rw [this] at e; cases e
        · have := s b _ (by rw [vw_own ow]; exact h7)
          rw [this] at e; cases e
      | _ => exact h6.elim
    rw [bk_out n]; exact e
  · have n : ¬ Owns σ ρ1 b := fun z => by
      obtain ⟨i, d, h1, h2⟩ := z
      obtain ⟨a, h3, h4, h5, h6⟩ := o2.ow i d h1
      rw [h2] at h3; cases h3
      have ow : Owns σ ρ1 b := ⟨i, d, h1, h2⟩
      cases d with
      | lst ds =>
        obtain ⟨ys, h7, _⟩ := h6
        have := s b _ (by rw [vw_own ow]; exact h7)
        rw [this] at e; cases e
      | dct es =>
        rcases h6 with ⟨kvs, h7, _⟩ | ⟨kvs, h7, _⟩
        · have := s b _ (by rw [vw_own ow]; exact h7)
          rw [this] at e; cases e
        · have := s b _ (by rw [vw_own ow]; exact h7)
          rw [this] at e; cases e
      | _ => exact h6.elim
    rw [bk_out n]; exact e
end
end NW
namespace NW
open PySem PySem.Spec PyProof.Rows L2

/-- what an item gives -/
def gxf (c : Cl) (t : Tg) (ifs : NW.T) (e : E) (ρw : Rho) (d : D) : Option (List D) := match stT t d ρw with
  | some ρ => (match evT c ifs ρ with
    | some (true, ρ) => (match evE c e ρ with
      | some (.fz d, _) => some [d]
      | _ => none)
    | some (false, _) => some []
    | none => none)
  | none => none
section
variable {K : PySem.W.Frag} {T : List Addr} {c : Cl} {t : Tg} {ifs : NW.T} {e : E} {own : List Nat} {F1 Fv H2 : Hp} {σ : L2.St} {ρw : Rho} {s : Src} {ds : List D} {J : It} {YP D' : List V → Hp → Prop}
/-- the state of the frame between two items -/
def gxW (K : PySem.W.Frag) (T : List Addr) (Fv H2 : Hp) (σw : L2.St) (ρw : Rho) (s : Src) (f : D → Option (List D)) (ds : List D) : Nat → Nat → List V → Hp → Prop := fun i m ys G =>
  m = s.len - i ∧ i ≤ s.len ∧ ∃ (F' : Hp) (ds1 ds2 : List D), OK K T F' G σw ρw ∧ Stp T Fv H2 σw ρw F' G σw ρw ∧ RpL K F' ys ds1 ∧ (s.from i).out f = some ds2 ∧ ds1 ++ ds2 = ds
theorem gx_turns (hsub : ∀ i ∈ t.ix, i ∈ own) (n : NoOw ρw) (ok0 : OK K T Fv H2 (wipe σ own) ρw) (sm : Same F1 Fv) (fd : Feeds K T F1 J s) (hl : ds.length ≤ sizeLine)
    (hYP : ∀ ys F' G ds1 ds2 σ' ρ', ds1 ++ ds2 = ds → Same Fv F' → RpL K F' ys ds1 → OK K T F' G σ' ρ' → Stp T Fv H2 (wipe σ own) ρw F' G (wipe σ own) ρw → YP ys G)
    (hD : ∀ ys F' G, Same Fv F' → RpL K F' ys ds → OK K T F' G (wipe σ own) ρw → Stp T Fv H2 (wipe σ own) ρw F' G (wipe σ own) ρw → D' ys G) :
    GxTurns J (tG K T t) (tT K T c ifs) (tE K T c e) (wipe σ own) own (gxW K T Fv H2 (wipe σ own) ρw s (gxf c t ifs e ρw) ds) YP D' := by
  rintro i m ys G ⟨rfl, hi, F', ds1, ds2, okc, sc, rp, hw, hds⟩
  obtain ⟨fs, fg⟩ := fd i F' G (wipe σ own) ρw (fun b u e => sc.grow b u (sm b u e)) okc
  cases ha : s.at i with
  | none =>
    rw [Src.out_none ha] at hw
    cases hw
    rw [List.append_nil] at hds
    subst hds
    exact .inl ⟨fs ha, hD ys F' G sc.grow rp okc sc⟩
  | some d =>
    rw [Src.out_some ha] at hw
    obtain ⟨go, yl⟩ := fg d ha
    refine .inr ⟨go, fun ys' G' => ∃ (F' : Hp) (ds1 ds2 : List D), OK K T F' G' (wipe σ own) ρw ∧ Stp T Fv H2 (wipe σ own) ρw F' G' (wipe σ own) ρw ∧ RpL K F' ys' ds1 ∧ (s.from (i + 1)).out (gxf c t ifs e ρw) = some ds2 ∧ ds1 ++ ds2 = ds,
      fun ys' G' hN => ⟨s.len - (i + 1), ?_, rfl, Src.at_lt ha, hN⟩, fun x G1 hy => ?_⟩
    · have := Src.at_lt ha
      omega
    obtain ⟨F2, ok2, s2, rx⟩ := yl x G1 hy
    have c2 := sc.trans s2 okc.tabs'
    cases hfd : gxf c t ifs e ρw d with
    | none => rw [hfd] at hw; cases hw
    | some xs =>
      rw [hfd] at hw
      simp only at hw
      cases hrest : (s.from (i + 1)).out (gxf c t ifs e ρw) with
      | none => rw [hrest] at hw; cases hw
      | some zs =>
        rw [hrest] at hw
        cases hw
        unfold gxf at hfd
        cases hst : stT t d ρw with
        | none => rw [hst] at hfd; cases hfd
        | some ρa =>
          rw [hst] at hfd
          simp only at hfd
          refine ⟨F2, ρw, d, ρa, ok2, rx, hst, fun σ2 PG => ⟨?_, ?_⟩⟩
          · rw [← wipe_wipe (σ := σ) (is := own)]
            exact wipe_eq PG.len fun j hj => PG.out j fun z => hj (hsub j z)
          have c3 := c2.trans PG.stp ok2.tabs'
          cases htt : evT c ifs ρa with
          | none => rw [htt] at hfd; cases hfd
          | some p =>
            obtain ⟨b, ρb⟩ := p
            rw [htt] at hfd
            refine ⟨F2, ρa, b, ρb, PG.ok, htt, fun F3 G3 P3 => ?_⟩
            have c4 := c3.trans P3.stp PG.ok.tabs'
            have g3 : Same F' F3 := fun b u e => P3.stp.grow b u (s2.grow b u e)
            cases b with
            | false =>
              cases hfd
              refine iteF ⟨F3, ds1, zs, ok_again n ok0 P3.ok c4.grow, stp_again n c4, Rp.monoL g3 _ _ rp, rfl, ?_⟩
              rw [List.nil_append] at hds; exact hds
            | true =>
              simp only at hfd
              refine iteT ?_
              cases hee : evE c e ρb with
              | none => rw [hee] at hfd; cases hfd
              | some p =>
                obtain ⟨r, ρd⟩ := p
                rw [hee] at hfd
                cases r with
                | fz dd =>
                  cases hfd
                  refine ⟨F3, ρb, .fz dd, ρd, P3.ok, hee, fun y F4 G4 P4 => ?_⟩
                  have c5 := c4.trans P4.stp P3.ok.tabs'
                  have g4 : Same F' F4 := fun b u e => P4.stp.grow b u (g3 b u e)
                  have rp4 : RpL K F4 (ys ++ [y]) (ds1 ++ [dd]) := (Rp.monoL g4 _ _ rp).append (.cons P4.rr .nil)
                  have hds' : (ds1 ++ [dd]) ++ zs = ds := by rw [List.append_assoc]; exact hds
                  have len : ys.length < sizeLine := by
                    have l1 := rp.length
                    have l2 := congrArg List.length hds
                    simp only [List.length_append, List.length_cons, List.length_nil] at l2
                    omega
                  exact ⟨len, hYP _ F4 G4 _ _ σ2 ρd hds' c5.grow rp4 P4.ok (stp_again n c5), F4, ds1 ++ [dd], zs, ok_again n ok0 P4.ok c5.grow, stp_again n c5, rp4, rfl, hds'⟩
                | ow _ => cases hfd
                | bo _ => cases hfd
                | io _ => cases hfd
theorem gx_first0 (n : NoOw ρw) (ok0 : OK K T Fv H2 (wipe σ own) ρw) {f : D → Option (List D)} (h : s.out f = some ds) : gxW K T Fv H2 (wipe σ own) ρw s f ds 0 s.len [] H2 :=
  ⟨rfl, Nat.zero_le _, Fv, [], ds, ok0, Stp.refl, .nil, by rw [Src.from_zero]; exact h, rfl⟩
end
end NW
namespace NW
open PySem PySem.Spec PyProof.Rows L2 GenW

section
variable {X : Cx} {pins : List (Addr × Obj)} {σ : L2.St} {H : Hp} {s : Shared} {elt tg iter : Expr} {ifs : List Expr} {scope : Scope} {pos : Pos} {wi : TI} {k : Nat}
variable {it : Addr} {fp : List Addr} {tn : Nat → Heap → Prop} {J : It} {H3 : Hp} {sc s' : Shared} {h' : Heap} {qual : Str} {code : Value} {go : Obj} {g : TG} {tt : TT} {te : TE} {own : List (Str × Nat)} {W : Nat → Nat → List V → Hp → Prop} {YP D : List V → Hp → Prop} {E : Value → Shared → Prop} {Q : Value → Shared → Prop}
theorem gx_made (M : GxM X pins σ elt tg iter ifs scope pos it fp tn J H3 sc h' qual code go s') (ok : BlkOk X.N X.env.scope scope own) (hN : X.N.Nodup) (hc : X.calm = true) (hco : scope.isCoroutine = false) (B : GxB X k elt tg iter ifs scope pos g tt te)
    (tu : GxTurns J g tt te (wipe σ (own.map fun x : Str × Nat => x.2)) (own.map fun x : Str × Nat => x.2) W YP D) {m0 : Nat} (w0 : W 0 m0 [] H3) :
    GMade X.prog X.w (k + 1) X.stack H3 sc fp D (fun _ _ _ => False) (.ref h'.objs.size) s' := by
  obtain ⟨tk2, es⟩ := M.is
  obtain ⟨nm, qn, g1, g2, g3, g4⟩ := M.gob
  have hgn : s'.heap.IsGen h'.objs.size sc.gens.size := ⟨go, nm, qn, by rw [es]; exact g4 h', g1, g2, g3⟩
  have hbp : AllBare s'.gens := by rw [es]; exact bare_push M.inv.bare rfl
  have hk0 : ∀ b o, sc.heap.get? b = some o → s'.heap.get? b = some o := fun b o e => by rw [es]; exact Heap.get?_push_of_some _ (M.keep b o e)
  have hsz : s'.heap.objs.size = h'.objs.size + 1 := by rw [es]; exact Heap.size_push ..
  refine ⟨h'.objs.size, sc.gens.size, gxC X sc elt tg iter ifs scope pos it qual code, rfl, Nat.le_of_lt M.size, by rw [hsz]; exact Nat.lt_succ_self _, hgn, by rw [es]; exact Array.getElem?_push_size .., by rw [es], hbp, M.inv.nolimit.keeps hk0, hk0, fun A S s2 hr hA hS hk hS2 ho hb => ?_⟩
  obtain ⟨cS, heS⟩ := hS2
  generalize hAo : A.over (.compLoop (gxE elt tg iter ifs scope pos) 0 (.ref it) .none (gxEnv X sc scope qual code)) [] = Ao
  have hro : Room k Ao := by rw [← hAo]; exact over_room hr
  have hfo : Ao.frames = some (gxEnv X sc scope qual code :: X.stack) := by rw [← hAo]; exact over_fr hA
  obtain ⟨I0, st0⟩ := M.start (A := Ao) (own := own) ok hN hc hro.hd hfo hk ho hb [(S, lstObj #[] cS)] (fun p hp => by
    rw [List.mem_singleton.mp hp]
    exact ⟨heS, hS, fun v q => by cases q⟩)
  have hSfp : S ∉ fp := fun z => by
    have := M.fpa S z
    rw [hsz] at hS
    exact absurd (Nat.lt_trans this hS) (Nat.lt_irrefl _)
  have hSa : h'.objs.size ≠ S := fun z => by
    rw [hsz, z] at hS
    exact absurd hS (Nat.lt_irrefl _)
  have hAp : Apart (X.gx Ao sc H3 scope (gxEnv X sc scope qual code) fp [(h'.objs.size, go)]) S := by
    have h1 : sc.heap.objs.size < S := Nat.lt_of_lt_of_le (Nat.lt_trans M.size (by rw [hsz]; exact Nat.lt_succ_self _)) hS
    refine ⟨Nat.le_of_lt h1, Nat.ne_of_gt h1, fun y c e z => ?_⟩
    have I00 := gx_start (tk := sc.toks) (own := own) M.inv ok hN hc M.fpk hfo hro.hd M.ns M.sb
    obtain ⟨v, ob, ho', _⟩ := I00.cell y c e
    have := Heap.lt_size ho'
    rw [z] at this
    have this : S < h'.objs.size := this
    rw [hsz] at hS
    exact absurd (Nat.lt_of_lt_of_le this (Nat.le_of_succ_le hS)) (Nat.lt_irrefl _)
  have hpn : ∀ p ∈ [(h'.objs.size, go)], p.1 ≠ S := fun p hp => by rw [List.mem_singleton.mp hp]; exact hSa
  refine gx_first (Z := X.gx Ao sc H3 scope (gxEnv X sc scope qual code) fp [(h'.objs.size, go)]) hc hAo M.turn st0 ?_
  refine gx_loop (Z := X.gx Ao sc H3 scope (gxEnv X sc scope qual code) fp [(h'.objs.size, go)]) (GI := L2.GI (X.gx Ao sc H3 scope (gxEnv X sc scope qual code) fp [(h'.objs.size, go)]) S) (W := W) (YP := YP) (D := D) (own := own.map fun x : Str × Nat => x.2) (σw := wipe σ (own.map fun x : Str × Nat => x.2))
    hc hco rfl hAo M.turn (B.tg Ao _ _ _ _ _ hro rfl) (B.tt Ao _ _ _ _ _ hro rfl) (B.te Ao _ _ _ _ _ hro rfl) (fun b hb => hb) (fun p hp hm => ?_) (fun ip ys σ H s hG => ?_) ?_ ?_ tu m0 sizeLine 0 [] s2 H3 s2 rfl ⟨#[], cS, .nil, I0⟩ st0 (fun b hb => (M.fpk b hb).1.1) w0
  · rw [List.mem_singleton.mp hp] at hm
    exact absurd (M.fpa _ hm) (Nat.lt_irrefl _)
  · obtain ⟨acc, cc, r, I⟩ := hG
    exact ⟨[(S, lstObj acc cc)], fun p hp => by rw [List.mem_singleton.mp hp]; exact hSfp, I, fun ip' σ' H' s' I' => ⟨acc, cc, r, I'⟩⟩
  · intro n s₀ ys y v ip σ1 H1 s1 kap hn hip rv yp hG hkap
    have hip' : ∀ p ∈ ip, p.1 ≠ S := fun p hp z => hSfp (by rw [← z]; exact hip p hp)
    obtain ⟨acc, cc, r, I⟩ := id hG
    have J := M.gxs I
    refine ⟨J.os, J.bare, J.nl, J.gen, ⟨acc, cc, (I.pin (S, lstObj acc cc) (List.mem_append_right _ List.mem_cons_self)).1, ?_⟩, fun s3 z => hkap s3 (hG.woken hpn hip' hAp rv z)⟩
    have e1 := r.length
    have e2 : acc.toList.length = acc.size := by simp
    omega
  · intro n s₀ ys H1 s1 hn hG hd
    obtain ⟨a1, _, _, acc, cc, ra, ea⟩ := hG.at
    obtain ⟨_, _, _, J⟩ := hG
    exact .inl ⟨.inr rfl, H1, ys, acc, cc, J.os, J.bare, J.base, J.hok, a1, ea, ra, by omega, hd⟩

/-- all items of a generator, in a list of their own -/
theorem collect_gx {P : Program} {w : World} {outer : List Env} {H : Hp} {sc s : Shared} {ex : List Addr} {Qd : List V → Hp → Prop} {A : Around} {k : Nat} {a : Addr} {Q' : List Value → Shared → Prop} {E : Value → Shared → Prop}
    (hr : Room (k + 2) A) (hfr : A.frames = some outer) (h : GMade P w k outer H sc ex Qd (fun _ _ _ => False) (.ref a) s)
    (hQ : ∀ S s' acc c H' ys, s.heap.objs.size ≤ S → s'.heap.get? S = some (lstObj acc c) → Vals ys acc.toList → ys.length ≤ sizeLine → s'.os = sc.os → AllBare s'.gens → Un (frs outer) ex H H' sc.heap s'.heap → HOk P w H' s'.heap → H' S = none → Qd ys H' → Q' acc.toList s') :
    wpAny (model P w) A (collect (.ref a)) Q' E s := by
  obtain ⟨a', g, c, e', ha1, ha2, hg, hgs, hos, hb, hl, hkp, wake⟩ := h
  cases e'
  have hSa : s.heap.objs.size ≠ a := Nat.ne_of_gt ha2
  have hcl : cStatics < s.heap.objs.size := let ⟨_, hn, _⟩ := hl; hn.lt
  have hSc : s.heap.objs.size ≠ cStatics := Nat.ne_of_gt hcl
  unfold collect
  refine wpAny_bind (wpAny_runValue (codeAny_builtin F.entry_proto_collect ?_))
  rw [Around.under_plainId F.plain_proto_collect _]
  show wpAny _ A.in1 (newList [] >>= fun l => again (.builtin "list.__iadd__" ⟨[l, .ref a], []⟩)) _ _ s
  refine wpAny_bind (wpAny_newObj_type ?_)
  refine wpAny_pure ⟨plainId_quiet F.plain_list_iadd _, codeAny_builtin F.entry_list_iadd ?_⟩
  rw [Around.under_plainId F.plain_list_iadd _]
  have k1 : ∀ b o, s.heap.get? b = some o → (s.heap.push { cls := .type "list", data := .seq ([] : List Value).toArray }).get? b = some o := fun b o e => Heap.get?_push_of_some _ e
  show wpAny _ A.in1 (Builtin.List.listExtendWith (.ref s.heap.objs.size) (.ref a) (.ref s.heap.objs.size)) _ _ _
  unfold Builtin.List.listExtendWith
  have gty : ∀ {h : Heap}, (∀ b o, s.heap.get? b = some o → h.get? b = some o) → h.IsGen a g := fun {h} q => hg.keeps q
  refine wpAny_bind (wpAny_typeOf (Heap.IsGen.typeIs (s := { s with heap := _ }) (gty k1)) ?_)
  have h1 : Builtin.List.listSameRef (.ref s.heap.objs.size) (.ref a) = false := by simp [Builtin.List.listSameRef, hSa]
  have h2 : (Value.type "generator" == Value.type "list") = false := by decide
  have h3 : (Value.type "generator" == Value.type "tuple") = false := by decide
  simp only [h1, h2, h3, Bool.or_false, Bool.false_eq_true, if_false]
  refine wpAny_bind (wpAny_pyIter_gen (s := { s with heap := _ }) (gty k1) ?_)
  refine wpAny_bind (wpAny_holding ?_)
  unfold Builtin.List.listLengthHint
  refine wpAny_bind (wpAny_specialOf (Heap.IsGen.typeIs (s := { s with heap := _ }) (gty k1)) F.gen_no_len ?_)
  show wpAny _ A.in1 (specialOf (Value.ref a) (Str.ofString "__length_hint__") >>= _) _ _ _
  refine wpAny_bind (wpAny_specialOf (Heap.IsGen.typeIs (s := { s with heap := _ }) (gty k1)) F.gen_no_hint ?_)
  refine wpAny_pure ?_
  show wpAny _ A.in1 (rule "list.extend.makes-room" >>= fun _ => Builtin.List.listTouch (.ref s.heap.objs.size) >>= fun _ =>
    again (.builtin "list.extend.loop" ⟨[.ref s.heap.objs.size, .ref a, .ref s.heap.objs.size], []⟩)) _ _ _
  refine wpAny_bind (wpAny_rule ?_)
  have hS₁ : (s.heap.push { cls := .type "list", data := .seq ([] : List Value).toArray }).get? s.heap.objs.size = some { cls := .type "list", data := .seq ([] : List Value).toArray } := Heap.get?_push_size _ rfl
  refine wpAny_bind ?_
  show wpAny _ A.in1 (updateSeq s.heap.objs.size (·.push .none) >>= fun _ => updateSeq s.heap.objs.size (·.pop)) _ _ _
  refine wpAny_bind (wpAny_updateSeq hS₁ rfl ?_)
  have hS₂ := Heap.get?_update_self (Obj.mapSeq (·.push Value.none)) hS₁ rfl
  refine wpAny_updateSeq (hz := by seq_fits) hS₂ rfl ?_
  have hS₃ := Heap.get?_update_self (Obj.mapSeq (·.pop)) hS₂ rfl
  have oth : ∀ b o, s.heap.get? b = some o →
      (((s.heap.push { cls := .type "list", data := .seq ([] : List Value).toArray }).update s.heap.objs.size (Obj.mapSeq (·.push Value.none))).update s.heap.objs.size (Obj.mapSeq (·.pop))).get? b = some o :=
    fun b o e => (Heap.get?_update_other _ _ (Ne.symm (Nat.ne_of_lt (Heap.lt_size e)))).trans ((Heap.get?_update_other _ _ (Ne.symm (Nat.ne_of_lt (Heap.lt_size e)))).trans (k1 b o e))
  refine wpAny_pure ⟨plainId_quiet F.plain_extend_loop _, ?_⟩
  refine drain (P := P) (w := w) (outer := outer) (H := H) (sc := sc) (ex := ex) (Q := Qd) (EX := fun _ _ _ => False) (A := A) (g := g) hr.hd hr.depth hSa hSc
    (fun s' acc c H' ys q1 q2 q3 q4 q5 q6 q7 q8 q9 => ?_) (fun e s' hc => ?_)
    sizeLine _ (gty oth) (hl.keeps oth) ⟨_, hgs, rfl, ?_⟩
  · show wpAny _ A (load s.heap.objs.size >>= _) _ _ s'
    refine wpAny_bind (wpAny_load q1 ?_)
    exact wpAny_pure (hQ _ s' acc c H' ys (Nat.le_refl _) q1 q2 q3 q4 q5 q6 q7 q8 q9)
  · obtain ⟨_, _, _, _, _, _, _, _, _, _, _, _, z⟩ := hc
    exact z.elim
  · refine wake _ _ _ (Room.in1 (k := k + 1) hr).in1 hfr (Nat.le_refl _) oth ⟨_, hS₃⟩ hos (allBare_setGen (s := { s with heap := _ }) hb rfl)

/-- tuple(g) -/
theorem gx_tuple (M : GxM X pins σ elt tg iter ifs scope pos it fp tn J H3 sc h' qual code go s') (ok : BlkOk X.N X.env.scope scope own) (hN : X.N.Nodup) (hc : X.calm = true) (hco : scope.isCoroutine = false) (hr : Room (k + 5) X.A) (B : GxB X k elt tg iter ifs scope pos g tt te)
    (tu : GxTurns J g tt te (wipe σ (own.map fun x : Str × Nat => x.2)) (own.map fun x : Str × Nat => x.2) W YP D) {m0 : Nat} (w0 : W 0 m0 [] H3)
    (hQ : ∀ H4 s4 ys p, Inv X pins σ (upd H4 p (.tup ys)) s4 → H4 p = none → D ys H4 → Q (.ref p) s4) : wpAny (model X.prog X.w) X.A (call (.type "tuple") [.ref h'.objs.size]) Q E s' := by
  have hG := gx_made M ok hN hc hco B tu w0
  have hT : s'.TypeIs (.ref h'.objs.size) "generator" := by
    obtain ⟨_, _, _, e, _, _, hg, _⟩ := id hG
    cases e
    exact Heap.IsGen.typeIs hg
  have hsz : sc.heap.objs.size ≤ s'.heap.objs.size := by
    obtain ⟨_, _, _, e, h1, h2, _⟩ := id hG
    exact Nat.le_trans h1 (Nat.le_of_lt h2)
  refine callType_codes (Q₁ := fun obj s₁ => s₁.TypeIs obj "tuple" ∧ Q obj s₁) F.called_tuple (F.typeCall_tuple_1 _) F.entry_object_init ?_ fun obj s₁ h₁ => ?_
  · refine codeAny_of_tree ?_
    show wpAny _ X.A.in1.in1 (do checkBuiltinCall "tuple.__new__" ⟨[.type "tuple", .ref h'.objs.size], []⟩; again (.builtin "tuple.__new__" ⟨[.type "tuple", .ref h'.objs.size], []⟩)) _ _ s'
    refine wpAny_bind (wpAny_of_eq (F.newCall_tuple_1 _) (wpAny_pure ⟨plainId_quiet F.plain_tuple_new _, codeAny_builtin F.entry_tuple_new ?_⟩))
    rw [Around.under_plainId F.plain_tuple_new _]
    have hsub := sub_tuple_self
    have hinit := init_tuple_lookup
    have hmh := madeHere_tuple
    have hrX : Room (k + 1 + 2) X.A.in1.in1 := (Room.in1 (k := k + 4) hr).in1
    have hfX : X.A.in1.in1.frames = some X.stack := M.inv.ok.frames
    wp_walk using wpAny_typeOf hT, collect_gx hrX hfX hG
    intro S s4 acc c H4 ys q0 q1 q2 q3 q4 q5 q6 q7 q8 q9
    show wpAny _ _ (Builtin.Tuple.tupleExact acc.toList.toArray >>= fun v => ret v) _ _ _
    unfold Builtin.Tuple.tupleExact
    have hlen := q2.length
    have e : acc.toList.toArray = acc := by simp
    rw [e]
    have e2 : acc.toList.length = acc.size := by simp
    refine wpAny_bind (wpAny_newObj_type ?_ (by show acc.size ≤ sizeLine; omega))
    refine wpAny_pure ?_
    have I4 : Inv X pins σ H4 s4 := M.inv.call' (ch := fp) q4 q6 q7 q5 fun b hb => ⟨((M.fpk b hb).1).2.2.2.1, ((M.fpk b hb).1).2.1, ((M.fpk b hb).1).2.2.2.2.1, ((M.fpk b hb).1).2.2.2.2.2⟩
    have hp : H4 s4.heap.objs.size = none := q7.fresh (Nat.le_refl _)
    refine ⟨⟨_, Heap.get?_push_size _ rfl, rfl⟩, hQ H4 _ ys _ (I4.laid (t' := s4.toks) (fun b o e => Heap.get?_push_of_some _ e) (Nat.le_refl _) ⟨q3, acc.toList, q2, _, Heap.get?_push_size _ rfl, rfl, _, by rw [e]⟩) hp q9⟩
  · exact ⟨h₁.1, F.args_object_init_2 obj _, object_init_meets F.called_tuple.init.lookup F.called_tuple.made (by decide) X.prog X.w X.A.in1 _ s₁ ⟨h₁.1, rfl, h₁.2⟩⟩
end
end NW
namespace NW
open PySem PySem.Spec PyProof.Rows L2

/-- the frame of a generator expression -/
def Tc.gen (t : Tc) (scope : Scope) : Tc := { t with sc := scope, own := fun x => scope.names.lookup x == some .cell, gx := false, g := 0 }
section
variable {X : Cx} {G : Gm} {T : List Addr} {c : Cl} {lv : Nat} {t : Tc} {pos p gpos : Pos} {elt tg iter : Expr} {ifs : List Expr} {scope : Scope} {own : List Nat} {tt : Tg} {src : I} {ti : NW.T} {ee : E}
theorem Ctx.gx (C : Ctx X G T c lv t) (hk : scope.kind = .function) {A : Around} (hr : Room lv A) {s : Shared} {H : Hp} {cenv : Env} (hce : cenv.scope = scope) {fp : List Addr} {pn : List (Addr × Obj)} : Ctx (X.gx A s H scope cenv fp pn) G T c lv (t.gen scope) where
  hN := C.hN
  nd := C.nd
  hs := hce
  kind := hk
  calm := C.calm
  room := hr
  own := fun x h => h
  px := PassesOwn.never
  tab := fun e => by cases e
  blt := C.blt
  gcd := C.gcd
  isq := C.isq
  glo := C.glo
  fn := C.fn
/-- what the checker says of a generator expression, but for its parts -/
structure GxOk (t : Tc) (scope : Scope) (iter : Expr) (own : List Nat) (tt : Tg) : Prop where
  gx : t.gx = true
  g : 5 ≤ t.g
  blk : blkC t.N t.sc scope (ownL t.N own) = true
  co : scope.isCoroutine = false
  dot : scope.names.lookup (".0" : Str) = some NameKind.local
  fold : notFold' iter = true
  sub : ∀ i ∈ tt.ix, i ∈ own
theorem wipe_ownL {σ : L2.St} : wipe σ ((ownL t.N own).map fun x : Str × Nat => x.2) = wipe σ own := by
  have := ownL_snd t.N own
  rw [show ((ownL t.N own).map fun x : Str × Nat => x.2) = own from this]
def gnFin (k : GK) (o : Option (List D)) (ρ1 : Rho) : Option (R × Rho) := match o with
  | some ds => if ds.length ≤ L24 then (match k with
      | .tup => if D.purL ds then some (.fz (.tup ds), ρ1) else none
      | .any => (match boolsD ds with | some bs => some (.fz (.bl (bs.any id)), ρ1) | none => none)
      | .all => (match boolsD ds with | some bs => some (.fz (.bl (bs.all id)), ρ1) | none => none)
      | .sum => none) else none
  | none => none
theorem gn_ev {k : GK} {ρ : Rho} : evE c (.gn k tt own src ti ee) ρ = (match evI c src ρ with | some (s, ρ1) => gnFin k (s.out (gxf c tt ti ee (wipeR own (frzR ρ1)))) ρ1 | none => none) := by
  rw [evE]
  cases evI c src ρ with
  | none => rfl
  | some p => rfl
/-- what is made of the items -/
def gkRes (k : GK) (ds : List D) (r : R) : Prop := match k with
  | .tup => D.purL ds = true ∧ r = .fz (.tup ds)
  | .any => ∃ bs : List Bool, ds = bs.map D.bl ∧ r = .fz (.bl (bs.any id))
  | .all => ∃ bs : List Bool, ds = bs.map D.bl ∧ r = .fz (.bl (bs.all id))
  | .sum => False
/-- the reading, whatever is done with the items -/
theorem gx_reads (C : Ctx X G T c lv t) (O : GxOk t scope iter own tt) {k : GK} {P : Addr} (hP : P ∈ T) {σ : L2.St} {H : Hp} {Q : VK} (h : tE X.K T c (.gn k tt own src ti ee) σ H Q) :
    tI X.K T c src σ H fun J H1 => GxR.TabG H1 P ∧ ∀ H2, GxR.Tabbed P H1 H2 → ∃ (H1 : Hp) (ρ1 : Rho) (F1 : Hp) (ρ : Rho) (Fh Hh : Hp) (ds : List D) (r : R) (W : Nat → Nat → List V → Hp → Prop), GxR.Tabbed P H1 H2 ∧ OK X.K T F1 H1 σ ρ1 ∧ Stp T Fh Hh σ ρ F1 H1 σ ρ1 ∧ OK X.K T Fh Hh σ ρ ∧ ds.length ≤ L24 ∧
      gkRes k ds r ∧ (∀ v F' H', Post X.K T Fh Hh σ ρ r v F' H' ρ1 → Q v H') ∧
      (∀ (YP D' : List V → Hp → Prop), (∀ ys F' G ds1 ds2 σ' ρ', ds1 ++ ds2 = ds → Same (vwF σ ρ1 F1 H2) F' → RpL X.K F' ys ds1 → OK X.K T F' G σ' ρ' → Stp T (vwF σ ρ1 F1 H2) H2 (wipe σ own) (wipeR own (frzR ρ1)) F' G (wipe σ own) (wipeR own (frzR ρ1)) → YP ys G) →
        (∀ ys F' G, Same (vwF σ ρ1 F1 H2) F' → RpL X.K F' ys ds → OK X.K T F' G (wipe σ own) (wipeR own (frzR ρ1)) → Stp T (vwF σ ρ1 F1 H2) H2 (wipe σ own) (wipeR own (frzR ρ1)) F' G (wipe σ own) (wipeR own (frzR ρ1)) → D' ys G) →
        GxTurns J (tG X.K T tt) (tT X.K T c ti) (tE X.K T c ee) (wipe σ own) own W YP D') ∧ ∃ m0, W 0 m0 [] H2 := by
  obtain ⟨F, ρ, r, ρ', ok, ev, q⟩ := h
  rw [gn_ev] at ev
  cases e1 : evI c src ρ with
  | none => rw [e1] at ev; cases ev
  | some z =>
    obtain ⟨s, ρ1⟩ := z
    rw [e1] at ev
    simp only at ev
    cases e2 : s.out (gxf c tt ti ee (wipeR own (frzR ρ1))) with
    | none => rw [e2] at ev; cases ev
    | some ds =>
      rw [e2] at ev
      simp only [gnFin] at ev
      split at ev
      · rename_i hl
        refine ⟨F, ρ, s, ρ1, ok, e1, fun J F1 H1 P1 fd => ⟨(P1.ok.tabs P hP).1, fun H2 t2 => ?_⟩⟩
        have ok2 := ok_tab P1.ok hP t2
        have okv := vw_ok ok2
        have smv := vw_same ok2
        have okw : OK X.K T (vwF σ ρ1 F1 H2) H2 (wipe σ own) (wipeR own (frzR ρ1)) := ok_wipe okv
        have no : NoOw (wipeR own (frzR ρ1)) := wipe_no frz_no
        have fin : ρ' = ρ1 ∧ gkRes k ds r := by
          cases k with
          | tup =>
            simp only at ev
            split at ev
            · rename_i hp
              cases ev; exact ⟨rfl, hp, rfl⟩
            · cases ev
          | any =>
            simp only at ev
            cases e3 : boolsD ds with
            | none => rw [e3] at ev; cases ev
            | some bs => rw [e3] at ev; cases ev; exact ⟨rfl, bs, bools_eq e3, rfl⟩
          | all =>
            simp only at ev
            cases e3 : boolsD ds with
            | none => rw [e3] at ev; cases ev
            | some bs => rw [e3] at ev; cases ev; exact ⟨rfl, bs, bools_eq e3, rfl⟩
          | sum => cases ev
        obtain ⟨rfl, hfin⟩ := fin
        exact ⟨H1, ρ', F1, ρ, F, H, ds, r, gxW X.K T (vwF σ ρ' F1 H2) H2 (wipe σ own) (wipeR own (frzR ρ')) s (gxf c tt ti ee (wipeR own (frzR ρ'))) ds, t2, P1.ok, P1.stp, ok, hl, hfin, q,
          fun YP D' h1 h2 => gx_turns O.sub no okw smv fd (by rw [line24]; exact hl) h1 h2, _, gx_first0 no okw e2⟩
      · cases ev
theorem boolsP {K : PySem.W.Frag} {F : Hp} : ∀ {bs : List Bool} {ds1 ds2 : List D} {ys : List V}, ds1 ++ ds2 = bs.map D.bl → RpL K F ys ds1 → ∃ r, ys ++ r = bs.map V.bl
  | bs, [], ds2, ys, e, r => by cases r; exact ⟨_, rfl⟩
  | [], d :: ds1, ds2, ys, e, r => by cases e
  | b :: bs, d :: ds1, ds2, ys, e, r => by
    cases r with
    | cons a q =>
      rw [List.cons_append, List.map_cons, List.cons.injEq] at e
      obtain ⟨rfl, e⟩ := e
      cases a
      obtain ⟨z, hz⟩ := boolsP e q
      exact ⟨z, by rw [List.cons_append, hz, List.map_cons]⟩
theorem e_any (C : Ctx X G T c lv t) (O : GxOk t scope iter own tt) (hg : Gl X "any") (hm : X.mg "any" = none) (hi : PI X tg iter (tI X.K T c src)) (B : GxB X lv elt tg iter ifs scope gpos (tG X.K T tt) (tT X.K T c ti) (tE X.K T c ee)) :
    PE X (.Call (.Name "any" p) [gxE elt tg iter ifs scope gpos] [] pos) (tE X.K T c (.gn .any tt own src ti ee)) := by
  obtain ⟨cc, P, hcode, TB, hP⟩ := C.tab O.gx
  refine ⟨fun pins s σ H Q I h => ?_⟩
  have ok' : BlkOk X.N X.env.scope scope (ownL t.N own) := by rw [C.hN, C.hs]; exact blkOk_by O.blk
  have he : starEach [gxE elt tg iter ifs scope gpos] X.env = (false, eval (gxE elt tg iter ifs scope gpos) X.env) :: starEach [] X.env := rfl
  have hown : ((ownL t.N own).map fun x : Str × Nat => x.2) = own := ownL_snd t.N own
  refine wpAny_Call_Name_kw (ld_blt I hg hm boot_any ?_)
  refine PyProof.Rows.callWith_builtin1 ?_ he (by rfl)
  rw [he]
  show wpAny _ _ (spliced ((false, eval (gxE elt tg iter ifs scope gpos) X.env) :: backTo pos (starEach [] X.env))) _ _ s
  refine Calls.spliced_cons (thn (gx_make (own := ownL t.N own) C.rm TB hcode ok' O.co O.dot O.fold hi I (gx_reads C O hP h)) fun u s1 hu => ?_)
  obtain ⟨it, fp, tn, J, H3, sc, h', qual, code, go, rfl, ⟨H1, ρ1, F1, ρ, Fh, Hh, ds, r, W, tb, ok1, st1, okh, hl, ⟨bs, rfl, rfl⟩, hq, ht, m0, w0⟩, M⟩ := hu
  refine Calls.spliced_nil ?_
  refine gx_any (k := lv) (W := W) (bs := bs) (Fn := fun G => ∃ F' σ' ρ', Same (vwF σ ρ1 F1 H3) F' ∧ OK X.K T F' G σ' ρ' ∧ Stp T (vwF σ ρ1 F1 H3) H3 (wipe σ own) (wipeR own (frzR ρ1)) F' G (wipe σ own) (wipeR own (frzR ρ1))) M ok' C.nd' C.calm O.co
    (C.room.mono (by have := O.g; omega)) B ?_ w0 fun H4 s4 I4 hF => ?_
  · rw [hown]
    exact ht _ _ (fun ys F' G ds1 ds2 σ' ρ' hds sm rp ok st => ⟨boolsP hds rp, F', σ', ρ', sm, ok, st⟩) fun ys F' G sm rp ok st => ⟨rp.boolsE, F', _, _, sm, ok, st⟩
  · obtain ⟨F', σ', ρ', sm, ok, st⟩ := hF
    obtain ⟨k1, k2, k3⟩ := bk_ok (is := own) ok1 hP tb ok sm st
    exact ⟨.bl _, H4, I4, rfl, hq _ _ _ ⟨k1, st1.trans k2 ok1.tabs', .bl _, fun d a e => by cases e⟩⟩
theorem e_all (C : Ctx X G T c lv t) (O : GxOk t scope iter own tt) (hg : Gl X "all") (hm : X.mg "all" = none) (hi : PI X tg iter (tI X.K T c src)) (B : GxB X lv elt tg iter ifs scope gpos (tG X.K T tt) (tT X.K T c ti) (tE X.K T c ee)) :
    PE X (.Call (.Name "all" p) [gxE elt tg iter ifs scope gpos] [] pos) (tE X.K T c (.gn .all tt own src ti ee)) := by
  obtain ⟨cc, P, hcode, TB, hP⟩ := C.tab O.gx
  refine ⟨fun pins s σ H Q I h => ?_⟩
  have ok' : BlkOk X.N X.env.scope scope (ownL t.N own) := by rw [C.hN, C.hs]; exact blkOk_by O.blk
  have he : starEach [gxE elt tg iter ifs scope gpos] X.env = (false, eval (gxE elt tg iter ifs scope gpos) X.env) :: starEach [] X.env := rfl
  have hown : ((ownL t.N own).map fun x : Str × Nat => x.2) = own := ownL_snd t.N own
  refine wpAny_Call_Name_kw (ld_blt I hg hm (by decide +kernel : bootBuiltins "all" = some (.builtin "all")) ?_)
  refine PyProof.Rows.callWith_builtin1 ?_ he (by rfl)
  rw [he]
  show wpAny _ _ (spliced ((false, eval (gxE elt tg iter ifs scope gpos) X.env) :: backTo pos (starEach [] X.env))) _ _ s
  refine Calls.spliced_cons (thn (gx_make (own := ownL t.N own) C.rm TB hcode ok' O.co O.dot O.fold hi I (gx_reads C O hP h)) fun u s1 hu => ?_)
  obtain ⟨it, fp, tn, J, H3, sc, h', qual, code, go, rfl, ⟨H1, ρ1, F1, ρ, Fh, Hh, ds, r, W, tb, ok1, st1, okh, hl, ⟨bs, rfl, rfl⟩, hq, ht, m0, w0⟩, M⟩ := hu
  refine Calls.spliced_nil ?_
  refine gx_all (k := lv) (W := W) (bs := bs) (Fn := fun G => ∃ F' σ' ρ', Same (vwF σ ρ1 F1 H3) F' ∧ OK X.K T F' G σ' ρ' ∧ Stp T (vwF σ ρ1 F1 H3) H3 (wipe σ own) (wipeR own (frzR ρ1)) F' G (wipe σ own) (wipeR own (frzR ρ1))) M ok' C.nd' C.calm O.co
    (C.room.mono (by have := O.g; omega)) B ?_ w0 fun H4 s4 I4 hF => ?_
  · rw [hown]
    exact ht _ _ (fun ys F' G ds1 ds2 σ' ρ' hds sm rp ok st => ⟨boolsP hds rp, F', σ', ρ', sm, ok, st⟩) fun ys F' G sm rp ok st => ⟨rp.boolsE, F', _, _, sm, ok, st⟩
  · obtain ⟨F', σ', ρ', sm, ok, st⟩ := hF
    obtain ⟨k1, k2, k3⟩ := bk_ok (is := own) ok1 hP tb ok sm st
    exact ⟨.bl _, H4, I4, rfl, hq _ _ _ ⟨k1, st1.trans k2 ok1.tabs', .bl _, fun d a e => by cases e⟩⟩
theorem e_tupG (C : Ctx X G T c lv t) (O : GxOk t scope iter own tt) (hg : Gl X "tuple") (hm : X.mg "tuple" = none) (hi : PI X tg iter (tI X.K T c src)) (B : GxB X lv elt tg iter ifs scope gpos (tG X.K T tt) (tT X.K T c ti) (tE X.K T c ee)) :
    PE X (.Call (.Name "tuple" p) [gxE elt tg iter ifs scope gpos] [] pos) (tE X.K T c (.gn .tup tt own src ti ee)) := by
  obtain ⟨cc, P, hcode, TB, hP⟩ := C.tab O.gx
  refine ⟨fun pins s σ H Q I h => ?_⟩
  have ok' : BlkOk X.N X.env.scope scope (ownL t.N own) := by rw [C.hN, C.hs]; exact blkOk_by O.blk
  have he : starEach [gxE elt tg iter ifs scope gpos] X.env = (false, eval (gxE elt tg iter ifs scope gpos) X.env) :: starEach [] X.env := rfl
  have hown : ((ownL t.N own).map fun x : Str × Nat => x.2) = own := ownL_snd t.N own
  refine wpAny_Call_Name_kw (ld_blt I hg hm (by decide +kernel : bootBuiltins "tuple" = some (.type "tuple")) ?_)
  refine PyProof.Rows.callWith_type1 ?_ he (by rfl)
  rw [he]
  show wpAny _ _ (spliced ((false, eval (gxE elt tg iter ifs scope gpos) X.env) :: backTo pos (starEach [] X.env))) _ _ s
  refine Calls.spliced_cons (thn (gx_make (own := ownL t.N own) C.rm TB hcode ok' O.co O.dot O.fold hi I (gx_reads C O hP h)) fun u s1 hu => ?_)
  obtain ⟨it, fp, tn, J, H3, sc, h', qual, code, go, rfl, ⟨H1, ρ1, F1, ρ, Fh, Hh, ds, r, W, tb, ok1, st1, okh, hl, ⟨hp, rfl⟩, hq, ht, m0, w0⟩, M⟩ := hu
  refine Calls.spliced_nil ?_
  refine gx_tuple (k := lv) (W := W) (YP := fun _ _ => True) (D := fun ys G => ∃ F', RpL X.K F' ys ds ∧ Same (vwF σ ρ1 F1 H3) F' ∧ OK X.K T F' G (wipe σ own) (wipeR own (frzR ρ1)) ∧ Stp T (vwF σ ρ1 F1 H3) H3 (wipe σ own) (wipeR own (frzR ρ1)) F' G (wipe σ own) (wipeR own (frzR ρ1))) M ok' C.nd' C.calm O.co
    (C.room.mono (by have := O.g; omega)) B ?_ w0 fun H4 s4 ys a I4 hn hF => ?_
  · rw [hown]
    exact ht _ _ (fun ys F' G ds1 ds2 σ' ρ' hds sm rp ok st => trivial) fun ys F' G sm rp ok st => ⟨F', rp, sm, ok, st⟩
  · obtain ⟨F', rp, sm, ok, st⟩ := hF
    obtain ⟨k1, k2, k3⟩ := bk_ok (is := own) ok1 hP tb ok sm st
    have nv := (NewV.tup hn (Rp.pureL k3 _ _ hp rp)).post k1
    exact ⟨.ref a, upd H4 a (.tup ys), I4, rfl, hq _ _ _ (Post.then (st1.trans k2 ok1.tabs') k1 nv)⟩
end
end NW
namespace NW
open PySem PySem.Spec PyProof.Rows L2

mutual
def dsame : D → D → Bool
  | .non, .non => true
  | .bl a, .bl b => a == b
  | .int a, .int b => decide (a = b)
  | .str a, .str b => decide (a = b)
  | .tup a, .tup b => dsameL a b
  | _, _ => false
def dsameL : List D → List D → Bool
  | [], [] => true
  | a :: as, b :: bs => dsame a b && dsameL as bs
  | _, _ => false
end
mutual
theorem dsame_eq : ∀ (a b : D), dsame a b = true → a = b
  | .non, b, h => by cases b <;> first | rfl | (simp [dsame] at h)
  | .bl a, b, h => by cases b <;> simp [dsame] at h; rw [h]
  | .int a, b, h => by cases b <;> simp [dsame] at h; rw [h]
  | .str a, b, h => by cases b <;> simp [dsame] at h; rw [h]
  | .tup a, b, h => by
    cases b <;> simp only [dsame] at h <;> try cases h
    rw [dsameL_eq a _ h]
  | .lst a, b, h => by cases b <;> simp [dsame] at h
  | .dct a, b, h => by cases b <;> simp [dsame] at h
theorem dsameL_eq : ∀ (a b : List D), dsameL a b = true → a = b
  | [], b, h => by cases b <;> first | rfl | (simp [dsameL] at h)
  | x :: xs, b, h => by
    cases b <;> simp only [dsameL] at h <;> try cases h
    simp only [Bool.and_eq_true] at h
    rw [dsame_eq _ _ h.1, dsameL_eq _ _ h.2]
end
def cstB : D → Expr → Bool
  | .int i, .Constant (.int j) _ _ => decide (i = j)
  | .bl i, .Constant (.bool j) _ _ => i == j
  | .non, .Constant .none _ _ => true
  | .str s, .Constant (.str z) _ _ => decide (toS s = z)
  | _, _ => false
def opB : O2 → Operator → Bool
  | .add, .Add => true
  | .sub, .Sub => true
  | .mul, .Mult => true
  | .fdiv, .FloorDiv => true
  | .mod, .Mod => true
  | .pow, .Pow => true
  | _, _ => false
def ipB : O2 → Operator → Bool
  | .add, .Add => true
  | .sub, .Sub => true
  | .mul, .Mult => true
  | .fdiv, .FloorDiv => true
  | .mod, .Mod => true
  | _, _ => false
def cmpB : O2 → CmpOp → Bool
  | .eq, .Eq => true
  | .ne, .NotEq => true
  | .lt, .Lt => true
  | .le, .LtE => true
  | .gt, .Gt => true
  | .ge, .GtE => true
  | .isin, .In => true
  | .notin, .NotIn => true
  | _, _ => false
def isNB : O1 → CmpOp → Expr → Bool
  | .isN, .Is, .Constant .none _ _ => true
  | .notN, .IsNot, .Constant .none _ _ => true
  | _, _, _ => false
def idxB : O2 → Bool
  | .idx => true
  | _ => false
def bltB (G : Gm) (t : Tc) (f x : Str) : Bool := decide (f = x) && glB t.sc f && decide (f ∈ G.blt)
/-- a builtin of one argument -/
def o1B (G : Gm) (t : Tc) : O1 → Str → Bool
  | .len, f => bltB G t f "len"
  | .abs, f => bltB G t f "abs"
  | .sum, f => bltB G t f "sum"
  | .toInt, f => bltB G t f "int"
  | .toList, f => bltB G t f "list"
  | .toTup, f => bltB G t f "tuple"
  | .toStr, f => bltB G t f "str"
  | .min, f => bltB G t f "min"
  | .max, f => bltB G t f "max"
  | .sorted, f => bltB G t f "sorted"
  | _, _ => false
def o2B (G : Gm) (t : Tc) : O2 → Str → Bool
  | .min, f => bltB G t f "min"
  | .max, f => bltB G t f "max"
  | .gcd, f => decide (f = "gcd") && glB t.sc f && G.gcd
  | _, _ => false
def isiB (G : Gm) (t : Tc) (o : O1) (f n : Str) : Bool := bltB G t f "isinstance" && (match o with
  | .isInt => bltB G t n "int"
  | .isBool => bltB G t n "bool"
  | .isTup => bltB G t n "tuple"
  | .isLst => bltB G t n "list"
  | .isStr => bltB G t n "str"
  | _ => false)
def cmpish : Expr → Bool
  | .UnaryOp .Not _ _ => false
  | .BoolOp _ _ _ => false
  | .IfExp _ _ _ _ => false
  | _ => true
def subB (a b : List Nat) : Bool := a.all fun i => b.contains i
theorem sub_of {a b : List Nat} (h : subB a b = true) : ∀ i ∈ a, i ∈ b := fun i hi => by
  unfold subB at h
  simp only [List.all_eq_true] at h
  exact List.contains_iff_mem.mp (h i hi)
mutual
def chkTg (t : Tc) : Tg → Expr → Bool
  | .nm i, x => (match x with
    | .Name n _ => asB t i n
    | _ => false)
  | .tup ts, x => (match x with
    | .Tuple es _ _ => es.all notStar && chkTgs t ts es
    | _ => false)
def chkTgs (t : Tc) : Tgs → List Expr → Bool
  | .nil, [] => true
  | .cons a as, e :: es => chkTg t a e && chkTgs t as es
  | _, _ => false
end
def isTupX : Expr → Bool
  | .Tuple _ _ _ => true
  | _ => false
def fnB (G : Gm) (t : Tc) (f : Nat) (n : Str) (k : Nat) : Bool := (match G.fns[f]? with
  | some (m, ps) => decide (n = m) && decide (ps.length = k)
  | none => false) && glB t.sc n && plainB n
def methB (m : Str) (x : Str) (ap cp : Pos) : Bool := decide (m = x) && (ap.endLine == cp.line)
/-- any, all, tuple -/
def gnB (G : Gm) (t : Tc) : GK → Str → Bool
  | .any, f => bltB G t f "any"
  | .all, f => bltB G t f "all"
  | .tup, f => bltB G t f "tuple"
  | .sum, _ => false
def gxB (t : Tc) (scope : Scope) (iter : Expr) (own : List Nat) (tt : Tg) : Bool := t.gx && decide (5 ≤ t.g) && blkC t.N t.sc scope (ownL t.N own) && !scope.isCoroutine && loB scope (".0" : Str) && notFold' iter && subB tt.ix own
theorem gx_of {t : Tc} {scope : Scope} {iter : Expr} {own : List Nat} {tt : Tg} (h : gxB t scope iter own tt = true) : GxOk t scope iter own tt := by
  unfold gxB at h
  simp only [Bool.and_eq_true, Bool.not_eq_true', decide_eq_true_eq] at h
  obtain ⟨⟨⟨⟨⟨⟨h1, h2⟩, h3⟩, h4⟩, h5⟩, h6⟩, h7⟩ := h
  exact ⟨h1, h2, h3, h4, lo_of h5, h6, sub_of h7⟩
mutual
def chkE (G : Gm) (t : Tc) (e : E) (x : Expr) : Bool := match e with
  | .cst d => cstB d x
  | .glo d => (match x with
    | .Name n _ => glB t.sc n && plainB n && G.glo.any fun p => decide (p.1 = n) && dsame p.2 d
    | _ => false)
  | .var i => (match x with
    | .Name n _ => nmB t i n
    | _ => false)
  | .mv i => (match x with
    | .Name n _ => nmB t i n
    | _ => false)
  | .peek i => (match x with
    | .Name n _ => nmB t i n
    | _ => false)
  | .io i => (match x with
    | .Name n _ => nmB t i n
    | _ => false)
  | .o1 o a => (match x with
    | .UnaryOp .USub y _ => (match o with | .neg => true | _ => false) && chkE G t a y
    | .Compare y [p] [z] _ => isNB o p z && chkE G t a y
    | .Call (.Name f _) [y] [] _ => o1B G t o f && notStar y && chkE G t a y
    | .Call (.Name f _) [y, .Name n _] [] _ => isiB G t o f n && notStar y && chkE G t a y
    | _ => false)
  | .o2 o a b => (match x with
    | .BinOp y p z _ => opB o p && chkE G t a y && chkE G t b z
    | .Compare y [p] [z] _ => cmpB o p && !behindInMarks p z && chkE G t a y && chkE G t b z
    | .Subscript y z _ => idxB o && notSlice z && chkE G t a y && chkE G t b z
    | .Call (.Name f _) [y, z] [] _ => o2B G t o f && notStar y && notStar z && chkE G t a y && chkE G t b z
    | _ => false)
  | .rep a b => (match x with
    | .BinOp y .Mult z _ => chkE G t a y && chkE G t b z
    | _ => false)
  | .get3 _ _ _ => false
  | .chain o p a b d => (match x with
    | .Compare y [q, r] [z, w] _ => cmpB o q && cmpB p r && !lastMarks [q, r] [z, w] && chkE G t a y && chkE G t b z && chkE G t d w
    | _ => false)
  | .sl a lo hi => (match x with
    | .Subscript y (.Slice l h none _) _ => chkE G t a y && chkO G t lo l && chkO G t hi h
    | _ => false)
  | .rv a => (match x with
    | .Subscript y (.Slice none none (some (.UnaryOp .USub (.Constant (.int 1) _ _) _)) _) _ => chkE G t a y
    | _ => false)
  | .tup es => (match x with
    | .Tuple ys _ _ => chkEs G t es ys
    | _ => false)
  | .lst es => (match x with
    | .List ys _ => chkEs G t es ys
    | _ => false)
  | .dct es => (match es with
    | .nil => (match x with
      | .Dict [] [] _ => true
      | _ => false)
    | _ => false)
  | .and_ a b => (match x with
    | .BoolOp .And [y, z] _ => chkE G t a y && chkE G t b z
    | .BoolOp .And (y :: z :: w :: ws) p => chkE G t a y && chkE G t b (.BoolOp .And (z :: w :: ws) p)
    | _ => false)
  | .or_ a b => (match x with
    | .BoolOp .Or [y, z] _ => chkE G t a y && chkE G t b z
    | .BoolOp .Or (y :: z :: w :: ws) p => chkE G t a y && chkE G t b (.BoolOp .Or (z :: w :: ws) p)
    | _ => false)
  | .not_ a => (match x with
    | .UnaryOp .Not y _ => chkE G t a y
    | _ => false)
  | .ite q a b => (match x with
    | .IfExp w y z _ => chkT G t q w && chkE G t a y && chkE G t b z
    | _ => false)
  | .call f k es => (match x with
    | .Call (.Name n _) ys [] _ => fnB G t f n ys.length && chkA G t es ys
    | _ => false)
  | .lc tt own src ifs e => (match x with
    | .ListComp elt [⟨tg, iter, gifs, 0⟩] scope _ => chkI G t tg src iter && blkC t.N t.sc scope (ownL t.N own) && notSet iter && subB tt.ix own && chkTg (t.blk scope) tt tg && chkIf G (t.blk scope) ifs gifs && chkE G (t.blk scope) e elt
    | _ => false)
  | .gn k tt own src ifs e => (match x with
    | .Call (.Name f _) [.GeneratorExp elt [⟨tg, iter, gifs, 0⟩] scope _] [] _ => gnB G t k f && gxB t scope iter own tt && chkI G t tg src iter && chkTg (t.gen scope) tt tg && chkIf G (t.gen scope) ifs gifs && chkE G (t.gen scope) e elt
    | _ => false)
  | .lc2 _ _ _ _ _ _ _ _ _ => false
  | .pop i => (match x with
    | .Call (.Attribute (.Name n _) m ap) [] [] cp => methB m "pop" ap cp && nmB t i n
    | _ => false)
def chkT (G : Gm) (t : Tc) (q : T) (x : Expr) : Bool := match q with
  | .tt => false
  | .val e => cmpish x && chkE G t e x
  | .and_ a b => (match x with
    | .BoolOp .And [y, z] _ => chkT G t a y && chkT G t b z
    | .BoolOp .And (y :: z :: w :: ws) p => chkT G t a y && chkT G t b (.BoolOp .And (z :: w :: ws) p)
    | _ => false)
  | .or_ a b => (match x with
    | .BoolOp .Or [y, z] _ => chkT G t a y && chkT G t b z
    | .BoolOp .Or (y :: z :: w :: ws) p => chkT G t a y && chkT G t b (.BoolOp .Or (z :: w :: ws) p)
    | _ => false)
  | .not_ a => (match x with
    | .UnaryOp .Not y _ => chkT G t a y
    | _ => false)
def chkIf (G : Gm) (t : Tc) (q : T) (xs : List Expr) : Bool := match q with
  | .tt => (match xs with
    | [] => true
    | _ => false)
  | .val e => (match xs with
    | [x] => cmpish x && chkE G t e x
    | _ => false)
  | .and_ a b => (match xs with
    | [.BoolOp .And [y, z] _] => chkT G t a y && chkT G t b z
    | [.BoolOp .And (y :: z :: w :: ws) p] => chkT G t a y && chkT G t b (.BoolOp .And (z :: w :: ws) p)
    | _ => false)
  | .or_ a b => (match xs with
    | [.BoolOp .Or [y, z] _] => chkT G t a y && chkT G t b z
    | [.BoolOp .Or (y :: z :: w :: ws) p] => chkT G t a y && chkT G t b (.BoolOp .Or (z :: w :: ws) p)
    | _ => false)
  | .not_ a => (match xs with
    | [.UnaryOp .Not y _] => chkT G t a y
    | _ => false)
def chkEs (G : Gm) (t : Tc) (es : Es) (xs : List Expr) : Bool := match es with
  | .nil => (match xs with
    | [] => true
    | _ => false)
  | .cons e es => (match xs with
    | x :: xs => notStar x && chkE G t e x && chkEs G t es xs
    | _ => false)
  | .star e es => (match xs with
    | .Starred x _ :: xs => chkE G t e x && chkEs G t es xs
    | _ => false)
def chkA (G : Gm) (t : Tc) (es : Es) (xs : List Expr) : Bool := match es with
  | .nil => (match xs with
    | [] => true
    | _ => false)
  | .cons e es => (match xs with
    | x :: xs => notStar x && chkE G t e x && chkA G t es xs
    | _ => false)
  | .star _ _ => false
def chkO (G : Gm) (t : Tc) (o : Oe) (x : Option Expr) : Bool := match o with
  | .no => (match x with
    | none => true
    | _ => false)
  | .so e => (match x with
    | some y => chkE G t e y
    | none => false)
def chkI (G : Gm) (t : Tc) (tg : Expr) (i : I) (x : Expr) : Bool := match i with
  | .seq e => chkE G t e x
  | .rng1 a => (match x with
    | .Call (.Name f _) [y] [] _ => bltB G t f "range" && notStar y && chkE G t a y
    | _ => false)
  | .rng2 a b => (match x with
    | .Call (.Name f _) [y, z] [] _ => bltB G t f "range" && notStar y && notStar z && chkE G t a y && chkE G t b z
    | _ => false)
  | .zip a b => (match x with
    | .Call (.Name f _) [y, z] [] _ => isTupX tg && bltB G t f "zip" && notStar y && notStar z && chkE G t a y && chkE G t b z
    | _ => false)
  | .enum a => (match x with
    | .Call (.Name f _) [y] [] _ => isTupX tg && bltB G t f "enumerate" && notStar y && chkE G t a y
    | _ => false)
  | .rev a => (match x with
    | .Call (.Name f _) [y] [] _ => bltB G t f "reversed" && notStar y && chkE G t a y
    | _ => false)
  | _ => false
end

section
variable {X : Cx} {G : Gm} {T : List Addr} {c : Cl} {lv : Nat} {t : Tc} {pos : Pos}
theorem cst_ok {d : D} {x : Expr} (h : cstB d x = true) : PE X x (tE X.K T c (.cst d)) := by
  unfold cstB at h
  split at h
  · cases of_decide_eq_true h; exact e_int
  · simp only [beq_iff_eq] at h; subst h; exact e_bl
  · exact e_non
  · cases of_decide_eq_true h; exact e_str
  · cases h
theorem op_ok {o : O2} {p : Operator} (h : opB o p = true) : OpR X (binaryOp p) (rD2 X.K (ap2 o)) := by
  unfold opB at h
  split at h
  · exact add_ok
  · exact sub_ok
  · exact mul_ok
  · exact fdiv_ok
  · exact mod_ok
  · exact pow_ok
  · cases h
theorem ip_ok {o : O2} {p : Operator} (h : ipB o p = true) : OpR X (inplaceOp p) (rD2 X.K (apI o)) := by
  unfold ipB at h
  split at h
  · exact iadd_okI
  · exact isub_okI
  · exact imul_okI
  · exact ifdiv_okI
  · exact imod_okI
  · cases h
theorem cmp_ok {o : O2} {p : CmpOp} (r : Room lv X.A) (h : cmpB o p = true) : OpR X (compareOp p) (rD2 X.K (ap2 o)) ∧ ∀ d e q, ap2 o d e = some q → ∃ b, q = (false, .bl b) := by
  have hu := r.units
  have hu0 := r.units0
  have hu65 : X.A.units + 65 < cLine := by have := r.un; omega
  unfold cmpB at h
  split at h <;> first
    | exact ⟨eq_ok hu, cmp_bl (by simp)⟩
    | exact ⟨ne_ok hu, cmp_bl (by simp)⟩
    | exact ⟨lt_ok hu0, cmp_bl (by simp)⟩
    | exact ⟨le_ok, cmp_bl (by simp)⟩
    | exact ⟨gt_ok, cmp_bl (by simp)⟩
    | exact ⟨ge_ok, cmp_bl (by simp)⟩
    | exact ⟨isin_ok hu65, cmp_bl (by simp)⟩
    | exact ⟨notin_ok hu65, cmp_bl (by simp)⟩
    | cases h
theorem blt_of (C : Ctx X G T c lv t) {f x : Str} (h : bltB G t f x = true) : f = x ∧ Gl X x ∧ X.mg x = none := by
  unfold bltB at h
  simp only [Bool.and_eq_true, decide_eq_true_eq] at h
  obtain ⟨⟨rfl, h2⟩, h3⟩ := h
  exact ⟨rfl, gl_of C.hs h2, C.blt _ h3⟩
theorem o1_ok (C : Ctx X G T c lv t) {o : O1} {f : Str} {a : Expr} {ea : E} {p : Pos} (h : o1B G t o f = true) (hs : notStar a = true) (ha : PE X a (tE X.K T c ea)) : PE X (.Call (.Name f p) [a] [] pos) (tE X.K T c (.o1 o ea)) := by
  unfold o1B at h
  split at h
  · obtain ⟨rfl, h2, h3⟩ := blt_of C h
    exact e_blt1 (id := "len") len_ok h2 h3 (by decide +kernel) ha hs (by decide) (by decide)
  · obtain ⟨rfl, h2, h3⟩ := blt_of C h
    exact e_blt1 (id := "abs") abs_ok h2 h3 (by decide +kernel) ha hs (by decide) (by decide)
  · obtain ⟨rfl, h2, h3⟩ := blt_of C h
    exact e_blt1 (id := "sum") (sum_ok C.calm) h2 h3 (by decide +kernel) ha hs (by decide) (by decide)
  · obtain ⟨rfl, h2, h3⟩ := blt_of C h
    exact e_typ1 (id := "int") int_ok h2 h3 (by decide +kernel) ha hs (by decide) (by decide)
  · obtain ⟨rfl, h2, h3⟩ := blt_of C h
    exact e_typ1 (id := "list") list_ok h2 h3 (by decide +kernel) ha hs (by decide) (by decide)
  · obtain ⟨rfl, h2, h3⟩ := blt_of C h
    exact e_typ1 (id := "tuple") tuple_ok h2 h3 (by decide +kernel) ha hs (by decide) (by decide)
  · obtain ⟨rfl, h2, h3⟩ := blt_of C h
    exact e_typ1 (id := "str") str_ok h2 h3 (by decide +kernel) ha hs (by decide) (by decide)
  · obtain ⟨rfl, h2, h3⟩ := blt_of C h
    exact e_blt1 (id := "min") (minL_ok C.calm) h2 h3 (by decide +kernel) ha hs (by decide) (by decide)
  · obtain ⟨rfl, h2, h3⟩ := blt_of C h
    exact e_blt1 (id := "max") (maxL_ok C.calm) h2 h3 (by decide +kernel) ha hs (by decide) (by decide)
  · obtain ⟨rfl, h2, h3⟩ := blt_of C h
    exact e_blt1 (id := "sorted") sorted_ok h2 h3 (by decide +kernel) ha hs (by decide) (by decide)
  · cases h
theorem isi_ok (C : Ctx X G T c lv t) {o : O1} {f n : Str} {a : Expr} {ea : E} {p q : Pos} (h : isiB G t o f n = true) (hs : notStar a = true) (ha : PE X a (tE X.K T c ea)) : PE X (.Call (.Name f p) [a, .Name n q] [] pos) (tE X.K T c (.o1 o ea)) := by
  unfold isiB at h
  simp only [Bool.and_eq_true] at h
  obtain ⟨h, h'⟩ := h
  obtain ⟨rfl, h2, h3⟩ := blt_of C h
  split at h'
  · obtain ⟨rfl, h5, h6⟩ := blt_of C h'
    exact e_isi (n := "int") rfl h2 h3 h5 h6 (by decide +kernel) (by decide) (by decide) ha hs
  · obtain ⟨rfl, h5, h6⟩ := blt_of C h'
    exact e_isi (n := "bool") rfl h2 h3 h5 h6 (by decide +kernel) (by decide) (by decide) ha hs
  · obtain ⟨rfl, h5, h6⟩ := blt_of C h'
    exact e_isi (n := "tuple") rfl h2 h3 h5 h6 (by decide +kernel) (by decide) (by decide) ha hs
  · obtain ⟨rfl, h5, h6⟩ := blt_of C h'
    exact e_isi (n := "list") rfl h2 h3 h5 h6 (by decide +kernel) (by decide) (by decide) ha hs
  · obtain ⟨rfl, h5, h6⟩ := blt_of C h'
    exact e_isi (n := "str") rfl h2 h3 h5 h6 (by decide +kernel) (by decide) (by decide) ha hs
  · cases h'
theorem o2_ok (C : Ctx X G T c lv t) {o : O2} {f : Str} {a b : Expr} {ea eb : E} {p : Pos} (h : o2B G t o f = true) (hs : notStar a = true) (hs2 : notStar b = true) (ha : PE X a (tE X.K T c ea)) (hb : PE X b (tE X.K T c eb)) :
    PE X (.Call (.Name f p) [a, b] [] pos) (tE X.K T c (.o2 o ea eb)) := by
  unfold o2B at h
  split at h
  · obtain ⟨rfl, h2, h3⟩ := blt_of C h
    exact e_blt2 (id := "min") (min2_ok C.calm) h2 h3 (by decide +kernel) ha hb hs hs2 (by decide) (by decide)
  · obtain ⟨rfl, h2, h3⟩ := blt_of C h
    exact e_blt2 (id := "max") (max2_ok C.calm) h2 h3 (by decide +kernel) ha hb hs hs2 (by decide) (by decide)
  · simp only [Bool.and_eq_true, decide_eq_true_eq] at h
    obtain ⟨⟨rfl, h2⟩, h3⟩ := h
    exact e_imp2 (id := "math.gcd") gcd_ok (gl_of C.hs h2) (C.gcd h3) ha hb hs hs2 (by decide)
  · cases h
mutual
theorem chkTg_ok (C : Ctx X G T c lv t) : ∀ (a : Tg) (x : Expr), chkTg t a x = true → PG X x (tG X.K T a)
  | .nm i, x, h => by
    unfold chkTg at h
    split at h
    · obtain ⟨k1, k2, k3⟩ := as_of C h
      exact g_nm C.nd' k1 k2 k3
    · cases h
  | .tup ts, x, h => by
    unfold chkTg at h
    split at h
    · rename_i es _ _
      simp only [Bool.and_eq_true] at h
      obtain ⟨k1, k2⟩ := chkTgs_ok C ts es h.2 h.1
      exact g_tup C.calm k1 h.1 k2
    · cases h
theorem chkTgs_ok (C : Ctx X G T c lv t) : ∀ (ts : Tgs) (es : List Expr), chkTgs t ts es = true → es.all notStar = true → PGs X es (tGs X.K T ts) ∧ es.length = ts.len
  | .nil, es, h, hs => by
    cases es with
    | nil => exact ⟨gs_nil', rfl⟩
    | cons _ _ => unfold chkTgs at h; cases h
  | .cons a as, es, h, hs => by
    cases es with
    | nil => unfold chkTgs at h; cases h
    | cons e es =>
      unfold chkTgs at h
      simp only [Bool.and_eq_true] at h
      simp only [List.all_cons, Bool.and_eq_true] at hs
      obtain ⟨k1, k2⟩ := chkTgs_ok C as es h.2 hs.2
      exact ⟨gs_cons' (chkTg_ok C a e h.1) k1 hs.1, by show es.length + 1 = as.len + 1; rw [k2]⟩
end
theorem chkA_len {G : Gm} {t : Tc} {c : Cl} : ∀ (es : Es) (xs : List Expr), chkA G t es xs = true → (∀ ρ rs ρ', evA c es ρ = some (rs, ρ') → rs.length = xs.length) ∧ xs.all notStar = true
  | .nil, xs, h => by
    unfold chkA at h
    split at h
    · refine ⟨fun ρ rs ρ' e => ?_, rfl⟩
      simp only [evA] at e
      cases e
      rfl
    · cases h
  | .cons e es, xs, h => by
    unfold chkA at h
    split at h
    · rename_i x xs
      simp only [Bool.and_eq_true] at h
      obtain ⟨k1, k2⟩ := chkA_len es xs h.2
      refine ⟨fun ρ rs ρ' e => ?_, by simp only [List.all_cons, Bool.and_eq_true]; exact ⟨h.1.1, k2⟩⟩
      simp only [evA] at e
      split at e
      · split at e
        · rename_i q
          cases e
          rw [List.length_cons, List.length_cons, k1 _ _ _ q]
        · cases e
      · cases e
    · cases h
  | .star _ _, xs, h => by
    unfold chkA at h
    cases h
theorem calls {f : Nat} {k : Option Nat} {es : Es} {n : Str} {ys : List Expr} {p : Pos} (C : Ctx X G T c lv t) (hf : fnB G t f n ys.length = true) (hl : chkA G t es ys = true) (ha : PA X ys (tA X.K T c es)) :
    PE X (.Call (.Name n p) ys [] pos) (tE X.K T c (.call f k es)) := by
  unfold fnB at hf
  simp only [Bool.and_eq_true] at hf
  obtain ⟨⟨h1, h2⟩, h3⟩ := hf
  split at h1
  · rename_i m ps e
    simp only [Bool.and_eq_true, decide_eq_true_eq] at h1
    obtain ⟨rfl, h5⟩ := h1
    obtain ⟨a, fd, k1, k2, k3, k4⟩ := C.fn f n ps e
    obtain ⟨l1, l2⟩ := chkA_len (c := c) es ys hl
    obtain ⟨d1, _, _⟩ := plain_of h3
    have step : ∀ σ H Q, tE X.K T c (.call f k es) σ H Q → tCall (spOf X.K T c f ps.length) [] E0 (tA X.K T c es) σ H Q := fun σ H Q h => by
      unfold tCall
      exact call_step (np := ps.length) (fun ρ rs ρ' e => (l1 ρ rs ρ' e).trans h5.symm) h
    cases ys with
    | nil =>
      cases es with
      | nil =>
        refine PE.imp (pe_call0 (E := E0) k4 C.rm (gl_of C.hs h2) k1 k2 k3 .nil pass0 d1) fun σ H Q h => ?_
        obtain ⟨F, ρ, rs, ρ', ok, ev, q⟩ := step σ H Q h
        simp only [evA] at ev
        cases ev
        exact q [] F H ⟨ok, Stp.refl, rfl, fun j r v e => by simp at e, fun j d a e => by simp at e, fun i j d e a h => by simp at h⟩
      | cons _ _ => unfold chkA at hl; cases hl
      | star _ _ => unfold chkA at hl; cases hl
    | cons y ys =>
      simp only [List.all_cons, Bool.and_eq_true] at l2
      exact PE.imp (pe_call (E := E0) k4 C.rm (gl_of C.hs h2) k1 k2 k3 .nil pass0 ha d1 (star_cons l2.1) (back_any (stars_none l2.2))) step
  · cases h1
end
end NW
namespace NW
open PySem PySem.Spec PyProof.Rows L2

theorem cmpish_plain {x : Expr} (h : cmpish x = true) (n : ∀ a b d p, x ≠ .Compare a b d p) : plainT x = true := by
  cases x <;> first | rfl | (simp [cmpish] at h; done) | exact (n _ _ _ _ rfl).elim | skip
  rename_i o a p
  cases o <;> first | rfl | (simp [cmpish] at h)
def Both (X : Cx) (T : List Addr) (c : Cl) (e : E) (x : Expr) : Prop := PE X x (tE X.K T c e) ∧ (cmpish x = true → PT X x (tTr X.K (tE X.K T c e)))
section
variable {X : Cx} {T : List Addr} {c : Cl} {e : E} {x : Expr}
theorem Both.of (h : PE X x (tE X.K T c e)) (n : ∀ a b d p, x ≠ .Compare a b d p) : Both X T c e x := ⟨h, fun k => t_truth h (cmpish_plain k n)⟩
end
/-- the theorem for one depth of calls, all places -/
def IfOk (X : Cx) (T : List Addr) (c : Cl) (q : NW.T) (xs : List Expr) : Prop := PTs X xs (tT X.K T c q)
mutual
theorem chkE_ok {G : Gm} {T : List Addr} {c : Cl} {lv : Nat} (e : E) : ∀ {X : Cx} {t : Tc} {x : Expr}, Ctx X G T c lv t → chkE G t e x = true → Both X T c e x := by
  intro X t x C h
  cases e with
  | cst d =>
    unfold chkE at h
    exact ⟨cst_ok h, fun _ => t_truth (cst_ok h) (by
      unfold cstB at h
      split at h <;> first | rfl | cases h)⟩
  | glo d =>
    unfold chkE at h
    split at h
    · simp only [Bool.and_eq_true, List.any_eq_true, decide_eq_true_eq] at h
      obtain ⟨⟨h1, h2⟩, ⟨n, d'⟩, h3, h4, h5⟩ := h
      obtain ⟨k1, _, _⟩ := plain_of h2
      cases dsame_eq _ _ h5
      subst h4
      obtain ⟨u, v, m1, m2, m3⟩ := C.glo _ _ h3
      exact .of (e_glo (gl_of C.hs h1) m1 m2 m3 k1) (by intros; simp)
    · cases h
  | var i =>
    unfold chkE at h
    split at h
    · obtain ⟨k1, k2, k3, k4⟩ := nm_of C h
      exact .of (e_var k1 k2 k3 k4) (by intros; simp)
    · cases h
  | mv i =>
    unfold chkE at h
    split at h
    · obtain ⟨k1, k2, k3, k4⟩ := nm_of C h
      exact .of (e_mv k1 k2 k3 k4) (by intros; simp)
    · cases h
  | peek i =>
    unfold chkE at h
    split at h
    · obtain ⟨k1, k2, k3, k4⟩ := nm_of C h
      exact .of (e_peek k1 k2 k3 k4) (by intros; simp)
    · cases h
  | io i =>
    unfold chkE at h
    split at h
    · obtain ⟨k1, k2, k3, k4⟩ := nm_of C h
      exact .of (e_io k1 k2 k3 k4) (by intros; simp)
    · cases h
  | o1 o a =>
    unfold chkE at h
    split at h
    · simp only [Bool.and_eq_true] at h
      split at h
      · exact .of (e_neg (chkE_ok a C h.2).1) (by intros; simp)
      · cases h.1
    · simp only [Bool.and_eq_true] at h
      have ha := (chkE_ok a C h.2).1
      have h1 := h.1
      unfold isNB at h1
      split at h1
      · exact ⟨e_isN ha, fun _ => t_isN ha⟩
      · exact ⟨e_notN ha, fun _ => t_notN ha⟩
      · cases h1
    · simp only [Bool.and_eq_true] at h
      exact .of (o1_ok C h.1.1 h.1.2 (chkE_ok a C h.2).1) (by intros; simp)
    · simp only [Bool.and_eq_true] at h
      exact .of (isi_ok C h.1.1 h.1.2 (chkE_ok a C h.2).1) (by intros; simp)
    · cases h
  | o2 o a b =>
    unfold chkE at h
    split at h
    · simp only [Bool.and_eq_true] at h
      exact .of (e_bin (op_ok h.1.1) (chkE_ok a C h.1.2).1 (chkE_ok b C h.2).1) (by intros; simp)
    · simp only [Bool.and_eq_true, Bool.not_eq_true'] at h
      obtain ⟨k1, k2⟩ := cmp_ok C.rm h.1.1.1
      have ha := (chkE_ok a C h.1.2).1
      have hb := (chkE_ok b C h.2).1
      exact ⟨e_cmp k1 ha hb h.1.1.2, fun _ => t_cmp k1 k2 ha hb h.1.1.2⟩
    · simp only [Bool.and_eq_true] at h
      have h1 := h.1.1.1
      unfold idxB at h1
      split at h1
      · exact .of (e_idx (chkE_ok a C h.1.2).1 (chkE_ok b C h.2).1 (plainIx_of h.1.1.2)) (by intros; simp)
      · cases h1
    · simp only [Bool.and_eq_true] at h
      exact .of (o2_ok C h.1.1.1.1 h.1.1.1.2 h.1.1.2 (chkE_ok a C h.1.2).1 (chkE_ok b C h.2).1) (by intros; simp)
    · cases h
  | rep a b =>
    unfold chkE at h
    split at h
    · simp only [Bool.and_eq_true] at h
      exact .of (e_rep (chkE_ok a C h.1).1 (chkE_ok b C h.2).1) (by intros; simp)
    · cases h
  | get3 a k d => unfold chkE at h; cases h
  | chain o p a b d =>
    unfold chkE at h
    split at h
    · simp only [Bool.and_eq_true, Bool.not_eq_true'] at h
      obtain ⟨k1, k2⟩ := cmp_ok C.rm h.1.1.1.1.1
      obtain ⟨k3, k4⟩ := cmp_ok C.rm h.1.1.1.1.2
      obtain ⟨r1, r2⟩ := e_chain k1 k3 (chkE_ok a C h.1.1.2).1 (chkE_ok b C h.1.2).1 (chkE_ok d C h.2).1 h.1.1.1.2
      exact ⟨r1, fun _ => r2⟩
    · cases h
  | sl a lo hi =>
    unfold chkE at h
    split at h
    · simp only [Bool.and_eq_true] at h
      exact .of (e_sl (chkE_ok a C h.1.1).1 (chkO_ok lo C h.1.2) (chkO_ok hi C h.2)) (by intros; simp)
    · cases h
  | rv a =>
    unfold chkE at h
    split at h
    · exact .of (e_rv (chkE_ok a C h).1) (by intros; simp)
    · cases h
  | tup es =>
    unfold chkE at h
    split at h
    · exact .of (e_tup (chkEs_ok es C h)) (by intros; simp)
    · cases h
  | lst es =>
    unfold chkE at h
    split at h
    · exact .of (e_lst (chkEs_ok es C h)) (by intros; simp)
    · cases h
  | dct es =>
    unfold chkE at h
    split at h
    · split at h
      · exact .of e_dct0 (by intros; simp)
      · cases h
    · cases h
  | and_ a b =>
    unfold chkE at h
    split at h
    · simp only [Bool.and_eq_true] at h
      exact .of (e_and (chkE_ok a C h.1).1 (e_one (chkE_ok b C h.2).1)) (by intros; simp)
    · simp only [Bool.and_eq_true] at h
      exact .of (e_and (chkE_ok a C h.1).1 (chkE_ok b C h.2).1) (by intros; simp)
    · cases h
  | or_ a b =>
    unfold chkE at h
    split at h
    · simp only [Bool.and_eq_true] at h
      exact .of (e_or (chkE_ok a C h.1).1 (e_one (chkE_ok b C h.2).1)) (by intros; simp)
    · simp only [Bool.and_eq_true] at h
      exact .of (e_or (chkE_ok a C h.1).1 (chkE_ok b C h.2).1) (by intros; simp)
    · cases h
  | not_ a =>
    unfold chkE at h
    split at h
    · exact ⟨e_not (chkE_ok a C h).1, fun k => by simp [cmpish] at k⟩
    · cases h
  | ite q a b =>
    unfold chkE at h
    split at h
    · simp only [Bool.and_eq_true] at h
      exact ⟨e_ite (chkT_ok q C h.1.1) (chkE_ok a C h.1.2).1 (chkE_ok b C h.2).1, fun k => by simp [cmpish] at k⟩
    · cases h
  | call f k es =>
    unfold chkE at h
    split at h
    · simp only [Bool.and_eq_true] at h
      exact .of (calls C h.1 h.2 (chkA_ok es C h.2)) (by intros; simp)
    · cases h
  | lc tt own src ifs e =>
    unfold chkE at h
    split at h
    · simp only [Bool.and_eq_true] at h
      obtain ⟨⟨⟨⟨⟨⟨h1, h2⟩, h3⟩, h4⟩, h5⟩, h6⟩, h7⟩ := h
      have hk := (blkOk_by h2).kind
      exact .of (e_lc C (chkI_ok src C h1) h2 h3 (fun s H D cl fp => chkTg_ok (C.blk hk) tt _ h5) (fun s H D cl fp => chkIf_ok ifs (C.blk hk) h6) (fun s H D cl fp => (chkE_ok e (C.blk hk) h7).1) (sub_of h4)) (by intros; simp)
    · cases h
  | gn k tt own src ifs e =>
    unfold chkE at h
    split at h
    · simp only [Bool.and_eq_true] at h
      obtain ⟨⟨⟨⟨⟨h1, h2⟩, h3⟩, h4⟩, h5⟩, h6⟩ := h
      have O := gx_of h2
      have hk := (blkOk_by O.blk).kind
      have B : ∀ it ps, GxB X lv _ _ it _ _ ps (tG X.K T tt) (tT X.K T c ifs) (tE X.K T c e) := fun it ps => ⟨fun A s H cenv fp pn hr hce => chkTg_ok (C.gx hk hr hce) tt _ h4, fun A s H cenv fp pn hr hce => chkIf_ok ifs (C.gx hk hr hce) h5, fun A s H cenv fp pn hr hce => (chkE_ok e (C.gx hk hr hce) h6).1⟩
      unfold gnB at h1
      split at h1
      · obtain ⟨rfl, g1, g2⟩ := blt_of C h1
        exact .of (e_any C O g1 g2 (chkI_ok src C h3) (B _ _)) (by intros; simp)
      · obtain ⟨rfl, g1, g2⟩ := blt_of C h1
        exact .of (e_all C O g1 g2 (chkI_ok src C h3) (B _ _)) (by intros; simp)
      · obtain ⟨rfl, g1, g2⟩ := blt_of C h1
        exact .of (e_tupG C O g1 g2 (chkI_ok src C h3) (B _ _)) (by intros; simp)
      · cases h1
    · cases h
  | lc2 _ _ _ _ _ _ _ _ _ => unfold chkE at h; cases h
  | pop i =>
    unfold chkE at h
    split at h
    · simp only [Bool.and_eq_true] at h
      obtain ⟨h1, h2⟩ := h
      unfold methB at h1
      simp only [Bool.and_eq_true, decide_eq_true_eq] at h1
      obtain ⟨rfl, h4⟩ := h1
      obtain ⟨k1, k2, k3, k4⟩ := nm_of C h2
      exact .of (e_pop k1 k2 k3 k4 h4) (by intros; simp)
    · cases h
theorem chkT_ok {G : Gm} {T : List Addr} {c : Cl} {lv : Nat} (q : NW.T) : ∀ {X : Cx} {t : Tc} {x : Expr}, Ctx X G T c lv t → chkT G t q x = true → PT X x (tT X.K T c q) := by
  intro X t x C h
  cases q with
  | tt => unfold chkT at h; cases h
  | val e =>
    unfold chkT at h
    simp only [Bool.and_eq_true] at h
    exact t_val ((chkE_ok e C h.2).2 h.1)
  | and_ a b =>
    unfold chkT at h
    split at h
    · simp only [Bool.and_eq_true] at h
      exact t_and2 (chkT_ok a C h.1) (chkT_ok b C h.2)
    · simp only [Bool.and_eq_true] at h
      exact t_and (chkT_ok a C h.1) (chkT_ok b C h.2)
    · cases h
  | or_ a b =>
    unfold chkT at h
    split at h
    · simp only [Bool.and_eq_true] at h
      exact t_or2 (chkT_ok a C h.1) (chkT_ok b C h.2)
    · simp only [Bool.and_eq_true] at h
      exact t_or (chkT_ok a C h.1) (chkT_ok b C h.2)
    · cases h
  | not_ a =>
    unfold chkT at h
    split at h
    · exact t_not (chkT_ok a C h)
    · cases h
theorem chkIf_ok {G : Gm} {T : List Addr} {c : Cl} {lv : Nat} (q : NW.T) : ∀ {X : Cx} {t : Tc} {xs : List Expr}, Ctx X G T c lv t → chkIf G t q xs = true → PTs X xs (tT X.K T c q) := by
  intro X t x C h
  cases q with
  | tt =>
    unfold chkIf at h
    split at h
    · exact pts_tt
    · cases h
  | val e =>
    unfold chkIf at h
    split at h
    · simp only [Bool.and_eq_true] at h
      exact pts_one (t_val ((chkE_ok e C h.2).2 h.1))
    · cases h
  | and_ a b =>
    unfold chkIf at h
    split at h
    · simp only [Bool.and_eq_true] at h
      exact pts_one (t_and2 (chkT_ok a C h.1) (chkT_ok b C h.2))
    · simp only [Bool.and_eq_true] at h
      exact pts_one (t_and (chkT_ok a C h.1) (chkT_ok b C h.2))
    · cases h
  | or_ a b =>
    unfold chkIf at h
    split at h
    · simp only [Bool.and_eq_true] at h
      exact pts_one (t_or2 (chkT_ok a C h.1) (chkT_ok b C h.2))
    · simp only [Bool.and_eq_true] at h
      exact pts_one (t_or (chkT_ok a C h.1) (chkT_ok b C h.2))
    · cases h
  | not_ a =>
    unfold chkIf at h
    split at h
    · exact pts_one (t_not (chkT_ok a C h))
    · cases h
theorem chkEs_ok {G : Gm} {T : List Addr} {c : Cl} {lv : Nat} (es : Es) : ∀ {X : Cx} {t : Tc} {xs : List Expr}, Ctx X G T c lv t → chkEs G t es xs = true → PA X xs (tEs X.K T c es) := by
  intro X t xs C h
  cases es with
  | nil =>
    unfold chkEs at h
    split at h
    · exact es_nil
    · cases h
  | cons e es =>
    unfold chkEs at h
    split at h
    · simp only [Bool.and_eq_true] at h
      exact es_cons (chkE_ok e C h.1.2).1 (chkEs_ok es C h.2) h.1.1
    · cases h
  | star e es =>
    unfold chkEs at h
    split at h
    · simp only [Bool.and_eq_true] at h
      exact es_star (chkE_ok e C h.1).1 (chkEs_ok es C h.2)
    · cases h
theorem chkA_ok {G : Gm} {T : List Addr} {c : Cl} {lv : Nat} (es : Es) : ∀ {X : Cx} {t : Tc} {xs : List Expr}, Ctx X G T c lv t → chkA G t es xs = true → PA X xs (tA X.K T c es) := by
  intro X t xs C h
  cases es with
  | nil =>
    unfold chkA at h
    split at h
    · exact a_nil
    · cases h
  | cons e es =>
    unfold chkA at h
    split at h
    · simp only [Bool.and_eq_true] at h
      exact a_cons (chkE_ok e C h.1.2).1 (chkA_ok es C h.2) h.1.1
    · cases h
  | star e es => unfold chkA at h; cases h
theorem chkO_ok {G : Gm} {T : List Addr} {c : Cl} {lv : Nat} (o : Oe) : ∀ {X : Cx} {t : Tc} {x : Option Expr}, Ctx X G T c lv t → chkO G t o x = true → PO X x (tO X.K T c o) := by
  intro X t x C h
  cases o with
  | no =>
    unfold chkO at h
    split at h
    · exact o_none
    · cases h
  | so e =>
    unfold chkO at h
    split at h
    · exact o_some (chkE_ok e C h).1
    · cases h
theorem chkI_ok {G : Gm} {T : List Addr} {c : Cl} {lv : Nat} (i : I) : ∀ {X : Cx} {t : Tc} {x tg : Expr}, Ctx X G T c lv t → chkI G t tg i x = true → PI X tg x (tI X.K T c i) := by
  intro X t x tg C h
  cases i with
  | seq e =>
    unfold chkI at h
    exact i_seq (chkE_ok e C h).1
  | rng1 a =>
    unfold chkI at h
    split at h
    · simp only [Bool.and_eq_true] at h
      obtain ⟨rfl, h2, h3⟩ := blt_of C h.1.1
      exact i_rng1 (chkE_ok a C h.2).1 h2 h3 h.1.2
    · cases h
  | rng2 a b =>
    unfold chkI at h
    split at h
    · simp only [Bool.and_eq_true] at h
      obtain ⟨rfl, h2, h3⟩ := blt_of C h.1.1.1.1
      exact i_rng2 (chkE_ok a C h.1.2).1 (chkE_ok b C h.2).1 h2 h3 h.1.1.1.2 h.1.1.2
    · cases h
  | rng3 a b d => unfold chkI at h; cases h
  | zip a b =>
    unfold chkI at h
    split at h
    · simp only [Bool.and_eq_true] at h
      obtain ⟨rfl, h2, h3⟩ := blt_of C h.1.1.1.1.2
      cases tg with
      | Tuple es k tp => exact i_zip (chkE_ok a C h.1.2).1 (chkE_ok b C h.2).1 h2 h3 h.1.1.1.2 h.1.1.2
      | _ => exact (Bool.false_ne_true h.1.1.1.1.1).elim
    · cases h
  | enum a =>
    unfold chkI at h
    split at h
    · simp only [Bool.and_eq_true] at h
      obtain ⟨rfl, h2, h3⟩ := blt_of C h.1.1.2
      cases tg with
      | Tuple es k tp => exact i_enum (chkE_ok a C h.2).1 h2 h3 h.1.2
      | _ => exact (Bool.false_ne_true h.1.1.1).elim
    · cases h
  | enumK a b => unfold chkI at h; cases h
  | rev a =>
    unfold chkI at h
    split at h
    · simp only [Bool.and_eq_true] at h
      obtain ⟨rfl, h2, h3⟩ := blt_of C h.1.1
      exact i_rev (chkE_ok a C h.2).1 h2 h3 h.1.2
    · cases h
  | items a => unfold chkI at h; cases h
  | vals a => unfold chkI at h; cases h
end
end NW
namespace NW
open PySem PySem.Spec PyProof.Rows L2

def notComp : Expr → Bool
  | .ListComp _ _ _ _ => false
  | .SetComp _ _ _ _ => false
  | .DictComp _ _ _ _ _ => false
  | _ => true
theorem sw_no {y : Expr} {tg : Option Expr} {l : Nat} {env : Env} (h : notComp y = true) : swapsWith y tg l env = pure false := by
  cases y <;> first | rfl | (simp [notComp] at h)
/-- whether name = [..] stores before the block's names come back -/
def swB (t : Tc) (scope : Scope) (y : Str) (py p : Pos) : Bool := loB t.sc y && (py.line == p.line) && !(scope.names.any fun (n, k) => n == y && (k == .local || k == .cell))
theorem sw_false {elt : Expr} {gs : List Comprehension} {scope : Scope} {pos py : Pos} {y : Str} {l : Nat} {env : Env} {t : Tc} (hs : env.scope = t.sc) (h : swB t scope y py pos = false) :
    swapsWith (.ListComp elt gs scope pos) (some (.Name y py)) l env = pure false := by
  have e : (env.blockKind == .function && env.kindOf y == some .local && py.line == (Expr.ListComp elt gs scope pos).pos.line && !(scope.names.any fun (n, k) => n == y && (k == .local || k == .cell))) = false := by
    cases q : (env.blockKind == .function && env.kindOf y == some .local && py.line == (Expr.ListComp elt gs scope pos).pos.line && !(scope.names.any fun (n, k) => n == y && (k == .local || k == .cell))) with
    | false => rfl
    | true =>
      simp only [Bool.and_eq_true] at q
      obtain ⟨⟨⟨q1, q2⟩, q3⟩, q4⟩ := q
      have e2 : env.kindOf y = some .local := by simpa using q2
      unfold Env.kindOf at e2
      rw [hs] at e2
      have : loB t.sc y = true := by unfold loB; rw [e2]
      unfold swB at h
      rw [this, q4, show (py.line == pos.line) = true from q3] at h
      cases h
  show (pure _ : Sem Bool) = pure false
  rw [← e]
def isName : Expr → Bool
  | .Name _ _ => true
  | _ => false
def stars (vs : List Expr) : Bool := vs.any fun | .Starred .. => true | _ => false
/-- the stores of (..) = .. go from the left -/
def swNone (ts : List Expr) (y : Expr) : Bool := match y with
  | .Tuple vs _ _ => !(ts.length == 2 || ts.length == 3) || vs.length != ts.length || (!stars vs && !(ts.all isName)) || vs.all (foldedForSure 8)
  | _ => true
theorem names_len {env : Env} {line : Nat} : ∀ (ts : List Expr), ts.all isName = false → (ts.filterMap fun
    | .Name id pos => if env.kindOf id == some .local && pos.line == line then some id else none
    | _ => none).length ≠ ts.length := by
  have le : ∀ (ts : List Expr), (ts.filterMap fun
    | .Name id pos => if env.kindOf id == some .local && pos.line == line then some id else none
    | _ => none).length ≤ ts.length := fun ts => List.length_filterMap_le _ _
  intro ts
  induction ts with
  | nil => intro h; cases h
  | cons e es ih =>
    intro h
    simp only [List.all_cons, Bool.and_eq_false_iff] at h
    rw [List.filterMap_cons]
    split
    · have := le es
      rw [List.length_cons]
      omega
    · rename_i b hb
      rcases h with h | h
      · cases e <;> first | (simp at hb; done) | (simp [isName] at h)
      · have := ih h
        rw [List.length_cons, List.length_cons]
        omega
theorem sw_none {ts : List Expr} {y : Expr} {k : Nat} {p : Pos} {env : Env} (h : swNone ts y = true) : swappedStores [.Tuple ts k p] y env = pure none := by
  cases y <;> first | rfl | skip
  rename_i vs k2 p2
  unfold swNone at h
  simp only [Bool.or_eq_true, Bool.and_eq_true] at h
  show (if (!(ts.length == 2 || ts.length == 3) || vs.length != ts.length || env.blockKind != .function) = true then (return none : Sem (Option (List Str))) else _) = _
  by_cases h1 : (!(ts.length == 2 || ts.length == 3) || vs.length != ts.length || env.blockKind != .function) = true
  · rw [if_pos h1]
  · rw [if_neg h1]
    simp only [Bool.or_eq_true, not_or] at h1
    by_cases hfold : vs.all (foldedForSure 8) = true
    · show (if (vs.any fun | .Starred .. => true | _ => false) = true then (return none : Sem (Option (List Str))) else _) = _
      split
      · rfl
      · show (if _ then (return none : Sem (Option (List Str))) else _) = _
        split
        · rfl
        · first | rfl | exact if_pos hfold
    have h2 : stars vs = false ∧ ts.all isName = false := by
      rcases h with ((h | h) | h) | h
      · exact (h1.1.1 h).elim
      · exact (h1.1.2 h).elim
      · simpa using h
      · exact (hfold h).elim
    have h3 : (vs.any fun | .Starred .. => true | _ => false) = false := h2.1
    show (if (vs.any fun | .Starred .. => true | _ => false) = true then (return none : Sem (Option (List Str))) else _) = _
    rw [h3, if_neg (by simp)]
    have h4 := names_len (env := env) (line := (ts.head?.map (·.pos.line)).getD 0) ts h2.2
    have h5 : ((ts.filterMap fun
    | .Name id pos => if env.kindOf id == some .local && pos.line == (ts.head?.map (·.pos.line)).getD 0 then some id else none
    | _ => none).length != ts.length) = true := by simpa using h4
    exact if_pos (Bool.or_eq_true_iff.mpr (.inl h5))
/-- two or three plain names at once -/
def parB (t : Tc) (k : Option Nat) (i : Nat) (x : Str) : Bool := decide (t.N[i]? = some x) && loB t.sc x && decide (k ≠ some i)
def notFold (vs : List Expr) : Bool := !(vs.all (foldedForSure 8)) && !(vs.all (constantsAlone 8))
theorem kind_lo {env : Env} {t : Tc} {x : Str} (hs : env.scope = t.sc) (h : loB t.sc x = true) : (env.kindOf x == some NameKind.local) = true := by
  unfold Env.kindOf
  rw [hs, lo_of h]
  rfl
theorem blk_fn {env : Env} (hk : env.scope.kind = .function) : (env.blockKind != .function) = false := by
  have hb : env.blockKind = .function := by unfold Env.blockKind; rw [hk]; rfl
  rw [hb]; rfl
theorem any_star : ∀ {es : List Expr}, es.all notStar = true → (es.any fun | .Starred .. => true | _ => false) = false
  | [], _ => rfl
  | e :: es, h => by
    simp only [List.all_cons, Bool.and_eq_true] at h
    rw [List.any_cons, any_star h.2]
    cases e <;> first | rfl | (simp [notStar] at h)
theorem sw_par2 {x y : Str} {px py pt pt2 : Pos} {a b : Expr} {kt k2 : Nat} {env : Env} {t : Tc} (hs : env.scope = t.sc) (hk : t.sc.kind = .function) (hx : loB t.sc x = true) (hy : loB t.sc y = true) (hxy : x ≠ y) (hl : (py.line == px.line) = true)
    (ha : notStar a = true) (hb : notStar b = true) (hf : notFold [a, b] = true) : swappedStores [.Tuple [.Name x px, .Name y py] kt pt] (.Tuple [a, b] k2 pt2) env = pure (some [x, y]) := by
  unfold notFold at hf
  simp only [Bool.and_eq_true, Bool.not_eq_true'] at hf
  have kx := kind_lo hs hx
  have ky := kind_lo hs hy
  have hb' := blk_fn (env := env) (by rw [hs]; exact hk)
  have st : (([a, b] : List Expr).any fun | .Starred .. => true | _ => false) = false := by
    exact any_star (by simp [ha, hb])
  have hl0 : (px.line == px.line) = true := by simp
  have e1 : ([Expr.Name x px, Expr.Name y py].filterMap fun
    | .Name id pos => if env.kindOf id == some .local && pos.line == px.line then some id else none
    | _ => none) = [x, y] := by
    simp only [List.filterMap_cons, List.filterMap_nil, kx, ky, hl0, hl, Bool.and_self, if_true]
  have e2 : [x, y].eraseDups = [x, y] := by
    simp [List.eraseDups_cons, Ne.symm hxy]
  have h3 : ¬ (([Expr.Name x px, Expr.Name y py].filterMap fun
    | .Name id pos => if env.kindOf id == some .local && pos.line == px.line then some id else none
    | _ => none).length != 2 || ([Expr.Name x px, Expr.Name y py].filterMap fun
    | .Name id pos => if env.kindOf id == some .local && pos.line == px.line then some id else none
    | _ => none).eraseDups.length != ([Expr.Name x px, Expr.Name y py].filterMap fun
    | .Name id pos => if env.kindOf id == some .local && pos.line == px.line then some id else none
    | _ => none).length) = true := by
    rw [e1, e2]; simp
  unfold swappedStores
  refine (if_neg (show ¬ (!(2 == 2 || 2 == 3) || 2 != 2 || env.blockKind != .function) = true by rw [hb']; simp)).trans ?_
  refine (if_neg (show ¬ (([a, b] : List Expr).any fun | .Starred .. => true | _ => false) = true by rw [st]; simp)).trans ?_
  refine (if_neg h3).trans ?_
  refine (if_neg (show ¬ ([a, b].all (foldedForSure 8)) = true by rw [hf.1]; simp)).trans ?_
  refine (if_neg (show ¬ ([a, b].all (constantsAlone 8)) = true by rw [hf.2]; simp)).trans ?_
  show (pure (some ([Expr.Name x px, Expr.Name y py].filterMap fun
    | .Name id pos => if env.kindOf id == some .local && pos.line == px.line then some id else none
    | _ => none)) : Sem (Option (List Str))) = _
  rw [e1]
theorem sw_par3 {x y z : Str} {px py pz pt pt2 : Pos} {a b d : Expr} {kt k2 : Nat} {env : Env} {t : Tc} (hs : env.scope = t.sc) (hk : t.sc.kind = .function) (hx : loB t.sc x = true) (hy : loB t.sc y = true) (hz : loB t.sc z = true) (hxy : x ≠ y) (hxz : x ≠ z) (hyz : y ≠ z)
    (hl : (py.line == px.line) = true) (hl2 : (pz.line == px.line) = true) (ha : notStar a = true) (hb : notStar b = true) (hd : notStar d = true) (hf : notFold [a, b, d] = true) :
    swappedStores [.Tuple [.Name x px, .Name y py, .Name z pz] kt pt] (.Tuple [a, b, d] k2 pt2) env = pure (some [x, y, z]) := by
  unfold notFold at hf
  simp only [Bool.and_eq_true, Bool.not_eq_true'] at hf
  have kx := kind_lo hs hx
  have ky := kind_lo hs hy
  have kz := kind_lo hs hz
  have hb' := blk_fn (env := env) (by rw [hs]; exact hk)
  have st : (([a, b, d] : List Expr).any fun | .Starred .. => true | _ => false) = false := by
    exact any_star (by simp [ha, hb, hd])
  have hl0 : (px.line == px.line) = true := by simp
  have e1 : ([Expr.Name x px, Expr.Name y py, Expr.Name z pz].filterMap fun
    | .Name id pos => if env.kindOf id == some .local && pos.line == px.line then some id else none
    | _ => none) = [x, y, z] := by
    simp only [List.filterMap_cons, List.filterMap_nil, kx, ky, kz, hl0, hl, hl2, Bool.and_self, if_true]
  have e2 : [x, y, z].eraseDups = [x, y, z] := by
    simp [List.eraseDups_cons, Ne.symm hxy, Ne.symm hxz, Ne.symm hyz]
  have h3 : ¬ (([Expr.Name x px, Expr.Name y py, Expr.Name z pz].filterMap fun
    | .Name id pos => if env.kindOf id == some .local && pos.line == px.line then some id else none
    | _ => none).length != 3 || ([Expr.Name x px, Expr.Name y py, Expr.Name z pz].filterMap fun
    | .Name id pos => if env.kindOf id == some .local && pos.line == px.line then some id else none
    | _ => none).eraseDups.length != ([Expr.Name x px, Expr.Name y py, Expr.Name z pz].filterMap fun
    | .Name id pos => if env.kindOf id == some .local && pos.line == px.line then some id else none
    | _ => none).length) = true := by
    rw [e1, e2]; simp
  unfold swappedStores
  refine (if_neg (show ¬ (!(3 == 2 || 3 == 3) || 3 != 3 || env.blockKind != .function) = true by rw [hb']; simp)).trans ?_
  refine (if_neg (show ¬ (([a, b, d] : List Expr).any fun | .Starred .. => true | _ => false) = true by rw [st]; simp)).trans ?_
  refine (if_neg h3).trans ?_
  refine (if_neg (show ¬ ([a, b, d].all (foldedForSure 8)) = true by rw [hf.1]; simp)).trans ?_
  refine (if_neg (show ¬ ([a, b, d].all (constantsAlone 8)) = true by rw [hf.2]; simp)).trans ?_
  show (pure (some ([Expr.Name x px, Expr.Name y py, Expr.Name z pz].filterMap fun
    | .Name id pos => if env.kindOf id == some .local && pos.line == px.line then some id else none
    | _ => none)) : Sem (Option (List Str))) = _
  rw [e1]
end NW
namespace NW
open PySem PySem.Spec PyProof.Rows L2

def ioB (k : Option Nat) (is : List Nat) : Bool := match k with
  | some j => !(is.contains j)
  | none => true
theorem io_of {k : Option Nat} {is : List Nat} (h : ioB k is = true) : ∀ j, k = some j → j ∉ is := fun j e hj => by
  subst e
  have : is.contains j = true := List.contains_iff_mem.mpr hj
  simp [ioB, this] at h
  exact h hj
def doc : Expr → Bool
  | .Constant (.str _) _ _ => true
  | _ => false
mutual
def chkS (G : Gm) (t : Tc) (k : Option Nat) (s : S) (x : Stmt) : Bool := match s with
  | .ex e => (match x with
    | .Expr y _ => notComp y && chkE G t e y
    | _ => false)
  | .set (.nm i) e => (match x with
    | .Assign [.Name n p] y _ => decide (k ≠ some i) && asB t i n && (match e, y with
      | .lc tt own src ifs e', .ListComp elt gs scope q => if swB t scope n p q then chkE G t e y else chkE G t e y
      | _, _ => notComp y && chkE G t e y)
    | _ => false)
  | .set (.tup ts) e => (match x with
    | .Assign [.Tuple es _ _] y _ => notComp y && swNone es y && es.all notStar && ioB k ts.ix && chkTgs t ts es && chkE G t e y
    | _ => false)
  | .par is es => (match x with
    | .Assign [.Tuple [.Name n p, .Name m q] _ _] (.Tuple [a, b] _ _) _ => (match is with
      | [i, j] => parB t k i n && parB t k j m && decide (i ≠ j) && decide (n ≠ m) && (q.line == p.line) && notFold [a, b] && chkA G t es [a, b]
      | _ => false)
    | .Assign [.Tuple [.Name n p, .Name m q, .Name l r] _ _] (.Tuple [a, b, d] _ _) _ => (match is with
      | [i, j, u] => parB t k i n && parB t k j m && parB t k u l && decide (i ≠ j) && decide (i ≠ u) && decide (j ≠ u) && decide (n ≠ m) && decide (n ≠ l) && decide (m ≠ l) && (q.line == p.line) && (r.line == p.line) && notFold [a, b, d] && chkA G t es [a, b, d]
      | _ => false)
    | _ => false)
  | .aug i o e => (match x with
    | .AugAssign (.Name n _) p y _ => decide (k ≠ some i) && asB t i n && ipB o p && chkE G t e y
    | _ => false)
  | .setI i ek e => (match x with
    | .Assign [.Subscript (.Name n _) z _] y _ => nmB t i n && notSlice z && chkE G t ek z && chkE G t e y
    | _ => false)
  | .augI i ek o e => (match x with
    | .AugAssign (.Subscript (.Name n _) z _) p y _ => nmB t i n && notSlice z && ipB o p && chkE G t ek z && chkE G t e y
    | _ => false)
  | .setII _ _ _ _ => false
  | .swapI _ _ _ => false
  | .app i e => (match x with
    | .Expr (.Call (.Attribute (.Name n _) m ap) [y] [] cp) _ => methB m "append" ap cp && nmB t i n && notStar y && chkE G t e y
    | _ => false)
  | .ext i e => (match x with
    | .Expr (.Call (.Attribute (.Name n _) m ap) [y] [] cp) _ => methB m "extend" ap cp && nmB t i n && notStar y && chkE G t e y
    | _ => false)
  | .ret e => (match x with
    | .Return (some y) _ => chkE G t e y
    | _ => false)
  | .retN => (match x with
    | .Return none _ => true
    | _ => false)
  | .ite q a b => (match x with
    | .If y as bs _ => chkT G t q y && chkSs G t k a as && chkSs G t k b bs
    | _ => false)
  | .whl q a => (match x with
    | .While y as [] _ => chkT G t q y && chkSs G t k a as
    | _ => false)
  | .for_ tt src a => (match x with
    | .For tg iter as [] _ => notSet iter && ioB k tt.ix && chkTg t tt tg && chkI G t tg src iter && chkSs G t k a as
    | _ => false)
  | .brk => (match x with
    | .Break _ => true
    | _ => false)
  | .cnt => (match x with
    | .Continue _ => true
    | _ => false)
  | .pass => (match x with
    | .Pass _ => true
    | .Expr y _ => doc y
    | _ => false)
def chkSs (G : Gm) (t : Tc) (k : Option Nat) (ss : Ss) (xs : List Stmt) : Bool := match ss with
  | .nil => (match xs with
    | [] => true
    | _ => false)
  | .cons s ss => (match xs with
    | x :: xs => chkS G t k s x && chkSs G t k ss xs
    | _ => false)
end

section
theorem par_of {X : Cx} {G : Gm} {T : List Addr} {c : Cl} {lv : Nat} {t : Tc} {k : Option Nat} {i : Nat} {x : Str} (C : Ctx X G T c lv t) (h : parB t k i x = true) : X.N[i]? = some x ∧ X.env.scope.names.lookup x = some .local ∧ loB t.sc x = true ∧ k ≠ some i := by
  unfold parB at h
  simp only [Bool.and_eq_true, decide_eq_true_eq] at h
  exact ⟨by rw [C.hN]; exact h.1.1, by rw [C.hs]; exact lo_of h.1.2, h.1.2, h.2⟩
theorem s_doc {X : Cx} {T : List Addr} {L : Nat} {c : Cl} {k : Option Nat} {y : Expr} {pos : Pos} (h : doc y = true) : PS X (.Expr y pos) (tS X.K T L c k .pass) := by
  unfold doc at h
  split at h
  · refine PS.imp ps_doc fun D σ H ⟨F, ρ, o, ok, ev, f⟩ => ?_
    simp only [evS] at ev
    cases ev
    exact f F H σ (.of ok Stp.refl)
  · cases h
theorem sw_sole {tg y : Expr} {l : Nat} {env : Env} (h : notComp y = true) : swapsWithSole [tg] y l env = pure false := by
  show swapsWith y (some tg) l env = _
  exact sw_no h
mutual
theorem chkS_ok {G : Gm} {T : List Addr} {L : Nat} {c : Cl} {lv : Nat} {k : Option Nat} (s : S) : ∀ {X : Cx} {t : Tc} {x : Stmt}, Ctx X G T c lv t → chkS G t k s x = true → PS X x (tS X.K T L c k s) := by
  intro X t x C h
  cases s with
  | ex e =>
    unfold chkS at h
    split at h
    · simp only [Bool.and_eq_true] at h
      exact s_ex (chkE_ok e C h.2).1 (sw_no h.1)
    · cases h
  | set tt e =>
    cases tt with
    | nm i =>
      unfold chkS at h
      split at h
      · rename_i n p y q
        simp only [Bool.and_eq_true, decide_eq_true_eq] at h
        obtain ⟨⟨h1, h2⟩, h3⟩ := h
        obtain ⟨k1, k2, k3⟩ := as_of C h2
        split at h3
        · rename_i tt own src ifs e' elt gs scope pq
          split at h3
          · rename_i hsw
            unfold chkE at h3
            split at h3
            · rename_i heq
              cases heq
              simp only [Bool.and_eq_true] at h3
              obtain ⟨⟨⟨⟨⟨⟨q1, q2⟩, q3⟩, q4⟩, q5⟩, q6⟩, q7⟩ := h3
              have hk := (blkOk_by q2).kind
              unfold swB at hsw
              simp only [Bool.and_eq_true, Bool.not_eq_true'] at hsw
              exact s_setLc C k1 (by rw [C.hs]; exact lo_of hsw.1.1) hsw.1.2 hsw.2 (chkI_ok src C q1) q2 q3 (fun s H D cl fp => chkTg_ok (C.blk hk) tt _ q5) (fun s H D cl fp => chkIf_ok ifs (C.blk hk) q6) (fun s H D cl fp => (chkE_ok e' (C.blk hk) q7).1) (sub_of q4) h1
            · cases h3
          · rename_i hsw
            exact s_set C.nd' k1 k2 (chkE_ok _ C h3).1 (sw_false C.hs (by simpa using hsw)) k3 h1
        · simp only [Bool.and_eq_true] at h3
          exact s_set C.nd' k1 k2 (chkE_ok e C h3.2).1 (sw_no h3.1) k3 h1
      · cases h
    | tup ts =>
      unfold chkS at h
      split at h
      · simp only [Bool.and_eq_true] at h
        obtain ⟨⟨⟨⟨⟨h1, h2⟩, h3⟩, h4⟩, h5⟩, h6⟩ := h
        obtain ⟨k1, k2⟩ := chkTgs_ok C ts _ h5 h3
        exact s_setT (chkE_ok e C h6).1 (g_tup C.calm k1 h3 k2) (sw_sole h1) (sw_none h2) rfl (io_of h4)
      · cases h
  | par is es =>
    unfold chkS at h
    split at h
    · split at h
      · simp only [Bool.and_eq_true, decide_eq_true_eq] at h
        obtain ⟨⟨⟨⟨⟨⟨h1, h2⟩, h3⟩, h4⟩, h5⟩, h6⟩, h7⟩ := h
        obtain ⟨a1, a2, a3, a4⟩ := par_of C h1
        obtain ⟨b1, b2, b3, b4⟩ := par_of C h2
        have ns := (chkA_len (c := c) es _ h7).2
        simp only [List.all_cons, List.all_nil, Bool.and_eq_true] at ns
        exact s_par2 C.calm C.nd' a1 b1 h3 a2 b2 (chkA_ok es C h7) (sw_par2 C.hs C.kind a3 b3 h4 h5 ns.1 ns.2.1 h6) a4 b4
      · cases h
    · split at h
      · simp only [Bool.and_eq_true, decide_eq_true_eq] at h
        obtain ⟨⟨⟨⟨⟨⟨⟨⟨⟨⟨⟨⟨h1, h2⟩, h3⟩, h4⟩, h5⟩, h6⟩, h7⟩, h8⟩, h9⟩, h10⟩, h11⟩, h12⟩, h13⟩ := h
        obtain ⟨a1, a2, a3, a4⟩ := par_of C h1
        obtain ⟨b1, b2, b3, b4⟩ := par_of C h2
        obtain ⟨d1, d2, d3, d4⟩ := par_of C h3
        have ns := (chkA_len (c := c) es _ h13).2
        simp only [List.all_cons, List.all_nil, Bool.and_eq_true] at ns
        exact s_par3 C.calm C.nd' a1 b1 d1 h4 h5 h6 a2 b2 d2 (chkA_ok es C h13) (sw_par3 C.hs C.kind a3 b3 d3 h7 h8 h9 h10 h11 ns.1 ns.2.1 ns.2.2.1 h12) a4 b4 d4
      · cases h
    · cases h
  | aug i o e =>
    unfold chkS at h
    split at h
    · simp only [Bool.and_eq_true, decide_eq_true_eq] at h
      obtain ⟨⟨⟨h1, h2⟩, h3⟩, h4⟩ := h
      obtain ⟨k1, k2, k3⟩ := as_of C h2
      exact s_aug C.nd' k1 k2 (chkE_ok e C h4).1 (ip_ok h3) k3 h1
    · cases h
  | setI i ek e =>
    unfold chkS at h
    split at h
    · simp only [Bool.and_eq_true] at h
      obtain ⟨⟨⟨h1, h2⟩, h3⟩, h4⟩ := h
      obtain ⟨k1, k2, k3, k4⟩ := nm_of C h1
      rename_i y _
      exact s_setI k1 k2 k3 k4 (chkE_ok ek C h3).1 (chkE_ok e C h4).1 h2 (by cases y <;> rfl)
    · cases h
  | augI i ek o e =>
    unfold chkS at h
    split at h
    · simp only [Bool.and_eq_true] at h
      obtain ⟨⟨⟨⟨h1, h2⟩, h3⟩, h4⟩, h5⟩ := h
      obtain ⟨k1, k2, k3, k4⟩ := nm_of C h1
      exact s_augI k1 k2 k3 k4 (chkE_ok ek C h4).1 (chkE_ok e C h5).1 (ip_ok h3) h2
    · cases h
  | setII _ _ _ _ => unfold chkS at h; cases h
  | swapI _ _ _ => unfold chkS at h; cases h
  | app i e =>
    unfold chkS at h
    split at h
    · simp only [Bool.and_eq_true] at h
      obtain ⟨⟨⟨h1, h2⟩, h3⟩, h4⟩ := h
      obtain ⟨k1, k2, k3, k4⟩ := nm_of C h2
      unfold methB at h1
      simp only [Bool.and_eq_true, decide_eq_true_eq] at h1
      obtain ⟨rfl, h5⟩ := h1
      exact s_app k1 k2 k3 k4 (chkE_ok e C h4).1 h3 h5
    · cases h
  | ext i e =>
    unfold chkS at h
    split at h
    · simp only [Bool.and_eq_true] at h
      obtain ⟨⟨⟨h1, h2⟩, h3⟩, h4⟩ := h
      obtain ⟨k1, k2, k3, k4⟩ := nm_of C h2
      unfold methB at h1
      simp only [Bool.and_eq_true, decide_eq_true_eq] at h1
      obtain ⟨rfl, h5⟩ := h1
      exact s_extend k1 k2 k3 k4 (chkE_ok e C h4).1 h3 h5
    · cases h
  | ret e =>
    unfold chkS at h
    split at h
    · exact s_ret (chkE_ok e C h).1
    · cases h
  | retN =>
    unfold chkS at h
    split at h
    · exact s_retN
    · cases h
  | ite q a b =>
    unfold chkS at h
    split at h
    · simp only [Bool.and_eq_true] at h
      exact s_ite (chkT_ok q C h.1.1) (chkSs_ok a C h.1.2) (chkSs_ok b C h.2)
    · cases h
  | whl q a =>
    unfold chkS at h
    split at h
    · simp only [Bool.and_eq_true] at h
      exact s_whl C.px (chkT_ok q C h.1) (chkSs_ok a C h.2)
    · cases h
  | for_ tt src a =>
    unfold chkS at h
    split at h
    · simp only [Bool.and_eq_true] at h
      obtain ⟨⟨⟨⟨h1, h2⟩, h3⟩, h4⟩, h5⟩ := h
      exact s_for C.px C.calm (chkI_ok src C h4) (chkTg_ok C tt _ h3) (chkSs_ok a C h5) (io_of h2) (folded_of h1)
    · cases h
  | brk =>
    unfold chkS at h
    split at h
    · exact s_brk
    · cases h
  | cnt =>
    unfold chkS at h
    split at h
    · exact s_cnt
    · cases h
  | pass =>
    unfold chkS at h
    split at h
    · exact s_pass
    · exact s_doc h
    · cases h
theorem chkSs_ok {G : Gm} {T : List Addr} {L : Nat} {c : Cl} {lv : Nat} {k : Option Nat} (ss : Ss) : ∀ {X : Cx} {t : Tc} {xs : List Stmt}, Ctx X G T c lv t → chkSs G t k ss xs = true → PSs X xs (tSs X.K T L c k ss) := by
  intro X t xs C h
  cases ss with
  | nil =>
    unfold chkSs at h
    split at h
    · exact ss_nil
    · cases h
  | cons s ss =>
    unfold chkSs at h
    split at h
    · simp only [Bool.and_eq_true] at h
      exact ss_cons (chkS_ok s C h.1) (chkSs_ok ss C h.2)
    · cases h
end
end
end NW
namespace NW
open PySem PySem.Spec PyProof.Rows L2
theorem zip_has {ps : List Str} {us : List Value} (hl : us.length = ps.length) : ∀ n ∈ ps, ∃ v, (ps.zip us).lookup n = some v := by
  induction ps generalizing us with
  | nil => intro n h; cases h
  | cons p ps ih =>
    cases us with
    | nil => cases hl
    | cons u us =>
      intro n h
      rw [List.zip_cons_cons, List.lookup_cons]
      cases e : (n == p) with
      | true => exact ⟨u, rfl⟩
      | false =>
        rcases List.mem_cons.mp h with z | z
        · subst z; simp at e
        · exact ih (by simpa using hl) n z
theorem zip_map {ps : List Str} {us : List Value} (hl : us.length = ps.length) (nd : ps.Nodup) : (ps.filterMap fun n => ((ps.zip us).lookup n).map (n, ·)) = ps.zip us := by
  induction ps generalizing us with
  | nil => rfl
  | cons p ps ih =>
    cases us with
    | nil => cases hl
    | cons u us =>
      rw [List.nodup_cons] at nd
      rw [List.zip_cons_cons, List.filterMap_cons]
      simp only [List.lookup_cons, beq_self_eq_true, Option.map_some]
      congr 1
      have h2 := ih (us := us) (by simpa using hl) nd.2
      refine Eq.trans ?_ h2
      have key : ∀ qs : List Str, p ∉ qs → (qs.filterMap fun n => (match n == p with | true => some u | false => (ps.zip us).lookup n).map (n, ·)) = qs.filterMap fun n => ((ps.zip us).lookup n).map (n, ·) := by
        intro qs
        induction qs with
        | nil => intro _; rfl
        | cons q qs ihq =>
          intro hq
          simp only [List.mem_cons, not_or] at hq
          rw [List.filterMap_cons, List.filterMap_cons, ihq hq.2]
          have : (q == p) = false := by
            cases e : (q == p) with
            | false => rfl
            | true => rw [beq_iff_eq] at e; exact (hq.1 e.symm).elim
          rw [this]
      exact key ps nd.1
theorem binds_gen {x qual : Str} {body : List Stmt} {scope : Scope} {kV doc pm cdv ct : Value} {an : Option Addr} {A : List Arg} {us : List Value} (nd : (A.map (·.arg)).Nodup) (hl : us.length = (A.map (·.arg)).length) :
    bindArgs (PySem.W.fnOf x qual { posonlyargs := [], args := A, vararg := none, kwonlyargs := [], kw_defaults := [], kwarg := none, defaults := [] } body scope .none kV doc pm an cdv ct) ⟨us, []⟩ = pure ((A.map (·.arg)).zip us) := by
  have hmiss : ((A.map (·.arg)).filter fun n => (((A.map (·.arg)).zip us).lookup n).isNone) = [] := by
    rw [List.filter_eq_nil_iff]
    intro n hn
    obtain ⟨v, e⟩ := zip_has hl n hn
    rw [e]
    simp
  have hz := zip_map hl nd
  unfold bindArgs
  simp only [PySem.W.fnOf, List.map_nil, List.nil_append, List.append_nil, hl, seqItems?, List.take_length]
  simp [hmiss, hz, hl]
  have hn : notAStandIn Value.none = pure () := rfl
  rw [hn]
  have e1 : List.take ((List.map (fun x => x.arg) A).length - (List.drop ((#[] : Array Value).size - (List.map (fun x => x.arg) A).length) ([] : List Value)).length) (List.map (fun x => x.arg) A) = List.map (fun x => x.arg) A := by
    apply List.take_of_length_le
    simp
  show (if _ then _ else _) = _
  rw [if_neg (by rw [e1, hmiss]; simp)]
  rw [List.filterMap_map] at hz
  exact congrArg pure hz
/-- a def of the program -/
structure Df where
  name : Str
  ps : List Str
  N : List Str
  st : Stmt
  fn : Fn
  gx : Bool
def argsB (a : Arguments) (ps : List Str) : Bool := match a with
  | ⟨[], as, none, [], [], none, []⟩ => decide (as.map (·.arg) = ps)
  | _ => false
def Df.tc (d : Df) : Tc := ⟨d.N, defScope d.st, fun _ => true, d.gx, 5⟩
def Df.ok (G : Gm) (d : Df) : Bool := C8.scC d.N d.ps (defScope d.st) && argsB (defArgs d.st) d.ps && decide (d.fn.ps = d.ps.length) && decide (d.fn.n = d.N.length) && decide (d.ps.length ≤ d.N.length) && (match d.fn.io with | some k => decide (k < d.ps.length) | none => true) && chkSs G d.tc d.fn.io d.fn.body (defBody d.st)
/-- what the module's names tell -/
structure GOk (K : PySem.W.Frag) (mg : Str → Option Value) (G : Gm) : Prop where
  blt : ∀ x ∈ G.blt, mg x = none
  gcd : G.gcd = true → mg ("gcd" : Str) = some (.builtin "math.gcd")
  isq : G.isq = true → mg ("isqrt" : Str) = some (.builtin "math.isqrt")
  glo : ∀ x d, (x, d) ∈ G.glo → ∃ u v, mg x = some u ∧ RelV v u ∧ ∀ F, Rp K F v d
abbrev FnK (K : PySem.W.Frag) (d : Df) (a : Addr) (fd : FuncData) : Prop := FunD K d.name d.name (defArgs d.st) (defBody d.st) (defScope d.st) [] [] a fd
theorem args_of {a : Arguments} {ps : List Str} (h : argsB a ps = true) : ∃ as : List Arg, a = { posonlyargs := [], args := as, vararg := none, kwonlyargs := [], kw_defaults := [], kwarg := none, defaults := [] } ∧ as.map (·.arg) = ps := by
  unfold argsB at h
  split at h
  · exact ⟨_, rfl, of_decide_eq_true h⟩
  · cases h
theorem scope_nd {N P : List Str} {sc : Scope} (S : FnScope N P sc) : P.Nodup := by
  rw [← S.pre]
  exact S.nd.sublist (List.take_sublist _ _)
theorem FnK.binds {K : PySem.W.Frag} {d : Df} {a : Addr} {fd : FuncData} {G : Gm} (F : FnK K d a fd) (h : d.ok G = true) : Binds K fd d.ps [] ∧ ∀ (s : Shared) (us : List Value), us.length = d.ps.length → BindsTo s fd ⟨us, []⟩ (d.ps.zip us) := by
  unfold Df.ok at h
  simp only [Bool.and_eq_true, decide_eq_true_eq] at h
  obtain ⟨⟨⟨⟨⟨⟨h1, h2⟩, h3⟩, h4⟩, h5⟩, h6⟩, h7⟩ := h
  have S := C8.fnScope_by h1
  obtain ⟨as, e1, e2⟩ := args_of h2
  have nd := scope_nd S
  have key : ∀ (kV doc pm : Value) (an : Option Addr) (cdv ct : Value) (us : List Value), us.length = d.ps.length → bindArgs (PySem.W.fnOf d.name d.name (defArgs d.st) (defBody d.st) (defScope d.st) .none kV doc pm an cdv ct) ⟨us, []⟩ = pure (d.ps.zip us) := fun kV doc pm an cdv ct us hl => by
    rw [e1, ← e2]
    exact binds_gen (by rw [e2]; exact nd) (by rw [e2]; exact hl)
  exact ⟨FunD.bindsN F key, FunD.bindsA F key⟩
theorem mapIdx_get (f : Fn) (ds : List D) {i : Nat} : (ds.mapIdx fun k d => if f.io = some k then Sl.ow d else Sl.fz d)[i]? = (ds[i]?).map fun d => if f.io = some i then Sl.ow d else Sl.fz d := by
  rw [List.getElem?_mapIdx]
theorem startR_get {f : Fn} {ds : List D} {i : Nat} {s : Sl} (h : (startR f ds)[i]? = some s) (hs : s ≠ .no) : ∃ d, ds[i]? = some d ∧ s = if f.io = some i then .ow d else .fz d := by
  unfold startR at h
  by_cases z : i < ds.length
  · rw [List.getElem?_append_left (by rw [List.length_mapIdx]; exact z), mapIdx_get] at h
    cases e : ds[i]? with
    | none => rw [e] at h; cases h
    | some d =>
      rw [e] at h
      cases h
      exact ⟨d, rfl, rfl⟩
  · rw [List.getElem?_append_right (by rw [List.length_mapIdx]; omega), List.getElem?_replicate] at h
    split at h
    · cases h; exact (hs rfl).elim
    · cases h
theorem startR_len (f : Fn) (ds : List D) : (startR f ds).length = ds.length + (f.n - f.ps) := by
  unfold startR
  rw [List.length_append, List.length_mapIdx, List.length_replicate]
theorem start_get {N : List Str} {vs : List V} {i : Nat} (h : i < vs.length) : (L2.start N vs)[i]? = (vs[i]?).map some := by
  unfold L2.start
  rw [List.getElem?_append_left (by rw [List.length_map]; exact h), List.getElem?_map]
theorem start_len {N : List Str} {vs : List V} (h : vs.length ≤ N.length) : (L2.start N vs).length = N.length := by
  unfold L2.start
  rw [List.length_append, List.length_map, List.length_replicate]
  omega
section
variable {K : PySem.W.Frag} {T : List Addr} {F H : Hp} {N : List Str} {vs : List V} {ds : List D} {f : Fn}
/-- a def's frame at its start -/
theorem start_ok (same : Same F H) (tabs : ∀ P ∈ T, GxR.TabG H P ∧ F P = none) (hv : vs.length = f.ps) (hd : ds.length = f.ps) (hn : f.n = N.length) (hp : f.ps ≤ N.length)
    (hr : ∀ (j : Nat) (v : V) (d : D), vs[j]? = some v → ds[j]? = some d → if f.io = some j then ∃ a, v = V.ref a ∧ Top K T F H a d else Rp K F v d) : OK K T F H (L2.start N vs) (startR f ds) := by
  have both : ∀ {i : Nat} {d : D}, ds[i]? = some d → ∃ v, vs[i]? = some v ∧ (L2.start N vs)[i]? = some (some v) := fun {i d} e => by
    have z := (List.getElem?_eq_some_iff.mp e).1
    have z2 : i < vs.length := by omega
    refine ⟨vs[i], List.getElem?_eq_getElem z2, ?_⟩
    rw [start_get z2, List.getElem?_eq_getElem z2]
    rfl
  refine ⟨same, tabs, ?_, fun i d e => ?_, fun i d e => ?_, fun i j d e a h1 h2 _ _ => ?_⟩
  · rw [startR_len, start_len (by omega), hd, hn]; omega
  · obtain ⟨d', e1, e2⟩ := startR_get e (by simp)
    obtain ⟨v, k1, k2⟩ := both e1
    have := hr i v d' k1 e1
    by_cases z : f.io = some i
    · rw [if_pos z] at e2; cases e2
    · rw [if_neg z] at e2 this
      cases e2
      exact ⟨v, k2, this⟩
  · obtain ⟨d', e1, e2⟩ := startR_get e (by simp)
    obtain ⟨v, k1, k2⟩ := both e1
    have := hr i v d' k1 e1
    by_cases z : f.io = some i
    · rw [if_pos z] at e2 this
      cases e2
      obtain ⟨a, rfl, t⟩ := this
      exact ⟨a, k2, t⟩
    · rw [if_neg z] at e2; cases e2
  · obtain ⟨_, _, e2⟩ := startR_get h1 (by simp)
    obtain ⟨_, _, e4⟩ := startR_get h2 (by simp)
    by_cases z : f.io = some i
    · by_cases z2 : f.io = some j
      · rw [z] at z2; exact Option.some.inj z2
      · rw [if_neg z2] at e4; cases e4
    · rw [if_neg z] at e2; cases e2
theorem start_own (hv : vs.length = f.ps) (hd : ds.length = f.ps) {a : Addr} (h : Owns (L2.start N vs) (startR f ds) a) : ∃ j, f.io = some j ∧ vs[j]? = some (V.ref a) := by
  obtain ⟨j, d, h1, h2⟩ := h
  obtain ⟨d', e1, e2⟩ := startR_get h1 (by simp)
  by_cases z : f.io = some j
  · refine ⟨j, z, ?_⟩
    have hj := (List.getElem?_eq_some_iff.mp e1).1
    have hj2 : j < vs.length := by omega
    rw [start_get hj2, List.getElem?_eq_getElem hj2] at h2
    rw [List.getElem?_eq_getElem hj2]
    have h2 : some (some vs[j]) = some (some (V.ref a)) := h2
    rw [Option.some.inj (Option.some.inj h2)]
  · rw [if_neg z] at e2; cases e2
end
theorem def_body {K : PySem.W.Frag} {T : List Addr} {L : Nat} {d : Df} {vs : List V} {H : Hp} {Q : VK} {E : XK} {f np : Nat} (hnp : np = d.ps.length) (hps : d.fn.ps = d.ps.length) (hn : d.fn.n = d.N.length) (hle : d.ps.length ≤ d.N.length) (hio : (match d.fn.io with | some k => decide (k < d.ps.length) | none => true) = true)
    {P : Prog} {n : Nat} (hP : P[f]? = some d.fn) (h : spOf K T (evF L P (n + 1)) f np vs H Q E) : tSs K T L (evF L P n) d.fn.io d.fn.body { nx := fun _ H' => Q .non H', rt := Q } (L2.start d.N vs) H := by
  subst hnp
  obtain ⟨F, k, ds, own, dd, x, same, tabs, hv, hd, hr, ev, q⟩ := h
  have ev : (match P[f]? with | some fn => runF L (evF L P n) fn k ds | none => none) = some (own, dd, x) := ev
  rw [hP] at ev
  simp only [runF] at ev
  split at ev
  · rename_i hk
    obtain ⟨hk1, hk2⟩ := hk
    have ok := start_ok (f := d.fn) (N := d.N) (K := K) (T := T) (vs := vs) (ds := ds) same tabs (by rw [hv, hps]) (by rw [hd, hps]) hn (by rw [hps]; exact hle) (fun j v d' h1 h2 => by rw [hk1]; exact hr j v d' h1 h2)
    have own_io : ∀ a, Owns (L2.start d.N vs) (startR d.fn ds) a → ∃ j, k = some j ∧ vs[j]? = some (V.ref a) := fun a h => by
      have := start_own (by rw [hv, hps]) (by rw [hd, hps]) h
      rw [hk1] at this
      exact this
    cases e1 : evSs L (evF L P n) d.fn.body (startR d.fn ds) with
    | none => rw [e1] at ev; cases ev
    | some o =>
      rw [e1] at ev
      have final : ∀ (r : R) (ρ' : Rho), endR k r ρ' = some (own, dd, x) →
          ∀ (v : V) (F' H' : Hp) (σ' : L2.St), PostR K T d.fn.io F H (L2.start d.N vs) (startR d.fn ds) r v F' H' σ' ρ' → Q v H' := fun r ρ' hr' v F' H' σ' P => by
        unfold endR at hr'
        have ioK : ∀ j, k = some j → ∃ a x', vs[j]? = some (V.ref a) ∧ x = some x' ∧ Top K T F' H' a x' ∧ Owns σ' ρ' a := fun j ej => by
          subst ej
          have hj : j < d.ps.length := by rw [hk1] at hio; simpa using hio
          have hjv : j < vs.length := by omega
          have hjd : j < ds.length := by omega
          have hx : ∃ x', ρ'[j]? = some (Sl.ow x') ∧ x = some x' := by
            cases r with
            | fz e =>
              simp only at hr'
              split at hr'
              · rename_i y hy; cases hr'; exact ⟨y, hy, rfl⟩
              · cases hr'
            | ow e =>
              simp only at hr'
              split at hr'
              · rename_i y hy; cases hr'; exact ⟨y, hy, rfl⟩
              · cases hr'
            | bo _ => cases hr'
            | io _ => cases hr'
          obtain ⟨x', h1, h2⟩ := hx
          obtain ⟨a, h3, t⟩ := P.ok.ow j x' h1
          have h4 := P.io j hk1
          rw [h3, start_get hjv, List.getElem?_eq_getElem hjv] at h4
          have h4 : some (some (V.ref a)) = some (some vs[j]) := h4
          refine ⟨a, x', ?_, h2, t, ⟨j, x', h1, h3⟩⟩
          rw [List.getElem?_eq_getElem hjv, ← Option.some.inj (Option.some.inj h4)]
        refine q v F' H' ⟨P.stp.grow, P.ok.same, P.ok.tabs, fun b o e ne t => P.stp.keep b o e (fun w => ?_) t, fun b o e => ?_, ?_, fun j ej => ?_⟩
        · obtain ⟨j, ej, hj⟩ := own_io b w
          exact ne j ej hj
        · rcases P.stp.new b o e with z | z | z
          · exact .inl z
          · exact .inr z
          · obtain ⟨j, ej, hj⟩ := own_io b z
            obtain ⟨a, x', h1, _, t, _⟩ := ioK j ej
            rw [hj] at h1
            cases h1
            rw [t.1] at e
            cases e
        · cases r with
          | fz e =>
            have : own = false ∧ dd = e := by
              cases k with
              | none => simp only at hr'; cases hr'; exact ⟨rfl, rfl⟩
              | some j =>
                simp only at hr'
                split at hr'
                · cases hr'; exact ⟨rfl, rfl⟩
                · cases hr'
            obtain ⟨rfl, rfl⟩ := this
            exact P.rr
          | ow e =>
            have : own = true ∧ dd = e := by
              cases k with
              | none => simp only at hr'; cases hr'; exact ⟨rfl, rfl⟩
              | some j =>
                simp only at hr'
                split at hr'
                · cases hr'; exact ⟨rfl, rfl⟩
                · cases hr'
            obtain ⟨rfl, rfl⟩ := this
            obtain ⟨a, rfl, t, no⟩ := P.rr
            refine ⟨a, rfl, ?_, t⟩
            rcases P.own _ _ rfl rfl with z | z
            · exact z
            · obtain ⟨j, ej, hj⟩ := own_io a z
              obtain ⟨a', x', h1, _, _, w⟩ := ioK j ej
              rw [hj] at h1
              cases h1
              exact (no w).elim
          | bo _ => cases hr'
          | io _ => cases hr'
        · obtain ⟨a, x', h1, h2, t, _⟩ := ioK j ej
          exact ⟨a, x', h1, h2, t⟩
      refine ⟨F, _, o, ok, e1, ?_⟩
      cases o with
      | nx ρ' =>
        exact fun F' H' σ' P => final (.fz .non) ρ' ev .non F' H' σ' ⟨P.ok, P.stp, P.io, .non, fun d a e => by cases e⟩
      | rt r ρ' => exact fun v F' H' σ' P => final r ρ' ev v F' H' σ' P
      | bk ρ' => cases ev
      | ct ρ' => cases ev
  · cases ev
/-- every def keeps its promise, to every depth of calls -/
theorem defs_ok {Pr : Program} {w : World} {K : PySem.W.Frag} {mg : Str → Option Value} {base : Heap} {G : Gm} {T : List Addr} {L : Nat} {ds : List Df} (g : GOk K mg G) (hG : G.fns = ds.map fun d => (d.name, d.ps)) (hok : ∀ d ∈ ds, d.ok G = true)
    (hf : ∀ d ∈ ds, ∃ (a : Addr) (fd : FuncData), mg d.name = some (.ref a) ∧ FnK K d a fd ∧ (d.gx = true → ∃ cc P, fd.code = .ref cc ∧ GxR.TabB base mg cc P ∧ P ∈ T)) (n : Nat) :
    ∀ (f : Nat) (d : Df) (a : Addr) (fd : FuncData), ds[f]? = some d → FnK K d a fd → (d.gx = true → ∃ cc P, fd.code = .ref cc ∧ GxR.TabB base mg cc P ∧ P ∈ T) → FnOk Pr w K mg base CX0 (6 * n) a fd d.ps (spOf K T (evF L (ds.map (·.fn)) n) f d.ps.length) := by
  induction n with
  | zero =>
    intro f d a fd hd F _
    refine ⟨fun vs H Q E h => ?_, fun A outer s H args us vs Q E _ _ _ _ h => ?_⟩
    · obtain ⟨_, _, _, _, _, _, _, _, hv, _⟩ := h
      exact hv
    · obtain ⟨_, _, _, _, _, _, _, _, _, _, _, ev, _⟩ := h
      cases ev
  | succ n ih =>
    intro f d a fd hd F hgx
    have hdk := hok d (List.mem_of_getElem? hd)
    have hdk' := hdk
    unfold Df.ok at hdk
    simp only [Bool.and_eq_true, decide_eq_true_eq] at hdk
    obtain ⟨⟨⟨⟨⟨⟨h1, h2⟩, h3⟩, h4⟩, h5⟩, h6⟩, h7⟩ := hdk
    have S := C8.fnScope_by h1
    obtain ⟨oc, od, dV, kV, doc, pm, an, cdv, ct, osl, rfl, lk, hcd, _, _⟩ := F.ex
    refine fn_of (k := 6 * n + 5) lk hcd S (fun vs H Q E h => ?_) fun A outer s H vs Q E hr hsp => ⟨_, PSs.nox (chkSs_ok (L := L) (T := T) (c := evF L (ds.map (·.fn)) n) (lv := 6 * n) d.fn.body (t := d.tc) ?_ h7), def_body rfl h3 h4 h5 h6 (by rw [List.getElem?_map, hd]; rfl) hsp⟩
    · obtain ⟨_, _, _, _, _, _, _, _, hv, _⟩ := h
      exact hv
    · refine { hN := rfl, nd := S.nd, hs := rfl, kind := S.kind, calm := rfl, room := hr, own := fun _ _ => rfl, px := PassesOwn.never, tab := fun e => ?_, blt := g.blt, gcd := g.gcd, isq := g.isq, glo := g.glo, fn := fun f' x ps e => ?_ }
      · exact hgx e
      · rw [hG, List.getElem?_map] at e
        cases e2 : ds[f']? with
        | none => rw [e2] at e; cases e
        | some d' =>
          rw [e2] at e
          cases e
          have hm := List.mem_of_getElem? e2
          obtain ⟨a', fd', m1, m2, m3⟩ := hf d' hm
          exact ⟨a', fd', m1, m2.kp, (m2.binds (hok d' hm)).1, ih f' d' a' fd' e2 m2 m3⟩
end NW
namespace NW
open PySem PySem.Spec PyProof.Rows L2

def Df.he (d : Df) : He.DefD := ⟨(d.name, none), d.name, d.name, defArgs d.st, defBody d.st, defScope d.st, [], []⟩
/-- the objects behind plain data -/
def dvOf : D → Option He.Dv
  | .non => some .non
  | .bl b => some (.bl b)
  | .int i => some (.int i)
  | .str s => some (.str (toS s))
  | _ => none
def dvsOf : List D → Option (List He.Dv)
  | [] => some []
  | d :: ds => (match dvOf d, dvsOf ds with
    | some v, some vs => some (v :: vs)
    | _, _ => none)
/-- the module's name x is a constant -/
def gloB (K : PySem.W.Frag) (x : Str) (d : D) : Bool := match d with
  | .int i => (He.Fa.int x i).ok K
  | .str s => (He.Fa.str x (toS s)).ok K
  | .tup ds => (match dvsOf ds with
    | some vs => He.tupB K x vs && (He.Fa.glo x).ok K
    | none => false)
  | _ => false
theorem dv_rp {K : PySem.W.Frag} {F : Hp} {d : D} {v : He.Dv} (h : dvOf d = some v) : Rp K F (v.v K) d := by
  cases d <;> simp only [dvOf] at h <;> cases h
  · exact .non
  · exact .bl _
  · exact .int _
  · exact .str _
theorem dvs_rp {K : PySem.W.Frag} {F : Hp} : ∀ {ds : List D} {vs : List He.Dv}, dvsOf ds = some vs → RpL K F (vs.map (He.Dv.v K)) ds
  | [], vs, h => by cases h; exact .nil
  | d :: ds, vs, h => by
    simp only [dvsOf] at h
    split at h
    · rename_i v vs e1 e2
      cases h
      exact .cons (dv_rp e1) (dvs_rp e2)
    · cases h
theorem glo_is {K : PySem.W.Frag} {h : Heap} {mg : Str → Option Value} (X : K.In h) (g : h.Ns mainGlobals mg) {x : Str} {d : D} (e : gloB K x d = true) : ∃ u v, mg x = some u ∧ RelV v u ∧ ∀ F, Rp K F v d := by
  unfold gloB at e
  split at e
  · obtain ⟨t, k⟩ := He.int_ok X g e
    exact ⟨_, .int _, k, ⟨_, rfl⟩, fun F => .int _⟩
  · obtain ⟨t, k⟩ := He.str_ok X g e
    exact ⟨_, .str _, k, ⟨_, rfl⟩, fun F => .str _⟩
  · split at e
    · rename_i vs e2
      obtain ⟨k1, k2⟩ := He.ba e
      exact ⟨_, .ref _, He.glo_ok X g k2, rfl, fun F => .tup (He.tupB_ok k1 F) (dvs_rp e2)⟩
    · cases e
  · cases e
def bfB (K : PySem.W.Frag) (x : Str) (id : String) : Bool := He.eqO (PySem.W.nsIn K mainGlobals x) (some (some (.builtin id)))
def exB (G : Gm) (ds : List Df) (K : PySem.W.Frag) : Bool := (G.blt.all fun x => (He.Fa.free x).ok K) && (!G.gcd || bfB K "gcd" "math.gcd") && (!G.isq || bfB K "isqrt" "math.isqrt") && (G.glo.all fun p => gloB K p.1 p.2) && ds.all fun d => (He.Fa.glo d.name).ok K
def tfOf (ds : List Df) : List He.Defn := (ds.filter (·.gx)).map fun d => (d.name, none)
theorem says_ok {G : Gm} {ds : List Df} {K : PySem.W.Frag} {h : Heap} {mg : Str → Option Value} {w : World} (X : K.In h) (g : h.Ns mainGlobals mg) (c : He.SaysX [] (ds.map Df.he) [] (tfOf ds) (exB G ds) w h K) :
    GOk K mg G ∧ ∀ d ∈ ds, ∃ fd : FuncData, mg d.name = some (.ref (He.ga K d.name)) ∧ FnK K d (He.ga K d.name) fd ∧ (d.gx = true → fd.code = .ref (He.cT K (d.name, none)).1 ∧ He.cT K (d.name, none) ∈ (tfOf ds).map (He.cT K)) := by
  have m := c.more
  unfold exB at m
  simp only [Bool.and_eq_true, List.all_eq_true, Bool.or_eq_true, Bool.not_eq_true'] at m
  obtain ⟨⟨⟨⟨m1, m2⟩, m3⟩, m4⟩, m5⟩ := m
  refine ⟨⟨fun x hx => He.free_ok X g (m1 x hx), fun e => ?_, fun e => ?_, fun x d hx => glo_is X g (m4 _ hx)⟩, fun d hd => ?_⟩
  · rcases m2 with z | z
    · rw [e] at z; cases z
    · exact PySem.W.mg_of X g (He.eqO_ok z)
  · rcases m3 with z | z
    · rw [e] at z; cases z
    · exact PySem.W.mg_of X g (He.eqO_ok z)
  · obtain ⟨fd, F⟩ := He.SaysD.defs (show He.SaysD [] (ds.map Df.he) K from congrArg (fun z : He.AlT => z.1) c.t) (d := d.he) (List.mem_map.mpr ⟨d, hd, rfl⟩)
    refine ⟨fd, He.glo_ok X g (m5 d hd), F, fun hg => ⟨?_, ?_⟩⟩
    · obtain ⟨oc, od, dV, kV, doc, pm, an, cdv, ct, osl, rfl, lk, hcd, _, _⟩ := F.ex
      obtain ⟨cc, ecc⟩ := He.codeIn_ref hcd
      have lk' : K.lookup (He.fAd K (d.name, none)) = _ := lk
      show cdv = _
      rw [ecc]
      congr 1
      exact (He.codeOf_eq lk' (show cdv = .ref cc from ecc)).symm
    · exact List.mem_map.mpr ⟨(d.name, none), List.mem_map.mpr ⟨d, List.mem_filter.mpr ⟨hd, hg⟩, rfl⟩, rfl⟩
theorem ints_rp {K : PySem.W.Frag} {F : Hp} : ∀ ns : List Int, RpL K F (ns.map V.int) (ns.map D.int)
  | [] => .nil
  | n :: ns => .cons (.int n) (ints_rp ns)
def hideT (T : List Addr) (H : Hp) : Hp := fun b => if b ∈ T then none else H b
theorem hide_in {T : List Addr} {H : Hp} {b : Addr} (h : b ∈ T) : hideT T H b = none := if_pos h
theorem hide_out {T : List Addr} {H : Hp} {b : Addr} (h : b ∉ T) : hideT T H b = H b := if_neg h
/-- what the head wants of the law -/
theorem law_at {l : PySem.W.OpenLaw} {G : Gm} {ds : List Df} {K : PySem.W.Frag} {h : Heap} {mg : Str → Option Value} {w : World} {fa : Addr} {L N f : Nat} {dl : Df} (X : K.In h) (g : h.Ns mainGlobals mg) (c : He.SaysX [] (ds.map Df.he) [] (tfOf ds) (exB G ds) w h K)
    (hG : G.fns = ds.map fun d => (d.name, d.ps)) (hok : ds.all (fun d => d.ok G) = true) (hl : ds[f]? = some dl) (hps : dl.ps = [("script" : Str)]) (hfa : mg dl.name = some (.ref fa))
    (pure : ∀ ns : List Int, ns.length ≤ 63 → (∀ z ∈ ns, Builtin.Int.intBits z ≤ 1048576) → evF L (ds.map (·.fn)) N f none [.lst (ns.map D.int)] = some (false, .bl true, none)) :
    LamX.LawAtS l w K CX0 (6 * N) 63 "script" mg fa h := by
  obtain ⟨gk, defs⟩ := says_ok X g c
  have hok : ∀ d ∈ ds, d.ok G = true := List.all_eq_true.mp hok
  have hm := List.mem_of_getElem? hl
  obtain ⟨fd, k1, F, k2⟩ := defs dl hm
  have e := hfa.symm.trans k1
  cases e
  have bA := (FnK.binds F (hok dl hm)).2
  refine ⟨fd, (tfOf ds).map (He.cT K), spOf K (((tfOf ds).map (He.cT K)).map (·.2)) (evF L (ds.map (·.fn)) N) f 1, fun p hp => ?_, fun p hp => ?_, fun p hp => ?_, fun s u => ?_, fun H a ns hlen hbits hT hS => ?_, fun base KB hns hTab => ?_⟩
  · obtain ⟨q, hq, rfl⟩ := List.mem_map.mp hp
    exact c.empty q hq
  · obtain ⟨q, hq, rfl⟩ := List.mem_map.mp hp
    exact c.out q hq
  · obtain ⟨q, hq, rfl⟩ := List.mem_map.mp hp
    exact PySem.W.codeHd_of_K X (c.hd q hq)
  · have := bA s [u] (by rw [hps]; rfl)
    rw [hps] at this
    exact this
  · have hTm : ∀ P ∈ ((tfOf ds).map (He.cT K)).map (·.2), H P = some (.tbl #[]) := fun P hP => by
      obtain ⟨p, hp, rfl⟩ := List.mem_map.mp hP
      exact hT p hp
    generalize ((tfOf ds).map (He.cT K)).map (·.2) = T at hTm
    refine ⟨hideT T H, none, [.lst (ns.map D.int)], false, .bl true, none, fun b o e => ?_, fun P hP => ⟨⟨#[], hTm P hP, trivial⟩, hide_in hP⟩, rfl, rfl, fun j v d h1 h2 => ?_, pure ns hlen hbits, fun v F' H' C => ?_⟩
    · by_cases z : b ∈ T
      · rw [hide_in z] at e; cases e
      · rw [hide_out z] at e; exact e
    · rw [if_neg (by simp)]
      cases j with
      | succ j => cases h1
      | zero =>
        cases h1
        cases h2
        refine .lst ?_ (ints_rp ns)
        have nT : ∀ u, H a = some u → (∀ q, u ≠ .tbl q) → a ∉ T := fun u e n z => by
          rw [hTm a z] at e
          exact n #[] (Option.some.inj e).symm
        rcases hS with (z | ⟨o, z⟩) | z
        · exact .inl (.inl (by rw [hide_out (nT _ z (by simp))]; exact z))
        · exact .inl (.inr ⟨o, by rw [hide_out (nT _ z (by simp))]; exact z⟩)
        · exact .inr z
    · cases (show Rp K F' v (.bl true) from C.res)
      rfl
  · have hf : ∀ d ∈ ds, ∃ (a : Addr) (fd : FuncData), mg d.name = some (.ref a) ∧ FnK K d a fd ∧ (d.gx = true → ∃ cc P, fd.code = .ref cc ∧ GxR.TabB base mg cc P ∧ P ∈ ((tfOf ds).map (He.cT K)).map (·.2)) := fun d hd => by
      obtain ⟨fd, q1, q2, q3⟩ := defs d hd
      exact ⟨_, fd, q1, q2, fun e => by
        obtain ⟨r1, r2⟩ := q3 e
        exact ⟨_, _, r1, ⟨(hTab _ r2).code, (hTab _ r2).bm, (hTab _ r2).gP⟩, List.mem_map.mpr ⟨_, r2, rfl⟩⟩⟩
    have := defs_ok (Pr := l.prog) (w := w) (L := L) gk hG hok hf N f dl (He.ga K dl.name) fd hl F (fun e => by
        obtain ⟨r1, r2⟩ := k2 e
        exact ⟨_, _, r1, ⟨(hTab _ r2).code, (hTab _ r2).bm, (hTab _ r2).gP⟩, List.mem_map.mpr ⟨_, r2, rfl⟩⟩)
    rw [hps] at this
    exact this
end NW
namespace NW
def poolF : S := (.for_ (.nm 2) (.seq (.sl (.peek 0) .no (.so (.cst (.int 63))))) (.cons (.set (.nm 1) (.o2 .mod (.o1 .toInt (.o2 .add (.o2 .mul (.peek 1) (.cst (.int 31))) (.peek 2))) (.cst (.int 1000003))))
  .nil))
def poolR : Ss := (.cons (.ret (.lst (.cons (.o1 .toList (.peek 0)) (.cons (.cst (.int 0)) (.cons (.cst (.int 0)) (.cons (.cst (.int 0)) (.cons (.var 1) .nil)))))))
  .nil)
def irPool : Fn := ⟨1, 3, none, (.cons (.set (.nm 1) (.cst (.int 7))) (.cons poolF poolR))⟩
def irSpread : Fn := ⟨1, 4, none,
  (.cons (.set (.nm 1) (.o2 .mod (.o1 .toInt (.peek 0)) (.cst (.int 2147483647))))
  (.cons (.set (.nm 2) (.cst (.int 1)))
  (.cons (.for_ (.nm 3) (.rng1 (.cst (.int 4))) (.cons (.set (.nm 1) (.o2 .mod (.o1 .toInt (.o2 .add (.o2 .add (.o2 .mul (.peek 1) (.cst (.int 48271))) (.cst (.int 12345))) (.peek 3))) (.cst (.int 2147483647))))
  (.cons (.set (.nm 2) (.o2 .add (.o2 .mul (.peek 2) (.cst (.int 2147483647))) (.peek 1)))
  .nil)))
  (.cons (.ret (.mv 2))
  .nil))))⟩
def drawA (s : Nat) : S := (.ite (.and_ (.val (.o2 .le (.o2 .idx (.peek 0) (.cst (.int 2))) (.cst (.int 0)))) (.val (.o2 .lt (.o2 .idx (.peek 0) (.cst (.int 1))) (.o1 .len (.o2 .idx (.peek 0) (.cst (.int 0))))))) (.cons (.set (.nm 2) (.o2 .idx (.o2 .idx (.peek 0) (.cst (.int 0))) (.o2 .idx (.peek 0) (.cst (.int 1)))))
  (.cons (.setI 0 (.cst (.int 1)) (.o2 .add (.o2 .idx (.peek 0) (.cst (.int 1))) (.cst (.int 1))))
  (.cons (.setI 0 (.cst (.int 2)) (.var 2))
  (.cons (.ite (.val (.o2 .lt (.peek 2) (.cst (.int 1000000000000000000)))) (.cons (.setI 0 (.cst (.int 2)) (.call s none (.cons (.var 2) .nil)))
  .nil) .nil)
  .nil)))) .nil)
def drawB : S := (.setI 0 (.cst (.int 3)) (.o2 .add (.o2 .idx (.peek 0) (.cst (.int 3))) (.cst (.int 1))))
def drawC : S := (.ite (.val (.o2 .le (.o2 .idx (.peek 0) (.cst (.int 2))) (.cst (.int 0)))) (.cons (.set (.nm 3) (.o2 .mod (.o1 .toInt (.o2 .add (.o2 .add (.o2 .mul (.o2 .idx (.peek 0) (.cst (.int 4))) (.cst (.int 48271))) (.o2 .mul (.o2 .idx (.peek 0) (.cst (.int 3))) (.cst (.int 69621)))) (.cst (.int 1)))) (.cst (.int 2147483647))))
  (.cons (.set (.nm 3) (.o2 .mod (.o1 .toInt (.o2 .add (.o2 .mul (.peek 3) (.cst (.int 16807))) (.o2 .idx (.peek 0) (.cst (.int 3))))) (.cst (.int 2147483629))))
  (.cons (.ret (.o2 .mod (.o2 .fdiv (.peek 3) (.cst (.int 5))) (.peek 1)))
  .nil))) .nil)
def drawD : Ss := (.cons (.set (.nm 4) (.o2 .mod (.o1 .toInt (.o2 .idx (.peek 0) (.cst (.int 2)))) (.peek 1)))
  (.cons (.setI 0 (.cst (.int 2)) (.o2 .fdiv (.o2 .idx (.peek 0) (.cst (.int 2))) (.peek 1)))
  (.cons (.ret (.mv 4))
  .nil)))
def irDraw (s : Nat) : Fn := ⟨2, 5, (some 0), .cons (drawA s) (.cons drawB (.cons drawC drawD))⟩
theorem log2_lt {n k : Nat} (h : n < 2 ^ k) (hk : 0 < k) : n.log2 < k := by
  by_cases z : n = 0
  · subst z; simpa using hk
  · exact (Nat.log2_lt z).mpr h
theorem mul_is {i j : Int} (h1 : i.natAbs < 2 ^ 400000) (h2 : j.natAbs < 2 ^ 400000) : ap2 .mul (.int i) (.int j) = i1 (i * j) := by
  have a := log2_lt h1 (by omega)
  have b := log2_lt h2 (by omega)
  show (if _ then _ else _) = _
  rw [if_pos (by omega)]
theorem add_is {i j : Int} : ap2 .add (.int i) (.int j) = i1 (i + j) := rfl
theorem sub_is {i j : Int} : ap2 .sub (.int i) (.int j) = i1 (i - j) := rfl
theorem int_is {i : Int} : ap1 .toInt (.int i) = i1 i := rfl
theorem mod_is {i j : Int} (h : j ≠ 0) : ap2 .mod (.int i) (.int j) = i1 (i.fmod j) := if_pos h
theorem fdiv_is {i j : Int} (h : j ≠ 0) (h2 : j.natAbs < 2 ^ 8999) : ap2 .fdiv (.int i) (.int j) = i1 (i.fdiv j) := if_pos ⟨h, by have := log2_lt h2 (by omega); omega⟩
theorem pow_big {n : Nat} (h : n < 2 ^ 200) : n < 2 ^ 400000 := Nat.lt_of_lt_of_le h (Nat.pow_le_pow_right (by omega) (by omega))
/-- one turn of the spreading -/
def spr (b : Int) (k : Int) : Int := (b * 48271 + 12345 + k).fmod 2147483647
theorem fmod_rng (i : Int) {j : Int} (h : 0 < j) : 0 ≤ i.fmod j ∧ i.fmod j < j := ⟨Int.fmod_nonneg_of_pos i h, Int.fmod_lt_of_pos i h⟩
theorem small_abs {i : Int} (h0 : 0 ≤ i) (h : i < 2 ^ 199) : i.natAbs < 2 ^ 400000 := pow_big (by omega)
section
variable {L : Nat} {P : Prog}
theorem spread_ok {s n : Nat} (h : P[s]? = some irSpread) (c : Int) : ∃ w : Int, 0 ≤ w ∧ evF L P (n + 1) s none [.int c] = some (false, .int w, none) := by
  obtain ⟨a0, b0⟩ := fmod_rng c (j := 2147483647) (by omega)
  generalize hx0 : c.fmod 2147483647 = x0 at a0 b0
  obtain ⟨a1, b1⟩ := fmod_rng (x0 * 48271 + 12345 + 0) (j := 2147483647) (by omega)
  generalize hx1 : (x0 * 48271 + 12345 + 0).fmod 2147483647 = x1 at a1 b1
  obtain ⟨a2, b2⟩ := fmod_rng (x1 * 48271 + 12345 + 1) (j := 2147483647) (by omega)
  generalize hx2 : (x1 * 48271 + 12345 + 1).fmod 2147483647 = x2 at a2 b2
  obtain ⟨a3, b3⟩ := fmod_rng (x2 * 48271 + 12345 + 2) (j := 2147483647) (by omega)
  generalize hx3 : (x2 * 48271 + 12345 + 2).fmod 2147483647 = x3 at a3 b3
  obtain ⟨a4, b4⟩ := fmod_rng (x3 * 48271 + 12345 + 3) (j := 2147483647) (by omega)
  generalize hx4 : (x3 * 48271 + 12345 + 3).fmod 2147483647 = x4 at a4 b4
  refine ⟨(((1 * 2147483647 + x1) * 2147483647 + x2) * 2147483647 + x3) * 2147483647 + x4, by omega, ?_⟩
  have m0 := mul_is (i := x0) (j := 48271) (small_abs a0 (by omega)) (pow_big (by decide))
  have m1 := mul_is (i := x1) (j := 48271) (small_abs a1 (by omega)) (pow_big (by decide))
  have m2 := mul_is (i := x2) (j := 48271) (small_abs a2 (by omega)) (pow_big (by decide))
  have m3 := mul_is (i := x3) (j := 48271) (small_abs a3 (by omega)) (pow_big (by decide))
  have w0 := mul_is (i := 1) (j := 2147483647) (pow_big (by decide)) (pow_big (by decide))
  have w1 := mul_is (i := 1 * 2147483647 + x1) (j := 2147483647) (small_abs (by omega) (by omega)) (pow_big (by decide))
  have w2 := mul_is (i := (1 * 2147483647 + x1) * 2147483647 + x2) (j := 2147483647) (small_abs (by omega) (by omega)) (pow_big (by decide))
  have w3 := mul_is (i := ((1 * 2147483647 + x1) * 2147483647 + x2) * 2147483647 + x3) (j := 2147483647) (small_abs (by omega) (by omega)) (pow_big (by decide))
  have d0 : ap2 .mod (.int c) (.int 2147483647) = i1 x0 := by rw [← hx0]; exact mod_is (by omega)
  have d1 : ap2 .mod (.int (x0 * 48271 + 12345 + 0)) (.int 2147483647) = i1 x1 := by rw [← hx1]; exact mod_is (by omega)
  have d2 : ap2 .mod (.int (x1 * 48271 + 12345 + 1)) (.int 2147483647) = i1 x2 := by rw [← hx2]; exact mod_is (by omega)
  have d3 : ap2 .mod (.int (x2 * 48271 + 12345 + 2)) (.int 2147483647) = i1 x3 := by rw [← hx3]; exact mod_is (by omega)
  have d4 : ap2 .mod (.int (x3 * 48271 + 12345 + 3)) (.int 2147483647) = i1 x4 := by rw [← hx4]; exact mod_is (by omega)
  show (match P[s]? with | some fn => runF L (evF L P n) fn none [.int c] | none => none) = _
  rw [h]
  have st : startR irSpread [.int c] = [.fz (.int c), .no, .no, .no] := rfl
  have r4 : (Src.rg 0 1 (Int.toNat 4)) = Src.rg 0 1 4 := rfl
  have hr : rgOk 4 = true := rfl
  simp only [runF]
  rw [if_pos ⟨rfl, rfl⟩, st]
  simp only [irSpread, evSs, evS, evE, evI, put, stT, R.get, mk, Src.run, runN, hr, r4, endR, int_is, add_is, i1, d0, d1, d2, d3, d4, m0, m1, m2, m3, w0, w1, w2, w3, List.getElem?_cons_zero, List.getElem?_cons_succ, List.set_cons_zero, List.set_cons_succ, List.length_cons, List.length_nil, if_true, Bool.false_eq_true, if_false, Nat.reduceAdd, Nat.reduceLT, Int.reduceAdd]
/-- the pool: the script, the place in it, what is left of the cell, how many draws, the salt -/
def poolD (ns : List Int) (i v c s : Int) : D := .lst [.lst (ns.map D.int), .int i, .int v, .int c, .int s]
theorem ix0 {a b c d e : D} : ap2 .idx (.lst [a, b, c, d, e]) (.int 0) = some (false, a) := rfl
theorem ix1 {a b c d e : D} : ap2 .idx (.lst [a, b, c, d, e]) (.int 1) = some (false, b) := rfl
theorem ix2 {a b c d e : D} : ap2 .idx (.lst [a, b, c, d, e]) (.int 2) = some (false, c) := rfl
theorem ix3 {a b c d e : D} : ap2 .idx (.lst [a, b, c, d, e]) (.int 3) = some (false, d) := rfl
theorem ix4 {a b c d e : D} : ap2 .idx (.lst [a, b, c, d, e]) (.int 4) = some (false, e) := rfl
theorem st1 {a b c d e x : D} : setItem (.lst [a, b, c, d, e]) (.int 1) x = some (.lst [a, x, c, d, e]) := rfl
theorem st2 {a b c d e x : D} : setItem (.lst [a, b, c, d, e]) (.int 2) x = some (.lst [a, b, x, d, e]) := rfl
theorem st3 {a b c d e x : D} : setItem (.lst [a, b, c, d, e]) (.int 3) x = some (.lst [a, b, c, x, e]) := rfl
theorem le_is {i j : Int} : ap2 .le (.int i) (.int j) = b1 (decide (i ≤ j)) := rfl
theorem lt_is {i j : Int} : ap2 .lt (.int i) (.int j) = b1 (decide (i < j)) := rfl
theorem len_is {xs : List D} : ap1 .len (.lst xs) = i1 xs.length := rfl
theorem at_is {xs : List D} {i : Int} {d : D} (h0 : 0 ≤ i) (h : xs[i.toNat]? = some d) : ap2 .idx (.lst xs) (.int i) = some (false, d) := by
  have hl := (List.getElem?_eq_some_iff.mp h).1
  show (match ixN xs.length i with | some j => (match xs[j]? with | some d => some (false, d) | none => none) | none => none) = _
  unfold ixN
  rw [if_pos h0, if_pos (by omega)]
  simp only [h]
theorem small89 {m : Int} (h0 : 0 ≤ m) (h : m < 2 ^ 200) : m.natAbs < 2 ^ 8999 := Nat.lt_of_lt_of_le (show m.natAbs < 2 ^ 200 by omega) (Nat.pow_le_pow_right (by omega) (by omega))
theorem drawA_ok {s n : Nat} (h : P[s]? = some irSpread) (ns : List Int) (i v c sa m : Int) (hi : 0 ≤ i) : ∃ (i' v' : Int) (x : Sl), 0 ≤ i' ∧
    evS L (evF L P (n + 1)) (drawA s) [.ow (poolD ns i v c sa), .fz (.int m), .no, .no, .no] = some (.nx [.ow (poolD ns i' v' c sa), .fz (.int m), x, .no, .no]) := by
  by_cases h1 : v ≤ 0
  · by_cases h2 : i < ns.length
    · have hz : i.toNat < ns.length := by omega
      have e1 : (ns.map D.int)[i.toNat]? = some (.int ns[i.toNat]) := by rw [List.getElem?_map, List.getElem?_eq_getElem hz]; rfl
      generalize ns[i.toNat] = cell at e1
      by_cases h3 : cell < 1000000000000000000
      · obtain ⟨w, hw, ew⟩ := spread_ok (L := L) (n := n) h cell
        refine ⟨i + 1, w, .fz (.int cell), by omega, ?_⟩
        unfold drawA
        simp only [evSs, evS, evE, evT, evA, poolD, put, stT, R.get, R.frz, mk, ix0, ix1, ix2, ix3, ix4, st1, st2, st3, le_is, lt_is, len_is, add_is, int_is, i1, b1, truth, doCall, ioAt, getAll, getA, noIo, anyBo, purO, D.pur, putIo, Bool.not_true, Bool.false_and, List.length_map, List.getElem?_cons_zero, List.getElem?_cons_succ, List.set_cons_zero, List.set_cons_succ, List.length_cons, List.length_nil, if_true, Bool.false_eq_true, if_false, Nat.reduceAdd, Nat.reduceLT, at_is hi e1, ew, decide_eq_true h1, decide_eq_true h2, decide_eq_true h3]
      · refine ⟨i + 1, cell, .fz (.int cell), by omega, ?_⟩
        unfold drawA
        simp only [evSs, evS, evE, evT, evA, poolD, put, stT, R.get, R.frz, mk, ix0, ix1, ix2, ix3, ix4, st1, st2, st3, le_is, lt_is, len_is, add_is, int_is, i1, b1, truth, doCall, ioAt, getAll, getA, noIo, anyBo, purO, D.pur, putIo, Bool.not_true, Bool.false_and, List.length_map, List.getElem?_cons_zero, List.getElem?_cons_succ, List.set_cons_zero, List.set_cons_succ, List.length_cons, List.length_nil, if_true, Bool.false_eq_true, if_false, Nat.reduceAdd, Nat.reduceLT, at_is hi e1, decide_eq_true h1, decide_eq_true h2, decide_eq_false h3]
    · refine ⟨i, v, .no, hi, ?_⟩
      unfold drawA
      simp only [evSs, evS, evE, evT, evA, poolD, put, stT, R.get, R.frz, mk, ix0, ix1, ix2, ix3, ix4, st1, st2, st3, le_is, lt_is, len_is, add_is, int_is, i1, b1, truth, doCall, ioAt, getAll, getA, noIo, anyBo, purO, D.pur, putIo, Bool.not_true, Bool.false_and, List.length_map, List.getElem?_cons_zero, List.getElem?_cons_succ, List.set_cons_zero, List.set_cons_succ, List.length_cons, List.length_nil, if_true, Bool.false_eq_true, if_false, Nat.reduceAdd, Nat.reduceLT, decide_eq_true h1, decide_eq_false h2]
  · refine ⟨i, v, .no, hi, ?_⟩
    unfold drawA
    simp only [evSs, evS, evE, evT, evA, poolD, put, stT, R.get, R.frz, mk, ix0, ix1, ix2, ix3, ix4, st1, st2, st3, le_is, lt_is, len_is, add_is, int_is, i1, b1, truth, doCall, ioAt, getAll, getA, noIo, anyBo, purO, D.pur, putIo, Bool.not_true, Bool.false_and, List.length_map, List.getElem?_cons_zero, List.getElem?_cons_succ, List.set_cons_zero, List.set_cons_succ, List.length_cons, List.length_nil, if_true, Bool.false_eq_true, if_false, Nat.reduceAdd, Nat.reduceLT, decide_eq_false h1]
theorem drawC_ok {k : Cl} (ns : List Int) (i v c sa m : Int) (x : Sl) (hc : 0 ≤ c) (hc2 : c < 2 ^ 64) (hs : 0 ≤ sa) (hs2 : sa < 2 ^ 64) (hm : 0 < m) (hm2 : m.natAbs < 2 ^ 8999) : ∃ (r : Int) (v' : Int) (ρ : Rho), 0 ≤ r ∧ r < m ∧
    evSs L k (.cons drawC drawD) [.ow (poolD ns i v c sa), .fz (.int m), x, .no, .no] = some (.rt (.fz (.int r)) ρ) ∧ ρ[0]? = some (.ow (poolD ns i v' c sa)) := by
  have hm0 : m ≠ 0 := by omega
  have hmA := hm2
  by_cases h1 : v ≤ 0
  · obtain ⟨a1, b1'⟩ := fmod_rng (sa * 48271 + c * 69621 + 1) (j := 2147483647) (by omega)
    generalize hx1 : (sa * 48271 + c * 69621 + 1).fmod 2147483647 = x1 at a1 b1'
    obtain ⟨a2, b2⟩ := fmod_rng (x1 * 16807 + c) (j := 2147483629) (by omega)
    generalize hx2 : (x1 * 16807 + c).fmod 2147483629 = x2 at a2 b2
    obtain ⟨a3, b3⟩ := fmod_rng (x2.fdiv 5) (j := m) hm
    have m0 := mul_is (i := sa) (j := 48271) (small_abs hs (by omega)) (pow_big (by decide))
    have m1 := mul_is (i := c) (j := 69621) (small_abs hc (by omega)) (pow_big (by decide))
    have m2 := mul_is (i := x1) (j := 16807) (small_abs a1 (by omega)) (pow_big (by decide))
    have d1 : ap2 .mod (.int (sa * 48271 + c * 69621 + 1)) (.int 2147483647) = i1 x1 := by rw [← hx1]; exact mod_is (by omega)
    have d2 : ap2 .mod (.int (x1 * 16807 + c)) (.int 2147483629) = i1 x2 := by rw [← hx2]; exact mod_is (by omega)
    have d3 : ap2 .fdiv (.int x2) (.int 5) = i1 (x2.fdiv 5) := fdiv_is (by omega) (Nat.lt_of_lt_of_le (show (5 : Int).natAbs < 2 ^ 64 by decide) (Nat.pow_le_pow_right (by omega) (by omega)))
    have d4 : ap2 .mod (.int (x2.fdiv 5)) (.int m) = i1 ((x2.fdiv 5).fmod m) := mod_is hm0
    refine ⟨(x2.fdiv 5).fmod m, v, [.ow (poolD ns i v c sa), .fz (.int m), x, .fz (.int x2), .no], a3, b3, ?_, rfl⟩
    unfold drawC
    simp only [evSs, evS, evE, evT, evA, poolD, put, stT, R.get, R.frz, mk, ix0, ix1, ix2, ix3, ix4, st1, st2, st3, le_is, lt_is, len_is, add_is, int_is, i1, b1, truth, doCall, ioAt, getAll, getA, noIo, anyBo, purO, D.pur, putIo, Bool.not_true, Bool.false_and, List.length_map, List.getElem?_cons_zero, List.getElem?_cons_succ, List.set_cons_zero, List.set_cons_succ, List.length_cons, List.length_nil, if_true, Bool.false_eq_true, if_false, Nat.reduceAdd, Nat.reduceLT, decide_eq_true h1, m0, m1, m2, d1, d2, d3, d4]
  · obtain ⟨a3, b3⟩ := fmod_rng v (j := m) hm
    have d4 : ap2 .mod (.int v) (.int m) = i1 (v.fmod m) := mod_is hm0
    have d5 : ap2 .fdiv (.int v) (.int m) = i1 (v.fdiv m) := fdiv_is hm0 hmA
    refine ⟨v.fmod m, v.fdiv m, [.ow (poolD ns i (v.fdiv m) c sa), .fz (.int m), x, .no, .fz (.int (v.fmod m))], a3, b3, ?_, rfl⟩
    unfold drawC drawD
    simp only [evSs, evS, evE, evT, evA, poolD, put, stT, R.get, R.frz, mk, ix0, ix1, ix2, ix3, ix4, st1, st2, st3, le_is, lt_is, len_is, add_is, int_is, i1, b1, truth, doCall, ioAt, getAll, getA, noIo, anyBo, purO, D.pur, putIo, Bool.not_true, Bool.false_and, List.length_map, List.getElem?_cons_zero, List.getElem?_cons_succ, List.set_cons_zero, List.set_cons_succ, List.length_cons, List.length_nil, if_true, Bool.false_eq_true, if_false, Nat.reduceAdd, Nat.reduceLT, decide_eq_false h1, d4, d5]
/-- a draw: a number below m; the pool goes on -/
theorem draw_ok {s d n : Nat} (h : P[s]? = some irSpread) (hd : P[d]? = some (irDraw s)) (ns : List Int) (i v c sa m : Int) (hi : 0 ≤ i) (hc : 0 ≤ c) (hc2 : c < 2 ^ 60) (hs : 0 ≤ sa) (hs2 : sa < 2 ^ 64) (hm : 0 < m) (hm2 : m.natAbs < 2 ^ 8999) :
    ∃ (r i' v' : Int), 0 ≤ r ∧ r < m ∧ 0 ≤ i' ∧ evF L P (n + 2) d (some 0) [poolD ns i v c sa, .int m] = some (false, .int r, some (poolD ns i' v' (c + 1) sa)) := by
  obtain ⟨i', v', x, hi', e1⟩ := drawA_ok (L := L) (n := n) h ns i v c sa m hi
  obtain ⟨r, v'', ρ, h0, h1, e2, e3⟩ := drawC_ok (L := L) (k := evF L P (n + 1)) ns i' v' (c + 1) sa m x (by omega) (by omega) hs hs2 hm hm2
  refine ⟨r, i', v'', h0, h1, hi', ?_⟩
  show (match P[d]? with | some fn => runF L (evF L P (n + 1)) fn (some 0) [poolD ns i v c sa, .int m] | none => none) = _
  rw [hd]
  have st : startR (irDraw s) [poolD ns i v c sa, .int m] = [.ow (poolD ns i v c sa), .fz (.int m), .no, .no, .no] := rfl
  have eB : evS L (evF L P (n + 1)) drawB [.ow (poolD ns i' v' c sa), .fz (.int m), x, .no, .no] = some (.nx [.ow (poolD ns i' v' (c + 1) sa), .fz (.int m), x, .no, .no]) := by
    unfold drawB
    simp only [evSs, evS, evE, evT, evA, poolD, put, stT, R.get, R.frz, mk, ix0, ix1, ix2, ix3, ix4, st1, st2, st3, le_is, lt_is, len_is, add_is, int_is, i1, b1, truth, doCall, ioAt, getAll, getA, noIo, anyBo, purO, D.pur, putIo, Bool.not_true, Bool.false_and, List.length_map, List.getElem?_cons_zero, List.getElem?_cons_succ, List.set_cons_zero, List.set_cons_succ, List.length_cons, List.length_nil, if_true, Bool.false_eq_true, if_false, Nat.reduceAdd, Nat.reduceLT]
  have body : evSs L (evF L P (n + 1)) (irDraw s).body [.ow (poolD ns i v c sa), .fz (.int m), .no, .no, .no] = some (.rt (.fz (.int r)) ρ) := by
    show evSs L (evF L P (n + 1)) (.cons (drawA s) (.cons drawB (.cons drawC drawD))) _ = _
    rw [evSs, e1]
    show evSs L (evF L P (n + 1)) (.cons drawB (.cons drawC drawD)) _ = _
    rw [evSs, eB]
    exact e2
  show (if (irDraw s).io = some 0 ∧ _ then _ else none) = _
  rw [if_pos ⟨rfl, rfl⟩, st, body]
  show endR (some 0) (.fz (.int r)) ρ = _
  simp only [endR, e3]
/-- the pool of a script -/
theorem pool_loop {k : Cl} : ∀ (ns : List Int) (D0 : D) (s : Int) (x : Sl), 0 ≤ s → s < 1000003 → ∃ (s' : Int) (x' : Sl), 0 ≤ s' ∧ s' < 1000003 ∧ runL (fun d ρ => match stT (.nm 2) d ρ with
      | some ρ => evSs L k (.cons (.set (.nm 1) (.o2 .mod (.o1 .toInt (.o2 .add (.o2 .mul (.peek 1) (.cst (.int 31))) (.peek 2))) (.cst (.int 1000003)))) .nil) ρ
      | none => none) (ns.map D.int) [.fz D0, .fz (.int s), x] = some (.nx [.fz D0, .fz (.int s'), x'])
  | [], D0, s, x, h1, h2 => ⟨s, x, h1, h2, rfl⟩
  | n :: ns, D0, s, x, h1, h2 => by
    obtain ⟨a, b⟩ := fmod_rng (s * 31 + n) (j := 1000003) (by omega)
    obtain ⟨s', x', h3, h4, e⟩ := pool_loop (k := k) ns D0 ((s * 31 + n).fmod 1000003) (.fz (.int n)) a b
    refine ⟨s', x', h3, h4, ?_⟩
    have m0 := mul_is (i := s) (j := 31) (small_abs h1 (by omega)) (pow_big (by decide))
    have d0 : ap2 .mod (.int (s * 31 + n)) (.int 1000003) = i1 ((s * 31 + n).fmod 1000003) := mod_is (by omega)
    rw [List.map_cons]
    simp only [runL, stT, evSs, evS, evE, evT, evA, poolD, put, stT, R.get, R.frz, mk, ix0, ix1, ix2, ix3, ix4, st1, st2, st3, le_is, lt_is, len_is, add_is, int_is, i1, b1, truth, doCall, ioAt, getAll, getA, noIo, anyBo, purO, D.pur, putIo, Bool.not_true, Bool.false_and, List.length_map, List.getElem?_cons_zero, List.getElem?_cons_succ, List.set_cons_zero, List.set_cons_succ, List.length_cons, List.length_nil, if_true, Bool.false_eq_true, if_false, Nat.reduceAdd, Nat.reduceLT, m0, d0]
    exact e
theorem ints_take (ns : List Int) (n : Nat) : (ns.map D.int).take n = (ns.take n).map D.int := by rw [List.map_take]
theorem pool_ok {p n : Nat} (h : P[p]? = some irPool) (ns : List Int) (hl : ns.length ≤ 63) : ∃ sa : Int, 0 ≤ sa ∧ sa < 1000003 ∧ evF L P (n + 1) p none [.lst (ns.map D.int)] = some (true, poolD ns 0 0 0 sa, none) := by
  obtain ⟨s', x', h3, h4, e⟩ := pool_loop (L := L) (k := evF L P n) ns (.lst (ns.map D.int)) 7 .no (by omega) (by omega)
  refine ⟨s', h3, h4, ?_⟩
  have hcut : cutL (ns.map D.int) none (some 63) = ns.map D.int := by
    unfold cutL sIx
    have e1 : (if (63 : Int) < 0 then ((63 : Int) + ((ns.map D.int).length : Int)).toNat else min (63 : Int).toNat (ns.map D.int).length) = ns.length := by
      rw [if_neg (by omega), List.length_map]
      show min 63 ns.length = ns.length
      omega
    simp only [e1, List.drop_zero, Nat.sub_zero]
    exact List.take_of_length_le (by rw [List.length_map]; exact Nat.le_refl _)
  have eI : evI (evF L P n) (.seq (.sl (.peek 0) .no (.so (.cst (.int 63))))) [.fz (.lst (ns.map D.int)), .fz (.int 7), .no] = some (.ls (ns.map D.int), [.fz (.lst (ns.map D.int)), .fz (.int 7), .no]) := by
    simp only [evI, evO, srcOf, hcut, evSs, evS, evE, evT, evA, poolD, put, stT, R.get, R.frz, mk, ix0, ix1, ix2, ix3, ix4, st1, st2, st3, le_is, lt_is, len_is, add_is, int_is, i1, b1, truth, doCall, ioAt, getAll, getA, noIo, anyBo, purO, D.pur, putIo, Bool.not_true, Bool.false_and, List.length_map, List.getElem?_cons_zero, List.getElem?_cons_succ, List.set_cons_zero, List.set_cons_succ, List.length_cons, List.length_nil, if_true, Bool.false_eq_true, if_false, Nat.reduceAdd, Nat.reduceLT]
  have eF : evS L (evF L P n) poolF [.fz (.lst (ns.map D.int)), .fz (.int 7), .no] = some (.nx [.fz (.lst (ns.map D.int)), .fz (.int s'), x']) := by
    unfold poolF
    rw [evS, eI]
    exact e
  have eR : evSs L (evF L P n) poolR [.fz (.lst (ns.map D.int)), .fz (.int s'), x'] = some (.rt (.ow (poolD ns 0 0 0 s')) [.fz (.lst (ns.map D.int)), .fz (.int s'), x']) := by
    have lt : ap1 .toList (.lst (ns.map D.int)) = some (true, .lst (ns.map D.int)) := rfl
    have h5 : (5 ≤ L24) = True := by simp [L24]
    unfold poolR
    simp only [evEs, lt, h5, evSs, evS, evE, evT, evA, poolD, put, stT, R.get, R.frz, mk, ix0, ix1, ix2, ix3, ix4, st1, st2, st3, le_is, lt_is, len_is, add_is, int_is, i1, b1, truth, doCall, ioAt, getAll, getA, noIo, anyBo, purO, D.pur, putIo, Bool.not_true, Bool.false_and, List.length_map, List.getElem?_cons_zero, List.getElem?_cons_succ, List.set_cons_zero, List.set_cons_succ, List.length_cons, List.length_nil, if_true, Bool.false_eq_true, if_false, Nat.reduceAdd, Nat.reduceLT]
  show (match P[p]? with | some fn => runF L (evF L P n) fn none [.lst (ns.map D.int)] | none => none) = _
  rw [h]
  have st : startR irPool [.lst (ns.map D.int)] = [.fz (.lst (ns.map D.int)), .no, .no] := rfl
  have body : evSs L (evF L P n) irPool.body [.fz (.lst (ns.map D.int)), .no, .no] = some (.rt (.ow (poolD ns 0 0 0 s')) [.fz (.lst (ns.map D.int)), .fz (.int s'), x']) := by
    show evSs L (evF L P n) (.cons _ (.cons poolF poolR)) _ = _
    rw [evSs]
    show evSs L (evF L P n) (.cons poolF poolR) [.fz (.lst (ns.map D.int)), .fz (.int 7), .no] = _
    rw [evSs, eF]
    exact eR
  show (if irPool.io = none ∧ _ then _ else none) = _
  rw [if_pos ⟨rfl, rfl⟩, st, body]
  rfl
end
end NW
namespace NW
/-- _law_same(actual, due): actual 0, due 1, k 2 -/
def irP_law_same (i_law_same : Nat) : Fn := ⟨2, 3, none,
  (.cons (.ite (.or_ (.val (.o1 .isTup (.peek 1))) (.val (.o1 .isLst (.peek 1)))) (.cons (.ite (.or_ (.val (.o2 .ne (.o1 .isTup (.peek 1)) (.o1 .isTup (.peek 0)))) (.val (.o2 .ne (.o1 .isLst (.peek 1)) (.o1 .isLst (.peek 0))))) (.cons (.ret (.cst (.bl false)))
  .nil) .nil)
  (.cons (.ite (.val (.o2 .ne (.o1 .len (.peek 0)) (.o1 .len (.peek 1)))) (.cons (.ret (.cst (.bl false)))
  .nil) .nil)
  (.cons (.ret (.o2 .eq (.o1 .len (.lc (.nm 2) [2] (.rng1 (.o1 .len (.peek 1))) (.not_ (.val (.call i_law_same none (.cons (.o2 .idx (.peek 0) (.var 2)) (.cons (.o2 .idx (.peek 1) (.var 2)) .nil))))) (.var 2))) (.cst (.int 0))))
  .nil))) .nil)
  (.cons (.ite (.val (.o1 .isN (.peek 1))) (.cons (.ret (.o1 .isN (.peek 0)))
  .nil) .nil)
  (.cons (.ite (.or_ (.val (.o1 .isBool (.peek 1))) (.val (.o1 .isBool (.peek 0)))) (.cons (.ret (.and_ (.o1 .isBool (.peek 1)) (.and_ (.o1 .isBool (.peek 0)) (.o2 .eq (.peek 0) (.peek 1)))))
  .nil) .nil)
  (.cons (.ite (.val (.o1 .isInt (.peek 1))) (.cons (.ret (.and_ (.o1 .isInt (.peek 0)) (.o2 .eq (.peek 0) (.peek 1))))
  .nil) .nil)
  (.cons (.ret (.and_ (.o1 .isStr (.peek 0)) (.o2 .eq (.peek 0) (.peek 1))))
  .nil)))))⟩
/-- _law_int(pool, most): pool 0, most 1 -/
def irP_law_int (i_law_draw : Nat) : Fn := ⟨2, 2, (some 0),
  (.cons (.ret (.o2 .mul (.call i_law_draw (some 0) (.cons (.io 0) (.cons (.var 1) .nil))) (.ite (.val (.o2 .eq (.call i_law_draw (some 0) (.cons (.io 0) (.cons (.cst (.int 2)) .nil))) (.cst (.int 0)))) (.cst (.int 1)) (.o1 .neg (.cst (.int 1))))))
  .nil)⟩
/-- _law_pick(pool, items): pool 0, items 1 -/
def irP_law_pick (i_law_draw : Nat) : Fn := ⟨2, 2, (some 0),
  (.cons (.ret (.o2 .idx (.peek 1) (.call i_law_draw (some 0) (.cons (.io 0) (.cons (.o1 .len (.peek 1)) .nil)))))
  .nil)⟩
/-- _law_common(a, b): a 0, b 1, k 2, rest 3 -/
def irP_law_common : Fn := ⟨2, 4, none,
  (.cons (.for_ (.nm 2) (.rng1 (.cst (.int 2000))) (.cons (.ite (.val (.o2 .eq (.peek 1) (.cst (.int 0)))) (.cons (.ret (.mv 0))
  .nil) .nil)
  (.cons (.set (.nm 3) (.o2 .mod (.o1 .toInt (.peek 0)) (.peek 1)))
  (.cons (.set (.nm 0) (.var 1))
  (.cons (.set (.nm 1) (.var 3))
  .nil)))))
  (.cons (.ret (.mv 0))
  .nil))⟩
/-- _law_abs(a): a 0 -/
def irP_law_abs : Fn := ⟨1, 1, none,
  (.cons (.ret (.ite (.val (.o2 .ge (.peek 0) (.cst (.int 0)))) (.mv 0) (.o2 .sub (.cst (.int 0)) (.peek 0))))
  .nil)⟩
/-- _law_power(base, many): base 0, many 1, value 2, k 3 -/
def irP_law_power : Fn := ⟨2, 4, none,
  (.cons (.set (.nm 2) (.cst (.int 1)))
  (.cons (.for_ (.nm 3) (.rng1 (.var 1)) (.cons (.set (.nm 2) (.o2 .mul (.peek 2) (.peek 0)))
  .nil))
  (.cons (.ret (.mv 2))
  .nil)))⟩
/-- _law_rest(a, k, m): a 0, k 1, m 2, found 3, base 4, step 5 -/
def irP_law_rest : Fn := ⟨3, 6, none,
  (.cons (.par [3, 4] (.cons (.o2 .mod (.cst (.int 1)) (.peek 2)) (.cons (.o2 .mod (.peek 0) (.peek 2)) .nil)))
  (.cons (.for_ (.nm 5) (.rng1 (.cst (.int 140))) (.cons (.ite (.val (.o2 .gt (.peek 1) (.cst (.int 0)))) (.cons (.ite (.val (.o2 .eq (.o2 .mod (.peek 1) (.cst (.int 2))) (.cst (.int 1)))) (.cons (.set (.nm 3) (.o2 .mod (.o2 .mul (.peek 3) (.peek 4)) (.peek 2)))
  .nil) .nil)
  (.cons (.set (.nm 4) (.o2 .mod (.o2 .mul (.peek 4) (.peek 4)) (.peek 2)))
  (.cons (.set (.nm 1) (.o2 .fdiv (.peek 1) (.cst (.int 2))))
  .nil))) .nil)
  .nil))
  (.cons (.ret (.mv 3))
  .nil)))⟩
/-- _law_is_prime(n): n 0, d 1, step 2 -/
def irP_law_is_prime : Fn := ⟨1, 3, none,
  (.cons (.ite (.val (.o2 .lt (.peek 0) (.cst (.int 2)))) (.cons (.ret (.cst (.bl false)))
  .nil) .nil)
  (.cons (.set (.nm 1) (.cst (.int 2)))
  (.cons (.for_ (.nm 2) (.rng1 (.cst (.int 12000))) (.cons (.ite (.val (.o2 .gt (.o2 .mul (.peek 1) (.peek 1)) (.peek 0))) (.cons (.ret (.cst (.bl true)))
  .nil) .nil)
  (.cons (.ite (.val (.o2 .eq (.o2 .mod (.peek 0) (.peek 1)) (.cst (.int 0)))) (.cons (.ret (.cst (.bl false)))
  .nil) .nil)
  (.cons (.set (.nm 1) (.o2 .add (.peek 1) (.cst (.int 1))))
  .nil))))
  (.cons (.ret (.cst (.bl true)))
  .nil))))⟩
/-- power_rest(a, k, m): a 0, k 1, m 2, found 3 -/
def irP_power_rest : Fn := ⟨3, 4, none,
  (.cons (.par [3, 0] (.cons (.o2 .mod (.cst (.int 1)) (.peek 2)) (.cons (.o2 .mod (.peek 0) (.peek 2)) .nil)))
  (.cons (.whl (.val (.o2 .gt (.peek 1) (.cst (.int 0)))) (.cons (.ite (.val (.o2 .eq (.o2 .mod (.peek 1) (.cst (.int 2))) (.cst (.int 1)))) (.cons (.set (.nm 3) (.o2 .mod (.o2 .mul (.peek 3) (.peek 0)) (.peek 2)))
  .nil) .nil)
  (.cons (.set (.nm 0) (.o2 .mod (.o2 .mul (.peek 0) (.peek 0)) (.peek 2)))
  (.cons (.aug 1 .fdiv (.cst (.int 2)))
  .nil))))
  (.cons (.ret (.mv 3))
  .nil)))⟩
theorem run1 {f : D → Rho → Option Out} (Inv : Int → Rho → Prop) (Post : Out → Prop) : ∀ (n : Nat) (lo : Int) (ρ : Rho), Inv lo ρ →
    (∀ i ρ, lo ≤ i → i < lo + n → Inv i ρ → (∃ ρ', f (.int i) ρ = some (.nx ρ') ∧ Inv (i + 1) ρ') ∨ ∃ r ρ', f (.int i) ρ = some (.rt r ρ') ∧ Post (.rt r ρ')) →
    (∀ ρ, Inv (lo + n) ρ → Post (.nx ρ)) → ∃ o, runN f 1 n lo ρ = some o ∧ Post o
  | 0, lo, ρ, h, _, he => ⟨_, rfl, he ρ (by simpa using h)⟩
  | n + 1, lo, ρ, h, hs, he => by
    rcases hs lo ρ (by omega) (by omega) h with ⟨ρ', e, h'⟩ | ⟨r, ρ', e, p⟩
    · obtain ⟨o, e2, p⟩ := run1 Inv Post n (lo + 1) ρ' h' (fun i ρ h1 h2 => hs i ρ (by omega) (by omega)) (fun ρ h => he ρ (by
        have : lo + ((n + 1 : Nat) : Int) = lo + 1 + n := by omega
        rw [this]; exact h))
      exact ⟨o, by simp only [runN, e]; exact e2, p⟩
    · exact ⟨_, by simp only [runN, e], p⟩
theorem runW_inv {t : Rho → Option (Bool × Rho)} {f : Rho → Option Out} (Inv : Rho → Prop) (μ : Rho → Nat) (Post : Out → Prop)
    (hs : ∀ ρ, Inv ρ → (∃ ρ', t ρ = some (false, ρ') ∧ Post (.nx ρ')) ∨ ∃ ρ1, t ρ = some (true, ρ1) ∧ ((∃ ρ2, f ρ1 = some (.nx ρ2) ∧ Inv ρ2 ∧ μ ρ2 < μ ρ) ∨ ∃ r ρ2, f ρ1 = some (.rt r ρ2) ∧ Post (.rt r ρ2))) :
    ∀ (L : Nat) (ρ : Rho), Inv ρ → μ ρ < L → ∃ o, runW t f L ρ = some o ∧ Post o
  | 0, _, _, h => by omega
  | L + 1, ρ, h, hl => by
    rcases hs ρ h with ⟨ρ', e, p⟩ | ⟨ρ1, e, ⟨ρ2, e2, h2, h3⟩ | ⟨r, ρ2, e2, p⟩⟩
    · exact ⟨_, by simp only [runW, e], p⟩
    · obtain ⟨o, e3, p⟩ := runW_inv Inv μ Post hs L ρ2 h2 (by omega)
      exact ⟨o, by simp only [runW, e, e2]; exact e3, p⟩
    · exact ⟨_, by simp only [runW, e, e2], p⟩
theorem whl_inv {L : Nat} {c : Cl} {t : T} {b : Ss} (Inv : Rho → Prop) (μ : Rho → Nat) (Post : Out → Prop) {ρ : Rho} (h0 : Inv ρ) (hl : μ ρ < L)
    (hs : ∀ ρ, Inv ρ → (∃ ρ', evT c t ρ = some (false, ρ') ∧ Post (.nx ρ')) ∨ ∃ ρ1, evT c t ρ = some (true, ρ1) ∧ ((∃ ρ2, evSs L c b ρ1 = some (.nx ρ2) ∧ Inv ρ2 ∧ μ ρ2 < μ ρ) ∨ ∃ r ρ2, evSs L c b ρ1 = some (.rt r ρ2) ∧ Post (.rt r ρ2))) : ∃ o, evS L c (.whl t b) ρ = some o ∧ Post o := by
  obtain ⟨o, e, p⟩ := runW_inv Inv μ Post hs L ρ h0 hl
  exact ⟨o, by rw [evS]; exact e, p⟩
/-- for i in range(lo, lo + n) -/
theorem for_inv {L : Nat} {c : Cl} {j : Nat} {src : I} {b : Ss} {ρ ρ1 : Rho} {lo : Int} {n : Nat} (hsrc : evI c src ρ = some (.rg lo 1 n, ρ1)) (Inv : Int → Rho → Prop) (Post : Out → Prop) (h0 : Inv lo ρ1)
    (hs : ∀ i ρ, lo ≤ i → i < lo + n → Inv i ρ → j < ρ.length ∧ ((∃ ρ', evSs L c b (ρ.set j (.fz (.int i))) = some (.nx ρ') ∧ Inv (i + 1) ρ') ∨ ∃ r ρ', evSs L c b (ρ.set j (.fz (.int i))) = some (.rt r ρ') ∧ Post (.rt r ρ')))
    (he : ∀ ρ, Inv (lo + n) ρ → Post (.nx ρ)) : ∃ o, evS L c (.for_ (.nm j) src b) ρ = some o ∧ Post o := by
  obtain ⟨o, e, p⟩ := run1 (f := fun d ρ => match stT (.nm j) d ρ with | some ρ => evSs L c b ρ | none => none) Inv Post n lo ρ1 h0 (fun i ρ h1 h2 h => by
    obtain ⟨hj, k⟩ := hs i ρ h1 h2 h
    have e : stT (.nm j) (.int i) ρ = some (ρ.set j (.fz (.int i))) := by simp only [stT, if_pos hj]
    simp only [e]
    exact k) he
  exact ⟨o, by rw [evS, hsrc]; exact e, p⟩
theorem call_is {L : Nat} {P : Prog} {i n : Nat} {fn : Fn} {k : Option Nat} {ds : List D} (h : P[i]? = some fn) : evF L P (n + 1) i k ds = runF L (evF L P n) fn k ds := by
  show (match P[i]? with | some fn => runF L (evF L P n) fn k ds | none => none) = _
  rw [h]
theorem seq_nx {L : Nat} {c : Cl} {s : S} {ss : Ss} {ρ ρ' : Rho} (h : evS L c s ρ = some (.nx ρ')) : evSs L c (.cons s ss) ρ = evSs L c ss ρ' := by rw [evSs, h]
theorem seq_rt {L : Nat} {c : Cl} {s : S} {ss : Ss} {ρ ρ' : Rho} {r : R} (h : evS L c s ρ = some (.rt r ρ')) : evSs L c (.cons s ss) ρ = some (.rt r ρ') := by rw [evSs, h]
theorem fn_rt {L : Nat} {c : Cl} {fn : Fn} {ds : List D} {d : D} {ρ : Rho} (h1 : fn.io = none) (h2 : ds.length = fn.ps) (h : evSs L c fn.body (startR fn ds) = some (.rt (.fz d) ρ)) : runF L c fn none ds = some (false, d, none) := by
  rw [runF, if_pos ⟨h1, h2⟩, h]
  rfl
theorem fn_ow {L : Nat} {c : Cl} {fn : Fn} {ds : List D} {d : D} {ρ : Rho} (h1 : fn.io = none) (h2 : ds.length = fn.ps) (h : evSs L c fn.body (startR fn ds) = some (.rt (.ow d) ρ)) : runF L c fn none ds = some (true, d, none) := by
  rw [runF, if_pos ⟨h1, h2⟩, h]
  rfl
theorem fn_io {L : Nat} {c : Cl} {fn : Fn} {k : Nat} {ds : List D} {d p : D} {ρ : Rho} (h1 : fn.io = some k) (h2 : ds.length = fn.ps) (h : evSs L c fn.body (startR fn ds) = some (.rt (.fz d) ρ)) (hp : ρ[k]? = some (.ow p)) : runF L c fn (some k) ds = some (false, d, some p) := by
  rw [runF, if_pos ⟨h1, h2⟩, h]
  show endR (some k) (.fz d) ρ = _
  simp only [endR, hp]
theorem gt_is {i j : Int} : ap2 .gt (.int i) (.int j) = b1 (decide (j < i)) := rfl
theorem ge_is {i j : Int} : ap2 .ge (.int i) (.int j) = b1 (decide (j ≤ i)) := rfl
theorem eq_is {i j : Int} : ap2 .eq (.int i) (.int j) = b1 (i == j) := rfl
theorem ne_is {i j : Int} : ap2 .ne (.int i) (.int j) = b1 (!(i == j)) := rfl
theorem neg_is {i : Int} : ap1 .neg (.int i) = i1 (-i) := rfl
theorem fmod_is {i j : Int} (h : 0 < j) : i.fmod j = i % j := by rw [Int.fmod_eq_emod_of_nonneg _ (by omega)]
theorem fdiv_is' {i j : Int} (h : 0 < j) : i.fdiv j = i / j := by rw [Int.fdiv_eq_ediv_of_nonneg _ (by omega)]
/-- how many bits -/
def bits (k : Int) : Nat := if k ≤ 0 then 0 else k.toNat.log2 + 1
theorem bits_pos {k : Int} (h : 0 < k) : bits k = k.toNat.log2 + 1 := if_neg (by omega)
theorem bits_half {k : Int} (h : 0 < k) : bits (k / 2) < bits k := by
  rw [bits_pos h]
  by_cases z : k / 2 ≤ 0
  · rw [show bits (k / 2) = 0 from if_pos z]; omega
  · rw [bits_pos (by omega)]
    have e : (k / 2).toNat = k.toNat / 2 := by omega
    rw [e]
    have h2 : 2 ≤ k.toNat := by omega
    have hd : k.toNat.log2 = (k.toNat / 2).log2 + 1 := by
      rw [Nat.log2_def, if_pos h2]
    omega
theorem bits_le {k : Int} {n : Nat} (h : k < ((2 ^ n : Nat) : Int)) : bits k ≤ n := by
  by_cases z : k ≤ 0
  · rw [show bits k = 0 from if_pos z]; omega
  · rw [bits_pos (by omega)]
    have : k.toNat < 2 ^ n := by omega
    have := (Nat.log2_lt (n := k.toNat) (k := n) (by omega)).mpr this
    omega
theorem pow_mod (x m : Int) : ∀ n : Nat, ((x % m) ^ n) % m = (x ^ n) % m
  | 0 => by rw [Int.pow_zero, Int.pow_zero]
  | n + 1 => by
    rw [Int.pow_succ, Int.pow_succ, Int.mul_emod, pow_mod x m n, Int.emod_emod_of_dvd _ (Int.dvd_refl m), ← Int.mul_emod]
/-- a turn of raising by squares -/
theorem pow_turn {a0 found a k m : Int} {k0 : Nat} (hk : 0 < k) (h : (found * a ^ k.toNat) % m = (a0 ^ k0) % m) :
    ((if k % 2 = 1 then found * a % m else found) * (a * a % m) ^ (k / 2).toNat) % m = (a0 ^ k0) % m := by
  rw [← h]
  have sq : ((a * a % m) ^ (k / 2).toNat) % m = (a ^ (2 * (k / 2).toNat)) % m := by
    rw [pow_mod, Int.pow_mul, Int.pow_succ, Int.pow_succ, Int.pow_zero, Int.one_mul]
  by_cases z : k % 2 = 1
  · rw [if_pos z]
    have e : k.toNat = 2 * (k / 2).toNat + 1 := by omega
    rw [e, Int.mul_emod, sq, Int.emod_emod_of_dvd _ (Int.dvd_refl m), ← Int.mul_emod, Int.pow_succ, Int.mul_assoc, Int.mul_comm a]
  · rw [if_neg z]
    have e : k.toNat = 2 * (k / 2).toNat := by omega
    rw [e, Int.mul_emod, sq, ← Int.mul_emod]
section
variable {L : Nat} {P : Prog}
theorem power_rest_ok {i n : Nat} (h : P[i]? = some irP_power_rest) (hL : 2000 < L) (a k m : Int) (hk : 0 ≤ k) (hk2 : k < ((2 ^ 1000 : Nat) : Int)) (hm : 0 < m) (hm2 : m < 2 ^ 199) :
    evF L P (n + 1) i none [.int a, .int k, .int m] = some (false, .int (a ^ k.toNat % m), none) := by
  rw [call_is h]
  have st : startR irP_power_rest [.int a, .int k, .int m] = [.fz (.int a), .fz (.int k), .fz (.int m), .no] := rfl
  have m1 : ap2 .mod (.int 1) (.int m) = i1 (1 % m) := by rw [mod_is (by omega), fmod_is hm]
  have m2 : ap2 .mod (.int a) (.int m) = i1 (a % m) := by rw [mod_is (by omega), fmod_is hm]
  have lp : ∃ o, evS L (evF L P n) (.whl (.val (.o2 .gt (.peek 1) (.cst (.int 0)))) (.cons (.ite (.val (.o2 .eq (.o2 .mod (.peek 1) (.cst (.int 2))) (.cst (.int 1)))) (.cons (.set (.nm 3) (.o2 .mod (.o2 .mul (.peek 3) (.peek 0)) (.peek 2))) .nil) .nil) (.cons (.set (.nm 0) (.o2 .mod (.o2 .mul (.peek 0) (.peek 0)) (.peek 2))) (.cons (.aug 1 .fdiv (.cst (.int 2))) .nil)))) [.fz (.int (a % m)), .fz (.int k), .fz (.int m), .fz (.int (1 % m))] = some o ∧ ∃ x y z, o = .nx [.fz (.int x), .fz (.int y), .fz (.int z), .fz (.int (a ^ k.toNat % m))] := by
    refine whl_inv (fun ρ => ∃ x j f : Int, ρ = [.fz (.int x), .fz (.int j), .fz (.int m), .fz (.int f)] ∧ 0 ≤ j ∧ 0 ≤ f ∧ f < m ∧ 0 ≤ x ∧ x < m ∧ (f * x ^ j.toNat) % m = (a ^ k.toNat) % m)
      (fun ρ => match ρ with | [_, .fz (.int j), _, _] => bits j | _ => 0) (fun o => ∃ x y z, o = .nx [.fz (.int x), .fz (.int y), .fz (.int z), .fz (.int (a ^ k.toNat % m))]) ⟨a % m, k, 1 % m, rfl, hk, Int.emod_nonneg _ (by omega), Int.emod_lt_of_pos _ hm, Int.emod_nonneg _ (by omega), Int.emod_lt_of_pos _ hm, ?_⟩ ?_ ?_
    · rw [Int.mul_emod, pow_mod, Int.emod_emod_of_dvd _ (Int.dvd_refl m), ← Int.mul_emod, Int.one_mul]
    · show bits k < L
      have := bits_le hk2
      omega
    · rintro ρ ⟨x, j, f, rfl, j0, f0, f1, x0, x1, e⟩
      by_cases z : 0 < j
      · refine .inr ⟨[.fz (.int x), .fz (.int j), .fz (.int m), .fz (.int f)], ?_, .inl ⟨[.fz (.int (x * x % m)), .fz (.int (j / 2)), .fz (.int m), .fz (.int (if j % 2 = 1 then f * x % m else f))], ?_, ⟨_, _, _, rfl, by omega, ?_, ?_, Int.emod_nonneg _ (by omega), Int.emod_lt_of_pos _ hm, pow_turn z e⟩, bits_half z⟩⟩
        · simp only [evSs, evS, evE, evT, evA, put, stT, R.get, R.frz, mk, le_is, lt_is, len_is, add_is, sub_is, int_is, i1, b1, truth, doCall, ioAt, getAll, getA, noIo, anyBo, purO, D.pur, putIo, Bool.not_true, Bool.not_false, Bool.and_self, Bool.false_and, List.take, List.drop, List.length_map, List.getElem?_cons_zero, List.getElem?_cons_succ, List.set_cons_zero, List.set_cons_succ, List.length_cons, List.length_nil, if_true, Bool.false_eq_true, if_false, Nat.reduceAdd, Nat.reduceLT, gt_is, decide_eq_true z]
        · have q1 : ap2 .mod (.int j) (.int 2) = i1 (j % 2) := by rw [mod_is (by omega), fmod_is (by omega)]
          have q2 := mul_is (i := f) (j := x) (small_abs f0 (by omega)) (small_abs x0 (by omega))
          have q3 : ap2 .mod (.int (f * x)) (.int m) = i1 (f * x % m) := by rw [mod_is (by omega), fmod_is hm]
          have q4 := mul_is (i := x) (j := x) (small_abs x0 (by omega)) (small_abs x0 (by omega))
          have q5 : ap2 .mod (.int (x * x)) (.int m) = i1 (x * x % m) := by rw [mod_is (by omega), fmod_is hm]
          have q6 : apI .fdiv (.int j) (.int 2) = i1 (j / 2) := by show ap2 .fdiv (.int j) (.int 2) = _; rw [fdiv_is (by omega) (Nat.lt_of_lt_of_le (show (2 : Int).natAbs < 2 ^ 64 by decide) (Nat.pow_le_pow_right (by omega) (by omega))), fdiv_is' (by omega)]
          by_cases y : j % 2 = 1
          · have y' : (j % 2 == 1) = true := by simp [y]
            simp only [evSs, evS, evE, evT, evA, put, stT, R.get, R.frz, mk, le_is, lt_is, len_is, add_is, sub_is, int_is, i1, b1, truth, doCall, ioAt, getAll, getA, noIo, anyBo, purO, D.pur, putIo, Bool.not_true, Bool.not_false, Bool.and_self, Bool.false_and, List.take, List.drop, List.length_map, List.getElem?_cons_zero, List.getElem?_cons_succ, List.set_cons_zero, List.set_cons_succ, List.length_cons, List.length_nil, if_true, Bool.false_eq_true, if_false, Nat.reduceAdd, Nat.reduceLT, eq_is, q1, q2, q3, q4, q5, q6, y', if_pos y]
          · have y' : (j % 2 == 1) = false := by simp [y]
            simp only [evSs, evS, evE, evT, evA, put, stT, R.get, R.frz, mk, le_is, lt_is, len_is, add_is, sub_is, int_is, i1, b1, truth, doCall, ioAt, getAll, getA, noIo, anyBo, purO, D.pur, putIo, Bool.not_true, Bool.not_false, Bool.and_self, Bool.false_and, List.take, List.drop, List.length_map, List.getElem?_cons_zero, List.getElem?_cons_succ, List.set_cons_zero, List.set_cons_succ, List.length_cons, List.length_nil, if_true, Bool.false_eq_true, if_false, Nat.reduceAdd, Nat.reduceLT, eq_is, q1, q2, q3, q4, q5, q6, y', if_neg y]
        · split
          · exact Int.emod_nonneg _ (by omega)
          · exact f0
        · split
          · exact Int.emod_lt_of_pos _ hm
          · exact f1
      · have j1 : j = 0 := by omega
        subst j1
        refine .inl ⟨[.fz (.int x), .fz (.int 0), .fz (.int m), .fz (.int f)], ?_, x, 0, m, ?_⟩
        · simp only [evSs, evS, evE, evT, evA, put, stT, R.get, R.frz, mk, le_is, lt_is, len_is, add_is, sub_is, int_is, i1, b1, truth, doCall, ioAt, getAll, getA, noIo, anyBo, purO, D.pur, putIo, Bool.not_true, Bool.not_false, Bool.and_self, Bool.false_and, List.take, List.drop, List.length_map, List.getElem?_cons_zero, List.getElem?_cons_succ, List.set_cons_zero, List.set_cons_succ, List.length_cons, List.length_nil, if_true, Bool.false_eq_true, if_false, Nat.reduceAdd, Nat.reduceLT, gt_is, decide_eq_false z]
        · rw [← e]
          simp
          rw [Int.emod_eq_of_lt f0 f1]
  obtain ⟨o, e1, x, y, z, rfl⟩ := lp
  refine fn_rt (ρ := [.fz (.int x), .fz (.int y), .fz (.int z), .fz (.int (a ^ k.toNat % m))]) rfl rfl ?_
  rw [st]
  show evSs L (evF L P n) (.cons _ (.cons _ _)) _ = _
  rw [seq_nx (ρ' := [.fz (.int (a % m)), .fz (.int k), .fz (.int m), .fz (.int (1 % m))]) (by simp only [evSs, evS, evE, evT, evA, put, stT, R.get, R.frz, mk, le_is, lt_is, len_is, add_is, sub_is, int_is, i1, b1, truth, doCall, ioAt, getAll, getA, noIo, anyBo, purO, D.pur, putIo, Bool.not_true, Bool.not_false, Bool.and_self, Bool.false_and, List.take, List.drop, List.length_map, List.getElem?_cons_zero, List.getElem?_cons_succ, List.set_cons_zero, List.set_cons_succ, List.length_cons, List.length_nil, if_true, Bool.false_eq_true, if_false, Nat.reduceAdd, Nat.reduceLT, putAll, m1, m2]), seq_nx e1]
  simp only [evSs, evS, evE, evT, evA, put, stT, R.get, R.frz, mk, le_is, lt_is, len_is, add_is, sub_is, int_is, i1, b1, truth, doCall, ioAt, getAll, getA, noIo, anyBo, purO, D.pur, putIo, Bool.not_true, Bool.not_false, Bool.and_self, Bool.false_and, List.take, List.drop, List.length_map, List.getElem?_cons_zero, List.getElem?_cons_succ, List.set_cons_zero, List.set_cons_succ, List.length_cons, List.length_nil, if_true, Bool.false_eq_true, if_false, Nat.reduceAdd, Nat.reduceLT]
end
end NW
namespace NW
mutual
/-- data that the comparing def takes, nested less than n deep -/
def sameOk : Nat → D → Bool
  | 0, _ => false
  | _ + 1, .non => true
  | _ + 1, .bl _ => true
  | _ + 1, .int _ => true
  | _ + 1, .str _ => true
  | n + 1, .tup xs => decide (xs.length ≤ L24) && sameOkL n xs
  | n + 1, .lst xs => decide (xs.length ≤ L24) && sameOkL n xs
  | _ + 1, .dct _ => false
def sameOkL : Nat → List D → Bool
  | _, [] => true
  | n, x :: xs => sameOk n x && sameOkL n xs
end
theorem sameOkL_get : ∀ {n : Nat} {xs : List D} {i : Nat} {d : D}, sameOkL n xs = true → xs[i]? = some d → sameOk n d = true
  | n, [], i, d, _, e => by cases e
  | n, x :: xs, 0, d, h, e => by
    cases e
    unfold sameOkL at h
    simp only [Bool.and_eq_true] at h
    exact h.1
  | n, x :: xs, i + 1, d, h, e => by
    unfold sameOkL at h
    simp only [Bool.and_eq_true] at h
    exact sameOkL_get h.2 e
theorem walkN_nil {f : D → Rho → Option (List D × Rho)} {ρ : Rho} : ∀ (n : Nat) (i : Int), (∀ k : Int, i ≤ k → k < i + n → f (.int k) ρ = some ([], ρ)) → walkN f 1 n i ρ = some ([], ρ)
  | 0, _, _ => rfl
  | n + 1, i, h => by
    simp only [walkN, h i (by omega) (by omega), walkN_nil n (i + 1) (fun k h1 h2 => h k (by omega) (by omega))]
    rfl
section
variable {L : Nat} {P : Prog}
theorem rg_len {xs : List D} (h : xs.length ≤ L24) : rgOk (xs.length : Int) = true := by
  have : L24 = 16777216 := rfl
  unfold rgOk
  simp only [Bool.and_eq_true, decide_eq_true_eq]
  omega
theorem same_seq {i n : Nat} {xs : List D} {s : NW.D} (hs : s = .tup xs ∨ s = .lst xs) (hl : xs.length ≤ L24) (ih : ∀ d ∈ xs, evF L P n i none [d, d] = some (false, .bl true, none)) :
    evE (evF L P n) (.o2 .eq (.o1 .len (.lc (.nm 2) [2] (.rng1 (.o1 .len (.peek 1))) (.not_ (.val (.call i none (.cons (.o2 .idx (.peek 0) (.var 2)) (.cons (.o2 .idx (.peek 1) (.var 2)) .nil))))) (.var 2))) (.cst (.int 0))) [.fz s, .fz s, .no] = some (.fz (.bl true), [.fz s, .fz s, .no]) := by
  have e1 : ap1 .len s = i1 xs.length := by rcases hs with rfl | rfl <;> rfl
  have key : ∀ (j : Int), 0 ≤ j → j < xs.length → ∃ d, d ∈ xs ∧ ap2 .idx s (.int j) = some (false, d) := fun j h0 h1 => by
    have hz : j.toNat < xs.length := by omega
    refine ⟨xs[j.toNat], List.getElem_mem hz, ?_⟩
    have hx : xs[j.toNat]? = some xs[j.toNat] := List.getElem?_eq_getElem hz
    have ei : ixN xs.length j = some j.toNat := by unfold ixN; rw [if_pos h0, if_pos h1]
    rcases hs with rfl | rfl <;> simp only [ap2, ei, hx]
  have eI : evI (evF L P n) (.rng1 (.o1 .len (.peek 1))) [.fz s, .fz s, .no] = some (.rg 0 1 xs.length, [.fz s, .fz s, .no]) := by
    simp only [evI, evSs, evS, evE, evT, evA, put, stT, R.get, R.frz, mk, le_is, lt_is, len_is, add_is, sub_is, int_is, i1, b1, truth, doCall, ioAt, getAll, getA, noIo, anyBo, purO, D.pur, putIo, Bool.not_true, Bool.not_false, Bool.and_self, Bool.false_and, List.take, List.drop, List.length_map, List.getElem?_cons_zero, List.getElem?_cons_succ, List.set_cons_zero, List.set_cons_succ, List.length_cons, List.length_nil, if_true, Bool.false_eq_true, if_false, Nat.reduceAdd, Nat.reduceLT, e1, rg_len hl, Int.toNat_natCast]
  have eL : evE (evF L P n) (.lc (.nm 2) [2] (.rng1 (.o1 .len (.peek 1))) (.not_ (.val (.call i none (.cons (.o2 .idx (.peek 0) (.var 2)) (.cons (.o2 .idx (.peek 1) (.var 2)) .nil))))) (.var 2)) [.fz s, .fz s, .no] = some (.ow (.lst []), [.fz s, .fz s, .no]) := by
    have h0 : (([] : List NW.D).length ≤ L24) = True := by simp
    rw [evE, eI]
    simp only [wipeR, Src.walk, List.set_cons_zero, List.set_cons_succ]
    rw [walkN_nil]
    · simp only [h0, if_true, restore, List.getElem?_cons_zero, List.getElem?_cons_succ, List.set_cons_zero, List.set_cons_succ]
    · intro j h1 h2
      obtain ⟨d, hd, e2⟩ := key j h1 (by omega)
      simp only [evSs, evS, evE, evT, evA, put, stT, R.get, R.frz, mk, le_is, lt_is, len_is, add_is, sub_is, int_is, i1, b1, truth, doCall, ioAt, getAll, getA, noIo, anyBo, purO, D.pur, putIo, Bool.not_true, Bool.not_false, Bool.and_self, Bool.false_and, List.take, List.drop, List.length_map, List.getElem?_cons_zero, List.getElem?_cons_succ, List.set_cons_zero, List.set_cons_succ, List.length_cons, List.length_nil, if_true, Bool.false_eq_true, if_false, Nat.reduceAdd, Nat.reduceLT, e2, ih d hd, wipeR]
  rw [evE, evE, eL]
  rfl
theorem same_ok {i : Nat} (h : P[i]? = some (irP_law_same i)) : ∀ (n : Nat) (d : D), sameOk n d = true → evF L P n i none [d, d] = some (false, .bl true, none)
  | 0, d, hd => by unfold sameOk at hd; cases hd
  | n + 1, d, hd => by
    rw [call_is h]
    have st : startR (irP_law_same i) [d, d] = [.fz d, .fz d, .no] := rfl
    have seq : ∀ xs, d = .tup xs ∨ d = .lst xs → xs.length ≤ L24 → sameOkL n xs = true → runF L (evF L P n) (irP_law_same i) none [d, d] = some (false, .bl true, none) := fun xs hx hl hk => by
      have e := same_seq (L := L) (P := P) (i := i) (n := n) hx hl (fun y hy => by
        obtain ⟨j, hj, rfl⟩ := List.getElem_of_mem hy
        exact same_ok h n _ (sameOkL_get hk (List.getElem?_eq_getElem hj)))
      refine fn_rt (ρ := [.fz d, .fz d, .no]) rfl rfl ?_
      rw [st]
      show evSs L (evF L P n) (.cons (.ite _ (.cons _ (.cons _ (.cons (.ret (.o2 .eq (.o1 .len (.lc _ _ _ _ _)) _)) .nil))) .nil) _) _ = _
      refine seq_rt ?_
      rw [evS]
      have t1 : evT (evF L P n) (.or_ (.val (.o1 .isTup (.peek 1))) (.val (.o1 .isLst (.peek 1)))) [.fz d, .fz d, .no] = some (true, [.fz d, .fz d, .no]) := by
        rcases hx with rfl | rfl <;> simp only [evSs, evS, evE, evT, evA, put, stT, R.get, R.frz, mk, le_is, lt_is, len_is, add_is, sub_is, int_is, i1, b1, truth, doCall, ioAt, getAll, getA, noIo, anyBo, purO, D.pur, putIo, Bool.not_true, Bool.not_false, Bool.and_self, Bool.false_and, List.take, List.drop, List.length_map, List.getElem?_cons_zero, List.getElem?_cons_succ, List.set_cons_zero, List.set_cons_succ, List.length_cons, List.length_nil, if_true, Bool.false_eq_true, if_false, Nat.reduceAdd, Nat.reduceLT, ap1]
      rw [t1]
      show evSs L (evF L P n) (.cons _ (.cons _ _)) _ = _
      rw [seq_nx (ρ' := [.fz d, .fz d, .no]) (by rcases hx with rfl | rfl <;> simp only [evSs, evS, evE, evT, evA, put, stT, R.get, R.frz, mk, le_is, lt_is, len_is, add_is, sub_is, int_is, i1, b1, truth, doCall, ioAt, getAll, getA, noIo, anyBo, purO, D.pur, putIo, Bool.not_true, Bool.not_false, Bool.and_self, Bool.false_and, List.take, List.drop, List.length_map, List.getElem?_cons_zero, List.getElem?_cons_succ, List.set_cons_zero, List.set_cons_succ, List.length_cons, List.length_nil, if_true, Bool.false_eq_true, if_false, Nat.reduceAdd, Nat.reduceLT, ap1, ap2, eqD, beq_self_eq_true, Bool.not_true]),
        seq_nx (ρ' := [.fz d, .fz d, .no]) (by rcases hx with rfl | rfl <;> simp only [evSs, evS, evE, evT, evA, put, stT, R.get, R.frz, mk, le_is, lt_is, len_is, add_is, sub_is, int_is, i1, b1, truth, doCall, ioAt, getAll, getA, noIo, anyBo, purO, D.pur, putIo, Bool.not_true, Bool.not_false, Bool.and_self, Bool.false_and, List.take, List.drop, List.length_map, List.getElem?_cons_zero, List.getElem?_cons_succ, List.set_cons_zero, List.set_cons_succ, List.length_cons, List.length_nil, if_true, Bool.false_eq_true, if_false, Nat.reduceAdd, Nat.reduceLT, ap1, ne_is, beq_self_eq_true, Bool.not_true])]
      rw [evSs, evS, e]
    cases d with
    | dct _ => unfold sameOk at hd; cases hd
    | tup xs =>
      unfold sameOk at hd
      simp only [Bool.and_eq_true, decide_eq_true_eq] at hd
      exact seq xs (.inl rfl) hd.1 hd.2
    | lst xs =>
      unfold sameOk at hd
      simp only [Bool.and_eq_true, decide_eq_true_eq] at hd
      exact seq xs (.inr rfl) hd.1 hd.2
    | non =>
      refine fn_rt (ρ := [.fz .non, .fz .non, .no]) rfl rfl ?_
      rw [st]
      simp only [irP_law_same, evSs, evS, evE, evT, evA, put, stT, R.get, R.frz, mk, le_is, lt_is, len_is, add_is, sub_is, int_is, i1, b1, truth, doCall, ioAt, getAll, getA, noIo, anyBo, purO, D.pur, putIo, Bool.not_true, Bool.not_false, Bool.and_self, Bool.false_and, List.take, List.drop, List.length_map, List.getElem?_cons_zero, List.getElem?_cons_succ, List.set_cons_zero, List.set_cons_succ, List.length_cons, List.length_nil, if_true, Bool.false_eq_true, if_false, Nat.reduceAdd, Nat.reduceLT, ap1]
    | bl b =>
      refine fn_rt (ρ := [.fz (.bl b), .fz (.bl b), .no]) rfl rfl ?_
      rw [st]
      simp only [irP_law_same, evSs, evS, evE, evT, evA, put, stT, R.get, R.frz, mk, le_is, lt_is, len_is, add_is, sub_is, int_is, i1, b1, truth, doCall, ioAt, getAll, getA, noIo, anyBo, purO, D.pur, putIo, Bool.not_true, Bool.not_false, Bool.and_self, Bool.false_and, List.take, List.drop, List.length_map, List.getElem?_cons_zero, List.getElem?_cons_succ, List.set_cons_zero, List.set_cons_succ, List.length_cons, List.length_nil, if_true, Bool.false_eq_true, if_false, Nat.reduceAdd, Nat.reduceLT, ap1, ap2, eqD, beq_self_eq_true]
    | int b =>
      refine fn_rt (ρ := [.fz (.int b), .fz (.int b), .no]) rfl rfl ?_
      rw [st]
      simp only [irP_law_same, evSs, evS, evE, evT, evA, put, stT, R.get, R.frz, mk, le_is, lt_is, len_is, add_is, sub_is, int_is, i1, b1, truth, doCall, ioAt, getAll, getA, noIo, anyBo, purO, D.pur, putIo, Bool.not_true, Bool.not_false, Bool.and_self, Bool.false_and, List.take, List.drop, List.length_map, List.getElem?_cons_zero, List.getElem?_cons_succ, List.set_cons_zero, List.set_cons_succ, List.length_cons, List.length_nil, if_true, Bool.false_eq_true, if_false, Nat.reduceAdd, Nat.reduceLT, ap1, eq_is, beq_self_eq_true]
    | str b =>
      refine fn_rt (ρ := [.fz (.str b), .fz (.str b), .no]) rfl rfl ?_
      rw [st]
      simp only [irP_law_same, evSs, evS, evE, evT, evA, put, stT, R.get, R.frz, mk, le_is, lt_is, len_is, add_is, sub_is, int_is, i1, b1, truth, doCall, ioAt, getAll, getA, noIo, anyBo, purO, D.pur, putIo, Bool.not_true, Bool.not_false, Bool.and_self, Bool.false_and, List.take, List.drop, List.length_map, List.getElem?_cons_zero, List.getElem?_cons_succ, List.set_cons_zero, List.set_cons_succ, List.length_cons, List.length_nil, if_true, Bool.false_eq_true, if_false, Nat.reduceAdd, Nat.reduceLT, ap1, ap2, eqD, beq_self_eq_true]
/-- a pool after at most m draws -/
def PoolOk (m : Nat) (p : D) : Prop := ∃ (ns : List Int) (i v c s : Int), p = poolD ns i v c s ∧ 0 ≤ i ∧ 0 ≤ c ∧ c ≤ m ∧ 0 ≤ s ∧ s < 2 ^ 64
/-- the drawing def at d, the spreading one at s -/
structure Dr (P : Prog) (s d : Nat) : Prop where
  sp : P[s]? = some irSpread
  dr : P[d]? = some (irDraw s)
theorem poolOk {p n : Nat} (h : P[p]? = some irPool) (ns : List Int) (hl : ns.length ≤ 63) : ∃ q, PoolOk 0 q ∧ evF L P (n + 1) p none [.lst (ns.map D.int)] = some (true, q, none) := by
  obtain ⟨sa, h0, h1, e⟩ := pool_ok (L := L) (n := n) h ns hl
  exact ⟨_, ⟨ns, 0, 0, 0, sa, rfl, by omega, by omega, by omega, h0, by omega⟩, e⟩
theorem drawOk {s d n m : Nat} (h : Dr P s d) {p : D} (hp : PoolOk m p) (hm : m < 2 ^ 59) {k : Int} (hk : 0 < k) (hk2 : k < 2 ^ 200) :
    ∃ (r : Int) (q : D), 0 ≤ r ∧ r < k ∧ PoolOk (m + 1) q ∧ evF L P (n + 2) d (some 0) [p, .int k] = some (false, .int r, some q) := by
  obtain ⟨ns, i, v, c, sa, rfl, h1, h2, h3, h4, h5⟩ := hp
  obtain ⟨r, i', v', r0, r1, i0, e⟩ := draw_ok (L := L) (n := n) h.sp h.dr ns i v c sa k h1 h2 (by omega) h4 h5 hk (small89 (by omega) hk2)
  exact ⟨r, _, r0, r1, ⟨ns, i', v', c + 1, sa, rfl, i0, by omega, by omega, h4, h5⟩, e⟩
/-- a draw of either sign -/
theorem intOk {s d n m i : Nat} (h : Dr P s d) (hi : P[i]? = some (irP_law_int d)) {p : D} (hp : PoolOk m p) (hm : m < 2 ^ 58) {k : Int} (hk : 0 < k) (hk2 : k < 2 ^ 199) :
    ∃ (r : Int) (q : D), -k < r ∧ r < k ∧ PoolOk (m + 2) q ∧ evF L P (n + 3) i (some 0) [p, .int k] = some (false, .int r, some q) := by
  obtain ⟨r, q, r0, r1, hq, e1⟩ := drawOk (L := L) (n := n) h hp (by omega) hk (by omega)
  obtain ⟨t, q2, t0, t1, hq2, e2⟩ := drawOk (L := L) (n := n) h hq (by omega) (show (0 : Int) < 2 by omega) (by omega)
  have run : ∀ (z : Int), (if (t == 0) = true then z = 1 else z = -1) → evF L P (n + 3) i (some 0) [p, .int k] = some (false, .int (r * z), some q2) := fun z hz => by
    rw [call_is hi]
    have st : startR (irP_law_int d) [p, .int k] = [.ow p, .fz (.int k)] := rfl
    refine fn_io (ρ := [.ow q2, .fz (.int k)]) rfl rfl ?_ rfl
    rw [st]
    have m1 := mul_is (i := r) (j := z) (small_abs r0 (by omega)) (pow_big (by split at hz <;> (subst hz; decide)))
    cases ht : (t == 0) with
    | true =>
      rw [ht] at hz
      simp only [if_true] at hz
      subst hz
      simp only [irP_law_int, evSs, evS, evE, evT, evA, put, stT, R.get, R.frz, mk, le_is, lt_is, len_is, add_is, sub_is, int_is, i1, b1, truth, doCall, ioAt, getAll, getA, noIo, anyBo, purO, D.pur, putIo, Bool.not_true, Bool.not_false, Bool.and_self, Bool.false_and, List.take, List.drop, List.length_map, List.getElem?_cons_zero, List.getElem?_cons_succ, List.set_cons_zero, List.set_cons_succ, List.length_cons, List.length_nil, if_true, Bool.false_eq_true, if_false, Nat.reduceAdd, Nat.reduceLT, e1, e2, eq_is, ht, m1]
    | false =>
      rw [ht] at hz
      simp only [Bool.false_eq_true, if_false] at hz
      subst hz
      simp only [irP_law_int, evSs, evS, evE, evT, evA, put, stT, R.get, R.frz, mk, le_is, lt_is, len_is, add_is, sub_is, int_is, i1, b1, truth, doCall, ioAt, getAll, getA, noIo, anyBo, purO, D.pur, putIo, Bool.not_true, Bool.not_false, Bool.and_self, Bool.false_and, List.take, List.drop, List.length_map, List.getElem?_cons_zero, List.getElem?_cons_succ, List.set_cons_zero, List.set_cons_succ, List.length_cons, List.length_nil, if_true, Bool.false_eq_true, if_false, Nat.reduceAdd, Nat.reduceLT, e1, e2, eq_is, ht, neg_is, m1]
  by_cases ht : (t == 0) = true
  · exact ⟨r * 1, q2, by omega, by omega, hq2, run 1 (by rw [if_pos ht])⟩
  · exact ⟨r * -1, q2, by omega, by omega, hq2, run (-1) (by rw [if_neg ht])⟩
theorem pickOk {s d n m i : Nat} (h : Dr P s d) (hi : P[i]? = some (irP_law_pick d)) {p x : D} {xs : List D} (hx : x = .lst xs ∨ x = .tup xs) (h0 : 0 < xs.length) (hl : xs.length ≤ L24) (hp : PoolOk m p) (hm : m < 2 ^ 58) :
    ∃ (r : D) (q : D), r ∈ xs ∧ PoolOk (m + 1) q ∧ evF L P (n + 3) i (some 0) [p, x] = some (false, r, some q) := by
  have hL : L24 = 16777216 := rfl
  obtain ⟨r, q, r0, r1, hq, e1⟩ := drawOk (L := L) (n := n) h hp (by omega) (show (0 : Int) < (xs.length : Int) by omega) (by omega)
  have hz : r.toNat < xs.length := by omega
  refine ⟨xs[r.toNat], q, List.getElem_mem hz, hq, ?_⟩
  have e2 : ap1 .len x = i1 xs.length := by rcases hx with rfl | rfl <;> rfl
  have hx2 : xs[r.toNat]? = some xs[r.toNat] := List.getElem?_eq_getElem hz
  have ei : ixN xs.length r = some r.toNat := by unfold ixN; rw [if_pos r0, if_pos r1]
  have e3 : ap2 .idx x (.int r) = some (false, xs[r.toNat]) := by rcases hx with rfl | rfl <;> simp only [ap2, ei, hx2]
  rw [call_is hi]
  have st : startR (irP_law_pick d) [p, x] = [.ow p, .fz x] := rfl
  refine fn_io (ρ := [.ow q, .fz x]) rfl rfl ?_ rfl
  rw [st]
  simp only [irP_law_pick, evSs, evS, evE, evT, evA, put, stT, R.get, R.frz, mk, le_is, lt_is, len_is, add_is, sub_is, int_is, i1, b1, truth, doCall, ioAt, getAll, getA, noIo, anyBo, purO, D.pur, putIo, Bool.not_true, Bool.not_false, Bool.and_self, Bool.false_and, List.take, List.drop, List.length_map, List.getElem?_cons_zero, List.getElem?_cons_succ, List.set_cons_zero, List.set_cons_succ, List.length_cons, List.length_nil, if_true, Bool.false_eq_true, if_false, Nat.reduceAdd, Nat.reduceLT, e2, e1, e3]
theorem abs_ok' {i n : Nat} (hi : P[i]? = some irP_law_abs) (a : Int) : evF L P (n + 1) i none [.int a] = some (false, .int a.natAbs, none) := by
  rw [call_is hi]
  have st : startR irP_law_abs [.int a] = [.fz (.int a)] := rfl
  by_cases h : 0 ≤ a
  · refine fn_rt (ρ := [.fz (.int a)]) rfl rfl ?_
    rw [st]
    have e : (a.natAbs : Int) = a := by omega
    simp only [irP_law_abs, evSs, evS, evE, evT, evA, put, stT, R.get, R.frz, mk, le_is, lt_is, len_is, add_is, sub_is, int_is, i1, b1, truth, doCall, ioAt, getAll, getA, noIo, anyBo, purO, D.pur, putIo, Bool.not_true, Bool.not_false, Bool.and_self, Bool.false_and, List.take, List.drop, List.length_map, List.getElem?_cons_zero, List.getElem?_cons_succ, List.set_cons_zero, List.set_cons_succ, List.length_cons, List.length_nil, if_true, Bool.false_eq_true, if_false, Nat.reduceAdd, Nat.reduceLT, ge_is, decide_eq_true h, e]
  · refine fn_rt (ρ := [.fz (.int a)]) rfl rfl ?_
    rw [st]
    have e : (a.natAbs : Int) = 0 - a := by omega
    simp only [irP_law_abs, evSs, evS, evE, evT, evA, put, stT, R.get, R.frz, mk, le_is, lt_is, len_is, add_is, sub_is, int_is, i1, b1, truth, doCall, ioAt, getAll, getA, noIo, anyBo, purO, D.pur, putIo, Bool.not_true, Bool.not_false, Bool.and_self, Bool.false_and, List.take, List.drop, List.length_map, List.getElem?_cons_zero, List.getElem?_cons_succ, List.set_cons_zero, List.set_cons_succ, List.length_cons, List.length_nil, if_true, Bool.false_eq_true, if_false, Nat.reduceAdd, Nat.reduceLT, ge_is, decide_eq_false h, e]
/-- Euclid's steps -/
theorem gcd_step (a b : Int) (h0 : 0 ≤ a) (hb : 0 < b) : Nat.gcd a.natAbs b.natAbs = Nat.gcd b.natAbs (a % b).natAbs := by
  have e : (a % b).natAbs = a.natAbs % b.natAbs := by
    have : a % b = ((a.natAbs % b.natAbs : Nat) : Int) := by
      rw [Int.natCast_emod]
      congr 1 <;> omega
    omega
  rw [e, Nat.gcd_comm a.natAbs, Nat.gcd_rec b.natAbs a.natAbs, Nat.gcd_comm]
end
end NW
namespace NW
theorem small_of {i : Int} (h0 : 0 ≤ i) {B : Int} (h : i < B) (hB : B ≤ 2 ^ 199) : i.natAbs < 2 ^ 400000 := small_abs h0 (by omega)
section
variable {L : Nat} {P : Prog}
theorem two_pow_pos (n : Nat) : (0 : Int) < 2 ^ n := Int.pow_pos (by omega)
theorem half_prod {x y : Int} (hy : 0 < y) (hxy : y ≤ x) : 2 * (y * (x % y)) ≤ x * y := by
  have h1 := Int.emod_nonneg x (show y ≠ 0 by omega)
  have h2 := Int.emod_lt_of_pos x hy
  have h3 : y + x % y ≤ x := by
    have e := Int.mul_ediv_add_emod x y
    have q : 1 ≤ x / y := by
      have : y * 1 ≤ x := by omega
      exact (Int.le_ediv_iff_mul_le hy).mpr (by omega)
    have : y * 1 ≤ y * (x / y) := Int.mul_le_mul_of_nonneg_left q (by omega)
    omega
  have h4 : 2 * (x % y) ≤ x := by omega
  calc 2 * (y * (x % y)) = (2 * (x % y)) * y := by rw [Int.mul_comm y, Int.mul_assoc]
    _ ≤ x * y := Int.mul_le_mul_of_nonneg_right h4 (by omega)
theorem common_ok {i n : Nat} (h : P[i]? = some irP_law_common) (a b : Int) (ha : 0 ≤ a) (hb : 0 ≤ b) (hab : a * b < 2 ^ 1900) : evF L P (n + 1) i none [.int a, .int b] = some (false, .int (Nat.gcd a.natAbs b.natAbs), none) := by
  rw [call_is h]
  have st : startR irP_law_common [.int a, .int b] = [.fz (.int a), .fz (.int b), .no, .no] := rfl
  have lp : ∃ o, evS L (evF L P n) (.for_ (.nm 2) (.rng1 (.cst (.int 2000))) (.cons (.ite (.val (.o2 .eq (.peek 1) (.cst (.int 0)))) (.cons (.ret (.mv 0)) .nil) .nil) (.cons (.set (.nm 3) (.o2 .mod (.o1 .toInt (.peek 0)) (.peek 1))) (.cons (.set (.nm 0) (.var 1)) (.cons (.set (.nm 1) (.var 3)) .nil))))) [.fz (.int a), .fz (.int b), .no, .no] = some o ∧
      ((∃ ρ, o = .rt (.fz (.int (Nat.gcd a.natAbs b.natAbs))) ρ) ∨ ∃ u v w, o = .nx [.fz (.int (Nat.gcd a.natAbs b.natAbs)), u, v, w]) := by
    refine for_inv (lo := 0) (n := 2000) (ρ1 := [.fz (.int a), .fz (.int b), .no, .no]) (by simp only [evI, evSs, evS, evE, evT, evA, put, stT, R.get, R.frz, mk, le_is, lt_is, len_is, add_is, sub_is, int_is, i1, b1, truth, doCall, ioAt, getAll, getA, noIo, anyBo, purO, D.pur, putIo, Bool.not_true, Bool.not_false, Bool.and_self, Bool.false_and, List.take, List.drop, List.length_map, List.getElem?_cons_zero, List.getElem?_cons_succ, List.set_cons_zero, List.set_cons_succ, List.length_cons, List.length_nil, if_true, Bool.false_eq_true, if_false, Nat.reduceAdd, Nat.reduceLT]; rfl) (fun j ρ => ∃ (x y : Int) (u v : Sl), ρ = [.fz (.int x), .fz (.int y), u, v] ∧ 0 ≤ x ∧ 0 ≤ y ∧ Nat.gcd x.natAbs y.natAbs = Nat.gcd a.natAbs b.natAbs ∧ (0 < j → y ≤ x ∧ x * y * 2 ^ (j - 1).toNat ≤ a * b) ∧ (j = 0 → x = a ∧ y = b))
      (fun o => ((∃ ρ, o = .rt (.fz (.int (Nat.gcd a.natAbs b.natAbs))) ρ) ∨ ∃ u v w, o = .nx [.fz (.int (Nat.gcd a.natAbs b.natAbs)), u, v, w])) ⟨a, b, .no, .no, rfl, ha, hb, rfl, fun h => by omega, fun _ => ⟨rfl, rfl⟩⟩ ?_ ?_
    · rintro j ρ j0 j1 ⟨x, y, u, v, rfl, x0, y0, g, hp, hz⟩
      refine ⟨by simp, ?_⟩
      by_cases z : y = 0
      · subst z
        refine .inr ⟨.fz (.int x), [.fz (.int x), .fz (.int 0), .fz (.int j), v], ?_, .inl ⟨[.fz (.int x), .fz (.int 0), .fz (.int j), v], ?_⟩⟩
        · simp only [evSs, evS, evE, evT, evA, put, stT, R.get, R.frz, mk, le_is, lt_is, len_is, add_is, sub_is, int_is, i1, b1, truth, doCall, ioAt, getAll, getA, noIo, anyBo, purO, D.pur, putIo, Bool.not_true, Bool.not_false, Bool.and_self, Bool.false_and, List.take, List.drop, List.length_map, List.getElem?_cons_zero, List.getElem?_cons_succ, List.set_cons_zero, List.set_cons_succ, List.length_cons, List.length_nil, if_true, Bool.false_eq_true, if_false, Nat.reduceAdd, Nat.reduceLT, eq_is, beq_self_eq_true]
        · have : (x.natAbs : Int) = x := by omega
          rw [← g]
          simp [this]
      · have z' : (y == 0) = false := by simpa using z
        have m1 : ap2 .mod (.int x) (.int y) = i1 (x % y) := by rw [mod_is z, fmod_is (by omega)]
        refine .inl ⟨[.fz (.int y), .fz (.int (x % y)), .fz (.int j), .fz (.int (x % y))], ?_, y, x % y, _, _, rfl, y0, Int.emod_nonneg _ z, ?_, fun _ => ⟨by have := Int.emod_lt_of_pos x (show 0 < y by omega); omega, ?_⟩, fun e => by omega⟩
        · simp only [evSs, evS, evE, evT, evA, put, stT, R.get, R.frz, mk, le_is, lt_is, len_is, add_is, sub_is, int_is, i1, b1, truth, doCall, ioAt, getAll, getA, noIo, anyBo, purO, D.pur, putIo, Bool.not_true, Bool.not_false, Bool.and_self, Bool.false_and, List.take, List.drop, List.length_map, List.getElem?_cons_zero, List.getElem?_cons_succ, List.set_cons_zero, List.set_cons_succ, List.length_cons, List.length_nil, if_true, Bool.false_eq_true, if_false, Nat.reduceAdd, Nat.reduceLT, eq_is, z', m1]
        · rw [← g, gcd_step x y x0 (by omega)]
        · by_cases jz : j = 0
          · obtain ⟨rfl, rfl⟩ := hz jz
            subst jz
            have e : ((0 : Int) + 1 - 1).toNat = 0 := by omega
            rw [e, Int.pow_zero, Int.mul_one]
            by_cases xy : y ≤ x
            · have := half_prod (show 0 < y by omega) xy
              have p0 := Int.mul_nonneg y0 (Int.emod_nonneg x z)
              omega
            · rw [Int.emod_eq_of_lt x0 (by omega), Int.mul_comm]
              omega
          · obtain ⟨q1, q2⟩ := hp (by omega)
            have e : (j + 1 - 1).toNat = (j - 1).toNat + 1 := by omega
            rw [e, Int.pow_succ]
            have hpz := half_prod (show 0 < y by omega) q1
            refine Int.le_trans ?_ q2
            calc y * (x % y) * (2 ^ (j - 1).toNat * 2) = 2 * (y * (x % y)) * 2 ^ (j - 1).toNat := by
                  rw [Int.mul_comm (2 ^ (j - 1).toNat) 2, ← Int.mul_assoc, Int.mul_comm (y * (x % y)) 2]
              _ ≤ x * y * 2 ^ (j - 1).toNat := Int.mul_le_mul_of_nonneg_right hpz (Int.le_of_lt (two_pow_pos _))
    · rintro ρ ⟨x, y, u, v, rfl, x0, y0, g, hp, hz⟩
      obtain ⟨q1, q2⟩ := hp (by omega)
      have y1 : y = 0 := by
        have e : ((0 : Int) + ((2000 : Nat) : Int) - 1).toNat = 1900 + 99 := by omega
        rw [e, Int.pow_add] at q2
        have hlt : x * y * (2 ^ 1900 * 2 ^ 99) < 2 ^ 1900 := by omega
        by_cases yz : y = 0
        · exact yz
        · exfalso
          have p1 : 1 ≤ x * y := by
            have : 1 * 1 ≤ x * y := Int.mul_le_mul (by omega) (by omega) (by omega) (by omega)
            omega
          have p2 : (2 : Int) ^ 1900 * 2 ^ 99 ≤ x * y * (2 ^ 1900 * 2 ^ 99) := by
            have := Int.mul_le_mul_of_nonneg_right p1 (Int.mul_nonneg (Int.le_of_lt (two_pow_pos 1900)) (Int.le_of_lt (two_pow_pos 99)))
            rw [Int.one_mul] at this
            exact this
          have p3 : (2 : Int) ^ 1900 * 1 ≤ 2 ^ 1900 * 2 ^ 99 := Int.mul_le_mul_of_nonneg_left (by have := two_pow_pos 99; omega) (Int.le_of_lt (two_pow_pos 1900))
          omega
      subst y1
      refine .inr ⟨.fz (.int 0), u, v, ?_⟩
      have : (x.natAbs : Int) = x := by omega
      rw [← g]
      simp [this]
  obtain ⟨o, e1, ho⟩ := lp
  rcases ho with ⟨ρ, rfl⟩ | ⟨u, v, w, rfl⟩
  · refine fn_rt (ρ := ρ) rfl rfl ?_
    rw [st]
    exact seq_rt e1
  · refine fn_rt (ρ := [.fz (.int (Nat.gcd a.natAbs b.natAbs)), u, v, w]) rfl rfl ?_
    rw [st]
    show evSs L (evF L P n) (.cons _ (.cons _ _)) _ = _
    rw [seq_nx e1]
    simp only [evSs, evS, evE, evT, evA, put, stT, R.get, R.frz, mk, le_is, lt_is, len_is, add_is, sub_is, int_is, i1, b1, truth, doCall, ioAt, getAll, getA, noIo, anyBo, purO, D.pur, putIo, Bool.not_true, Bool.not_false, Bool.and_self, Bool.false_and, List.take, List.drop, List.length_map, List.getElem?_cons_zero, List.getElem?_cons_succ, List.set_cons_zero, List.set_cons_succ, List.length_cons, List.length_nil, if_true, Bool.false_eq_true, if_false, Nat.reduceAdd, Nat.reduceLT]
end
end NW
namespace NW
/-- no divisor up to the root -/
def Pri (n : Int) : Prop := 2 ≤ n ∧ ∀ d : Int, 2 ≤ d → d * d ≤ n → n % d ≠ 0
section
variable {L : Nat} {P : Prog}
theorem pow_abs (b : Int) (k : Nat) : (b ^ k).natAbs = b.natAbs ^ k := Int.natAbs_pow b k
theorem power_ok {i n : Nat} (h : P[i]? = some irP_law_power) (b : Int) (k e : Nat) (hb : b.natAbs ≤ 2 ^ e) (he : e * k < 400000) (he0 : e < 400000) (hk : k < 2 ^ 60) : evF L P (n + 1) i none [.int b, .int k] = some (false, .int (b ^ k), none) := by
  rw [call_is h]
  have st : startR irP_law_power [.int b, .int k] = [.fz (.int b), .fz (.int k), .no, .no] := rfl
  have hr : rgOk (k : Int) = true := by
    unfold rgOk
    simp only [Bool.and_eq_true, decide_eq_true_eq]
    omega
  have hb2 : b.natAbs < 2 ^ 400000 := Nat.lt_of_le_of_lt hb (Nat.pow_lt_pow_right (by omega) he0)
  have lp : ∃ o, evS L (evF L P n) (.for_ (.nm 3) (.rng1 (.var 1)) (.cons (.set (.nm 2) (.o2 .mul (.peek 2) (.peek 0))) .nil)) [.fz (.int b), .fz (.int k), .fz (.int 1), .no] = some o ∧ ∃ v, o = .nx [.fz (.int b), .fz (.int k), .fz (.int (b ^ k)), v] := by
    refine for_inv (lo := 0) (n := k) (ρ1 := [.fz (.int b), .fz (.int k), .fz (.int 1), .no]) (by simp only [evI, evSs, evS, evE, evT, evA, put, stT, R.get, R.frz, mk, le_is, lt_is, len_is, add_is, sub_is, int_is, i1, b1, truth, doCall, ioAt, getAll, getA, noIo, anyBo, purO, D.pur, putIo, Bool.not_true, Bool.not_false, Bool.and_self, Bool.false_and, List.take, List.drop, List.length_map, List.getElem?_cons_zero, List.getElem?_cons_succ, List.set_cons_zero, List.set_cons_succ, List.length_cons, List.length_nil, if_true, Bool.false_eq_true, if_false, Nat.reduceAdd, Nat.reduceLT, hr, Int.toNat_natCast]) (fun j ρ => ∃ v, ρ = [.fz (.int b), .fz (.int k), .fz (.int (b ^ j.toNat)), v])
      (fun o => ∃ v, o = .nx [.fz (.int b), .fz (.int k), .fz (.int (b ^ k)), v]) ⟨.no, by rw [show (0 : Int).toNat = 0 from rfl, Int.pow_zero]⟩ ?_ ?_
    · rintro j ρ j0 j1 ⟨v, rfl⟩
      have hj : (b ^ j.toNat).natAbs < 2 ^ 400000 := by
        rw [pow_abs]
        have h1 : b.natAbs ^ j.toNat ≤ (2 ^ e) ^ j.toNat := Nat.pow_le_pow_left hb _
        rw [← Nat.pow_mul] at h1
        refine Nat.lt_of_le_of_lt h1 (Nat.pow_lt_pow_right (by omega) ?_)
        have : e * j.toNat ≤ e * k := Nat.mul_le_mul_left e (by omega)
        omega
      have m1 := mul_is hj hb2
      refine ⟨by simp, .inl ⟨[.fz (.int b), .fz (.int k), .fz (.int (b ^ j.toNat * b)), .fz (.int j)], by simp only [evSs, evS, evE, evT, evA, put, stT, R.get, R.frz, mk, le_is, lt_is, len_is, add_is, sub_is, int_is, i1, b1, truth, doCall, ioAt, getAll, getA, noIo, anyBo, purO, D.pur, putIo, Bool.not_true, Bool.not_false, Bool.and_self, Bool.false_and, List.take, List.drop, List.length_map, List.getElem?_cons_zero, List.getElem?_cons_succ, List.set_cons_zero, List.set_cons_succ, List.length_cons, List.length_nil, if_true, Bool.false_eq_true, if_false, Nat.reduceAdd, Nat.reduceLT, m1], .fz (.int j), ?_⟩⟩
      have e2 : (j + 1).toNat = j.toNat + 1 := by omega
      rw [e2, Int.pow_succ]
    · rintro ρ ⟨v, rfl⟩
      have e2 : ((0 : Int) + (k : Int)).toNat = k := by omega
      rw [e2]
      exact ⟨v, rfl⟩
  obtain ⟨o, e1, v, rfl⟩ := lp
  refine fn_rt (ρ := [.fz (.int b), .fz (.int k), .fz (.int (b ^ k)), v]) rfl rfl ?_
  rw [st]
  show evSs L (evF L P n) (.cons _ (.cons _ (.cons _ _))) _ = _
  rw [seq_nx (ρ' := [.fz (.int b), .fz (.int k), .fz (.int 1), .no]) (by simp only [evSs, evS, evE, evT, evA, put, stT, R.get, R.frz, mk, le_is, lt_is, len_is, add_is, sub_is, int_is, i1, b1, truth, doCall, ioAt, getAll, getA, noIo, anyBo, purO, D.pur, putIo, Bool.not_true, Bool.not_false, Bool.and_self, Bool.false_and, List.take, List.drop, List.length_map, List.getElem?_cons_zero, List.getElem?_cons_succ, List.set_cons_zero, List.set_cons_succ, List.length_cons, List.length_nil, if_true, Bool.false_eq_true, if_false, Nat.reduceAdd, Nat.reduceLT]), seq_nx e1]
  simp only [evSs, evS, evE, evT, evA, put, stT, R.get, R.frz, mk, le_is, lt_is, len_is, add_is, sub_is, int_is, i1, b1, truth, doCall, ioAt, getAll, getA, noIo, anyBo, purO, D.pur, putIo, Bool.not_true, Bool.not_false, Bool.and_self, Bool.false_and, List.take, List.drop, List.length_map, List.getElem?_cons_zero, List.getElem?_cons_succ, List.set_cons_zero, List.set_cons_succ, List.length_cons, List.length_nil, if_true, Bool.false_eq_true, if_false, Nat.reduceAdd, Nat.reduceLT]
theorem rest_ok {i n : Nat} (h : P[i]? = some irP_law_rest) (a k m : Int) (hk : 0 ≤ k) (hk2 : k < ((2 ^ 139 : Nat) : Int)) (hm : 0 < m) (hm2 : m < 2 ^ 199) :
    evF L P (n + 1) i none [.int a, .int k, .int m] = some (false, .int (a ^ k.toNat % m), none) := by
  rw [call_is h]
  have st : startR irP_law_rest [.int a, .int k, .int m] = [.fz (.int a), .fz (.int k), .fz (.int m), .no, .no, .no] := rfl
  have m1 : ap2 .mod (.int 1) (.int m) = i1 (1 % m) := by rw [mod_is (by omega), fmod_is hm]
  have m2 : ap2 .mod (.int a) (.int m) = i1 (a % m) := by rw [mod_is (by omega), fmod_is hm]
  have lp : ∃ o, evS L (evF L P n) (.for_ (.nm 5) (.rng1 (.cst (.int 140))) (.cons (.ite (.val (.o2 .gt (.peek 1) (.cst (.int 0)))) (.cons (.ite (.val (.o2 .eq (.o2 .mod (.peek 1) (.cst (.int 2))) (.cst (.int 1)))) (.cons (.set (.nm 3) (.o2 .mod (.o2 .mul (.peek 3) (.peek 4)) (.peek 2))) .nil) .nil)
      (.cons (.set (.nm 4) (.o2 .mod (.o2 .mul (.peek 4) (.peek 4)) (.peek 2))) (.cons (.set (.nm 1) (.o2 .fdiv (.peek 1) (.cst (.int 2)))) .nil))) .nil) .nil)) [.fz (.int a), .fz (.int k), .fz (.int m), .fz (.int (1 % m)), .fz (.int (a % m)), .no] = some o ∧
      ∃ y z w, o = .nx [.fz (.int a), .fz (.int y), .fz (.int m), .fz (.int (a ^ k.toNat % m)), z, w] := by
    refine for_inv (lo := 0) (n := 140) (ρ1 := [.fz (.int a), .fz (.int k), .fz (.int m), .fz (.int (1 % m)), .fz (.int (a % m)), .no]) (by simp only [evI, evSs, evS, evE, evT, evA, put, stT, R.get, R.frz, mk, le_is, lt_is, len_is, add_is, sub_is, int_is, i1, b1, truth, doCall, ioAt, getAll, getA, noIo, anyBo, purO, D.pur, putIo, Bool.not_true, Bool.not_false, Bool.and_self, Bool.false_and, List.take, List.drop, List.length_map, List.getElem?_cons_zero, List.getElem?_cons_succ, List.set_cons_zero, List.set_cons_succ, List.length_cons, List.length_nil, if_true, Bool.false_eq_true, if_false, Nat.reduceAdd, Nat.reduceLT]; rfl)
      (fun t ρ => ∃ (x j f : Int) (w : Sl), ρ = [.fz (.int a), .fz (.int j), .fz (.int m), .fz (.int f), .fz (.int x), w] ∧ 0 ≤ j ∧ 0 ≤ f ∧ f < m ∧ 0 ≤ x ∧ x < m ∧ (f * x ^ j.toNat) % m = (a ^ k.toNat) % m ∧ bits j + t.toNat ≤ max (bits k) t.toNat)
      (fun o => ∃ y z w, o = .nx [.fz (.int a), .fz (.int y), .fz (.int m), .fz (.int (a ^ k.toNat % m)), z, w]) ⟨a % m, k, 1 % m, .no, rfl, hk, Int.emod_nonneg _ (by omega), Int.emod_lt_of_pos _ hm, Int.emod_nonneg _ (by omega), Int.emod_lt_of_pos _ hm, ?_, by omega⟩ ?_ ?_
    · rw [Int.mul_emod, pow_mod, Int.emod_emod_of_dvd _ (Int.dvd_refl m), ← Int.mul_emod, Int.one_mul]
    · rintro t ρ t0 t1 ⟨x, j, f, w, rfl, j0, f0, f1, x0, x1, e, hb⟩
      refine ⟨by simp, .inl ?_⟩
      by_cases z : 0 < j
      · have q1 : ap2 .mod (.int j) (.int 2) = i1 (j % 2) := by rw [mod_is (by omega), fmod_is (by omega)]
        have q2 := mul_is (i := f) (j := x) (small_abs f0 (by omega)) (small_abs x0 (by omega))
        have q3 : ap2 .mod (.int (f * x)) (.int m) = i1 (f * x % m) := by rw [mod_is (by omega), fmod_is hm]
        have q4 := mul_is (i := x) (j := x) (small_abs x0 (by omega)) (small_abs x0 (by omega))
        have q5 : ap2 .mod (.int (x * x)) (.int m) = i1 (x * x % m) := by rw [mod_is (by omega), fmod_is hm]
        have q6 : ap2 .fdiv (.int j) (.int 2) = i1 (j / 2) := by rw [fdiv_is (by omega) (small89 (by omega) (by omega)), fdiv_is' (by omega)]
        refine ⟨[.fz (.int a), .fz (.int (j / 2)), .fz (.int m), .fz (.int (if j % 2 = 1 then f * x % m else f)), .fz (.int (x * x % m)), .fz (.int t)], ?_, _, _, _, _, rfl, by omega, ?_, ?_, Int.emod_nonneg _ (by omega), Int.emod_lt_of_pos _ hm, pow_turn z e, ?_⟩
        · by_cases y : j % 2 = 1
          · have y' : (j % 2 == 1) = true := by simp [y]
            simp only [evSs, evS, evE, evT, evA, put, stT, R.get, R.frz, mk, le_is, lt_is, len_is, add_is, sub_is, int_is, i1, b1, truth, doCall, ioAt, getAll, getA, noIo, anyBo, purO, D.pur, putIo, Bool.not_true, Bool.not_false, Bool.and_self, Bool.false_and, List.take, List.drop, List.length_map, List.getElem?_cons_zero, List.getElem?_cons_succ, List.set_cons_zero, List.set_cons_succ, List.length_cons, List.length_nil, if_true, Bool.false_eq_true, if_false, Nat.reduceAdd, Nat.reduceLT, gt_is, decide_eq_true z, eq_is, q1, q2, q3, q4, q5, q6, y', if_pos y]
          · have y' : (j % 2 == 1) = false := by simp [y]
            simp only [evSs, evS, evE, evT, evA, put, stT, R.get, R.frz, mk, le_is, lt_is, len_is, add_is, sub_is, int_is, i1, b1, truth, doCall, ioAt, getAll, getA, noIo, anyBo, purO, D.pur, putIo, Bool.not_true, Bool.not_false, Bool.and_self, Bool.false_and, List.take, List.drop, List.length_map, List.getElem?_cons_zero, List.getElem?_cons_succ, List.set_cons_zero, List.set_cons_succ, List.length_cons, List.length_nil, if_true, Bool.false_eq_true, if_false, Nat.reduceAdd, Nat.reduceLT, gt_is, decide_eq_true z, eq_is, q1, q2, q3, q4, q5, q6, y', if_neg y]
        · split
          · exact Int.emod_nonneg _ (by omega)
          · exact f0
        · split
          · exact Int.emod_lt_of_pos _ hm
          · exact f1
        · have := bits_half z
          have e2 : (t + 1).toNat = t.toNat + 1 := by omega
          rw [e2]
          omega
      · have j1 : j = 0 := by omega
        subst j1
        refine ⟨[.fz (.int a), .fz (.int 0), .fz (.int m), .fz (.int f), .fz (.int x), .fz (.int t)], by simp only [evSs, evS, evE, evT, evA, put, stT, R.get, R.frz, mk, le_is, lt_is, len_is, add_is, sub_is, int_is, i1, b1, truth, doCall, ioAt, getAll, getA, noIo, anyBo, purO, D.pur, putIo, Bool.not_true, Bool.not_false, Bool.and_self, Bool.false_and, List.take, List.drop, List.length_map, List.getElem?_cons_zero, List.getElem?_cons_succ, List.set_cons_zero, List.set_cons_succ, List.length_cons, List.length_nil, if_true, Bool.false_eq_true, if_false, Nat.reduceAdd, Nat.reduceLT, gt_is, decide_eq_false z], x, 0, f, _, rfl, j0, f0, f1, x0, x1, e, ?_⟩
        have b0 : bits 0 = 0 := rfl
        rw [b0]
        omega
    · rintro ρ ⟨x, j, f, w, rfl, j0, f0, f1, x0, x1, e, hb⟩
      have bk := bits_le hk2
      have j1 : j = 0 := by
        by_cases z : 0 < j
        · exfalso
          have := bits_pos z
          have e2 : ((0 : Int) + ((140 : Nat) : Int)).toNat = 140 := rfl
          rw [e2] at hb
          omega
        · omega
      subst j1
      refine ⟨0, .fz (.int x), w, ?_⟩
      rw [← e]
      simp
      rw [Int.emod_eq_of_lt f0 f1]
  obtain ⟨o, e1, y, z, w, rfl⟩ := lp
  refine fn_rt (ρ := [.fz (.int a), .fz (.int y), .fz (.int m), .fz (.int (a ^ k.toNat % m)), z, w]) rfl rfl ?_
  rw [st]
  show evSs L (evF L P n) (.cons _ (.cons _ (.cons _ _))) _ = _
  rw [seq_nx (ρ' := [.fz (.int a), .fz (.int k), .fz (.int m), .fz (.int (1 % m)), .fz (.int (a % m)), .no]) (by simp only [evSs, evS, evE, evT, evA, put, stT, R.get, R.frz, mk, le_is, lt_is, len_is, add_is, sub_is, int_is, i1, b1, truth, doCall, ioAt, getAll, getA, noIo, anyBo, purO, D.pur, putIo, Bool.not_true, Bool.not_false, Bool.and_self, Bool.false_and, List.take, List.drop, List.length_map, List.getElem?_cons_zero, List.getElem?_cons_succ, List.set_cons_zero, List.set_cons_succ, List.length_cons, List.length_nil, if_true, Bool.false_eq_true, if_false, Nat.reduceAdd, Nat.reduceLT, putAll, m1, m2]), seq_nx e1]
  simp only [evSs, evS, evE, evT, evA, put, stT, R.get, R.frz, mk, le_is, lt_is, len_is, add_is, sub_is, int_is, i1, b1, truth, doCall, ioAt, getAll, getA, noIo, anyBo, purO, D.pur, putIo, Bool.not_true, Bool.not_false, Bool.and_self, Bool.false_and, List.take, List.drop, List.length_map, List.getElem?_cons_zero, List.getElem?_cons_succ, List.set_cons_zero, List.set_cons_succ, List.length_cons, List.length_nil, if_true, Bool.false_eq_true, if_false, Nat.reduceAdd, Nat.reduceLT]
theorem prime_ok {i n : Nat} (h : P[i]? = some irP_law_is_prime) (p : Int) (hp : p < 144000000) : ∃ b : Bool, (b = true ↔ Pri p) ∧ evF L P (n + 1) i none [.int p] = some (false, .bl b, none) := by
  rw [call_is h]
  have st : startR irP_law_is_prime [.int p] = [.fz (.int p), .no, .no] := rfl
  by_cases z : p < 2
  · refine ⟨false, ⟨fun e => (by cases e), fun e => (by have := e.1; omega)⟩, fn_rt (ρ := [.fz (.int p), .no, .no]) rfl rfl ?_⟩
    rw [st]
    refine seq_rt ?_
    simp only [evSs, evS, evE, evT, evA, put, stT, R.get, R.frz, mk, le_is, lt_is, len_is, add_is, sub_is, int_is, i1, b1, truth, doCall, ioAt, getAll, getA, noIo, anyBo, purO, D.pur, putIo, Bool.not_true, Bool.not_false, Bool.and_self, Bool.false_and, List.take, List.drop, List.length_map, List.getElem?_cons_zero, List.getElem?_cons_succ, List.set_cons_zero, List.set_cons_succ, List.length_cons, List.length_nil, if_true, Bool.false_eq_true, if_false, Nat.reduceAdd, Nat.reduceLT, decide_eq_true z]
  · have lp : ∃ o, evS L (evF L P n) (.for_ (.nm 2) (.rng1 (.cst (.int 12000))) (.cons (.ite (.val (.o2 .gt (.o2 .mul (.peek 1) (.peek 1)) (.peek 0))) (.cons (.ret (.cst (.bl true))) .nil) .nil) (.cons (.ite (.val (.o2 .eq (.o2 .mod (.peek 0) (.peek 1)) (.cst (.int 0)))) (.cons (.ret (.cst (.bl false))) .nil) .nil)
        (.cons (.set (.nm 1) (.o2 .add (.peek 1) (.cst (.int 1)))) .nil)))) [.fz (.int p), .fz (.int 2), .no] = some o ∧ ((∃ b ρ, o = .rt (.fz (.bl b)) ρ ∧ (b = true ↔ Pri p)) ∨ ∃ ρ, o = .nx ρ ∧ Pri p) := by
      refine for_inv (lo := 0) (n := 12000) (ρ1 := [.fz (.int p), .fz (.int 2), .no]) (by simp only [evI, evSs, evS, evE, evT, evA, put, stT, R.get, R.frz, mk, le_is, lt_is, len_is, add_is, sub_is, int_is, i1, b1, truth, doCall, ioAt, getAll, getA, noIo, anyBo, purO, D.pur, putIo, Bool.not_true, Bool.not_false, Bool.and_self, Bool.false_and, List.take, List.drop, List.length_map, List.getElem?_cons_zero, List.getElem?_cons_succ, List.set_cons_zero, List.set_cons_succ, List.length_cons, List.length_nil, if_true, Bool.false_eq_true, if_false, Nat.reduceAdd, Nat.reduceLT]; rfl) (fun t ρ => ∃ w, ρ = [.fz (.int p), .fz (.int (t + 2)), w] ∧ ∀ e : Int, 2 ≤ e → e < t + 2 → p % e ≠ 0)
        (fun o => ((∃ b ρ, o = .rt (.fz (.bl b)) ρ ∧ (b = true ↔ Pri p)) ∨ ∃ ρ, o = .nx ρ ∧ Pri p)) ⟨.no, rfl, fun e h1 h2 => by omega⟩ ?_ ?_
      · rintro t ρ t0 t1 ⟨w, rfl, hd⟩
        refine ⟨by simp, ?_⟩
        have m1 := mul_is (i := t + 2) (j := t + 2) (small_abs (by omega) (by omega)) (small_abs (by omega) (by omega))
        by_cases y : p < (t + 2) * (t + 2)
        · refine .inr ⟨.fz (.bl true), [.fz (.int p), .fz (.int (t + 2)), .fz (.int t)], by simp only [evSs, evS, evE, evT, evA, put, stT, R.get, R.frz, mk, le_is, lt_is, len_is, add_is, sub_is, int_is, i1, b1, truth, doCall, ioAt, getAll, getA, noIo, anyBo, purO, D.pur, putIo, Bool.not_true, Bool.not_false, Bool.and_self, Bool.false_and, List.take, List.drop, List.length_map, List.getElem?_cons_zero, List.getElem?_cons_succ, List.set_cons_zero, List.set_cons_succ, List.length_cons, List.length_nil, if_true, Bool.false_eq_true, if_false, Nat.reduceAdd, Nat.reduceLT, m1, gt_is, decide_eq_true y], .inl ⟨true, _, rfl, ⟨fun _ => ⟨by omega, fun d d0 d1 => hd d d0 ?_⟩, fun _ => rfl⟩⟩⟩
          by_cases q : d < t + 2
          · exact q
          · exfalso
            have : (t + 2) * (t + 2) ≤ d * d := Int.mul_le_mul (by omega) (by omega) (by omega) (by omega)
            omega
        · have m2 : ap2 .mod (.int p) (.int (t + 2)) = i1 (p % (t + 2)) := by rw [mod_is (by omega), fmod_is (by omega)]
          by_cases x : p % (t + 2) = 0
          · have x' : (p % (t + 2) == 0) = true := by simp [x]
            exact .inr ⟨.fz (.bl false), [.fz (.int p), .fz (.int (t + 2)), .fz (.int t)], by simp only [evSs, evS, evE, evT, evA, put, stT, R.get, R.frz, mk, le_is, lt_is, len_is, add_is, sub_is, int_is, i1, b1, truth, doCall, ioAt, getAll, getA, noIo, anyBo, purO, D.pur, putIo, Bool.not_true, Bool.not_false, Bool.and_self, Bool.false_and, List.take, List.drop, List.length_map, List.getElem?_cons_zero, List.getElem?_cons_succ, List.set_cons_zero, List.set_cons_succ, List.length_cons, List.length_nil, if_true, Bool.false_eq_true, if_false, Nat.reduceAdd, Nat.reduceLT, m1, gt_is, decide_eq_false y, m2, eq_is, x'], .inl ⟨false, _, rfl, ⟨fun e => (by cases e), fun e => (e.2 (t + 2) (by omega) (by omega) x).elim⟩⟩⟩
          · have x' : (p % (t + 2) == 0) = false := by simp [x]
            refine .inl ⟨[.fz (.int p), .fz (.int (t + 2 + 1)), .fz (.int t)], by simp only [evSs, evS, evE, evT, evA, put, stT, R.get, R.frz, mk, le_is, lt_is, len_is, add_is, sub_is, int_is, i1, b1, truth, doCall, ioAt, getAll, getA, noIo, anyBo, purO, D.pur, putIo, Bool.not_true, Bool.not_false, Bool.and_self, Bool.false_and, List.take, List.drop, List.length_map, List.getElem?_cons_zero, List.getElem?_cons_succ, List.set_cons_zero, List.set_cons_succ, List.length_cons, List.length_nil, if_true, Bool.false_eq_true, if_false, Nat.reduceAdd, Nat.reduceLT, m1, gt_is, decide_eq_false y, m2, eq_is, x'], .fz (.int t), by rw [show t + 1 + 2 = t + 2 + 1 by omega], fun e e0 e1 => ?_⟩
            by_cases q : e = t + 2
            · rw [q]; exact x
            · exact hd e e0 (by omega)
      · rintro ρ ⟨w, rfl, hd⟩
        refine .inr ⟨_, rfl, by omega, fun d d0 d1 => hd d d0 ?_⟩
        by_cases q : d < 0 + ((12000 : Nat) : Int) + 2
        · exact q
        · exfalso
          have : 12002 * 12002 ≤ d * d := Int.mul_le_mul (by omega) (by omega) (by omega) (by omega)
          omega
    obtain ⟨o, e1, ho⟩ := lp
    have s1 : evS L (evF L P n) (.ite (.val (.o2 .lt (.peek 0) (.cst (.int 2)))) (.cons (.ret (.cst (.bl false))) .nil) .nil) [.fz (.int p), .no, .no] = some (.nx [.fz (.int p), .no, .no]) := by simp only [evSs, evS, evE, evT, evA, put, stT, R.get, R.frz, mk, le_is, lt_is, len_is, add_is, sub_is, int_is, i1, b1, truth, doCall, ioAt, getAll, getA, noIo, anyBo, purO, D.pur, putIo, Bool.not_true, Bool.not_false, Bool.and_self, Bool.false_and, List.take, List.drop, List.length_map, List.getElem?_cons_zero, List.getElem?_cons_succ, List.set_cons_zero, List.set_cons_succ, List.length_cons, List.length_nil, if_true, Bool.false_eq_true, if_false, Nat.reduceAdd, Nat.reduceLT, decide_eq_false z]
    have s2 : evS L (evF L P n) (.set (.nm 1) (.cst (.int 2))) [.fz (.int p), .no, .no] = some (.nx [.fz (.int p), .fz (.int 2), .no]) := by simp only [evSs, evS, evE, evT, evA, put, stT, R.get, R.frz, mk, le_is, lt_is, len_is, add_is, sub_is, int_is, i1, b1, truth, doCall, ioAt, getAll, getA, noIo, anyBo, purO, D.pur, putIo, Bool.not_true, Bool.not_false, Bool.and_self, Bool.false_and, List.take, List.drop, List.length_map, List.getElem?_cons_zero, List.getElem?_cons_succ, List.set_cons_zero, List.set_cons_succ, List.length_cons, List.length_nil, if_true, Bool.false_eq_true, if_false, Nat.reduceAdd, Nat.reduceLT]
    rcases ho with ⟨b, ρ, rfl, hb⟩ | ⟨ρ, rfl, hb⟩
    · refine ⟨b, hb, fn_rt (ρ := ρ) rfl rfl ?_⟩
      rw [st]
      show evSs L (evF L P n) (.cons _ (.cons _ (.cons _ _))) _ = _
      rw [seq_nx s1, seq_nx s2, seq_rt e1]
    · refine ⟨true, ⟨fun _ => hb, fun _ => rfl⟩, fn_rt (ρ := ρ) rfl rfl ?_⟩
      rw [st]
      show evSs L (evF L P n) (.cons _ (.cons _ (.cons _ _))) _ = _
      rw [seq_nx s1, seq_nx s2, seq_nx e1]
      simp only [evSs, evS, evE, evT, evA, put, stT, R.get, R.frz, mk, le_is, lt_is, len_is, add_is, sub_is, int_is, i1, b1, truth, doCall, ioAt, getAll, getA, noIo, anyBo, purO, D.pur, putIo, Bool.not_true, Bool.not_false, Bool.and_self, Bool.false_and, List.take, List.drop, List.length_map, List.getElem?_cons_zero, List.getElem?_cons_succ, List.set_cons_zero, List.set_cons_succ, List.length_cons, List.length_nil, if_true, Bool.false_eq_true, if_false, Nat.reduceAdd, Nat.reduceLT]
end
end NW
namespace NW
/-- parts_of(n): n 0, found 1, p 2, many 3 -/
def irP_parts_of : Fn := ⟨1, 4, none,
  (.cons (.set (.nm 1) (.lst .nil))
  (.cons (.set (.nm 2) (.cst (.int 2)))
  (.cons (.whl (.val (.o2 .le (.o2 .mul (.peek 2) (.peek 2)) (.peek 0))) (.cons (.set (.nm 3) (.cst (.int 0)))
  (.cons (.whl (.val (.o2 .eq (.o2 .mod (.peek 0) (.peek 2)) (.cst (.int 0)))) (.cons (.aug 0 .fdiv (.peek 2))
  (.cons (.aug 3 .add (.cst (.int 1)))
  .nil)))
  (.cons (.ite (.val (.o2 .gt (.peek 3) (.cst (.int 0)))) (.cons (.app 1 (.tup (.cons (.var 2) (.cons (.var 3) .nil))))
  .nil) .nil)
  (.cons (.aug 2 .add (.ite (.val (.o2 .eq (.peek 2) (.cst (.int 2)))) (.cst (.int 1)) (.cst (.int 2))))
  .nil)))))
  (.cons (.ite (.val (.o2 .gt (.peek 0) (.cst (.int 1)))) (.cons (.app 1 (.tup (.cons (.var 0) (.cons (.cst (.int 1)) .nil))))
  .nil) .nil)
  (.cons (.ret (.o1 .toTup (.peek 1)))
  .nil)))))⟩
/-- least_part(n): n 0 -/
def irP_least_part (i_parts_of : Nat) : Fn := ⟨1, 1, none,
  (.cons (.ret (.o2 .idx (.o2 .idx (.call i_parts_of none (.cons (.var 0) .nil)) (.cst (.int 0))) (.cst (.int 0))))
  .nil)⟩
/-- is_prime(n): n 0 -/
def irP_is_prime (i_least_part : Nat) : Fn := ⟨1, 1, none,
  (.cons (.ret (.and_ (.o2 .gt (.peek 0) (.cst (.int 1))) (.o2 .eq (.call i_least_part none (.cons (.var 0) .nil)) (.peek 0))))
  .nil)⟩
/-- p is the least divisor of n -/
def Least (n p : Int) : Prop := 2 ≤ p ∧ n % p = 0 ∧ ∀ d : Int, 2 ≤ d → d < p → n % d ≠ 0
inductive IsFac : Int → List (Int × Nat) → Prop
  | one : IsFac 1 []
  | cons {n p n' : Int} {e : Nat} {r : List (Int × Nat)} : Least n p → 1 ≤ e → n = p ^ e * n' → n' % p ≠ 0 → 0 < n' → IsFac n' r → IsFac n ((p, e) :: r)
def facD (ps : List (Int × Nat)) : List D := ps.map fun q => .tup [.int q.1, .int q.2]
theorem Least.uniq {n p q : Int} (h : Least n p) (k : Least n q) : p = q := by
  rcases Int.lt_trichotomy p q with z | z | z
  · exact (k.2.2 p h.1 z h.2.1).elim
  · exact z
  · exact (h.2.2 q k.1 z k.2.1).elim
theorem exp_uniq {p a b : Int} (hp : 2 ≤ p) (ha : a % p ≠ 0) (hb : b % p ≠ 0) : ∀ e f : Nat, p ^ e * a = p ^ f * b → e = f ∧ a = b
  | 0, 0, h => by simpa using h
  | 0, f + 1, h => by
    rw [Int.pow_zero, Int.one_mul] at h
    exact (ha (by rw [h, Int.pow_succ, Int.mul_comm (p ^ f), Int.mul_assoc]; exact Int.mul_emod_right _ _)).elim
  | e + 1, 0, h => by
    rw [Int.pow_zero, Int.one_mul] at h
    exact (hb (by rw [← h, Int.pow_succ, Int.mul_comm (p ^ e), Int.mul_assoc]; exact Int.mul_emod_right _ _)).elim
  | e + 1, f + 1, h => by
    rw [Int.pow_succ, Int.pow_succ, Int.mul_comm (p ^ e), Int.mul_comm (p ^ f), Int.mul_assoc, Int.mul_assoc] at h
    obtain ⟨h1, h2⟩ := exp_uniq hp ha hb e f (Int.eq_of_mul_eq_mul_left (by omega) h)
    exact ⟨by omega, h2⟩
theorem not_least_one {p : Int} (h : Least 1 p) : False := by
  have := h.2.1
  have h2 := h.1
  rw [Int.emod_eq_of_lt (by omega) (by omega)] at this
  omega
theorem IsFac.uniq {n : Int} {ps : List (Int × Nat)} (h : IsFac n ps) : ∀ {qs : List (Int × Nat)}, IsFac n qs → ps = qs := by
  induction h with
  | one =>
    intro qs k
    cases k with
    | one => rfl
    | cons l _ _ _ _ _ => exact (not_least_one l).elim
  | cons l e1 e2 e3 e4 r ih =>
    intro qs k
    cases k with
    | one => exact (not_least_one l).elim
    | cons l' f1 f2 f3 f4 r' =>
      have := l.uniq l'
      subst this
      obtain ⟨h1, h2⟩ := exp_uniq l.1 e3 f3 _ _ (e2.symm.trans f2)
      subst h1 h2
      rw [ih r']
/-- what is left behind a run of divisions -/
theorem self_least {n p : Int} (h1 : 1 < n) (hp : 2 ≤ p) (hd : ∀ d : Int, 2 ≤ d → d < p → n % d ≠ 0) (hpp : n < p * p) : Least n n := by
  refine ⟨by omega, Int.emod_self, fun d d0 d1 z => ?_⟩
  have e := Int.mul_ediv_add_emod n d
  rw [z, Int.add_zero] at e
  have q1 : 2 ≤ n / d := by
    by_cases w : n / d ≤ 1
    · have : d * (n / d) ≤ d * 1 := Int.mul_le_mul_of_nonneg_left w (by omega)
      omega
    · omega
  have z2 : n % (n / d) = 0 := by
    have : n = (n / d) * d := by rw [Int.mul_comm]; exact e.symm
    rw [this, Int.mul_ediv_cancel _ (by omega)]
    exact Int.mul_emod_right _ _
  have a1 : p ≤ d := by
    by_cases w : d < p
    · exact (hd d d0 w z).elim
    · omega
  have a2 : p ≤ n / d := by
    by_cases w : n / d < p
    · exact (hd _ q1 w z2).elim
    · omega
  have : p * p ≤ d * (n / d) := Int.mul_le_mul a1 a2 (by omega) (by omega)
  omega
theorem dvd_pass {a b d : Int} (h : b % d = 0) : (a * b) % d = 0 := by
  rw [Int.mul_emod, h, Int.mul_zero, Int.zero_emod]
section
variable {L : Nat} {P : Prog}
theorem two_pow_mono {a b : Nat} (h : a ≤ b) : (2 : Int) ^ a ≤ 2 ^ b := by
  obtain ⟨c, rfl⟩ := Nat.exists_eq_add_of_le h
  rw [Int.pow_add]
  have h1 := two_pow_pos c
  have : (2 : Int) ^ a * 1 ≤ 2 ^ a * 2 ^ c := Int.mul_le_mul_of_nonneg_left (by omega) (Int.le_of_lt (two_pow_pos a))
  omega
theorem facD_app (ps : List (Int × Nat)) (p : Int) (e : Nat) : facD ps ++ [.tup [.int p, .int e]] = facD (ps ++ [(p, e)]) := by
  unfold facD
  rw [List.map_append]
  rfl
/-- the inner loop: a prime is taken out -/
theorem parts_in {k : Cl} (hL : 2 ^ 100 < L) {x p : Int} {f : D} (hx : 1 ≤ x) (hx2 : x < 2 ^ 70) (hp : 2 ≤ p) (hp2 : p < 2 ^ 70) :
    ∃ (y : Int) (e : Nat), 1 ≤ y ∧ x = p ^ e * y ∧ y % p ≠ 0 ∧ (e = 0 → y = x) ∧ (0 < e → 2 * y ≤ x) ∧
      evS L k (.whl (.val (.o2 .eq (.o2 .mod (.peek 0) (.peek 2)) (.cst (.int 0)))) (.cons (.aug 0 .fdiv (.peek 2)) (.cons (.aug 3 .add (.cst (.int 1))) .nil))) [.fz (.int x), .ow f, .fz (.int p), .fz (.int 0)] = some (.nx [.fz (.int y), .ow f, .fz (.int p), .fz (.int e)]) := by
  obtain ⟨o, e1, y, e, rfl, h⟩ := whl_inv (L := L) (c := k) (t := .val (.o2 .eq (.o2 .mod (.peek 0) (.peek 2)) (.cst (.int 0)))) (b := .cons (.aug 0 .fdiv (.peek 2)) (.cons (.aug 3 .add (.cst (.int 1))) .nil)) (ρ := [.fz (.int x), .ow f, .fz (.int p), .fz (.int 0)])
    (fun ρ => ∃ (y : Int) (e : Nat), ρ = [.fz (.int y), .ow f, .fz (.int p), .fz (.int e)] ∧ 1 ≤ y ∧ y ≤ x ∧ x = p ^ e * y ∧ (e = 0 → y = x) ∧ (0 < e → 2 * y ≤ x)) (fun ρ => match ρ with | [.fz (.int y), _, _, _] => y.toNat | _ => 0)
    (fun o => ∃ (y : Int) (e : Nat), o = .nx [.fz (.int y), .ow f, .fz (.int p), .fz (.int e)] ∧ 1 ≤ y ∧ x = p ^ e * y ∧ y % p ≠ 0 ∧ (e = 0 → y = x) ∧ (0 < e → 2 * y ≤ x))
    ⟨x, 0, rfl, hx, Int.le_refl x, by rw [Int.pow_zero, Int.one_mul], fun _ => rfl, fun h => by omega⟩ (show x.toNat < L by omega) (by
      rintro ρ ⟨y, e, rfl, y1, y2, y3, y4, y5⟩
      have m1 : ap2 .mod (.int y) (.int p) = i1 (y % p) := by rw [mod_is (by omega), fmod_is (by omega)]
      by_cases z : y % p = 0
      · have z' : (y % p == 0) = true := by simp [z]
        have q := Int.mul_ediv_add_emod y p
        rw [z, Int.add_zero] at q
        have q0 : 1 ≤ y / p := by
          by_cases w : y / p ≤ 0
          · have : p * (y / p) ≤ p * 0 := Int.mul_le_mul_of_nonneg_left w (by omega)
            omega
          · omega
        have q1 : 2 * (y / p) ≤ p * (y / p) := Int.mul_le_mul_of_nonneg_right hp (by omega)
        have f1 : apI .fdiv (.int y) (.int p) = i1 (y / p) := by show ap2 .fdiv (.int y) (.int p) = _; rw [fdiv_is (by omega) (small89 (by omega) (by omega)), fdiv_is' (by omega)]
        have f2 : apI .add (.int (e : Int)) (.int 1) = i1 ((e : Int) + 1) := rfl
        refine .inr ⟨[.fz (.int y), .ow f, .fz (.int p), .fz (.int e)], by simp only [evSs, evS, evE, evT, evA, put, stT, R.get, R.frz, mk, le_is, lt_is, len_is, add_is, sub_is, int_is, i1, b1, truth, doCall, ioAt, getAll, getA, noIo, anyBo, purO, D.pur, putIo, Bool.not_true, Bool.not_false, Bool.and_self, Bool.false_and, List.take, List.drop, List.length_map, List.getElem?_cons_zero, List.getElem?_cons_succ, List.set_cons_zero, List.set_cons_succ, List.length_cons, List.length_nil, if_true, Bool.false_eq_true, if_false, Nat.reduceAdd, Nat.reduceLT, m1, eq_is, z'], .inl ⟨[.fz (.int (y / p)), .ow f, .fz (.int p), .fz (.int ((e : Int) + 1))], by simp only [evSs, evS, evE, evT, evA, put, stT, R.get, R.frz, mk, le_is, lt_is, len_is, add_is, sub_is, int_is, i1, b1, truth, doCall, ioAt, getAll, getA, noIo, anyBo, purO, D.pur, putIo, Bool.not_true, Bool.not_false, Bool.and_self, Bool.false_and, List.take, List.drop, List.length_map, List.getElem?_cons_zero, List.getElem?_cons_succ, List.set_cons_zero, List.set_cons_succ, List.length_cons, List.length_nil, if_true, Bool.false_eq_true, if_false, Nat.reduceAdd, Nat.reduceLT, f1, f2], ⟨y / p, e + 1, by simp, q0, by omega, ?_, fun h => by omega, fun _ => by omega⟩, ?_⟩⟩
        · rw [Int.pow_succ, Int.mul_assoc, q]
          exact y3
        · show (y / p).toNat < y.toNat
          omega
      · have z' : (y % p == 0) = false := by simp [z]
        exact .inl ⟨[.fz (.int y), .ow f, .fz (.int p), .fz (.int e)], by simp only [evSs, evS, evE, evT, evA, put, stT, R.get, R.frz, mk, le_is, lt_is, len_is, add_is, sub_is, int_is, i1, b1, truth, doCall, ioAt, getAll, getA, noIo, anyBo, purO, D.pur, putIo, Bool.not_true, Bool.not_false, Bool.and_self, Bool.false_and, List.take, List.drop, List.length_map, List.getElem?_cons_zero, List.getElem?_cons_succ, List.set_cons_zero, List.set_cons_succ, List.length_cons, List.length_nil, if_true, Bool.false_eq_true, if_false, Nat.reduceAdd, Nat.reduceLT, m1, eq_is, z'], y, e, rfl, y1, y3, z, y4, y5⟩)
  exact ⟨y, e, h.1, h.2.1, h.2.2.1, h.2.2.2.1, h.2.2.2.2, e1⟩
theorem parts_ok {i n : Nat} (h : P[i]? = some irP_parts_of) (hL : 2 ^ 100 < L) (m : Int) (h1 : 1 ≤ m) (h2 : m < 2 ^ 70) : ∃ ps : List (Int × Nat), IsFac m ps ∧ ps.length ≤ 71 ∧ evF L P (n + 1) i none [.int m] = some (false, .tup (facD ps), none) := by
  have hL24 : L24 = 16777216 := rfl
  obtain ⟨o, e1, x, qs, p, w, rfl, x1, hd, hpp, hp, hf, hlen⟩ := whl_inv (L := L) (c := evF L P n) (t := .val (.o2 .le (.o2 .mul (.peek 2) (.peek 2)) (.peek 0))) (b := .cons (.set (.nm 3) (.cst (.int 0)))
      (.cons (.whl (.val (.o2 .eq (.o2 .mod (.peek 0) (.peek 2)) (.cst (.int 0)))) (.cons (.aug 0 .fdiv (.peek 2)) (.cons (.aug 3 .add (.cst (.int 1))) .nil)))
      (.cons (.ite (.val (.o2 .gt (.peek 3) (.cst (.int 0)))) (.cons (.app 1 (.tup (.cons (.var 2) (.cons (.var 3) .nil)))) .nil) .nil)
      (.cons (.aug 2 .add (.ite (.val (.o2 .eq (.peek 2) (.cst (.int 2)))) (.cst (.int 1)) (.cst (.int 2)))) .nil)))) (ρ := [.fz (.int m), .ow (.lst (facD [])), .fz (.int 2), .no])
    (fun ρ => ∃ (x : Int) (qs : List (Int × Nat)) (p : Int) (w : Sl), ρ = [.fz (.int x), .ow (.lst (facD qs)), .fz (.int p), w] ∧ 1 ≤ x ∧ (∀ d : Int, 2 ≤ d → d < p → x % d ≠ 0) ∧ 2 ≤ p ∧ p < 2 ^ 36 ∧ (p = 2 ∨ p % 2 = 1) ∧ (∀ r, IsFac x r → IsFac m (qs ++ r)) ∧ x * 2 ^ qs.length ≤ m)
    (fun ρ => match ρ with | [_, _, .fz (.int p), _] => (2 ^ 36 - p).toNat | _ => 0)
    (fun o => ∃ (x : Int) (qs : List (Int × Nat)) (p : Int) (w : Sl), o = .nx [.fz (.int x), .ow (.lst (facD qs)), .fz (.int p), w] ∧ 1 ≤ x ∧ (∀ d : Int, 2 ≤ d → d < p → x % d ≠ 0) ∧ x < p * p ∧ 2 ≤ p ∧ (∀ r, IsFac x r → IsFac m (qs ++ r)) ∧ x * 2 ^ qs.length ≤ m)
    ⟨m, [], 2, .no, rfl, h1, fun d d0 d1 => by omega, by omega, by omega, .inl rfl, fun r k => k, by simp⟩ (show ((2 : Int) ^ 36 - 2).toNat < L by omega) (by
      rintro ρ ⟨x, qs, p, w, rfl, x1, hd, p2, p3, p4, hf, hlen⟩
      have pw : (1 : Int) ≤ 2 ^ qs.length := by have := two_pow_pos qs.length; omega
      have xm : x ≤ m := by
        have : x * 1 ≤ x * 2 ^ qs.length := Int.mul_le_mul_of_nonneg_left pw (by omega)
        omega
      have ql : qs.length < 70 := by
        by_cases z : qs.length < 70
        · exact z
        · exfalso
          have a1 : (2 : Int) ^ 70 ≤ 2 ^ qs.length := two_pow_mono (by omega)
          have a2 : 1 * 2 ^ qs.length ≤ x * 2 ^ qs.length := Int.mul_le_mul_of_nonneg_right x1 (by omega)
          omega
      have m1 := mul_is (i := p) (j := p) (small_abs (by omega) (by omega)) (small_abs (by omega) (by omega))
      by_cases z : p * p ≤ x
      · have p35 : p < 2 ^ 35 := by
          by_cases q : p < 2 ^ 35
          · exact q
          · exfalso
            have : (2 : Int) ^ 35 * 2 ^ 35 ≤ p * p := Int.mul_le_mul (by omega) (by omega) (by omega) (by omega)
            omega
        obtain ⟨y, e, y1, y2, y3, y4, y5, eI⟩ := parts_in (L := L) (k := evF L P n) (f := .lst (facD qs)) hL x1 (by omega) p2 (by omega)
        have hdy : ∀ d : Int, 2 ≤ d → d < p → y % d ≠ 0 := fun d d0 d1 q => hd d d0 d1 (by rw [y2]; exact dvd_pass q)
        obtain ⟨q, hq, hq2, hq3⟩ : ∃ q : Int, q = (if p = 2 then 1 else 2) ∧ evE (evF L P n) (.ite (.val (.o2 .eq (.peek 2) (.cst (.int 2)))) (.cst (.int 1)) (.cst (.int 2))) [.fz (.int y), .ow (.lst (facD (if e = 0 then qs else qs ++ [(p, e)]))), .fz (.int p), .fz (.int e)] = some (.fz (.int q), [.fz (.int y), .ow (.lst (facD (if e = 0 then qs else qs ++ [(p, e)]))), .fz (.int p), .fz (.int e)]) ∧
            (∀ d : Int, 2 ≤ d → d < p + q → y % d ≠ 0) := by
          by_cases w2 : p = 2
          · subst w2
            refine ⟨1, by rw [if_pos rfl], by simp only [evSs, evS, evE, evT, evA, put, stT, R.get, R.frz, mk, le_is, lt_is, len_is, add_is, sub_is, int_is, i1, b1, truth, doCall, ioAt, getAll, getA, noIo, anyBo, purO, D.pur, putIo, Bool.not_true, Bool.not_false, Bool.and_self, Bool.false_and, List.take, List.drop, List.length_map, List.getElem?_cons_zero, List.getElem?_cons_succ, List.set_cons_zero, List.set_cons_succ, List.length_cons, List.length_nil, if_true, Bool.false_eq_true, if_false, Nat.reduceAdd, Nat.reduceLT, eq_is, beq_self_eq_true], fun d d0 d1 => ?_⟩
            have : d = 2 := by omega
            rw [this]; exact y3
          · have w' : (p == 2) = false := by simp [w2]
            refine ⟨2, by rw [if_neg w2], by simp only [evSs, evS, evE, evT, evA, put, stT, R.get, R.frz, mk, le_is, lt_is, len_is, add_is, sub_is, int_is, i1, b1, truth, doCall, ioAt, getAll, getA, noIo, anyBo, purO, D.pur, putIo, Bool.not_true, Bool.not_false, Bool.and_self, Bool.false_and, List.take, List.drop, List.length_map, List.getElem?_cons_zero, List.getElem?_cons_succ, List.set_cons_zero, List.set_cons_succ, List.length_cons, List.length_nil, if_true, Bool.false_eq_true, if_false, Nat.reduceAdd, Nat.reduceLT, eq_is, w'], fun d d0 d1 => ?_⟩
            by_cases a : d < p
            · exact hdy d d0 a
            · by_cases b : d = p
              · rw [b]; exact y3
              · have c : d = p + 1 := by omega
                intro u
                have e2 := Int.mul_ediv_add_emod y d
                rw [u, Int.add_zero] at e2
                refine hdy 2 (by omega) (by omega) ?_
                rw [← e2, Int.mul_comm]
                exact dvd_pass (by omega)
        have f1 : apI .add (.int p) (.int q) = i1 (p + q) := rfl
        have sA : evS L (evF L P n) (.ite (.val (.o2 .gt (.peek 3) (.cst (.int 0)))) (.cons (.app 1 (.tup (.cons (.var 2) (.cons (.var 3) .nil)))) .nil) .nil) [.fz (.int y), .ow (.lst (facD qs)), .fz (.int p), .fz (.int e)] = some (.nx [.fz (.int y), .ow (.lst (facD (if e = 0 then qs else qs ++ [(p, e)]))), .fz (.int p), .fz (.int e)]) := by
          have fl : (facD qs).length = qs.length := by unfold facD; rw [List.length_map]
          by_cases e0 : e = 0
          · subst e0
            simp only [evSs, evS, evE, evT, evA, put, stT, R.get, R.frz, mk, le_is, lt_is, len_is, add_is, sub_is, int_is, i1, b1, truth, doCall, ioAt, getAll, getA, noIo, anyBo, purO, D.pur, putIo, Bool.not_true, Bool.not_false, Bool.and_self, Bool.false_and, List.take, List.drop, List.length_map, List.getElem?_cons_zero, List.getElem?_cons_succ, List.set_cons_zero, List.set_cons_succ, List.length_cons, List.length_nil, if_true, Bool.false_eq_true, if_false, Nat.reduceAdd, Nat.reduceLT, gt_is]
            rfl
          · have g : decide ((0 : Int) < (e : Int)) = true := decide_eq_true (by omega)
            have l1 : ((facD qs).length < L24) = True := by rw [fl, hL24]; simp; omega
            have l2 : (2 ≤ L24) = True := by simp [hL24]
            rw [if_neg e0, ← facD_app]
            simp only [evSs, evS, evE, evT, evA, put, stT, R.get, R.frz, mk, le_is, lt_is, len_is, add_is, sub_is, int_is, i1, b1, truth, doCall, ioAt, getAll, getA, noIo, anyBo, purO, D.pur, putIo, Bool.not_true, Bool.not_false, Bool.and_self, Bool.false_and, List.take, List.drop, List.length_map, List.getElem?_cons_zero, List.getElem?_cons_succ, List.set_cons_zero, List.set_cons_succ, List.length_cons, List.length_nil, if_true, Bool.false_eq_true, if_false, Nat.reduceAdd, Nat.reduceLT, gt_is, g, evEs, l1, l2]
        refine .inr ⟨[.fz (.int x), .ow (.lst (facD qs)), .fz (.int p), w], by simp only [evSs, evS, evE, evT, evA, put, stT, R.get, R.frz, mk, le_is, lt_is, len_is, add_is, sub_is, int_is, i1, b1, truth, doCall, ioAt, getAll, getA, noIo, anyBo, purO, D.pur, putIo, Bool.not_true, Bool.not_false, Bool.and_self, Bool.false_and, List.take, List.drop, List.length_map, List.getElem?_cons_zero, List.getElem?_cons_succ, List.set_cons_zero, List.set_cons_succ, List.length_cons, List.length_nil, if_true, Bool.false_eq_true, if_false, Nat.reduceAdd, Nat.reduceLT, m1, decide_eq_true z], .inl ⟨[.fz (.int y), .ow (.lst (facD (if e = 0 then qs else qs ++ [(p, e)]))), .fz (.int (p + q)), .fz (.int e)], ?_, ⟨y, _, p + q, _, rfl, y1, hq3, ?_, ?_, ?_, ?_, ?_⟩, ?_⟩⟩
        · rw [seq_nx (ρ' := [.fz (.int x), .ow (.lst (facD qs)), .fz (.int p), .fz (.int 0)]) (by simp only [evSs, evS, evE, evT, evA, put, stT, R.get, R.frz, mk, le_is, lt_is, len_is, add_is, sub_is, int_is, i1, b1, truth, doCall, ioAt, getAll, getA, noIo, anyBo, purO, D.pur, putIo, Bool.not_true, Bool.not_false, Bool.and_self, Bool.false_and, List.take, List.drop, List.length_map, List.getElem?_cons_zero, List.getElem?_cons_succ, List.set_cons_zero, List.set_cons_succ, List.length_cons, List.length_nil, if_true, Bool.false_eq_true, if_false, Nat.reduceAdd, Nat.reduceLT]), seq_nx eI, seq_nx sA]
          rw [evSs, evS]
          simp only [List.getElem?_cons_zero, List.getElem?_cons_succ, hq2, R.get, f1, i1, mk, put, List.length_cons, List.length_nil, Nat.reduceAdd, Nat.reduceLT, if_true, Bool.false_eq_true, if_false, List.set_cons_zero, List.set_cons_succ, evSs]
        · split at hq <;> omega
        · split at hq <;> omega
        · split at hq
          · right; omega
          · right; omega
        · intro r hr
          by_cases e0 : e = 0
          · rw [if_pos e0]
            exact hf r (by rw [← y4 e0]; exact hr)
          · rw [if_neg e0, List.append_assoc]
            refine hf _ (.cons ⟨p2, ?_, hd⟩ (by omega) y2 y3 (by omega) hr)
            obtain ⟨e', rfl⟩ : ∃ e', e = e' + 1 := ⟨e - 1, by omega⟩
            rw [y2, Int.pow_succ, Int.mul_comm (p ^ e'), Int.mul_assoc]
            exact Int.mul_emod_right _ _
        · by_cases e0 : e = 0
          · rw [if_pos e0, y4 e0]
            exact hlen
          · rw [if_neg e0, List.length_append, Int.pow_add]
            have a1 := y5 (by omega)
            have a2 : (2 * y) * 2 ^ qs.length ≤ x * 2 ^ qs.length := Int.mul_le_mul_of_nonneg_right a1 (by omega)
            have a3 : y * (2 ^ qs.length * 2 ^ [(p, e)].length) = (2 * y) * 2 ^ qs.length := by
              show y * (2 ^ qs.length * 2 ^ 1) = _
              rw [Int.pow_succ, Int.pow_zero, Int.one_mul, Int.mul_comm (2 ^ qs.length) 2, ← Int.mul_assoc, Int.mul_comm y 2]
            omega
        · show (2 ^ 36 - (p + q)).toNat < (2 ^ 36 - p).toNat
          split at hq <;> omega
      · exact .inl ⟨[.fz (.int x), .ow (.lst (facD qs)), .fz (.int p), w], by simp only [evSs, evS, evE, evT, evA, put, stT, R.get, R.frz, mk, le_is, lt_is, len_is, add_is, sub_is, int_is, i1, b1, truth, doCall, ioAt, getAll, getA, noIo, anyBo, purO, D.pur, putIo, Bool.not_true, Bool.not_false, Bool.and_self, Bool.false_and, List.take, List.drop, List.length_map, List.getElem?_cons_zero, List.getElem?_cons_succ, List.set_cons_zero, List.set_cons_succ, List.length_cons, List.length_nil, if_true, Bool.false_eq_true, if_false, Nat.reduceAdd, Nat.reduceLT, m1, decide_eq_false z], x, qs, p, w, rfl, x1, hd, by omega, p2, hf, hlen⟩)
  have ql : qs.length < 70 := by
    by_cases z : qs.length < 70
    · exact z
    · exfalso
      have a1 : (2 : Int) ^ 70 ≤ 2 ^ qs.length := two_pow_mono (by omega)
      have a2 : 1 * 2 ^ qs.length ≤ x * 2 ^ qs.length := Int.mul_le_mul_of_nonneg_right x1 (by have := two_pow_pos qs.length; omega)
      omega
  have fl : (facD qs).length = qs.length := by unfold facD; rw [List.length_map]
  have st : startR irP_parts_of [.int m] = [.fz (.int m), .no, .no, .no] := rfl
  have s0 : evS L (evF L P n) (.set (.nm 1) (.lst .nil)) [.fz (.int m), .no, .no, .no] = some (.nx [.fz (.int m), .ow (.lst (facD [])), .no, .no]) := by
    simp only [evSs, evS, evE, evT, evA, put, stT, R.get, R.frz, mk, le_is, lt_is, len_is, add_is, sub_is, int_is, i1, b1, truth, doCall, ioAt, getAll, getA, noIo, anyBo, purO, D.pur, putIo, Bool.not_true, Bool.not_false, Bool.and_self, Bool.false_and, List.take, List.drop, List.length_map, List.getElem?_cons_zero, List.getElem?_cons_succ, List.set_cons_zero, List.set_cons_succ, List.length_cons, List.length_nil, if_true, Bool.false_eq_true, if_false, Nat.reduceAdd, Nat.reduceLT, evEs, Nat.zero_le]
    rfl
  rw [call_is h]
  by_cases x2 : 1 < x
  · refine ⟨qs ++ [(x, 1)], hf _ (.cons (self_least x2 hp hd hpp) (Nat.le_refl 1) (by rw [Int.pow_succ, Int.pow_zero, Int.one_mul, Int.mul_one]) (by rw [Int.emod_eq_of_lt (by omega) x2]; omega) (by omega) .one), by rw [List.length_append]; simp; omega, fn_rt (ρ := [.fz (.int x), .ow (.lst (facD (qs ++ [(x, 1)]))), .fz (.int p), w]) rfl rfl ?_⟩
    rw [st]
    show evSs L (evF L P n) (.cons _ (.cons _ (.cons _ (.cons _ (.cons _ _))))) _ = _
    rw [seq_nx s0, seq_nx (ρ' := [.fz (.int m), .ow (.lst (facD [])), .fz (.int 2), .no]) (by simp only [evSs, evS, evE, evT, evA, put, stT, R.get, R.frz, mk, le_is, lt_is, len_is, add_is, sub_is, int_is, i1, b1, truth, doCall, ioAt, getAll, getA, noIo, anyBo, purO, D.pur, putIo, Bool.not_true, Bool.not_false, Bool.and_self, Bool.false_and, List.take, List.drop, List.length_map, List.getElem?_cons_zero, List.getElem?_cons_succ, List.set_cons_zero, List.set_cons_succ, List.length_cons, List.length_nil, if_true, Bool.false_eq_true, if_false, Nat.reduceAdd, Nat.reduceLT]), seq_nx e1]
    have l1 : ((facD qs).length < L24) = True := by rw [fl, hL24]; simp; omega
    have l2 : (2 ≤ L24) = True := by simp [hL24]
    have tt : ∀ xs : List D, ap1 .toTup (.lst xs) = some (false, .tup xs) := fun _ => rfl
    rw [← facD_app]
    simp only [evSs, evS, evE, evT, evA, put, stT, R.get, R.frz, mk, le_is, lt_is, len_is, add_is, sub_is, int_is, i1, b1, truth, doCall, ioAt, getAll, getA, noIo, anyBo, purO, D.pur, putIo, Bool.not_true, Bool.not_false, Bool.and_self, Bool.false_and, List.take, List.drop, List.length_map, List.getElem?_cons_zero, List.getElem?_cons_succ, List.set_cons_zero, List.set_cons_succ, List.length_cons, List.length_nil, if_true, Bool.false_eq_true, if_false, Nat.reduceAdd, Nat.reduceLT, gt_is, decide_eq_true x2, evEs, l1, l2, tt]
    rfl
  · have xe : x = 1 := by omega
    subst xe
    refine ⟨qs, by have := hf [] .one; rw [List.append_nil] at this; exact this, by omega, fn_rt (ρ := [.fz (.int 1), .ow (.lst (facD qs)), .fz (.int p), w]) rfl rfl ?_⟩
    rw [st]
    show evSs L (evF L P n) (.cons _ (.cons _ (.cons _ (.cons _ (.cons _ _))))) _ = _
    rw [seq_nx s0, seq_nx (ρ' := [.fz (.int m), .ow (.lst (facD [])), .fz (.int 2), .no]) (by simp only [evSs, evS, evE, evT, evA, put, stT, R.get, R.frz, mk, le_is, lt_is, len_is, add_is, sub_is, int_is, i1, b1, truth, doCall, ioAt, getAll, getA, noIo, anyBo, purO, D.pur, putIo, Bool.not_true, Bool.not_false, Bool.and_self, Bool.false_and, List.take, List.drop, List.length_map, List.getElem?_cons_zero, List.getElem?_cons_succ, List.set_cons_zero, List.set_cons_succ, List.length_cons, List.length_nil, if_true, Bool.false_eq_true, if_false, Nat.reduceAdd, Nat.reduceLT]), seq_nx e1]
    have tt : ∀ xs : List D, ap1 .toTup (.lst xs) = some (false, .tup xs) := fun _ => rfl
    simp only [evSs, evS, evE, evT, evA, put, stT, R.get, R.frz, mk, le_is, lt_is, len_is, add_is, sub_is, int_is, i1, b1, truth, doCall, ioAt, getAll, getA, noIo, anyBo, purO, D.pur, putIo, Bool.not_true, Bool.not_false, Bool.and_self, Bool.false_and, List.take, List.drop, List.length_map, List.getElem?_cons_zero, List.getElem?_cons_succ, List.set_cons_zero, List.set_cons_succ, List.length_cons, List.length_nil, if_true, Bool.false_eq_true, if_false, Nat.reduceAdd, Nat.reduceLT, gt_is, decide_eq_false x2, tt]
end
end NW
namespace NW
/-- passes(n, a): n 0, a 1, d 2, s 3, power 4, r 5 -/
def irP_passes (i_power_rest : Nat) : Fn := ⟨2, 6, none,
  (.cons (.par [2, 3] (.cons (.o2 .sub (.peek 0) (.cst (.int 1))) (.cons (.cst (.int 0)) .nil)))
  (.cons (.whl (.val (.o2 .eq (.o2 .mod (.peek 2) (.cst (.int 2))) (.cst (.int 0)))) (.cons (.aug 2 .fdiv (.cst (.int 2)))
  (.cons (.aug 3 .add (.cst (.int 1)))
  .nil)))
  (.cons (.set (.nm 4) (.call i_power_rest none (.cons (.var 1) (.cons (.var 2) (.cons (.var 0) .nil)))))
  (.cons (.ite (.or_ (.val (.o2 .eq (.peek 4) (.cst (.int 1)))) (.val (.o2 .eq (.peek 4) (.o2 .sub (.peek 0) (.cst (.int 1)))))) (.cons (.ret (.cst (.bl true)))
  .nil) .nil)
  (.cons (.for_ (.nm 5) (.rng2 (.cst (.int 1)) (.var 3)) (.cons (.set (.nm 4) (.o2 .mod (.o2 .mul (.peek 4) (.peek 4)) (.peek 0)))
  (.cons (.ite (.val (.o2 .eq (.peek 4) (.o2 .sub (.peek 0) (.cst (.int 1))))) (.cons (.ret (.cst (.bl true)))
  .nil) .nil)
  .nil)))
  (.cons (.ret (.cst (.bl false)))
  .nil))))))⟩
/-- first_witness(n): n 0, a 1 -/
def irP_first_witness (i_passes i_is_prime : Nat) : Fn := ⟨1, 2, none,
  (.cons (.ite (.val (.call i_is_prime none (.cons (.var 0) .nil))) (.cons (.ret (.cst .non))
  .nil) .nil)
  (.cons (.set (.nm 1) (.cst (.int 2)))
  (.cons (.whl (.val (.call i_passes none (.cons (.var 0) (.cons (.var 1) .nil)))) (.cons (.aug 1 .add (.cst (.int 1)))
  .nil))
  (.cons (.ret (.mv 1))
  .nil))))⟩
/-- _law_passes(n, a): n 0, a 1, d 2, s 3, k 4, power 5, r 6 -/
def irP_law_passes (i_law_rest : Nat) : Fn := ⟨2, 7, none,
  (.cons (.par [2, 3] (.cons (.o2 .sub (.peek 0) (.cst (.int 1))) (.cons (.cst (.int 0)) .nil)))
  (.cons (.for_ (.nm 4) (.rng1 (.cst (.int 40))) (.cons (.ite (.val (.o2 .eq (.o2 .mod (.peek 2) (.cst (.int 2))) (.cst (.int 0)))) (.cons (.par [2, 3] (.cons (.o2 .fdiv (.peek 2) (.cst (.int 2))) (.cons (.o2 .add (.peek 3) (.cst (.int 1))) .nil)))
  .nil) .nil)
  .nil))
  (.cons (.set (.nm 5) (.call i_law_rest none (.cons (.var 1) (.cons (.var 2) (.cons (.var 0) .nil)))))
  (.cons (.ite (.val (.o2 .eq (.peek 5) (.cst (.int 1)))) (.cons (.ret (.cst (.bl true)))
  .nil) .nil)
  (.cons (.for_ (.nm 6) (.rng1 (.var 3)) (.cons (.ite (.val (.o2 .eq (.peek 5) (.o2 .sub (.peek 0) (.cst (.int 1))))) (.cons (.ret (.cst (.bl true)))
  .nil) .nil)
  (.cons (.set (.nm 5) (.o2 .mod (.o2 .mul (.peek 5) (.peek 5)) (.peek 0)))
  .nil)))
  (.cons (.ret (.cst (.bl false)))
  .nil))))))⟩
theorem pri_iff {n : Int} : Pri n ↔ Least n n := by
  constructor
  · intro ⟨h1, h2⟩
    refine ⟨h1, Int.emod_self, fun d d0 d1 z => ?_⟩
    by_cases w : d * d ≤ n
    · exact h2 d d0 w z
    · have e := Int.mul_ediv_add_emod n d
      rw [z, Int.add_zero] at e
      have q1 : 2 ≤ n / d := by
        by_cases w : n / d ≤ 1
        · have : d * (n / d) ≤ d * 1 := Int.mul_le_mul_of_nonneg_left w (by omega)
          omega
        · omega
      have q2 : n / d < d := by
        by_cases u : n / d < d
        · exact u
        · exfalso
          have : d * d ≤ d * (n / d) := Int.mul_le_mul_of_nonneg_left (by omega) (by omega)
          omega
      have q3 : (n / d) * (n / d) ≤ n := by
        have : (n / d) * (n / d) ≤ d * (n / d) := Int.mul_le_mul_of_nonneg_right (by omega) (by omega)
        omega
      refine h2 (n / d) q1 q3 ?_
      have : n = (n / d) * d := by rw [Int.mul_comm]; exact e.symm
      rw [this, Int.mul_ediv_cancel _ (by omega)]
      exact Int.mul_emod_right _ _
  · intro ⟨h1, _, h2⟩
    refine ⟨h1, fun d d0 d1 z => ?_⟩
    refine h2 d d0 ?_ z
    have : 2 * d ≤ d * d := Int.mul_le_mul_of_nonneg_right d0 (by omega)
    omega
theorem IsFac.least {n : Int} {ps : List (Int × Nat)} (h : IsFac n ps) (hn : 2 ≤ n) : ∃ p e r, ps = (p, e) :: r ∧ Least n p := by
  cases h with
  | one => omega
  | cons l _ _ _ _ _ => exact ⟨_, _, _, rfl, l⟩
/-- n - 1 = 2^s d, d odd -/
def Dec (n d : Int) (s : Nat) : Prop := n - 1 = 2 ^ s * d ∧ d % 2 = 1 ∧ 1 ≤ d
theorem Dec.uniq {n d d' : Int} {s s' : Nat} (h : Dec n d s) (k : Dec n d' s') : s = s' ∧ d = d' :=
  exp_uniq (by omega) (by have := h.2.1; omega) (by have := k.2.1; omega) s s' (h.1.symm.trans k.1)
def PassB (n a d : Int) (s : Nat) : Prop := a ^ d.toNat % n = 1 ∨ ∃ r : Nat, r < s ∧ a ^ (d.toNat * 2 ^ r) % n = n - 1
section
variable {L : Nat} {P : Prog}
theorem atT_is {xs : List D} {i : Int} {d : D} (h0 : 0 ≤ i) (h : xs[i.toNat]? = some d) : ap2 .idx (.tup xs) (.int i) = some (false, d) := by
  have hl := (List.getElem?_eq_some_iff.mp h).1
  show (match ixN xs.length i with | some j => (match xs[j]? with | some d => some (false, d) | none => none) | none => none) = _
  unfold ixN
  rw [if_pos h0, if_pos (by omega)]
  simp only [h]
theorem least_ok {i j n : Nat} (h : P[i]? = some irP_parts_of) (hj : P[j]? = some (irP_least_part i)) (hL : 2 ^ 100 < L) (m : Int) (h1 : 2 ≤ m) (h2 : m < 2 ^ 70) : ∃ p : Int, Least m p ∧ evF L P (n + 2) j none [.int m] = some (false, .int p, none) := by
  obtain ⟨ps, hf, hl, e1⟩ := parts_ok (n := n) h hL m (by omega) h2
  obtain ⟨p, e, r, rfl, l⟩ := hf.least h1
  refine ⟨p, l, ?_⟩
  rw [call_is hj]
  refine fn_rt (ρ := [.fz (.int m)]) rfl rfl ?_
  show evSs L _ (irP_least_part i).body [.fz (.int m)] = _
  have i1' : ap2 .idx (.tup (facD ((p, e) :: r))) (.int 0) = some (false, .tup [.int p, .int e]) := atT_is (by omega) rfl
  have i2' : ap2 .idx (.tup [.int p, .int e]) (.int 0) = some (false, .int p) := rfl
  simp only [irP_least_part, evSs, evS, evE, evT, evA, put, stT, R.get, R.frz, mk, le_is, lt_is, len_is, add_is, sub_is, int_is, i1, b1, truth, doCall, ioAt, getAll, getA, noIo, anyBo, purO, D.pur, putIo, Bool.not_true, Bool.not_false, Bool.and_self, Bool.false_and, List.take, List.drop, List.length_map, List.getElem?_cons_zero, List.getElem?_cons_succ, List.set_cons_zero, List.set_cons_succ, List.length_cons, List.length_nil, if_true, Bool.false_eq_true, if_false, Nat.reduceAdd, Nat.reduceLT, e1, i1', i2']
theorem isPrime_ok {i j k n : Nat} (h : P[i]? = some irP_parts_of) (hj : P[j]? = some (irP_least_part i)) (hk : P[k]? = some (irP_is_prime j)) (hL : 2 ^ 100 < L) (m : Int) (h2 : m < 2 ^ 70) :
    ∃ b : Bool, (b = true ↔ Pri m) ∧ evF L P (n + 3) k none [.int m] = some (false, .bl b, none) := by
  rw [call_is hk]
  by_cases h1 : 1 < m
  · obtain ⟨p, l, e1⟩ := least_ok (n := n) h hj hL m (by omega) h2
    refine ⟨p == m, ?_, fn_rt (ρ := [.fz (.int m)]) rfl rfl ?_⟩
    · rw [pri_iff, beq_iff_eq]
      exact ⟨fun e => by rw [e] at l; exact l, fun e => l.uniq e⟩
    · show evSs L _ (irP_is_prime j).body [.fz (.int m)] = _
      simp only [irP_is_prime, evSs, evS, evE, evT, evA, put, stT, R.get, R.frz, mk, le_is, lt_is, len_is, add_is, sub_is, int_is, i1, b1, truth, doCall, ioAt, getAll, getA, noIo, anyBo, purO, D.pur, putIo, Bool.not_true, Bool.not_false, Bool.and_self, Bool.false_and, List.take, List.drop, List.length_map, List.getElem?_cons_zero, List.getElem?_cons_succ, List.set_cons_zero, List.set_cons_succ, List.length_cons, List.length_nil, if_true, Bool.false_eq_true, if_false, Nat.reduceAdd, Nat.reduceLT, gt_is, decide_eq_true h1, e1, eq_is]
  · refine ⟨false, ⟨fun e => (by cases e), fun e => (by have := e.1; omega)⟩, fn_rt (ρ := [.fz (.int m)]) rfl rfl ?_⟩
    show evSs L _ (irP_is_prime j).body [.fz (.int m)] = _
    simp only [irP_is_prime, evSs, evS, evE, evT, evA, put, stT, R.get, R.frz, mk, le_is, lt_is, len_is, add_is, sub_is, int_is, i1, b1, truth, doCall, ioAt, getAll, getA, noIo, anyBo, purO, D.pur, putIo, Bool.not_true, Bool.not_false, Bool.and_self, Bool.false_and, List.take, List.drop, List.length_map, List.getElem?_cons_zero, List.getElem?_cons_succ, List.set_cons_zero, List.set_cons_succ, List.length_cons, List.length_nil, if_true, Bool.false_eq_true, if_false, Nat.reduceAdd, Nat.reduceLT, gt_is, decide_eq_false h1]
theorem passes_ok {i j n : Nat} (h : P[i]? = some irP_power_rest) (hj : P[j]? = some (irP_passes i)) (hL : 2 ^ 100 < L) (m a : Int) (h1 : 3 ≤ m) (h2 : m < 2 ^ 70) (hodd : m % 2 = 1) :
    ∃ (b : Bool) (d : Int) (s : Nat), Dec m d s ∧ (b = true ↔ PassB m a d s) ∧ evF L P (n + 2) j none [.int m, .int a] = some (false, .bl b, none) := by
  rw [call_is hj]
  have st : startR (irP_passes i) [.int m, .int a] = [.fz (.int m), .fz (.int a), .no, .no, .no, .no] := rfl
  obtain ⟨o, e1, d, s, rfl, hd⟩ := whl_inv (L := L) (c := evF L P (n + 1)) (t := .val (.o2 .eq (.o2 .mod (.peek 2) (.cst (.int 2))) (.cst (.int 0)))) (b := .cons (.aug 2 .fdiv (.cst (.int 2))) (.cons (.aug 3 .add (.cst (.int 1))) .nil)) (ρ := [.fz (.int m), .fz (.int a), .fz (.int (m - 1)), .fz (.int 0), .no, .no])
    (fun ρ => ∃ (d : Int) (s : Nat), ρ = [.fz (.int m), .fz (.int a), .fz (.int d), .fz (.int s), .no, .no] ∧ 1 ≤ d ∧ m - 1 = 2 ^ s * d ∧ d < m) (fun ρ => match ρ with | [_, _, .fz (.int d), _, _, _] => d.toNat | _ => 0)
    (fun o => ∃ (d : Int) (s : Nat), o = .nx [.fz (.int m), .fz (.int a), .fz (.int d), .fz (.int s), .no, .no] ∧ Dec m d s ∧ d < m) ⟨m - 1, 0, rfl, by omega, by rw [Int.pow_zero, Int.one_mul], by omega⟩ (show (m - 1).toNat < L by omega) (by
      rintro ρ ⟨d, s, rfl, d1, d2, d3⟩
      have m1 : ap2 .mod (.int d) (.int 2) = i1 (d % 2) := by rw [mod_is (by omega), fmod_is (by omega)]
      by_cases z : d % 2 = 0
      · have z' : (d % 2 == 0) = true := by simp [z]
        have f1 : apI .fdiv (.int d) (.int 2) = i1 (d / 2) := by show ap2 .fdiv (.int d) (.int 2) = _; rw [fdiv_is (by omega) (small89 (by omega) (by omega)), fdiv_is' (by omega)]
        have f2 : apI .add (.int (s : Int)) (.int 1) = i1 ((s : Int) + 1) := rfl
        refine .inr ⟨[.fz (.int m), .fz (.int a), .fz (.int d), .fz (.int s), .no, .no], by simp only [evSs, evS, evE, evT, evA, put, stT, R.get, R.frz, mk, le_is, lt_is, len_is, add_is, sub_is, int_is, i1, b1, truth, doCall, ioAt, getAll, getA, noIo, anyBo, purO, D.pur, putIo, Bool.not_true, Bool.not_false, Bool.and_self, Bool.false_and, List.take, List.drop, List.length_map, List.getElem?_cons_zero, List.getElem?_cons_succ, List.set_cons_zero, List.set_cons_succ, List.length_cons, List.length_nil, if_true, Bool.false_eq_true, if_false, Nat.reduceAdd, Nat.reduceLT, m1, eq_is, z'], .inl ⟨[.fz (.int m), .fz (.int a), .fz (.int (d / 2)), .fz (.int ((s : Int) + 1)), .no, .no], by simp only [evSs, evS, evE, evT, evA, put, stT, R.get, R.frz, mk, le_is, lt_is, len_is, add_is, sub_is, int_is, i1, b1, truth, doCall, ioAt, getAll, getA, noIo, anyBo, purO, D.pur, putIo, Bool.not_true, Bool.not_false, Bool.and_self, Bool.false_and, List.take, List.drop, List.length_map, List.getElem?_cons_zero, List.getElem?_cons_succ, List.set_cons_zero, List.set_cons_succ, List.length_cons, List.length_nil, if_true, Bool.false_eq_true, if_false, Nat.reduceAdd, Nat.reduceLT, f1, f2], ⟨d / 2, s + 1, by simp, by omega, ?_, by omega⟩, ?_⟩⟩
        · rw [d2, Int.pow_succ, Int.mul_assoc]
          congr 1
          omega
        · show (d / 2).toNat < d.toNat
          omega
      · have z' : (d % 2 == 0) = false := by simp [z]
        exact .inl ⟨[.fz (.int m), .fz (.int a), .fz (.int d), .fz (.int s), .no, .no], by simp only [evSs, evS, evE, evT, evA, put, stT, R.get, R.frz, mk, le_is, lt_is, len_is, add_is, sub_is, int_is, i1, b1, truth, doCall, ioAt, getAll, getA, noIo, anyBo, purO, D.pur, putIo, Bool.not_true, Bool.not_false, Bool.and_self, Bool.false_and, List.take, List.drop, List.length_map, List.getElem?_cons_zero, List.getElem?_cons_succ, List.set_cons_zero, List.set_cons_succ, List.length_cons, List.length_nil, if_true, Bool.false_eq_true, if_false, Nat.reduceAdd, Nat.reduceLT, m1, eq_is, z'], d, s, rfl, ⟨d2, by omega, d1⟩, d3⟩)
  obtain ⟨hd, hdm⟩ := hd
  have s1 : 1 ≤ s := by
    cases s with
    | zero => have := hd.1; have := hd.2.1; rw [Int.pow_zero, Int.one_mul] at *; omega
    | succ s => omega
  have eP : evF L P (n + 1) i none [.int a, .int d, .int m] = some (false, .int (a ^ d.toNat % m), none) := power_rest_ok h (by omega) a d m (by have := hd.2.2; omega) (by omega) (by omega) (by omega)
  have s70 : s < 70 := by
    by_cases z : s < 70
    · exact z
    · exfalso
      have a1 : (2 : Int) ^ 70 ≤ 2 ^ s := two_pow_mono (by omega)
      have a2 : 2 ^ s * 1 ≤ 2 ^ s * d := Int.mul_le_mul_of_nonneg_left hd.2.2 (Int.le_of_lt (two_pow_pos s))
      have := hd.1
      omega
  generalize hx : a ^ d.toNat % m = x at eP
  have hx0 : 0 ≤ x := by rw [← hx]; exact Int.emod_nonneg _ (by omega)
  have hx1 : x < m := by rw [← hx]; exact Int.emod_lt_of_pos _ (by omega)
  have sA : evSs L (evF L P (n + 1)) (irP_passes i).body [.fz (.int m), .fz (.int a), .no, .no, .no, .no] = evSs L (evF L P (n + 1)) (match (irP_passes i).body with | .cons _ (.cons _ (.cons _ r)) => r | r => r) [.fz (.int m), .fz (.int a), .fz (.int d), .fz (.int s), .fz (.int x), .no] := by
    show evSs L (evF L P (n + 1)) (.cons _ (.cons _ (.cons _ _))) _ = _
    rw [seq_nx (ρ' := [.fz (.int m), .fz (.int a), .fz (.int (m - 1)), .fz (.int 0), .no, .no]) (by simp only [evSs, evS, evE, evT, evA, put, stT, R.get, R.frz, mk, le_is, lt_is, len_is, add_is, sub_is, int_is, i1, b1, truth, doCall, ioAt, getAll, getA, noIo, anyBo, purO, D.pur, putIo, Bool.not_true, Bool.not_false, Bool.and_self, Bool.false_and, List.take, List.drop, List.length_map, List.getElem?_cons_zero, List.getElem?_cons_succ, List.set_cons_zero, List.set_cons_succ, List.length_cons, List.length_nil, if_true, Bool.false_eq_true, if_false, Nat.reduceAdd, Nat.reduceLT, putAll]), seq_nx e1,
      seq_nx (ρ' := [.fz (.int m), .fz (.int a), .fz (.int d), .fz (.int s), .fz (.int x), .no]) (by simp only [evSs, evS, evE, evT, evA, put, stT, R.get, R.frz, mk, le_is, lt_is, len_is, add_is, sub_is, int_is, i1, b1, truth, doCall, ioAt, getAll, getA, noIo, anyBo, purO, D.pur, putIo, Bool.not_true, Bool.not_false, Bool.and_self, Bool.false_and, List.take, List.drop, List.length_map, List.getElem?_cons_zero, List.getElem?_cons_succ, List.set_cons_zero, List.set_cons_succ, List.length_cons, List.length_nil, if_true, Bool.false_eq_true, if_false, Nat.reduceAdd, Nat.reduceLT, eP])]
    rfl
  by_cases c1 : x = 1 ∨ x = m - 1
  · refine ⟨true, d, s, hd, ⟨fun _ => ?_, fun _ => rfl⟩, fn_rt (ρ := [.fz (.int m), .fz (.int a), .fz (.int d), .fz (.int s), .fz (.int x), .no]) rfl rfl ?_⟩
    · rcases c1 with c1 | c1
      · exact .inl (hx.trans c1)
      · exact .inr ⟨0, by omega, by rw [Nat.pow_zero, Nat.mul_one]; exact hx.trans c1⟩
    · rw [st, sA]
      show evSs L (evF L P (n + 1)) (.cons _ _) _ = _
      refine seq_rt ?_
      by_cases c2 : x = 1
      · have c2' : (x == 1) = true := by simp [c2]
        simp only [evSs, evS, evE, evT, evA, put, stT, R.get, R.frz, mk, le_is, lt_is, len_is, add_is, sub_is, int_is, i1, b1, truth, doCall, ioAt, getAll, getA, noIo, anyBo, purO, D.pur, putIo, Bool.not_true, Bool.not_false, Bool.and_self, Bool.false_and, List.take, List.drop, List.length_map, List.getElem?_cons_zero, List.getElem?_cons_succ, List.set_cons_zero, List.set_cons_succ, List.length_cons, List.length_nil, if_true, Bool.false_eq_true, if_false, Nat.reduceAdd, Nat.reduceLT, eq_is, c2']
      · have c2' : (x == 1) = false := by simp [c2]
        have c3' : (x == m - 1) = true := by
          rcases c1 with c1 | c1
          · exact (c2 c1).elim
          · simp [c1]
        simp only [evSs, evS, evE, evT, evA, put, stT, R.get, R.frz, mk, le_is, lt_is, len_is, add_is, sub_is, int_is, i1, b1, truth, doCall, ioAt, getAll, getA, noIo, anyBo, purO, D.pur, putIo, Bool.not_true, Bool.not_false, Bool.and_self, Bool.false_and, List.take, List.drop, List.length_map, List.getElem?_cons_zero, List.getElem?_cons_succ, List.set_cons_zero, List.set_cons_succ, List.length_cons, List.length_nil, if_true, Bool.false_eq_true, if_false, Nat.reduceAdd, Nat.reduceLT, eq_is, c2', c3']
  · have c2' : (x == 1) = false := by
      simp only [not_or] at c1
      simp [c1.1]
    have c3' : (x == m - 1) = false := by
      simp only [not_or] at c1
      simp [c1.2]
    have hr : rgOk (s : Int) = true := by
      unfold rgOk
      simp only [Bool.and_eq_true, decide_eq_true_eq]
      omega
    have h1r : rgOk (1 : Int) = true := rfl
    obtain ⟨o, e2, ho⟩ := for_inv (L := L) (c := evF L P (n + 1)) (j := 5) (src := .rng2 (.cst (.int 1)) (.var 3)) (b := .cons (.set (.nm 4) (.o2 .mod (.o2 .mul (.peek 4) (.peek 4)) (.peek 0))) (.cons (.ite (.val (.o2 .eq (.peek 4) (.o2 .sub (.peek 0) (.cst (.int 1))))) (.cons (.ret (.cst (.bl true))) .nil) .nil) .nil))
      (ρ := [.fz (.int m), .fz (.int a), .fz (.int d), .fz (.int s), .fz (.int x), .no]) (lo := 1) (n := s - 1) (ρ1 := [.fz (.int m), .fz (.int a), .fz (.int d), .fz (.int s), .fz (.int x), .no])
      (by
        have e : ((s : Int) - 1).toNat = s - 1 := by omega
        simp only [evI, evSs, evS, evE, evT, evA, put, stT, R.get, R.frz, mk, le_is, lt_is, len_is, add_is, sub_is, int_is, i1, b1, truth, doCall, ioAt, getAll, getA, noIo, anyBo, purO, D.pur, putIo, Bool.not_true, Bool.not_false, Bool.and_self, Bool.false_and, List.take, List.drop, List.length_map, List.getElem?_cons_zero, List.getElem?_cons_succ, List.set_cons_zero, List.set_cons_succ, List.length_cons, List.length_nil, if_true, Bool.false_eq_true, if_false, Nat.reduceAdd, Nat.reduceLT, hr, h1r, Bool.and_self, e])
      (fun t ρ => ∃ (y : Int) (w : Sl), ρ = [.fz (.int m), .fz (.int a), .fz (.int d), .fz (.int s), .fz (.int y), w] ∧ y = a ^ (d.toNat * 2 ^ (t - 1).toNat) % m ∧ ∀ r : Nat, (r : Int) < t → a ^ (d.toNat * 2 ^ r) % m ≠ m - 1)
      (fun o => (∃ ρ, o = .rt (.fz (.bl true)) ρ ∧ PassB m a d s) ∨ ∃ (y : Int) (w : Sl), o = .nx [.fz (.int m), .fz (.int a), .fz (.int d), .fz (.int s), .fz (.int y), w] ∧ ∀ r : Nat, r < s → a ^ (d.toNat * 2 ^ r) % m ≠ m - 1)
      ⟨x, .no, rfl, by rw [show ((1 : Int) - 1).toNat = 0 from rfl, Nat.pow_zero, Nat.mul_one]; exact hx.symm, fun r hr2 => by
        have r0 : r = 0 := by omega
        subst r0
        rw [Nat.pow_zero, Nat.mul_one, hx]
        simp only [not_or] at c1
        exact c1.2⟩ (by
      rintro t ρ t0 t1 ⟨y, w, rfl, hy, hn⟩
      have y0 : 0 ≤ y := by rw [hy]; exact Int.emod_nonneg _ (by omega)
      have y1 : y < m := by rw [hy]; exact Int.emod_lt_of_pos _ (by omega)
      have q1 := mul_is (i := y) (j := y) (small_abs y0 (by omega)) (small_abs y0 (by omega))
      have q2 : ap2 .mod (.int (y * y)) (.int m) = i1 (y * y % m) := by rw [mod_is (by omega), fmod_is (by omega)]
      have hsq : y * y % m = a ^ (d.toNat * 2 ^ t.toNat) % m := by
        have e : t.toNat = (t - 1).toNat + 1 := by omega
        rw [hy, ← Int.mul_emod, ← Int.pow_add, e, Nat.pow_succ, ← Nat.mul_assoc, Nat.mul_two]
      refine ⟨by simp, ?_⟩
      by_cases z : y * y % m = m - 1
      · have z' : (y * y % m == m - 1) = true := by simp [z]
        exact .inr ⟨.fz (.bl true), [.fz (.int m), .fz (.int a), .fz (.int d), .fz (.int s), .fz (.int (y * y % m)), .fz (.int t)], by simp only [evSs, evS, evE, evT, evA, put, stT, R.get, R.frz, mk, le_is, lt_is, len_is, add_is, sub_is, int_is, i1, b1, truth, doCall, ioAt, getAll, getA, noIo, anyBo, purO, D.pur, putIo, Bool.not_true, Bool.not_false, Bool.and_self, Bool.false_and, List.take, List.drop, List.length_map, List.getElem?_cons_zero, List.getElem?_cons_succ, List.set_cons_zero, List.set_cons_succ, List.length_cons, List.length_nil, if_true, Bool.false_eq_true, if_false, Nat.reduceAdd, Nat.reduceLT, q1, q2, eq_is, z'], .inl ⟨_, rfl, .inr ⟨t.toNat, by omega, by rw [← hsq]; exact z⟩⟩⟩
      · have z' : (y * y % m == m - 1) = false := by simp [z]
        refine .inl ⟨[.fz (.int m), .fz (.int a), .fz (.int d), .fz (.int s), .fz (.int (y * y % m)), .fz (.int t)], by simp only [evSs, evS, evE, evT, evA, put, stT, R.get, R.frz, mk, le_is, lt_is, len_is, add_is, sub_is, int_is, i1, b1, truth, doCall, ioAt, getAll, getA, noIo, anyBo, purO, D.pur, putIo, Bool.not_true, Bool.not_false, Bool.and_self, Bool.false_and, List.take, List.drop, List.length_map, List.getElem?_cons_zero, List.getElem?_cons_succ, List.set_cons_zero, List.set_cons_succ, List.length_cons, List.length_nil, if_true, Bool.false_eq_true, if_false, Nat.reduceAdd, Nat.reduceLT, q1, q2, eq_is, z'], y * y % m, .fz (.int t), rfl, by rw [show (t + 1 - 1).toNat = t.toNat by omega]; exact hsq, fun r hr2 => ?_⟩
        by_cases u : (r : Int) < t
        · exact hn r u
        · have : r = t.toNat := by omega
          rw [this, ← hsq]
          exact z) (by
      rintro ρ ⟨y, w, rfl, hy, hn⟩
      exact .inr ⟨y, w, rfl, fun r hr2 => hn r (by omega)⟩)
    have sB : evS L (evF L P (n + 1)) (.ite (.or_ (.val (.o2 .eq (.peek 4) (.cst (.int 1)))) (.val (.o2 .eq (.peek 4) (.o2 .sub (.peek 0) (.cst (.int 1)))))) (.cons (.ret (.cst (.bl true))) .nil) .nil) [.fz (.int m), .fz (.int a), .fz (.int d), .fz (.int s), .fz (.int x), .no] = some (.nx [.fz (.int m), .fz (.int a), .fz (.int d), .fz (.int s), .fz (.int x), .no]) := by
      simp only [evSs, evS, evE, evT, evA, put, stT, R.get, R.frz, mk, le_is, lt_is, len_is, add_is, sub_is, int_is, i1, b1, truth, doCall, ioAt, getAll, getA, noIo, anyBo, purO, D.pur, putIo, Bool.not_true, Bool.not_false, Bool.and_self, Bool.false_and, List.take, List.drop, List.length_map, List.getElem?_cons_zero, List.getElem?_cons_succ, List.set_cons_zero, List.set_cons_succ, List.length_cons, List.length_nil, if_true, Bool.false_eq_true, if_false, Nat.reduceAdd, Nat.reduceLT, eq_is, c2', c3']
    rcases ho with ⟨ρ, rfl, hp⟩ | ⟨y, w, rfl, hn⟩
    · refine ⟨true, d, s, hd, ⟨fun _ => hp, fun _ => rfl⟩, fn_rt (ρ := ρ) rfl rfl ?_⟩
      rw [st, sA]
      show evSs L (evF L P (n + 1)) (.cons _ (.cons _ _)) _ = _
      rw [seq_nx sB, seq_rt e2]
    · refine ⟨false, d, s, hd, ⟨fun e => (by cases e), fun e => ?_⟩, fn_rt (ρ := [.fz (.int m), .fz (.int a), .fz (.int d), .fz (.int s), .fz (.int y), w]) rfl rfl ?_⟩
      · rcases e with e | ⟨r, hr2, e⟩
        · simp only [not_or] at c1
          exact (c1.1 (hx.symm.trans e)).elim
        · exact (hn r hr2 e).elim
      · rw [st, sA]
        show evSs L (evF L P (n + 1)) (.cons _ (.cons _ _)) _ = _
        rw [seq_nx sB, seq_nx e2]
        simp only [evSs, evS, evE, evT, evA, put, stT, R.get, R.frz, mk, le_is, lt_is, len_is, add_is, sub_is, int_is, i1, b1, truth, doCall, ioAt, getAll, getA, noIo, anyBo, purO, D.pur, putIo, Bool.not_true, Bool.not_false, Bool.and_self, Bool.false_and, List.take, List.drop, List.length_map, List.getElem?_cons_zero, List.getElem?_cons_succ, List.set_cons_zero, List.set_cons_succ, List.length_cons, List.length_nil, if_true, Bool.false_eq_true, if_false, Nat.reduceAdd, Nat.reduceLT]
theorem lawPasses_ok {i j n : Nat} (h : P[i]? = some irP_law_rest) (hj : P[j]? = some (irP_law_passes i)) (m a : Int) (h1 : 3 ≤ m) (h2 : m < 2 ^ 39) (hodd : m % 2 = 1) :
    ∃ (b : Bool) (d : Int) (s : Nat), Dec m d s ∧ (b = true ↔ PassB m a d s) ∧ evF L P (n + 2) j none [.int m, .int a] = some (false, .bl b, none) := by
  rw [call_is hj]
  have st : startR (irP_law_passes i) [.int m, .int a] = [.fz (.int m), .fz (.int a), .no, .no, .no, .no, .no] := rfl
  obtain ⟨o, e1, d, s, w0, rfl, hd, hdm⟩ := for_inv (L := L) (c := evF L P (n + 1)) (j := 4) (src := .rng1 (.cst (.int 40))) (b := .cons (.ite (.val (.o2 .eq (.o2 .mod (.peek 2) (.cst (.int 2))) (.cst (.int 0)))) (.cons (.par [2, 3] (.cons (.o2 .fdiv (.peek 2) (.cst (.int 2))) (.cons (.o2 .add (.peek 3) (.cst (.int 1))) .nil))) .nil) .nil) .nil)
    (ρ := [.fz (.int m), .fz (.int a), .fz (.int (m - 1)), .fz (.int 0), .no, .no, .no]) (lo := 0) (n := 40) (ρ1 := [.fz (.int m), .fz (.int a), .fz (.int (m - 1)), .fz (.int 0), .no, .no, .no]) (by simp only [evI, evSs, evS, evE, evT, evA, put, stT, R.get, R.frz, mk, le_is, lt_is, len_is, add_is, sub_is, int_is, i1, b1, truth, doCall, ioAt, getAll, getA, noIo, anyBo, purO, D.pur, putIo, Bool.not_true, Bool.not_false, Bool.and_self, Bool.false_and, List.take, List.drop, List.length_map, List.getElem?_cons_zero, List.getElem?_cons_succ, List.set_cons_zero, List.set_cons_succ, List.length_cons, List.length_nil, if_true, Bool.false_eq_true, if_false, Nat.reduceAdd, Nat.reduceLT]; rfl)
    (fun t ρ => ∃ (d : Int) (s : Nat) (w : Sl), ρ = [.fz (.int m), .fz (.int a), .fz (.int d), .fz (.int s), w, .no, .no] ∧ 1 ≤ d ∧ m - 1 = 2 ^ s * d ∧ d < m ∧ (d % 2 = 1 ∨ d * 2 ^ t.toNat < 2 ^ 39))
    (fun o => ∃ (d : Int) (s : Nat) (w : Sl), o = .nx [.fz (.int m), .fz (.int a), .fz (.int d), .fz (.int s), w, .no, .no] ∧ Dec m d s ∧ d < m) ⟨m - 1, 0, .no, rfl, by omega, by rw [Int.pow_zero, Int.one_mul], by omega, .inr (by rw [show (0 : Int).toNat = 0 from rfl, Int.pow_zero, Int.mul_one]; omega)⟩ (by
      rintro t ρ t0 t1 ⟨d, s, w, rfl, d1, d2, d3, d4⟩
      have m1 : ap2 .mod (.int d) (.int 2) = i1 (d % 2) := by rw [mod_is (by omega), fmod_is (by omega)]
      refine ⟨by simp, .inl ?_⟩
      by_cases z : d % 2 = 0
      · have z' : (d % 2 == 0) = true := by simp [z]
        have f1 : ap2 .fdiv (.int d) (.int 2) = i1 (d / 2) := by rw [fdiv_is (by omega) (small89 (by omega) (by omega)), fdiv_is' (by omega)]
        refine ⟨[.fz (.int m), .fz (.int a), .fz (.int (d / 2)), .fz (.int ((s : Int) + 1)), .fz (.int t), .no, .no], by simp only [evSs, evS, evE, evT, evA, put, stT, R.get, R.frz, mk, le_is, lt_is, len_is, add_is, sub_is, int_is, i1, b1, truth, doCall, ioAt, getAll, getA, noIo, anyBo, purO, D.pur, putIo, Bool.not_true, Bool.not_false, Bool.and_self, Bool.false_and, List.take, List.drop, List.length_map, List.getElem?_cons_zero, List.getElem?_cons_succ, List.set_cons_zero, List.set_cons_succ, List.length_cons, List.length_nil, if_true, Bool.false_eq_true, if_false, Nat.reduceAdd, Nat.reduceLT, putAll, m1, eq_is, z', f1], d / 2, s + 1, .fz (.int t), by simp, by omega, ?_, by omega, .inr ?_⟩
        · rw [d2, Int.pow_succ, Int.mul_assoc]
          congr 1
          omega
        · have e : (t + 1).toNat = t.toNat + 1 := by omega
          have h3 : d * 2 ^ t.toNat < 2 ^ 39 := by
            rcases d4 with d4 | d4
            · omega
            · exact d4
          have h4 : d / 2 * (2 ^ t.toNat * 2) = d * 2 ^ t.toNat := by
            rw [Int.mul_comm (2 ^ t.toNat) 2, ← Int.mul_assoc]
            congr 1
            omega
          rw [e, Int.pow_succ, h4]
          exact h3
      · have z' : (d % 2 == 0) = false := by simp [z]
        exact ⟨[.fz (.int m), .fz (.int a), .fz (.int d), .fz (.int s), .fz (.int t), .no, .no], by simp only [evSs, evS, evE, evT, evA, put, stT, R.get, R.frz, mk, le_is, lt_is, len_is, add_is, sub_is, int_is, i1, b1, truth, doCall, ioAt, getAll, getA, noIo, anyBo, purO, D.pur, putIo, Bool.not_true, Bool.not_false, Bool.and_self, Bool.false_and, List.take, List.drop, List.length_map, List.getElem?_cons_zero, List.getElem?_cons_succ, List.set_cons_zero, List.set_cons_succ, List.length_cons, List.length_nil, if_true, Bool.false_eq_true, if_false, Nat.reduceAdd, Nat.reduceLT, m1, eq_is, z'], d, s, .fz (.int t), rfl, d1, d2, d3, .inl (by omega)⟩) (by
      rintro ρ ⟨d, s, w, rfl, d1, d2, d3, d4⟩
      refine ⟨d, s, w, rfl, ⟨d2, ?_, d1⟩, d3⟩
      rcases d4 with d4 | d4
      · exact d4
      · exfalso
        have e : ((0 : Int) + ((40 : Nat) : Int)).toNat = 40 := rfl
        rw [e] at d4
        omega)
  have s70 : s < 70 := by
    by_cases z : s < 70
    · exact z
    · exfalso
      have a1 : (2 : Int) ^ 70 ≤ 2 ^ s := two_pow_mono (by omega)
      have a2 : 2 ^ s * 1 ≤ 2 ^ s * d := Int.mul_le_mul_of_nonneg_left hd.2.2 (Int.le_of_lt (two_pow_pos s))
      have := hd.1
      omega
  have eP : evF L P (n + 1) i none [.int a, .int d, .int m] = some (false, .int (a ^ d.toNat % m), none) := rest_ok h a d m (by have := hd.2.2; omega) (by omega) (by omega) (by omega)
  generalize hx : a ^ d.toNat % m = x at eP
  have sA : evSs L (evF L P (n + 1)) (irP_law_passes i).body [.fz (.int m), .fz (.int a), .no, .no, .no, .no, .no] = evSs L (evF L P (n + 1)) (match (irP_law_passes i).body with | .cons _ (.cons _ (.cons _ r)) => r | r => r) [.fz (.int m), .fz (.int a), .fz (.int d), .fz (.int s), w0, .fz (.int x), .no] := by
    show evSs L (evF L P (n + 1)) (.cons _ (.cons _ (.cons _ _))) _ = _
    rw [seq_nx (ρ' := [.fz (.int m), .fz (.int a), .fz (.int (m - 1)), .fz (.int 0), .no, .no, .no]) (by simp only [evSs, evS, evE, evT, evA, put, stT, R.get, R.frz, mk, le_is, lt_is, len_is, add_is, sub_is, int_is, i1, b1, truth, doCall, ioAt, getAll, getA, noIo, anyBo, purO, D.pur, putIo, Bool.not_true, Bool.not_false, Bool.and_self, Bool.false_and, List.take, List.drop, List.length_map, List.getElem?_cons_zero, List.getElem?_cons_succ, List.set_cons_zero, List.set_cons_succ, List.length_cons, List.length_nil, if_true, Bool.false_eq_true, if_false, Nat.reduceAdd, Nat.reduceLT, putAll]), seq_nx e1,
      seq_nx (ρ' := [.fz (.int m), .fz (.int a), .fz (.int d), .fz (.int s), w0, .fz (.int x), .no]) (by simp only [evSs, evS, evE, evT, evA, put, stT, R.get, R.frz, mk, le_is, lt_is, len_is, add_is, sub_is, int_is, i1, b1, truth, doCall, ioAt, getAll, getA, noIo, anyBo, purO, D.pur, putIo, Bool.not_true, Bool.not_false, Bool.and_self, Bool.false_and, List.take, List.drop, List.length_map, List.getElem?_cons_zero, List.getElem?_cons_succ, List.set_cons_zero, List.set_cons_succ, List.length_cons, List.length_nil, if_true, Bool.false_eq_true, if_false, Nat.reduceAdd, Nat.reduceLT, eP])]
    rfl
  by_cases c1 : x = 1
  · refine ⟨true, d, s, hd, ⟨fun _ => .inl (hx.trans c1), fun _ => rfl⟩, fn_rt (ρ := [.fz (.int m), .fz (.int a), .fz (.int d), .fz (.int s), w0, .fz (.int x), .no]) rfl rfl ?_⟩
    rw [st, sA]
    show evSs L (evF L P (n + 1)) (.cons _ _) _ = _
    refine seq_rt ?_
    have c2' : (x == 1) = true := by simp [c1]
    simp only [evSs, evS, evE, evT, evA, put, stT, R.get, R.frz, mk, le_is, lt_is, len_is, add_is, sub_is, int_is, i1, b1, truth, doCall, ioAt, getAll, getA, noIo, anyBo, purO, D.pur, putIo, Bool.not_true, Bool.not_false, Bool.and_self, Bool.false_and, List.take, List.drop, List.length_map, List.getElem?_cons_zero, List.getElem?_cons_succ, List.set_cons_zero, List.set_cons_succ, List.length_cons, List.length_nil, if_true, Bool.false_eq_true, if_false, Nat.reduceAdd, Nat.reduceLT, eq_is, c2']
  · have c2' : (x == 1) = false := by simp [c1]
    have hr : rgOk (s : Int) = true := by
      unfold rgOk
      simp only [Bool.and_eq_true, decide_eq_true_eq]
      omega
    obtain ⟨o, e2, ho⟩ := for_inv (L := L) (c := evF L P (n + 1)) (j := 6) (src := .rng1 (.var 3)) (b := .cons (.ite (.val (.o2 .eq (.peek 5) (.o2 .sub (.peek 0) (.cst (.int 1))))) (.cons (.ret (.cst (.bl true))) .nil) .nil) (.cons (.set (.nm 5) (.o2 .mod (.o2 .mul (.peek 5) (.peek 5)) (.peek 0))) .nil))
      (ρ := [.fz (.int m), .fz (.int a), .fz (.int d), .fz (.int s), w0, .fz (.int x), .no]) (lo := 0) (n := s) (ρ1 := [.fz (.int m), .fz (.int a), .fz (.int d), .fz (.int s), w0, .fz (.int x), .no]) (by simp only [evI, evSs, evS, evE, evT, evA, put, stT, R.get, R.frz, mk, le_is, lt_is, len_is, add_is, sub_is, int_is, i1, b1, truth, doCall, ioAt, getAll, getA, noIo, anyBo, purO, D.pur, putIo, Bool.not_true, Bool.not_false, Bool.and_self, Bool.false_and, List.take, List.drop, List.length_map, List.getElem?_cons_zero, List.getElem?_cons_succ, List.set_cons_zero, List.set_cons_succ, List.length_cons, List.length_nil, if_true, Bool.false_eq_true, if_false, Nat.reduceAdd, Nat.reduceLT, hr, Int.toNat_natCast])
      (fun t ρ => ∃ (y : Int) (w : Sl), ρ = [.fz (.int m), .fz (.int a), .fz (.int d), .fz (.int s), w0, .fz (.int y), w] ∧ y = a ^ (d.toNat * 2 ^ t.toNat) % m ∧ ∀ r : Nat, (r : Int) < t → a ^ (d.toNat * 2 ^ r) % m ≠ m - 1)
      (fun o => (∃ ρ, o = .rt (.fz (.bl true)) ρ ∧ PassB m a d s) ∨ ∃ (y : Int) (w : Sl), o = .nx [.fz (.int m), .fz (.int a), .fz (.int d), .fz (.int s), w0, .fz (.int y), w] ∧ ∀ r : Nat, r < s → a ^ (d.toNat * 2 ^ r) % m ≠ m - 1)
      ⟨x, .no, rfl, by rw [show (0 : Int).toNat = 0 from rfl, Nat.pow_zero, Nat.mul_one]; exact hx.symm, fun r hr2 => by omega⟩ (by
      rintro t ρ t0 t1 ⟨y, w, rfl, hy, hn⟩
      have y0 : 0 ≤ y := by rw [hy]; exact Int.emod_nonneg _ (by omega)
      have y1 : y < m := by rw [hy]; exact Int.emod_lt_of_pos _ (by omega)
      have q1 := mul_is (i := y) (j := y) (small_abs y0 (by omega)) (small_abs y0 (by omega))
      have q2 : ap2 .mod (.int (y * y)) (.int m) = i1 (y * y % m) := by rw [mod_is (by omega), fmod_is (by omega)]
      refine ⟨by simp, ?_⟩
      by_cases z : y = m - 1
      · have z' : (y == m - 1) = true := by simp [z]
        exact .inr ⟨.fz (.bl true), [.fz (.int m), .fz (.int a), .fz (.int d), .fz (.int s), w0, .fz (.int y), .fz (.int t)], by simp only [evSs, evS, evE, evT, evA, put, stT, R.get, R.frz, mk, le_is, lt_is, len_is, add_is, sub_is, int_is, i1, b1, truth, doCall, ioAt, getAll, getA, noIo, anyBo, purO, D.pur, putIo, Bool.not_true, Bool.not_false, Bool.and_self, Bool.false_and, List.take, List.drop, List.length_map, List.getElem?_cons_zero, List.getElem?_cons_succ, List.set_cons_zero, List.set_cons_succ, List.length_cons, List.length_nil, if_true, Bool.false_eq_true, if_false, Nat.reduceAdd, Nat.reduceLT, eq_is, z'], .inl ⟨_, rfl, .inr ⟨t.toNat, by omega, by rw [← hy]; exact z⟩⟩⟩
      · have z' : (y == m - 1) = false := by simp [z]
        refine .inl ⟨[.fz (.int m), .fz (.int a), .fz (.int d), .fz (.int s), w0, .fz (.int (y * y % m)), .fz (.int t)], by simp only [evSs, evS, evE, evT, evA, put, stT, R.get, R.frz, mk, le_is, lt_is, len_is, add_is, sub_is, int_is, i1, b1, truth, doCall, ioAt, getAll, getA, noIo, anyBo, purO, D.pur, putIo, Bool.not_true, Bool.not_false, Bool.and_self, Bool.false_and, List.take, List.drop, List.length_map, List.getElem?_cons_zero, List.getElem?_cons_succ, List.set_cons_zero, List.set_cons_succ, List.length_cons, List.length_nil, if_true, Bool.false_eq_true, if_false, Nat.reduceAdd, Nat.reduceLT, q1, q2, eq_is, z'], y * y % m, .fz (.int t), rfl, ?_, fun r hr2 => ?_⟩
        · have e : (t + 1).toNat = t.toNat + 1 := by omega
          rw [hy, ← Int.mul_emod, ← Int.pow_add, e, Nat.pow_succ, ← Nat.mul_assoc, Nat.mul_two]
        · by_cases u : (r : Int) < t
          · exact hn r u
          · have : r = t.toNat := by omega
            rw [this, ← hy]
            exact z) (by
      rintro ρ ⟨y, w, rfl, hy, hn⟩
      exact .inr ⟨y, w, rfl, fun r hr2 => hn r (by omega)⟩)
    have sB : evS L (evF L P (n + 1)) (.ite (.val (.o2 .eq (.peek 5) (.cst (.int 1)))) (.cons (.ret (.cst (.bl true))) .nil) .nil) [.fz (.int m), .fz (.int a), .fz (.int d), .fz (.int s), w0, .fz (.int x), .no] = some (.nx [.fz (.int m), .fz (.int a), .fz (.int d), .fz (.int s), w0, .fz (.int x), .no]) := by
      simp only [evSs, evS, evE, evT, evA, put, stT, R.get, R.frz, mk, le_is, lt_is, len_is, add_is, sub_is, int_is, i1, b1, truth, doCall, ioAt, getAll, getA, noIo, anyBo, purO, D.pur, putIo, Bool.not_true, Bool.not_false, Bool.and_self, Bool.false_and, List.take, List.drop, List.length_map, List.getElem?_cons_zero, List.getElem?_cons_succ, List.set_cons_zero, List.set_cons_succ, List.length_cons, List.length_nil, if_true, Bool.false_eq_true, if_false, Nat.reduceAdd, Nat.reduceLT, eq_is, c2']
    rcases ho with ⟨ρ, rfl, hp⟩ | ⟨y, w, rfl, hn⟩
    · refine ⟨true, d, s, hd, ⟨fun _ => hp, fun _ => rfl⟩, fn_rt (ρ := ρ) rfl rfl ?_⟩
      rw [st, sA]
      show evSs L (evF L P (n + 1)) (.cons _ (.cons _ _)) _ = _
      rw [seq_nx sB, seq_rt e2]
    · refine ⟨false, d, s, hd, ⟨fun e => (by cases e), fun e => ?_⟩, fn_rt (ρ := [.fz (.int m), .fz (.int a), .fz (.int d), .fz (.int s), w0, .fz (.int y), w]) rfl rfl ?_⟩
      · rcases e with e | ⟨r, hr2, e⟩
        · exact (c1 (hx.symm.trans e)).elim
        · exact (hn r hr2 e).elim
      · rw [st, sA]
        show evSs L (evF L P (n + 1)) (.cons _ (.cons _ _)) _ = _
        rw [seq_nx sB, seq_nx e2]
        simp only [evSs, evS, evE, evT, evA, put, stT, R.get, R.frz, mk, le_is, lt_is, len_is, add_is, sub_is, int_is, i1, b1, truth, doCall, ioAt, getAll, getA, noIo, anyBo, purO, D.pur, putIo, Bool.not_true, Bool.not_false, Bool.and_self, Bool.false_and, List.take, List.drop, List.length_map, List.getElem?_cons_zero, List.getElem?_cons_succ, List.set_cons_zero, List.set_cons_succ, List.length_cons, List.length_nil, if_true, Bool.false_eq_true, if_false, Nat.reduceAdd, Nat.reduceLT]
end
end NW
namespace NW
/-- the numbers lo, lo + 1, .. (n of them) that p takes -/
def flt (p : Int → Bool) : Int → Nat → List Int
  | _, 0 => []
  | lo, n + 1 => if p lo then lo :: flt p (lo + 1) n else flt p (lo + 1) n
theorem walk_flt {f : D → Rho → Option (List D × Rho)} {ρ : Rho} {p : Int → Bool} : ∀ (n : Nat) (lo : Int), (∀ k : Int, lo ≤ k → k < lo + n → f (.int k) ρ = some (if p k then [.int k] else [], ρ)) → walkN f 1 n lo ρ = some ((flt p lo n).map D.int, ρ)
  | 0, _, _ => rfl
  | n + 1, lo, h => by
    simp only [walkN, h lo (by omega) (by omega), walk_flt n (lo + 1) (fun k h1 h2 => h k (by omega) (by omega)), flt]
    cases p lo <;> rfl
theorem flt_mem {p : Int → Bool} : ∀ {n : Nat} {lo a : Int}, a ∈ flt p lo n ↔ lo ≤ a ∧ a < lo + n ∧ p a = true
  | 0, lo, a => by simp [flt]; omega
  | n + 1, lo, a => by
    unfold flt
    have ih := @flt_mem p n (lo + 1) a
    by_cases z : p lo = true
    · rw [if_pos z, List.mem_cons, ih]
      constructor
      · rintro (rfl | ⟨h1, h2, h3⟩)
        · exact ⟨by omega, by omega, z⟩
        · exact ⟨by omega, by omega, h3⟩
      · rintro ⟨h1, h2, h3⟩
        by_cases e : a = lo
        · exact .inl e
        · exact .inr ⟨by omega, by omega, h3⟩
    · rw [if_neg z, ih]
      constructor
      · rintro ⟨h1, h2, h3⟩
        exact ⟨by omega, by omega, h3⟩
      · rintro ⟨h1, h2, h3⟩
        refine ⟨?_, by omega, h3⟩
        by_cases e : a = lo
        · rw [e] at h3; exact (z h3).elim
        · omega
theorem flt_head {p : Int → Bool} : ∀ {n : Nat} {lo a : Int} {r : List Int}, flt p lo n = a :: r → lo ≤ a ∧ a < lo + n ∧ p a = true ∧ ∀ b, lo ≤ b → b < a → p b = false
  | 0, lo, a, r, h => by cases h
  | n + 1, lo, a, r, h => by
    unfold flt at h
    by_cases z : p lo = true
    · rw [if_pos z] at h
      cases h
      exact ⟨by omega, by omega, z, fun b h1 h2 => by omega⟩
    · rw [if_neg z] at h
      obtain ⟨h1, h2, h3, h4⟩ := flt_head h
      refine ⟨by omega, by omega, h3, fun b b1 b2 => ?_⟩
      by_cases e : b = lo
      · rw [e]; simpa using z
      · exact h4 b (by omega) b2
theorem flt_len {p : Int → Bool} : ∀ (n : Nat) (lo : Int), (flt p lo n).length ≤ n
  | 0, _ => Nat.le_refl _
  | n + 1, lo => by
    unfold flt
    have := flt_len (p := p) n (lo + 1)
    split
    · rw [List.length_cons]; omega
    · omega
def decN : Nat → Nat → Nat → Nat × Nat
  | 0, m, s => (m, s)
  | k + 1, m, s => if m % 2 = 0 then decN k (m / 2) (s + 1) else (m, s)
theorem decN_ok : ∀ (k m s : Nat) (N : Int), N = 2 ^ s * (m : Int) → 1 ≤ m → m < 2 ^ k → N = 2 ^ (decN k m s).2 * ((decN k m s).1 : Int) ∧ (decN k m s).1 % 2 = 1 ∧ 1 ≤ (decN k m s).1
  | 0, m, s, N, h, h1, h2 => by
    have : m < 1 := by simpa using h2
    omega
  | k + 1, m, s, N, h, h1, h2 => by
    unfold decN
    by_cases z : m % 2 = 0
    · rw [if_pos z]
      refine decN_ok k (m / 2) (s + 1) N ?_ (by omega) (by rw [Nat.pow_succ] at h2; omega)
      rw [h, Int.pow_succ, Int.mul_assoc]
      congr 1
      omega
    · rw [if_neg z]
      exact ⟨h, by omega, h1⟩
def hitN (n : Nat) : Nat → Nat → Bool
  | 0, _ => false
  | s + 1, x => x == n - 1 || hitN n s (x * x % n)
theorem hitN_ok {n : Nat} (hn : 2 ≤ n) (a d : Nat) : ∀ (s t x : Nat), x = a ^ (d * 2 ^ t) % n → (hitN n s x = true ↔ ∃ r : Nat, r < s ∧ a ^ (d * 2 ^ (t + r)) % n = n - 1)
  | 0, t, x, h => by simp [hitN]
  | s + 1, t, x, h => by
    unfold hitN
    have hx : x * x % n = a ^ (d * 2 ^ (t + 1)) % n := by
      rw [h, ← Nat.mul_mod, ← Nat.pow_add, Nat.pow_succ, ← Nat.mul_assoc, Nat.mul_two]
    have ih := hitN_ok hn a d s (t + 1) _ hx
    rw [Bool.or_eq_true, ih, beq_iff_eq]
    constructor
    · rintro (z | ⟨r, h1, h2⟩)
      · exact ⟨0, by omega, by rw [Nat.add_zero, ← h]; exact z⟩
      · exact ⟨r + 1, by omega, by rw [show t + (r + 1) = t + 1 + r by omega]; exact h2⟩
    · rintro ⟨r, h1, h2⟩
      cases r with
      | zero => exact .inl (by rw [h]; exact h2)
      | succ r => exact .inr ⟨r, by omega, by rw [show t + 1 + r = t + (r + 1) by omega]; exact h2⟩
def passN (n a : Nat) : Bool := a ^ (decN 39 (n - 1) 0).1 % n == 1 || hitN n (decN 39 (n - 1) 0).2 (a ^ (decN 39 (n - 1) 0).1 % n)
def passI (n a : Int) : Bool := passN n.toNat a.toNat
theorem passI_ok {n a d : Int} {s : Nat} (hn : 3 ≤ n) (hn2 : n < 2 ^ 39) (ha : 0 ≤ a) (h : Dec n d s) : passI n a = true ↔ PassB n a d s := by
  obtain ⟨N, rfl⟩ : ∃ N : Nat, n = N := ⟨n.toNat, by omega⟩
  obtain ⟨A, rfl⟩ : ∃ A : Nat, a = A := ⟨a.toNat, by omega⟩
  obtain ⟨k1, k2, k3⟩ := decN_ok 39 (N - 1) 0 ((N : Int) - 1) (by rw [Int.pow_zero, Int.one_mul]; omega) (by omega) (by
    have : ((2 ^ 39 : Nat) : Int) = 2 ^ 39 := by simp
    omega)
  have hd : Dec (N : Int) ((decN 39 (N - 1) 0).1 : Nat) (decN 39 (N - 1) 0).2 := ⟨k1, by omega, by omega⟩
  obtain ⟨e1, e2⟩ := h.uniq hd
  subst e1 e2
  unfold passI passN PassB
  simp only [Int.toNat_natCast]
  rw [Bool.or_eq_true, beq_iff_eq, hitN_ok (n := N) (by omega) A (decN 39 (N - 1) 0).1 (decN 39 (N - 1) 0).2 0 _ (by rw [Nat.pow_zero, Nat.mul_one])]
  have cast : ∀ k : Nat, (A : Int) ^ k % (N : Int) = ((A ^ k % N : Nat) : Int) := fun k => by
    rw [Int.natCast_emod, Int.natCast_pow]
  constructor
  · rintro (z | ⟨r, h1, h2⟩)
    · exact .inl (by rw [cast, z]; rfl)
    · refine .inr ⟨r, h1, ?_⟩
      rw [Nat.zero_add] at h2
      rw [cast, h2]
      omega
  · rintro (z | ⟨r, h1, h2⟩)
    · rw [cast] at z
      exact .inl (by omega)
    · rw [cast] at h2
      exact .inr ⟨r, h1, by rw [Nat.zero_add]; omega⟩
section
variable {L : Nat} {P : Prog}
theorem passes_is {i j n : Nat} (h : P[i]? = some irP_power_rest) (hj : P[j]? = some (irP_passes i)) (hL : 2 ^ 100 < L) (m a : Int) (h1 : 3 ≤ m) (h2 : m < 2 ^ 39) (hodd : m % 2 = 1) (ha : 0 ≤ a) :
    evF L P (n + 2) j none [.int m, .int a] = some (false, .bl (passI m a), none) := by
  obtain ⟨b, d, s, hd, hb, e⟩ := passes_ok (n := n) h hj hL m a h1 (by omega) hodd
  have : b = passI m a := by
    rw [Bool.eq_iff_iff, hb, passI_ok h1 h2 ha hd]
  rw [← this]
  exact e
theorem lawPasses_is {i j n : Nat} (h : P[i]? = some irP_law_rest) (hj : P[j]? = some (irP_law_passes i)) (m a : Int) (h1 : 3 ≤ m) (h2 : m < 2 ^ 39) (hodd : m % 2 = 1) (ha : 0 ≤ a) :
    evF L P (n + 2) j none [.int m, .int a] = some (false, .bl (passI m a), none) := by
  obtain ⟨b, d, s, hd, hb, e⟩ := lawPasses_ok (L := L) (n := n) h hj m a h1 h2 hodd
  have : b = passI m a := by
    rw [Bool.eq_iff_iff, hb, passI_ok h1 h2 ha hd]
  rw [← this]
  exact e
theorem witness_ok {i j k l q n : Nat} (hi : P[i]? = some irP_power_rest) (hj : P[j]? = some (irP_passes i)) (ht : P[k]? = some irP_parts_of) (hl : P[l]? = some (irP_least_part k)) {u : Nat} (hu : P[u]? = some (irP_is_prime l)) (hq : P[q]? = some (irP_first_witness j u)) (hL : 2 ^ 100 < L)
    (m a0 : Int) (h1 : 3 ≤ m) (h2 : m < 2 ^ 39) (hodd : m % 2 = 1) (hc : ¬ Pri m → 2 ≤ a0 ∧ a0 < m ∧ passI m a0 = false ∧ ∀ b, 2 ≤ b → b < a0 → passI m b = true) :
    ∃ d : D, evF L P (n + 4) q none [.int m] = some (false, d, none) ∧ (Pri m → d = .non) ∧ (¬ Pri m → d = .int a0) := by
  obtain ⟨b, hb, e1⟩ := isPrime_ok (n := n) ht hl hu hL m (by omega)
  rw [call_is hq]
  have st : startR (irP_first_witness j u) [.int m] = [.fz (.int m), .no] := rfl
  by_cases hp : Pri m
  · have hbt := hb.mpr hp
    subst hbt
    refine ⟨.non, fn_rt (ρ := [.fz (.int m), .no]) rfl rfl ?_, fun _ => rfl, fun z => (z hp).elim⟩
    rw [st]
    refine seq_rt ?_
    simp only [evSs, evS, evE, evT, evA, put, stT, R.get, R.frz, mk, le_is, lt_is, len_is, add_is, sub_is, int_is, i1, b1, truth, doCall, ioAt, getAll, getA, noIo, anyBo, purO, D.pur, putIo, Bool.not_true, Bool.not_false, Bool.and_self, Bool.false_and, List.take, List.drop, List.length_map, List.getElem?_cons_zero, List.getElem?_cons_succ, List.set_cons_zero, List.set_cons_succ, List.length_cons, List.length_nil, if_true, Bool.false_eq_true, if_false, Nat.reduceAdd, Nat.reduceLT, e1]
  · have hbf : b = false := by
      cases b with
      | false => rfl
      | true => exact (hp (hb.mp rfl)).elim
    subst hbf
    obtain ⟨c1, c2, c3, c4⟩ := hc hp
    obtain ⟨o, e2, w, rfl⟩ := whl_inv (L := L) (c := evF L P (n + 3)) (t := .val (.call j none (.cons (.var 0) (.cons (.var 1) .nil)))) (b := .cons (.aug 1 .add (.cst (.int 1))) .nil) (ρ := [.fz (.int m), .fz (.int 2)])
      (fun ρ => ∃ a : Int, ρ = [.fz (.int m), .fz (.int a)] ∧ 2 ≤ a ∧ a ≤ a0) (fun ρ => match ρ with | [_, .fz (.int a)] => (a0 - a).toNat | _ => 0) (fun o => ∃ _ : Unit, o = .nx [.fz (.int m), .fz (.int a0)]) ⟨2, rfl, by omega, by omega⟩ (show (a0 - 2).toNat < L by omega) (by
      rintro ρ ⟨a, rfl, a1, a2⟩
      have eP := passes_is (n := n + 1) hi hj hL m a h1 h2 hodd (by omega)
      by_cases z : a = a0
      · subst z
        rw [c3] at eP
        exact .inl ⟨[.fz (.int m), .fz (.int a)], by simp only [evSs, evS, evE, evT, evA, put, stT, R.get, R.frz, mk, le_is, lt_is, len_is, add_is, sub_is, int_is, i1, b1, truth, doCall, ioAt, getAll, getA, noIo, anyBo, purO, D.pur, putIo, Bool.not_true, Bool.not_false, Bool.and_self, Bool.false_and, List.take, List.drop, List.length_map, List.getElem?_cons_zero, List.getElem?_cons_succ, List.set_cons_zero, List.set_cons_succ, List.length_cons, List.length_nil, if_true, Bool.false_eq_true, if_false, Nat.reduceAdd, Nat.reduceLT, eP], (), rfl⟩
      · rw [c4 a a1 (by omega)] at eP
        have f2 : apI .add (.int a) (.int 1) = i1 (a + 1) := rfl
        exact .inr ⟨[.fz (.int m), .fz (.int a)], by simp only [evSs, evS, evE, evT, evA, put, stT, R.get, R.frz, mk, le_is, lt_is, len_is, add_is, sub_is, int_is, i1, b1, truth, doCall, ioAt, getAll, getA, noIo, anyBo, purO, D.pur, putIo, Bool.not_true, Bool.not_false, Bool.and_self, Bool.false_and, List.take, List.drop, List.length_map, List.getElem?_cons_zero, List.getElem?_cons_succ, List.set_cons_zero, List.set_cons_succ, List.length_cons, List.length_nil, if_true, Bool.false_eq_true, if_false, Nat.reduceAdd, Nat.reduceLT, eP], .inl ⟨[.fz (.int m), .fz (.int (a + 1))], by simp only [evSs, evS, evE, evT, evA, put, stT, R.get, R.frz, mk, le_is, lt_is, len_is, add_is, sub_is, int_is, i1, b1, truth, doCall, ioAt, getAll, getA, noIo, anyBo, purO, D.pur, putIo, Bool.not_true, Bool.not_false, Bool.and_self, Bool.false_and, List.take, List.drop, List.length_map, List.getElem?_cons_zero, List.getElem?_cons_succ, List.set_cons_zero, List.set_cons_succ, List.length_cons, List.length_nil, if_true, Bool.false_eq_true, if_false, Nat.reduceAdd, Nat.reduceLT, f2], ⟨a + 1, rfl, by omega, by omega⟩, show (a0 - (a + 1)).toNat < (a0 - a).toNat by omega⟩⟩)
    refine ⟨.int a0, fn_rt (ρ := [.fz (.int m), .fz (.int a0)]) rfl rfl ?_, fun z => (hp z).elim, fun _ => rfl⟩
    rw [st]
    show evSs L (evF L P (n + 3)) (.cons _ (.cons _ (.cons _ _))) _ = _
    rw [seq_nx (ρ' := [.fz (.int m), .no]) (by simp only [evSs, evS, evE, evT, evA, put, stT, R.get, R.frz, mk, le_is, lt_is, len_is, add_is, sub_is, int_is, i1, b1, truth, doCall, ioAt, getAll, getA, noIo, anyBo, purO, D.pur, putIo, Bool.not_true, Bool.not_false, Bool.and_self, Bool.false_and, List.take, List.drop, List.length_map, List.getElem?_cons_zero, List.getElem?_cons_succ, List.set_cons_zero, List.set_cons_succ, List.length_cons, List.length_nil, if_true, Bool.false_eq_true, if_false, Nat.reduceAdd, Nat.reduceLT, e1]), seq_nx (ρ' := [.fz (.int m), .fz (.int 2)]) (by simp only [evSs, evS, evE, evT, evA, put, stT, R.get, R.frz, mk, le_is, lt_is, len_is, add_is, sub_is, int_is, i1, b1, truth, doCall, ioAt, getAll, getA, noIo, anyBo, purO, D.pur, putIo, Bool.not_true, Bool.not_false, Bool.and_self, Bool.false_and, List.take, List.drop, List.length_map, List.getElem?_cons_zero, List.getElem?_cons_succ, List.set_cons_zero, List.set_cons_succ, List.length_cons, List.length_nil, if_true, Bool.false_eq_true, if_false, Nat.reduceAdd, Nat.reduceLT]), seq_nx e2]
    simp only [evSs, evS, evE, evT, evA, put, stT, R.get, R.frz, mk, le_is, lt_is, len_is, add_is, sub_is, int_is, i1, b1, truth, doCall, ioAt, getAll, getA, noIo, anyBo, purO, D.pur, putIo, Bool.not_true, Bool.not_false, Bool.and_self, Bool.false_and, List.take, List.drop, List.length_map, List.getElem?_cons_zero, List.getElem?_cons_succ, List.set_cons_zero, List.set_cons_succ, List.length_cons, List.length_nil, if_true, Bool.false_eq_true, if_false, Nat.reduceAdd, Nat.reduceLT]
end
end NW
namespace NW
/-- members_at(p, q, n): p 0, q 1, n 2, u 3, after 4, v 5, behind 6, k 7 -/
def irP_members_at : Fn := ⟨3, 8, none,
  (.cons (.set (.tup (.cons (.nm 3) (.cons (.nm 4) (.cons (.nm 5) (.cons (.nm 6) .nil))))) (.tup (.cons (.cst (.int 0)) (.cons (.cst (.int 1)) (.cons (.cst (.int 2)) (.cons (.var 0) .nil))))))
  (.cons (.for_ (.nm 7) (.rng1 (.var 2)) (.cons (.par [3, 4] (.cons (.var 4) (.cons (.o2 .sub (.o2 .mul (.peek 0) (.peek 4)) (.o2 .mul (.peek 1) (.peek 3))) .nil)))
  (.cons (.par [5, 6] (.cons (.var 6) (.cons (.o2 .sub (.o2 .mul (.peek 0) (.peek 6)) (.o2 .mul (.peek 1) (.peek 5))) .nil)))
  .nil)))
  (.cons (.ret (.tup (.cons (.var 3) (.cons (.var 5) .nil))))
  .nil)))⟩
/-- times(one, two, m): one 0, two 1, m 2, a 3, b 4, c 5, d 6, e 7, f 8, g 9, h 10 -/
def irP_times : Fn := ⟨3, 11, none,
  (.cons (.set (.tup (.cons (.nm 3) (.cons (.nm 4) (.cons (.nm 5) (.cons (.nm 6) .nil))))) (.var 0))
  (.cons (.set (.tup (.cons (.nm 7) (.cons (.nm 8) (.cons (.nm 9) (.cons (.nm 10) .nil))))) (.var 1))
  (.cons (.ret (.tup (.cons (.o2 .mod (.o2 .add (.o2 .mul (.peek 3) (.peek 7)) (.o2 .mul (.peek 4) (.peek 9))) (.peek 2)) (.cons (.o2 .mod (.o2 .add (.o2 .mul (.peek 3) (.peek 8)) (.o2 .mul (.peek 4) (.peek 10))) (.peek 2)) (.cons (.o2 .mod (.o2 .add (.o2 .mul (.peek 5) (.peek 7)) (.o2 .mul (.peek 6) (.peek 9))) (.peek 2)) (.cons (.o2 .mod (.o2 .add (.o2 .mul (.peek 5) (.peek 8)) (.o2 .mul (.peek 6) (.peek 10))) (.peek 2)) .nil))))))
  .nil)))⟩
/-- rests_at(p, q, n, m): p 0, q 1, n 2, m 3, found 4, table 5, a 6, b 7, c 8, d 9 -/
def irP_rests_at (i_times : Nat) : Fn := ⟨4, 10, none,
  (.cons (.set (.nm 4) (.tup (.cons (.cst (.int 1)) (.cons (.cst (.int 0)) (.cons (.cst (.int 0)) (.cons (.cst (.int 1)) .nil))))))
  (.cons (.set (.nm 5) (.tup (.cons (.o2 .mod (.peek 0) (.peek 3)) (.cons (.o2 .mod (.o1 .neg (.var 1)) (.peek 3)) (.cons (.cst (.int 1)) (.cons (.cst (.int 0)) .nil))))))
  (.cons (.whl (.val (.o2 .gt (.peek 2) (.cst (.int 0)))) (.cons (.ite (.val (.o2 .eq (.o2 .mod (.peek 2) (.cst (.int 2))) (.cst (.int 1)))) (.cons (.set (.nm 4) (.call i_times none (.cons (.var 4) (.cons (.var 5) (.cons (.var 3) .nil)))))
  .nil) .nil)
  (.cons (.set (.nm 5) (.call i_times none (.cons (.var 5) (.cons (.var 5) (.cons (.var 3) .nil)))))
  (.cons (.aug 2 .fdiv (.cst (.int 2)))
  .nil))))
  (.cons (.set (.tup (.cons (.nm 6) (.cons (.nm 7) (.cons (.nm 8) (.cons (.nm 9) .nil))))) (.var 4))
  (.cons (.ret (.tup (.cons (.o2 .mod (.peek 8) (.peek 3)) (.cons (.o2 .mod (.o2 .add (.o2 .mul (.peek 8) (.peek 0)) (.o2 .mul (.cst (.int 2)) (.peek 9))) (.peek 3)) .nil))))
  .nil)))))⟩
def M4 : Type := Int × Int × Int × Int
def tD (x : M4) : D := .tup [.int x.1, .int x.2.1, .int x.2.2.1, .int x.2.2.2]
def mM (x y : M4) (m : Int) : M4 := ((x.1 * y.1 + x.2.1 * y.2.2.1) % m, (x.1 * y.2.1 + x.2.1 * y.2.2.2) % m, (x.2.2.1 * y.1 + x.2.2.2 * y.2.2.1) % m, (x.2.2.1 * y.2.1 + x.2.2.2 * y.2.2.2) % m)
def smallM (x : M4) : Prop := x.1.natAbs < 2 ^ 400000 ∧ x.2.1.natAbs < 2 ^ 400000 ∧ x.2.2.1.natAbs < 2 ^ 400000 ∧ x.2.2.2.natAbs < 2 ^ 400000
section
variable {L : Nat} {P : Prog}
theorem times_ok {i n : Nat} (h : P[i]? = some irP_times) (x y : M4) (m : Int) (hm : 0 < m) (hx : smallM x) (hy : smallM y) : evF L P (n + 1) i none [tD x, tD y, .int m] = some (false, tD (mM x y m), none) := by
  obtain ⟨a, b, c, d⟩ := x
  obtain ⟨e, f, g, k⟩ := y
  obtain ⟨a1, a2, a3, a4⟩ := hx
  obtain ⟨b1', b2, b3, b4⟩ := hy
  rw [call_is h]
  refine fn_rt (ρ := [.fz (tD (a, b, c, d)), .fz (tD (e, f, g, k)), .fz (.int m), .fz (.int a), .fz (.int b), .fz (.int c), .fz (.int d), .fz (.int e), .fz (.int f), .fz (.int g), .fz (.int k)]) rfl rfl ?_
  have st : startR irP_times [tD (a, b, c, d), tD (e, f, g, k), .int m] = [.fz (tD (a, b, c, d)), .fz (tD (e, f, g, k)), .fz (.int m), .no, .no, .no, .no, .no, .no, .no, .no] := rfl
  rw [st]
  have md : ∀ z : Int, ap2 .mod (.int z) (.int m) = i1 (z % m) := fun z => by rw [mod_is (by omega), fmod_is hm]
  have l4 : (4 ≤ L24) = True := by simp [L24]
  simp only [irP_times, tD, mM, evSs, evS, evE, evT, evA, put, stT, R.get, R.frz, mk, le_is, lt_is, len_is, add_is, sub_is, int_is, i1, b1, truth, doCall, ioAt, getAll, getA, noIo, anyBo, purO, D.pur, putIo, Bool.not_true, Bool.not_false, Bool.and_self, Bool.false_and, List.take, List.drop, List.length_map, List.getElem?_cons_zero, List.getElem?_cons_succ, List.set_cons_zero, List.set_cons_succ, List.length_cons, List.length_nil, if_true, Bool.false_eq_true, if_false, Nat.reduceAdd, Nat.reduceLT, stTs, evEs, md, l4, mul_is a1 b1', mul_is a2 b3, mul_is a1 b2, mul_is a2 b4, mul_is a3 b1', mul_is a4 b3, mul_is a3 b2, mul_is a4 b4]
end
end NW
namespace NW

def eD : D → D := fun d => d
inductive St where | any | fz | ow | ei
  deriving DecidableEq
def Slot : St → D → Sl → Prop
  | .any, _, _ => True
  | .fz, d, x => x = .fz d
  | .ow, d, x => x = .ow d
  | .ei, d, x => x = .fz d ∨ x = .ow d
def St.le : St → St → Bool
  | _, .any => true
  | .fz, .ei => true
  | .ow, .ei => true
  | a, b => decide (a = b)
theorem St.up {a b : St} (h : a.le b = true) {d : D} {x : Sl} (e : Slot a d x) : Slot b d x := by
  cases a <;> cases b <;> first | trivial | exact e | exact .inl e | exact .inr e | cases h
/-- the slots of a typed state -/
def Env {σ : Type} : List (σ → D) → List St → σ → Rho → Prop
  | [], [], _, [] => True
  | g :: G, t :: Φ, s, x :: ρ => Slot t (g s) x ∧ Env G Φ s ρ
  | _, _, _, _ => False
def subS : List St → List St → Bool
  | [], [] => true
  | a :: as, b :: bs => a.le b && subS as bs
  | _, _ => false
/-- f changes no slot but the one at i -/
def Keep {σ : Type} (f : σ → σ) : List (σ → D) → Option Nat → Prop
  | [], _ => True
  | g :: G, none => (∀ s, g (f s) = g s) ∧ Keep f G none
  | _ :: G, some 0 => Keep f G none
  | g :: G, some (i + 1) => (∀ s, g (f s) = g s) ∧ Keep f G (some i)
section
variable {σ : Type} {G : List (σ → D)} {Φ Ψ : List St} {s : σ} {ρ : Rho}
theorem Env.get : ∀ {G : List (σ → D)} {Φ : List St} {ρ : Rho} {i : Nat} {g : σ → D} {t : St}, Env G Φ s ρ → G[i]? = some g → Φ[i]? = some t → ∃ x, ρ[i]? = some x ∧ Slot t (g s) x
  | [], [], [], _, _, _, _, e, _ => by simp at e
  | g :: G, t :: Φ, x :: ρ, 0, _, _, h, e1, e2 => by
    simp at e1 e2; subst e1; subst e2
    exact ⟨x, rfl, h.1⟩
  | g :: G, t :: Φ, x :: ρ, i + 1, _, _, h, e1, e2 => by
    obtain ⟨y, h1, h2⟩ := Env.get (i := i) h.2 (by simpa using e1) (by simpa using e2)
    exact ⟨y, by simpa using h1, h2⟩
  | [], _ :: _, _, _, _, _, h, _, _ => h.elim
  | _ :: _, [], _, _, _, _, h, _, _ => h.elim
  | [], [], _ :: _, _, _, _, h, _, _ => h.elim
  | _ :: _, _ :: _, [], _, _, _, h, _, _ => h.elim
theorem Env.set : ∀ {G : List (σ → D)} {Φ : List St} {ρ : Rho} {i : Nat} {g : σ → D} {t : St} {x : Sl}, Env G Φ s ρ → G[i]? = some g → Slot t (g s) x → Env G (Φ.set i t) s (ρ.set i x)
  | [], [], [], _, _, _, _, _, e, _ => by simp at e
  | g :: G, t :: Φ, x :: ρ, 0, _, _, _, h, e1, e2 => by
    simp at e1; subst e1
    exact ⟨e2, h.2⟩
  | g :: G, t :: Φ, x :: ρ, i + 1, _, _, _, h, e1, e2 => ⟨h.1, Env.set (i := i) h.2 (by simpa using e1) e2⟩
  | [], _ :: _, _, _, _, _, _, h, _, _ => h.elim
  | _ :: _, [], _, _, _, _, _, h, _, _ => h.elim
  | [], [], _ :: _, _, _, _, _, h, _, _ => h.elim
  | _ :: _, _ :: _, [], _, _, _, _, h, _, _ => h.elim
theorem Env.wipe : ∀ {G : List (σ → D)} {Φ : List St} {ρ : Rho} {i : Nat} (x : Sl), Env G Φ s ρ → Env G (Φ.set i .any) s (ρ.set i x)
  | [], [], [], _, _, _ => trivial
  | g :: G, t :: Φ, x :: ρ, 0, _, h => ⟨trivial, h.2⟩
  | g :: G, t :: Φ, x :: ρ, i + 1, y, h => ⟨h.1, Env.wipe (i := i) y h.2⟩
  | [], _ :: _, _, _, _, h => h.elim
  | _ :: _, [], _, _, _, h => h.elim
  | [], [], _ :: _, _, _, h => h.elim
  | _ :: _, _ :: _, [], _, _, h => h.elim
theorem Keep.all {f : σ → σ} : ∀ {G : List (σ → D)} {Φ : List St} {ρ : Rho}, Keep f G none → Env G Φ s ρ → Env G Φ (f s) ρ
  | [], [], [], _, _ => trivial
  | g :: G, t :: Φ, x :: ρ, k, h => ⟨by rw [k.1]; exact h.1, Keep.all k.2 h.2⟩
  | [], _ :: _, _, _, h => h.elim
  | _ :: _, [], _, _, h => h.elim
  | [], [], _ :: _, _, h => h.elim
  | _ :: _, _ :: _, [], _, h => h.elim
/-- a slot is stored to -/
theorem Keep.put {f : σ → σ} : ∀ {G : List (σ → D)} {Φ : List St} {ρ : Rho} {i : Nat} {g : σ → D} {t : St} {x : Sl}, Keep f G (some i) → Env G Φ s ρ → G[i]? = some g → Slot t (g (f s)) x → Env G (Φ.set i t) (f s) (ρ.set i x)
  | [], [], [], _, _, _, _, _, _, e, _ => by simp at e
  | g :: G, t :: Φ, x :: ρ, 0, _, _, _, k, h, e1, e2 => by
    simp at e1; subst e1
    exact ⟨e2, Keep.all k h.2⟩
  | g :: G, t :: Φ, x :: ρ, i + 1, _, _, _, k, h, e1, e2 => ⟨by rw [k.1]; exact h.1, Keep.put (i := i) k.2 h.2 (by simpa using e1) e2⟩
  | [], _ :: _, _, _, _, _, _, _, h, _, _ => h.elim
  | _ :: _, [], _, _, _, _, _, _, h, _, _ => h.elim
  | [], [], _ :: _, _, _, _, _, _, h, _, _ => h.elim
  | _ :: _, _ :: _, [], _, _, _, _, _, h, _, _ => h.elim
theorem Env.len : ∀ {G : List (σ → D)} {Φ : List St} {ρ : Rho}, Env G Φ s ρ → ρ.length = G.length
  | [], [], [], _ => rfl
  | g :: G, t :: Φ, x :: ρ, h => congrArg (· + 1) (Env.len h.2)
  | [], _ :: _, _, h => h.elim
  | _ :: _, [], _, h => h.elim
  | [], [], _ :: _, h => h.elim
  | _ :: _, _ :: _, [], h => h.elim
theorem Env.sub : ∀ {G : List (σ → D)} {Φ Ψ : List St} {ρ : Rho}, subS Φ Ψ = true → Env G Φ s ρ → Env G Ψ s ρ
  | [], [], [], [], _, _ => trivial
  | g :: G, t :: Φ, u :: Ψ, x :: ρ, k, h => by
    simp only [subS, Bool.and_eq_true] at k
    exact ⟨St.up k.1 h.1, Env.sub k.2 h.2⟩
  | [], [], _ :: _, _, k, _ => by simp [subS] at k
  | _, _ :: _, [], _, k, _ => by simp [subS] at k
  | [], _ :: _, _ :: _, _, _, h => h.elim
  | _ :: _, [], [], _, _, h => h.elim
  | _ :: _, [], _ :: _, _, k, _ => by simp [subS] at k
  | [], [], [], _ :: _, _, h => h.elim
  | _ :: _, _ :: _, _ :: _, [], _, h => h.elim
end
/-- how an expression's value comes: shared, one's own, either; lent from a slot; shared or lent -/
inductive Kd where | fz | ow | nw | bo (i : Nat) | pk (i : Nat)
def RK (K : Kd) (d : D) (r : R) (ρ : Rho) : Prop := match K with
  | .fz => r = .fz d
  | .ow => r = .ow d
  | .nw => r = .fz d ∨ r = .ow d
  | .bo i => r = .bo i ∧ ρ[i]? = some (.ow d)
  | .pk i => r = .fz d ∨ (r = .bo i ∧ ρ[i]? = some (.ow d))
def Kd.free : Kd → Bool
  | .bo _ => false
  | .pk _ => false
  | _ => true
def Kd.st : Kd → St
  | .fz => .fz
  | .ow => .ow
  | _ => .ei
theorem RK.get {K : Kd} {d : D} {r : R} {ρ : Rho} (h : RK K d r ρ) : r.get ρ = some d := by
  have hb : ∀ i, r = .bo i ∧ ρ[i]? = some (.ow d) → r.get ρ = some d := fun i ⟨h1, e⟩ => by
    subst h1
    show (match ρ[i]? with | some (.ow d) => some d | _ => none) = _
    rw [e]
  cases K with
  | fz => cases h; rfl
  | ow => cases h; rfl
  | nw => rcases h with rfl | rfl <;> rfl
  | bo i => exact hb i h
  | pk i => rcases h with rfl | h; rfl; exact hb i h
theorem RK.getA {K : Kd} {d : D} {r : R} {ρ : Rho} (h : RK K d r ρ) : NW.getA ρ r = some d := by
  have hb : ∀ i, r = .bo i ∧ ρ[i]? = some (.ow d) → NW.getA ρ r = some d := fun i ⟨h1, e⟩ => by
    subst h1
    show (match ρ[i]? with | some (.ow d) => some d | _ => none) = _
    rw [e]
  cases K with
  | fz => cases h; rfl
  | ow => cases h; rfl
  | nw => rcases h with rfl | rfl <;> rfl
  | bo i => exact hb i h
  | pk i => rcases h with rfl | h; rfl; exact hb i h
theorem RK.frz {K : Kd} {d : D} {r : R} {ρ : Rho} (h : RK K d r ρ) (f : K.free = true) : r.frz = some d := by
  cases K with
  | fz => cases h; rfl
  | ow => cases h; rfl
  | nw => rcases h with rfl | rfl <;> rfl
  | bo i => cases f
  | pk i => cases f
theorem RK.move {K : Kd} {d : D} {r : R} {ρ ρ' : Rho} (h : RK K d r ρ) (f : K.free = true ∨ ρ' = ρ) : RK K d r ρ' := by
  rcases f with f | rfl
  · cases K <;> first | exact h | cases f
  · exact h
theorem RK.put {K : Kd} {d : D} {r : R} {ρ : Rho} {i : Nat} (h : RK K d r ρ) (f : K.free = true) (hi : i < ρ.length) : ∃ x, NW.put i r ρ = some (ρ.set i x) ∧ Slot K.st d x := by
  unfold NW.put
  rw [if_pos hi]
  cases K with
  | fz => cases h; exact ⟨_, rfl, rfl⟩
  | ow => cases h; exact ⟨_, rfl, rfl⟩
  | nw => rcases h with rfl | rfl <;> first | exact ⟨_, rfl, .inl rfl⟩ | exact ⟨_, rfl, .inr rfl⟩
  | bo i => cases f
  | pk i => cases f
theorem pu_of {a b : Bool} (h : (a || b) = true) {p q : Prop} (ha : a = true → p) (hb : b = true → q) : p ∨ q := by
  cases a
  · exact .inr (hb (by simpa using h))
  · exact .inl (ha rfl)
def ownK (own : Bool) : Kd := if own then .ow else .fz
theorem mk_rk {d : D} {own : Bool} {ρ : Rho} : RK (ownK own) d (mk (own, d)) ρ := by
  cases own <;> rfl

/-- nothing is changed -/
def Pu {σ : Type} (p : Bool) (ρ ρ' : Rho) (s s' : σ) : Prop := p = true → ρ' = ρ ∧ s' = s
theorem Pu.refl {σ : Type} {p : Bool} {ρ : Rho} {s : σ} : Pu p ρ ρ s s := fun _ => ⟨rfl, rfl⟩
theorem Pu.no {σ : Type} {ρ ρ' : Rho} {s s' : σ} : Pu false ρ ρ' s s' := fun h => by cases h
theorem Pu.and {σ : Type} {p q : Bool} {ρ ρ1 ρ2 : Rho} {s s1 s2 : σ} (h1 : Pu p ρ ρ1 s s1) (h2 : Pu q ρ1 ρ2 s1 s2) : Pu (p && q) ρ ρ2 s s2 := fun k => by
  simp only [Bool.and_eq_true] at k
  obtain ⟨rfl, rfl⟩ := h2 k.2
  exact h1 k.1
theorem Pu.left {σ : Type} {p q : Bool} {ρ ρ1 : Rho} {s s1 : σ} (h1 : Pu p ρ ρ1 s s1) : Pu (p && q) ρ ρ1 s s1 := fun k => by
  simp only [Bool.and_eq_true] at k
  exact h1 k.1
theorem Pu.skip {σ : Type} {p q r : Bool} {ρ ρ1 ρ2 : Rho} {s s1 s2 : σ} (h1 : Pu p ρ ρ1 s s1) (h2 : Pu r ρ1 ρ2 s1 s2) : Pu (p && q && r) ρ ρ2 s s2 := fun k => by
  simp only [Bool.and_eq_true] at k
  obtain ⟨rfl, rfl⟩ := h2 k.2
  exact h1 k.1.1
section
variable {σ α β γ δ : Type}
/-- an expression: its value by the typed state -/
def XE (G : List (σ → D)) (c : Cl) (Φ : List St) (e : E) (Φ' : List St) (K : Kd) (pu : Bool) (enc : α → D) (den : σ → Option (α × σ)) : Prop :=
  ∀ s ρ v s', Env G Φ s ρ → den s = some (v, s') → ∃ r ρ', evE c e ρ = some (r, ρ') ∧ Env G Φ' s' ρ' ∧ RK K (enc v) r ρ' ∧ Pu pu ρ ρ' s s'
def XT (G : List (σ → D)) (c : Cl) (Φ : List St) (t : NW.T) (Φ' : List St) (pu : Bool) (den : σ → Option (Bool × σ)) : Prop :=
  ∀ s ρ v s', Env G Φ s ρ → den s = some (v, s') → ∃ ρ', evT c t ρ = some (v, ρ') ∧ Env G Φ' s' ρ' ∧ Pu pu ρ ρ' s s'
/-- members of a display -/
def XM (G : List (σ → D)) (c : Cl) (Φ : List St) (es : Es) (Φ' : List St) (pu : Bool) (enc : α → List D) (den : σ → Option (α × σ)) : Prop :=
  ∀ s ρ v s', Env G Φ s ρ → den s = some (v, s') → ∃ ρ', evEs c es ρ = some (enc v, ρ') ∧ Env G Φ' s' ρ' ∧ Pu pu ρ ρ' s s'
/-- arguments -/
def XA (G : List (σ → D)) (c : Cl) (Φ : List St) (es : Es) (Φ' : List St) (pu bo : Bool) (enc : α → List D) (den : σ → Option (α × σ)) : Prop :=
  ∀ s ρ v s', Env G Φ s ρ → den s = some (v, s') → ∃ rs ρ', evA c es ρ = some (rs, ρ') ∧ Env G Φ' s' ρ' ∧ getAll ρ' rs = some (enc v) ∧ noIo rs = true ∧ (bo = false → anyBo rs = false) ∧ Pu pu ρ ρ' s s'
/-- an end of a slice -/
def XO (G : List (σ → D)) (c : Cl) (Φ : List St) (o : Oe) (Φ' : List St) (pu : Bool) (den : σ → Option (Option Int × σ)) : Prop :=
  ∀ s ρ v s', Env G Φ s ρ → den s = some (v, s') → ∃ ρ', evO c o ρ = some (v, ρ') ∧ Env G Φ' s' ρ' ∧ Pu pu ρ ρ' s s'
def P1 (o : O1) (ea : α → D) (own : Bool) (eb : β → D) (f : α → Option β) : Prop := ∀ a b, f a = some b → ap1 o (ea a) = some (own, eb b)
def P2 (o : O2) (ea : α → D) (eb : β → D) (own : Bool) (ec : γ → D) (f : α → β → Option γ) : Prop := ∀ a b z, f a b = some z → ap2 o (ea a) (eb b) = some (own, ec z)
def dc (v : α) : σ → Option (α × σ) := fun s => some (v, s)
def dv (g : σ → α) : σ → Option (α × σ) := fun s => some (g s, s)
def d1 (f : α → Option β) (x : σ → Option (α × σ)) : σ → Option (β × σ) := fun s => (x s).bind fun q => (f q.1).bind fun v => some (v, q.2)
def d2 (f : α → β → Option γ) (x : σ → Option (α × σ)) (y : σ → Option (β × σ)) : σ → Option (γ × σ) := fun s => (x s).bind fun q => (y q.2).bind fun u => (f q.1 u.1).bind fun v => some (v, u.2)
def dm (f : α → β) (x : σ → Option (α × σ)) : σ → Option (β × σ) := fun s => (x s).bind fun q => some (f q.1, q.2)
def dnot (x : σ → Option (Bool × σ)) : σ → Option (Bool × σ) := fun s => (x s).bind fun q => some (!q.1, q.2)
def dand (x y : σ → Option (Bool × σ)) : σ → Option (Bool × σ) := fun s => (x s).bind fun q => match q.1 with
  | true => y q.2
  | false => some (false, q.2)
def dor (x y : σ → Option (Bool × σ)) : σ → Option (Bool × σ) := fun s => (x s).bind fun q => match q.1 with
  | true => some (true, q.2)
  | false => y q.2
def dif (t : σ → Option (Bool × σ)) (x y : σ → Option (α × σ)) : σ → Option (α × σ) := fun s => (t s).bind fun q => match q.1 with
  | true => x q.2
  | false => y q.2
def dch (f : α → β → Option Bool) (g : β → γ → Option Bool) (x : σ → Option (α × σ)) (y : σ → Option (β × σ)) (z : σ → Option (γ × σ)) : σ → Option (Bool × σ) := fun s => (x s).bind fun q => (y q.2).bind fun u => (f q.1 u.1).bind fun v => match v with
  | true => (z u.2).bind fun w => (g u.1 w.1).bind fun k => some (k, w.2)
  | false => some (false, u.2)
def dcons (x : σ → Option (α × σ)) (y : σ → Option (β × σ)) : σ → Option ((α × β) × σ) := fun s => (x s).bind fun q => (y q.2).bind fun u => some ((q.1, u.1), u.2)
def dlcons (x : σ → Option (α × σ)) (y : σ → Option (List α × σ)) : σ → Option (List α × σ) := fun s => (x s).bind fun q => (y q.2).bind fun u => some (q.1 :: u.1, u.2)
def dstar (x y : σ → Option (List α × σ)) : σ → Option (List α × σ) := fun s => (x s).bind fun q => (y q.2).bind fun u => some (q.1 ++ u.1, u.2)
def gl (xs : List α) : Option (List α) := if xs.length ≤ L24 then some xs else none
def dnone : σ → Option (Option α × σ) := fun s => some (none, s)
end
section
variable {σ α β γ δ : Type} {G : List (σ → D)} {c : Cl} {Φ Φ1 Φ2 Φ3 : List St} {ea : α → D} {eb : β → D} {ec : γ → D} {ed : δ → D} {K K1 K2 K3 : Kd} {p p1 p2 p3 : Bool} {e a b d : E} {x : σ → Option (α × σ)} {y : σ → Option (β × σ)} {z : σ → Option (γ × σ)}
theorem x_cst (v : α) {dd : D} (ea : α → D) (h : ea v = dd) : XE G c Φ (.cst dd) Φ .fz true ea (dc v) := fun s ρ w s' hE h' => by
  cases h'; subst h
  exact ⟨_, _, rfl, hE, rfl, .refl⟩
theorem x_glo (v : α) {dd : D} (ea : α → D) (h : ea v = dd) : XE G c Φ (.glo dd) Φ .fz true ea (dc v) := fun s ρ w s' hE h' => by
  cases h'; subst h
  exact ⟨_, _, rfl, hE, rfl, .refl⟩
theorem x_var {i : Nat} (ea : α → D) (g : σ → α) (hg : G[i]? = some fun s => ea (g s)) (h : Φ[i]? = some .fz) : XE G c Φ (.var i) Φ .fz true ea (dv g) := fun s ρ w s' hE h' => by
  cases h'
  obtain ⟨x, h1, h2⟩ := hE.get hg h
  cases h2
  exact ⟨_, _, by rw [evE, h1], hE, rfl, .refl⟩
theorem x_peek {i : Nat} (ea : α → D) (g : σ → α) (hg : G[i]? = some fun s => ea (g s)) (h : Φ[i]? = some .fz) : XE G c Φ (.peek i) Φ .fz true ea (dv g) := fun s ρ w s' hE h' => by
  cases h'
  obtain ⟨x, h1, h2⟩ := hE.get hg h
  cases h2
  exact ⟨_, _, by rw [evE, h1], hE, rfl, .refl⟩
theorem x_mv {i : Nat} (ea : α → D) (g : σ → α) (hg : G[i]? = some fun s => ea (g s)) (h : Φ[i]? = some .fz) : XE G c Φ (.mv i) Φ .fz true ea (dv g) := fun s ρ w s' hE h' => by
  cases h'
  obtain ⟨x, h1, h2⟩ := hE.get hg h
  cases h2
  exact ⟨_, _, by rw [evE, h1], hE, rfl, .refl⟩
/-- a name that owns, or may: it is shared from here on -/
theorem x_varO {i : Nat} (ea : α → D) (g : σ → α) (hg : G[i]? = some fun s => ea (g s)) (h : Φ[i]? = some .ow ∨ Φ[i]? = some .ei) : XE G c Φ (.var i) (Φ.set i .fz) .fz false ea (dv g) := fun s ρ w s' hE h' => by
  cases h'
  have ho : ρ[i]? = some (.ow (ea (g s))) → ∃ r ρ', evE c (.var i) ρ = some (r, ρ') ∧ Env G (Φ.set i .fz) s ρ' ∧ RK .fz (ea (g s)) r ρ' ∧ Pu false ρ ρ' s s := fun h1 => ⟨_, _, by rw [evE, h1], hE.set hg rfl, rfl, .no⟩
  rcases h with h | h
  · obtain ⟨x, h1, h2⟩ := hE.get hg h
    cases h2
    exact ho h1
  · obtain ⟨x, h1, h2⟩ := hE.get hg h
    rcases h2 with rfl | rfl
    · refine ⟨_, ρ, by rw [evE, h1], ?_, rfl, .refl⟩
      have := hE.set (i := i) (t := .fz) (x := .fz (ea (g s))) hg rfl
      rwa [show ρ.set i (.fz (ea (g s))) = ρ from by
        apply List.ext_getElem? ; intro j
        rw [List.getElem?_set]
        split
        · rename_i q; subst q
          have : i < ρ.length := by
            rw [List.getElem?_eq_some_iff] at h1
            exact h1.1
          rw [if_pos this, h1]
        · rfl] at this
    · exact ho h1
theorem x_peekO {i : Nat} (ea : α → D) (g : σ → α) (hg : G[i]? = some fun s => ea (g s)) (h : Φ[i]? = some .ow) : XE G c Φ (.peek i) Φ (.bo i) true ea (dv g) := fun s ρ w s' hE h' => by
  cases h'
  obtain ⟨x, h1, h2⟩ := hE.get hg h
  cases h2
  exact ⟨_, _, by rw [evE, h1], hE, ⟨rfl, h1⟩, .refl⟩
theorem x_peekE {i : Nat} (ea : α → D) (g : σ → α) (hg : G[i]? = some fun s => ea (g s)) (h : Φ[i]? = some .ei) : XE G c Φ (.peek i) Φ (.pk i) true ea (dv g) := fun s ρ w s' hE h' => by
  cases h'
  obtain ⟨x, h1, h2⟩ := hE.get hg h
  rcases h2 with rfl | rfl
  · exact ⟨_, _, by rw [evE, h1], hE, .inl rfl, .refl⟩
  · exact ⟨_, _, by rw [evE, h1], hE, .inr ⟨rfl, h1⟩, .refl⟩
theorem x_mvO {i : Nat} (ea : α → D) (g : σ → α) (hg : G[i]? = some fun s => ea (g s)) (h : Φ[i]? = some .ow) : XE G c Φ (.mv i) (Φ.set i .any) .ow false ea (dv g) := fun s ρ w s' hE h' => by
  cases h'
  obtain ⟨x, h1, h2⟩ := hE.get hg h
  cases h2
  exact ⟨_, _, by rw [evE, h1], hE.wipe _, rfl, .no⟩
theorem x_mvE {i : Nat} (ea : α → D) (g : σ → α) (hg : G[i]? = some fun s => ea (g s)) (h : Φ[i]? = some .ei) : XE G c Φ (.mv i) (Φ.set i .any) .nw false ea (dv g) := fun s ρ w s' hE h' => by
  cases h'
  obtain ⟨x, h1, h2⟩ := hE.get hg h
  rcases h2 with rfl | rfl
  · refine ⟨_, ρ, by rw [evE, h1], ?_, .inl rfl, .refl⟩
    have := hE.wipe (i := i) (.fz (ea (g s)))
    rwa [show ρ.set i (.fz (ea (g s))) = ρ from by
        apply List.ext_getElem? ; intro j
        rw [List.getElem?_set]
        split
        · rename_i q; subst q
          have : i < ρ.length := by
            rw [List.getElem?_eq_some_iff] at h1
            exact h1.1
          rw [if_pos this, h1]
        · rfl] at this
  · exact ⟨_, _, by rw [evE, h1], hE.wipe _, .inr rfl, .no⟩
theorem x_o1 {o : O1} {own : Bool} {f : α → Option β} (hf : P1 o ea own eb f) (hx : XE G c Φ a Φ1 K p ea x) : XE G c Φ (.o1 o a) Φ1 (ownK own) p eb (d1 f x) := fun s ρ w s' hE h => by
  obtain ⟨⟨v, s1⟩, h1, h2⟩ := Option.bind_eq_some_iff.mp h
  obtain ⟨z, h3, h4⟩ := Option.bind_eq_some_iff.mp h2
  cases h4
  obtain ⟨r, ρ1, e1, E1, r1, q1⟩ := hx _ _ _ _ hE h1
  exact ⟨_, ρ1, by rw [evE, e1]; simp only [r1.get, hf _ _ h3], E1, mk_rk, q1⟩
theorem x_o2 {o : O2} {own : Bool} {f : α → β → Option γ} (hf : P2 o ea eb own ec f) (hx : XE G c Φ a Φ1 K1 p1 ea x) (hy : XE G c Φ1 b Φ2 K2 p2 eb y) (st : (K1.free || p2) = true := by rfl) : XE G c Φ (.o2 o a b) Φ2 (ownK own) (p1 && p2) ec (d2 f x y) := fun s ρ w s' hE h => by
  obtain ⟨⟨v, s1⟩, h1, h2⟩ := Option.bind_eq_some_iff.mp h
  obtain ⟨⟨u, s2⟩, h3, h4⟩ := Option.bind_eq_some_iff.mp h2
  obtain ⟨z, h5, h6⟩ := Option.bind_eq_some_iff.mp h4
  cases h6
  obtain ⟨r, ρ1, e1, E1, r1, q1⟩ := hx _ _ _ _ hE h1
  obtain ⟨q, ρ2, e2, E2, r2, q2⟩ := hy _ _ _ _ E1 h3
  have g1 := (r1.move (ρ' := ρ2) (pu_of st id fun k => (q2 k).1)).get
  exact ⟨_, ρ2, by rw [evE, e1]; simp only [e2, g1, r2.get, hf _ _ _ h5], E2, mk_rk, q1.and q2⟩
/-- a place of a display by a number -/
theorem x_fld {em : α → List D} {k : Int} (π : α → β) (hk : ∀ v, 0 ≤ k ∧ (em v)[k.toNat]? = some (eb (π v))) {K : Kd} (hx : XE G c Φ a Φ1 K p (fun v => D.tup (em v)) x) : XE G c Φ (.o2 .idx a (.cst (.int k))) Φ1 .fz p eb (dm π x) := fun s ρ w s' hE h => by
  obtain ⟨⟨v, s1⟩, h1, h2⟩ := Option.bind_eq_some_iff.mp h
  cases h2
  obtain ⟨r, ρ1, e1, E1, r1, q1⟩ := hx _ _ _ _ hE h1
  obtain ⟨k0, hv⟩ := hk v
  have hl : k < ((em v).length : Int) := by
    rw [List.getElem?_eq_some_iff] at hv
    obtain ⟨z, _⟩ := hv
    omega
  have hi : ap2 .idx (.tup (em v)) (.int k) = some (false, eb (π v)) := by
    have : ixN (em v).length k = some k.toNat := by unfold ixN; rw [if_pos k0, if_pos hl]
    simp only [ap2, this, hv]
  have e2 : evE c (.cst (.int k)) ρ1 = some (.fz (.int k), ρ1) := rfl
  have g2 : R.get (.fz (.int k)) ρ1 = some (.int k) := rfl
  exact ⟨.fz (eb (π v)), ρ1, by rw [evE, e1]; simp only [e2, r1.get, g2, hi]; rfl, E1, rfl, q1⟩
/-- the same value by another type -/
theorem x_map {f : α → β} (h : ∀ v, eb (f v) = ea v) (hx : XE G c Φ a Φ1 K p ea x) : XE G c Φ a Φ1 K p eb (dm f x) := fun s ρ w s' hE h' => by
  obtain ⟨⟨v, s1⟩, h1, h2⟩ := Option.bind_eq_some_iff.mp h'
  cases h2
  obtain ⟨r, ρ1, e1, E1, r1, q1⟩ := hx _ _ _ _ hE h1
  exact ⟨r, ρ1, e1, E1, by rw [h]; exact r1, q1⟩
theorem x_cast {f : α → Option β} (h : ∀ v w, f v = some w → ea v = eb w) (hx : XE G c Φ a Φ1 K p ea x) : XE G c Φ a Φ1 K p eb (d1 f x) := fun s ρ w s' hE h' => by
  obtain ⟨⟨v, s1⟩, h1, h2⟩ := Option.bind_eq_some_iff.mp h'
  obtain ⟨z, h3, h4⟩ := Option.bind_eq_some_iff.mp h2
  cases h4
  obtain ⟨r, ρ1, e1, E1, r1, q1⟩ := hx _ _ _ _ hE h1
  exact ⟨r, ρ1, e1, E1, by rw [← h _ _ h3]; exact r1, q1⟩
theorem x_up (hx : XE G c Φ a Φ1 K p ea x) : XE G c Φ a Φ1 K p eD (dm ea x) := x_map (fun _ => rfl) hx
theorem x_weak {Φ2 : List St} (hx : XE G c Φ a Φ1 K p ea x) (h : subS Φ1 Φ2 = true := by rfl) : XE G c Φ a Φ2 K p ea x := fun s ρ w s' hE h' => by
  obtain ⟨r, ρ1, e1, E1, r1, q1⟩ := hx _ _ _ _ hE h'
  exact ⟨r, ρ1, e1, E1.sub h, r1, q1⟩
/-- kinds: shared, or one's own, is either -/
theorem x_nw (hx : XE G c Φ a Φ1 K p ea x) (h : K.free = true := by rfl) : XE G c Φ a Φ1 .nw p ea x := fun s ρ w s' hE h' => by
  obtain ⟨r, ρ1, e1, E1, r1, q1⟩ := hx _ _ _ _ hE h'
  refine ⟨r, ρ1, e1, E1, ?_, q1⟩
  cases K with
  | fz => exact .inl r1
  | ow => exact .inr r1
  | nw => exact r1
  | bo i => cases h
  | pk i => cases h
section
variable {x y : σ → Option (Bool × σ)}
theorem x_not (hx : XE G c Φ a Φ1 .fz p D.bl x) : XE G c Φ (.not_ a) Φ1 .fz p D.bl (dnot x) := fun s ρ w s' hE h' => by
  obtain ⟨⟨v, s1⟩, h1, h2⟩ := Option.bind_eq_some_iff.mp h'
  cases h2
  obtain ⟨r, ρ1, e1, E1, r1, q1⟩ := hx _ _ _ _ hE h1
  cases r1
  exact ⟨_, ρ1, by rw [evE, e1], E1, rfl, q1⟩
theorem x_and (hx : XE G c Φ a Φ1 .fz p1 D.bl x) (hy : XE G c Φ1 b Φ2 .fz p2 D.bl y) (hs : subS Φ1 Φ2 = true := by rfl) : XE G c Φ (.and_ a b) Φ2 .fz (p1 && p2) D.bl (dand x y) := fun s ρ w s' hE h' => by
  obtain ⟨⟨v, s1⟩, h1, h2⟩ := Option.bind_eq_some_iff.mp h'
  obtain ⟨r, ρ1, e1, E1, r1, q1⟩ := hx _ _ _ _ hE h1
  cases r1
  cases v with
  | true =>
    obtain ⟨q, ρ2, e2, E2, r2, q2⟩ := hy _ _ _ _ E1 h2
    exact ⟨q, ρ2, by rw [evE, e1]; exact e2, E2, r2, q1.and q2⟩
  | false =>
    cases h2
    exact ⟨_, ρ1, by rw [evE, e1], E1.sub hs, rfl, q1.left⟩
theorem x_or (hx : XE G c Φ a Φ1 .fz p1 D.bl x) (hy : XE G c Φ1 b Φ2 .fz p2 D.bl y) (hs : subS Φ1 Φ2 = true := by rfl) : XE G c Φ (.or_ a b) Φ2 .fz (p1 && p2) D.bl (dor x y) := fun s ρ w s' hE h' => by
  obtain ⟨⟨v, s1⟩, h1, h2⟩ := Option.bind_eq_some_iff.mp h'
  obtain ⟨r, ρ1, e1, E1, r1, q1⟩ := hx _ _ _ _ hE h1
  cases r1
  cases v with
  | false =>
    obtain ⟨q, ρ2, e2, E2, r2, q2⟩ := hy _ _ _ _ E1 h2
    exact ⟨q, ρ2, by rw [evE, e1]; exact e2, E2, r2, q1.and q2⟩
  | true =>
    cases h2
    exact ⟨_, ρ1, by rw [evE, e1], E1.sub hs, rfl, q1.left⟩
end
theorem x_ite {t : NW.T} {q : σ → Option (Bool × σ)} {y : σ → Option (α × σ)} (ht : XT G c Φ t Φ1 p1 q) (hx : XE G c Φ1 a Φ2 K p2 ea x) (hy : XE G c Φ1 b Φ2 K p3 ea y) : XE G c Φ (.ite t a b) Φ2 K (p1 && p2 && p3) ea (dif q x y) := fun s ρ w s' hE h' => by
  obtain ⟨⟨v, s1⟩, h1, h2⟩ := Option.bind_eq_some_iff.mp h'
  obtain ⟨ρ1, e1, E1, q1⟩ := ht _ _ _ _ hE h1
  cases v with
  | true =>
    obtain ⟨q, ρ2, e2, E2, r2, q2⟩ := hx _ _ _ _ E1 h2
    exact ⟨q, ρ2, by rw [evE, e1]; exact e2, E2, r2, (q1.and q2).left⟩
  | false =>
    obtain ⟨q, ρ2, e2, E2, r2, q2⟩ := hy _ _ _ _ E1 h2
    exact ⟨q, ρ2, by rw [evE, e1]; exact e2, E2, r2, q1.skip q2⟩
theorem x_chain {o o' : O2} {f : α → β → Option Bool} {g : β → γ → Option Bool} (hf : P2 o ea eb false D.bl f) (hg : P2 o' eb ec false D.bl g) (hx : XE G c Φ a Φ1 K1 p1 ea x) (hy : XE G c Φ1 b Φ2 K2 p2 eb y) (hz : XE G c Φ2 d Φ3 K3 p3 ec z) (s1 : (K1.free || p2) = true := by rfl) (s2 : (K2.free || p3) = true := by rfl) (s3 : subS Φ2 Φ3 = true := by rfl) :
    XE G c Φ (.chain o o' a b d) Φ3 .fz (p1 && p2 && p3) D.bl (dch f g x y z) := fun s ρ w s' hE h => by
  obtain ⟨⟨v, s1⟩, h1, h2⟩ := Option.bind_eq_some_iff.mp h
  obtain ⟨⟨u, s2⟩, h3, h4⟩ := Option.bind_eq_some_iff.mp h2
  obtain ⟨k, h5, h6⟩ := Option.bind_eq_some_iff.mp h4
  obtain ⟨r, ρ1, e1, E1, r1, q1⟩ := hx _ _ _ _ hE h1
  obtain ⟨q, ρ2, e2, E2, r2, q2⟩ := hy _ _ _ _ E1 h3
  have g1 := (r1.move (ρ' := ρ2) (pu_of (by assumption) id fun k => (q2 k).1)).get
  cases k with
  | false =>
    cases h6
    exact ⟨_, ρ2, by rw [evE, e1]; simp only [e2, g1, r2.get, hf _ _ _ h5], E2.sub s3, rfl, (q1.and q2).left⟩
  | true =>
    obtain ⟨⟨m, s3⟩, h7, h8⟩ := Option.bind_eq_some_iff.mp h6
    obtain ⟨kk, h9, h10⟩ := Option.bind_eq_some_iff.mp h8
    cases h10
    obtain ⟨t, ρ3, e3, E3, r3, q3⟩ := hz _ _ _ _ E2 h7
    have g2 := (r2.move (ρ' := ρ3) (pu_of (by assumption) id fun k => (q3 k).1)).get
    exact ⟨_, ρ3, by rw [evE, e1]; simp only [e2, g1, r2.get, hf _ _ _ h5, e3, g2, r3.get, hg _ _ _ h9], E3, rfl, (q1.and q2).and q3⟩
theorem q_tt : XT G c Φ .tt Φ true (dc true) := fun s ρ w s' hE h => by cases h; exact ⟨ρ, rfl, hE, .refl⟩
theorem q_val {f : α → Option Bool} (h : ∀ v b, f v = some b → truth (ea v) = some b) (hx : XE G c Φ a Φ1 K p ea x) : XT G c Φ (.val a) Φ1 p (d1 f x) := fun s ρ w s' hE h' => by
  obtain ⟨⟨v, s1⟩, h1, h2⟩ := Option.bind_eq_some_iff.mp h'
  obtain ⟨z, h3, h4⟩ := Option.bind_eq_some_iff.mp h2
  cases h4
  obtain ⟨r, ρ1, e1, E1, r1, q1⟩ := hx _ _ _ _ hE h1
  exact ⟨ρ1, by rw [evT, e1]; simp only [r1.get, h _ _ h3], E1, q1⟩
section
variable {x y : σ → Option (Bool × σ)} {t u : NW.T}
theorem q_bl (hx : XE G c Φ a Φ1 K p D.bl x) : XT G c Φ (.val a) Φ1 p x := fun s ρ w s' hE h' => by
  obtain ⟨r, ρ1, e1, E1, r1, q1⟩ := hx _ _ _ _ hE h'
  exact ⟨ρ1, by rw [evT, e1]; simp only [r1.get, truth], E1, q1⟩
theorem q_not (hx : XT G c Φ t Φ1 p x) : XT G c Φ (.not_ t) Φ1 p (dnot x) := fun s ρ w s' hE h' => by
  obtain ⟨⟨v, s1⟩, h1, h2⟩ := Option.bind_eq_some_iff.mp h'
  cases h2
  obtain ⟨ρ1, e1, E1, q1⟩ := hx _ _ _ _ hE h1
  exact ⟨ρ1, by rw [evT, e1], E1, q1⟩
theorem q_and (hx : XT G c Φ t Φ1 p1 x) (hy : XT G c Φ1 u Φ2 p2 y) (hs : subS Φ1 Φ2 = true := by rfl) : XT G c Φ (.and_ t u) Φ2 (p1 && p2) (dand x y) := fun s ρ w s' hE h' => by
  obtain ⟨⟨v, s1⟩, h1, h2⟩ := Option.bind_eq_some_iff.mp h'
  obtain ⟨ρ1, e1, E1, q1⟩ := hx _ _ _ _ hE h1
  cases v with
  | true =>
    obtain ⟨ρ2, e2, E2, q2⟩ := hy _ _ _ _ E1 h2
    exact ⟨ρ2, by rw [evT, e1]; exact e2, E2, q1.and q2⟩
  | false =>
    cases h2
    exact ⟨ρ1, by rw [evT, e1], E1.sub hs, q1.left⟩
theorem q_or (hx : XT G c Φ t Φ1 p1 x) (hy : XT G c Φ1 u Φ2 p2 y) (hs : subS Φ1 Φ2 = true := by rfl) : XT G c Φ (.or_ t u) Φ2 (p1 && p2) (dor x y) := fun s ρ w s' hE h' => by
  obtain ⟨⟨v, s1⟩, h1, h2⟩ := Option.bind_eq_some_iff.mp h'
  obtain ⟨ρ1, e1, E1, q1⟩ := hx _ _ _ _ hE h1
  cases v with
  | false =>
    obtain ⟨ρ2, e2, E2, q2⟩ := hy _ _ _ _ E1 h2
    exact ⟨ρ2, by rw [evT, e1]; exact e2, E2, q1.and q2⟩
  | true =>
    cases h2
    exact ⟨ρ1, by rw [evT, e1], E1.sub hs, q1.left⟩
end
theorem q_weak {t : NW.T} {q : σ → Option (Bool × σ)} {Φ2 : List St} (hx : XT G c Φ t Φ1 p q) (h : subS Φ1 Φ2 = true := by rfl) : XT G c Φ t Φ2 p q := fun s ρ w s' hE h' => by
  obtain ⟨ρ1, e1, E1, q1⟩ := hx _ _ _ _ hE h'
  exact ⟨ρ1, e1, E1.sub h, q1⟩
def c0 : Unit → List D := fun _ => []
def c1 (ea : α → D) : α → List D := fun v => [ea v]
def cc (ea : α → D) (em : β → List D) : α × β → List D := fun v => ea v.1 :: em v.2
def cl (ea : α → D) : List α → List D := fun v => v.map ea
def eN : Unit → D := fun _ => .non
def eT (em : α → List D) : α → D := fun v => .tup (em v)
def eL (ea : α → D) : List α → D := fun v => .lst (v.map ea)
def eV (ea : α → D) : List α → D := fun v => .tup (v.map ea)
def eO (ea : α → D) : Option α → D
  | none => .non
  | some v => ea v
section
variable {es : Es} {em : β → List D}
theorem m_nil : XM G c Φ .nil Φ true c0 (dc ()) := fun s ρ w s' hE h => by cases h; exact ⟨ρ, rfl, hE, .refl⟩
theorem m_one (hx : XE G c Φ a Φ1 K p ea x) (n : K.free = true := by rfl) : XM G c Φ (.cons a .nil) Φ1 p (c1 ea) x := fun s ρ w s' hE h' => by
  obtain ⟨r, ρ1, e1, E1, r1, q1⟩ := hx _ _ _ _ hE h'
  exact ⟨ρ1, by rw [evEs, e1]; simp only [r1.frz n, evEs]; rfl, E1, q1⟩
theorem m_cons (hx : XE G c Φ a Φ1 K p1 ea x) (hy : XM G c Φ1 es Φ2 p2 em y) (n : K.free = true := by rfl) : XM G c Φ (.cons a es) Φ2 (p1 && p2) (cc ea em) (dcons x y) := fun s ρ w s' hE h' => by
  obtain ⟨⟨v, s1⟩, h1, h2⟩ := Option.bind_eq_some_iff.mp h'
  obtain ⟨⟨u, s2⟩, h3, h4⟩ := Option.bind_eq_some_iff.mp h2
  cases h4
  obtain ⟨r, ρ1, e1, E1, r1, q1⟩ := hx _ _ _ _ hE h1
  obtain ⟨ρ2, e2, E2, q2⟩ := hy _ _ _ _ E1 h3
  exact ⟨ρ2, by rw [evEs, e1]; simp only [r1.frz n, e2]; rfl, E2, q1.and q2⟩
theorem l_nil (ea : α → D) : XM G c Φ .nil Φ true (cl ea) (dc []) := fun s ρ w s' hE h => by cases h; exact ⟨ρ, rfl, hE, .refl⟩
theorem l_cons {y : σ → Option (List α × σ)} (hx : XE G c Φ a Φ1 K p1 ea x) (hy : XM G c Φ1 es Φ2 p2 (cl ea) y) (n : K.free = true := by rfl) : XM G c Φ (.cons a es) Φ2 (p1 && p2) (cl ea) (dlcons x y) := fun s ρ w s' hE h' => by
  obtain ⟨⟨v, s1⟩, h1, h2⟩ := Option.bind_eq_some_iff.mp h'
  obtain ⟨⟨u, s2⟩, h3, h4⟩ := Option.bind_eq_some_iff.mp h2
  cases h4
  obtain ⟨r, ρ1, e1, E1, r1, q1⟩ := hx _ _ _ _ hE h1
  obtain ⟨ρ2, e2, E2, q2⟩ := hy _ _ _ _ E1 h3
  exact ⟨ρ2, by rw [evEs, e1]; simp only [r1.frz n, e2]; rfl, E2, q1.and q2⟩
theorem l_star {x y : σ → Option (List α × σ)} {el : List α → D} (h : ∀ xs, seqOf (el xs) = some (xs.map ea)) (hx : XE G c Φ a Φ1 K p1 el x) (hy : XM G c Φ1 es Φ2 p2 (cl ea) y) (n : K.free = true := by rfl) : XM G c Φ (.star a es) Φ2 (p1 && p2) (cl ea) (dstar x y) := fun s ρ w s' hE h' => by
  obtain ⟨⟨v, s1⟩, h1, h2⟩ := Option.bind_eq_some_iff.mp h'
  obtain ⟨⟨u, s2⟩, h3, h4⟩ := Option.bind_eq_some_iff.mp h2
  cases h4
  obtain ⟨r, ρ1, e1, E1, r1, q1⟩ := hx _ _ _ _ hE h1
  obtain ⟨ρ2, e2, E2, q2⟩ := hy _ _ _ _ E1 h3
  exact ⟨ρ2, by rw [evEs, e1]; simp only [r1.frz n, h, e2, cl, List.map_append], E2, q1.and q2⟩
theorem x_tup {em : α → List D} (hx : XM G c Φ es Φ1 p em x) (h : ∀ v, (em v).length ≤ L24) : XE G c Φ (.tup es) Φ1 .fz p (eT em) x := fun s ρ w s' hE h' => by
  obtain ⟨ρ1, e1, E1, q1⟩ := hx _ _ _ _ hE h'
  exact ⟨_, ρ1, by rw [evE, e1]; simp only [h, if_true]; rfl, E1, rfl, q1⟩
theorem x_tupL {x : σ → Option (List α × σ)} (hx : XM G c Φ es Φ1 p (cl ea) x) : XE G c Φ (.tup es) Φ1 .fz p (eV ea) (d1 gl x) := fun s ρ w s' hE h' => by
  obtain ⟨⟨v, s1⟩, h1, h2⟩ := Option.bind_eq_some_iff.mp h'
  obtain ⟨z, h3, h4⟩ := Option.bind_eq_some_iff.mp h2
  cases h4
  obtain ⟨ρ1, e1, E1, q1⟩ := hx _ _ _ _ hE h1
  unfold gl at h3
  split at h3
  · rename_i hl
    cases h3
    exact ⟨_, ρ1, by rw [evE, e1]; simp only [cl, List.length_map, hl, if_true]; rfl, E1, rfl, q1⟩
  · cases h3
theorem x_lst {x : σ → Option (List α × σ)} (hx : XM G c Φ es Φ1 p (cl ea) x) : XE G c Φ (.lst es) Φ1 .ow p (eL ea) (d1 gl x) := fun s ρ w s' hE h' => by
  obtain ⟨⟨v, s1⟩, h1, h2⟩ := Option.bind_eq_some_iff.mp h'
  obtain ⟨z, h3, h4⟩ := Option.bind_eq_some_iff.mp h2
  cases h4
  obtain ⟨ρ1, e1, E1, q1⟩ := hx _ _ _ _ hE h1
  unfold gl at h3
  split at h3
  · rename_i hl
    cases h3
    exact ⟨_, ρ1, by rw [evE, e1]; simp only [cl, List.length_map, hl, if_true]; rfl, E1, rfl, q1⟩
  · cases h3
end
def KOwn (kf : Kd) (own : Bool) : Prop := match kf with
  | .fz => own = false
  | .ow => own = true
  | _ => True
def Kd.fn : Kd → Kd
  | .fz => .fz
  | .ow => .ow
  | _ => .nw
theorem KOwn.rk {kf : Kd} {own : Bool} {d : D} {ρ : Rho} (h : KOwn kf own) : RK kf.fn d (mk (own, d)) ρ := by
  cases kf <;> first | (cases h; rfl) | (cases own; exact .inl rfl; exact .inr rfl)
/-- a def as its callers know it -/
def TC (c : Cl) (i : Nat) (em : α → List D) (eo : β → D) (kf : Kd) (den : α → Option β) : Prop := ∀ a v, den a = some v → ∃ own, KOwn kf own ∧ c i none (em a) = some (own, eo v, none)
def TCio (c : Cl) (i : Nat) (ep : γ → D) (em : α → List D) (eo : β → D) (kf : Kd) (den : γ → α → Option (β × γ)) : Prop := ∀ q a v q', den q a = some (v, q') → ∃ own, KOwn kf own ∧ c i (some 0) (ep q :: em a) = some (own, eo v, some (ep q'))
def dio (f : γ → α → Option (β × γ)) (gp : σ → γ) (sp : γ → σ → σ) (x : σ → Option (α × σ)) : σ → Option (β × σ) := fun s => (x s).bind fun q => (f (gp q.2) q.1).bind fun v => some (v.1, sp v.2 q.2)
section
variable {es : Es} {em : β → List D} {b1 b2 : Bool}
theorem r_nil : XA G c Φ .nil Φ true false c0 (dc ()) := fun s ρ w s' hE h => by cases h; exact ⟨[], ρ, rfl, hE, rfl, rfl, fun _ => rfl, .refl⟩
theorem r_cons (hx : XE G c Φ a Φ1 K p1 ea x) (hy : XA G c Φ1 es Φ2 p2 b2 em y) (n : (K.free || p2) = true := by rfl) : XA G c Φ (.cons a es) Φ2 (p1 && p2) (!K.free || b2) (cc ea em) (dcons x y) := fun s ρ w s' hE h' => by
  obtain ⟨⟨v, s1⟩, h1, h2⟩ := Option.bind_eq_some_iff.mp h'
  obtain ⟨⟨u, s2⟩, h3, h4⟩ := Option.bind_eq_some_iff.mp h2
  cases h4
  obtain ⟨r, ρ1, e1, E1, r1, q1⟩ := hx _ _ _ _ hE h1
  obtain ⟨rs, ρ2, e2, E2, g2, n2, b2, q2⟩ := hy _ _ _ _ E1 h3
  have m := r1.move (ρ' := ρ2) (pu_of n id fun k => (q2 k).1)
  refine ⟨r :: rs, ρ2, by rw [evA, e1]; simp only [e2], E2, by rw [getAll, m.getA, g2]; rfl, ?_, ?_, q1.and q2⟩
  · cases K with
    | fz => cases r1; exact n2
    | ow => cases r1; exact n2
    | nw => rcases r1 with rfl | rfl <;> exact n2
    | bo i => rw [r1.1]; exact n2
    | pk i =>
      rcases r1 with rfl | h
      · exact n2
      · rw [h.1]; exact n2
  · intro k
    simp only [Bool.or_eq_false_iff, Bool.not_eq_false'] at k
    cases K with
    | fz => cases r1; exact b2 k.2
    | ow => cases r1; exact b2 k.2
    | nw => rcases r1 with rfl | rfl <;> exact b2 k.2
    | bo i => cases k.1
    | pk i => cases k.1
theorem x_call {f : Nat} {em : α → List D} {kf : Kd} {h : α → Option β} (hf : TC c f em eb kf h) (hx : XA G c Φ es Φ1 p b1 em x) (hb : b1 = false ∨ ∀ own v, KOwn kf own → purO own (eb v) = true := by exact .inl rfl) : XE G c Φ (.call f none es) Φ1 kf.fn p eb (d1 h x) := fun s ρ w s' hE h' => by
  obtain ⟨⟨v, s1⟩, h1, h2⟩ := Option.bind_eq_some_iff.mp h'
  obtain ⟨z, h3, h4⟩ := Option.bind_eq_some_iff.mp h2
  cases h4
  obtain ⟨rs, ρ1, e1, E1, g1, n1, bb, q1⟩ := hx _ _ _ _ hE h1
  obtain ⟨own, ko, hc⟩ := hf _ _ h3
  have hn : (anyBo rs && !purO own (eb w)) = false := by
    rcases hb with hb | hb
    · rw [bb hb]; rfl
    · rw [hb _ _ ko]; simp
  refine ⟨mk (own, eb w), ρ1, ?_, E1, ko.rk, q1⟩
  rw [evE, e1]
  simp only [doCall, ioAt, n1, if_true, g1, hc, hn, putIo, if_false, Bool.false_eq_true]
theorem x_callIo {f j : Nat} {em : α → List D} {kf : Kd} {ep : γ → D} {gp : σ → γ} {sp : γ → σ → σ} {h : γ → α → Option (β × γ)} (hf : TCio c f ep em eb kf h) (hg : G[j]? = some fun s => ep (gp s)) (hs : ∀ q s, gp (sp q s) = q) (hk : ∀ q, Keep (sp q) G (some j)) (hj : Φ[j]? = some .ow) (hj1 : Φ1[j]? = some .ow)
    (hx : XA G c Φ es Φ1 p false em x) : XE G c Φ (.call f (some 0) (.cons (.io j) es)) (Φ1.set j .ow) kf.fn false eb (dio h gp sp x) := fun s ρ w s' hE h' => by
  obtain ⟨⟨v, s1⟩, h1, h2⟩ := Option.bind_eq_some_iff.mp h'
  obtain ⟨⟨z, q'⟩, h3, h4⟩ := Option.bind_eq_some_iff.mp h2
  cases h4
  obtain ⟨x0, i0, j0⟩ := hE.get hg hj
  cases j0
  have e0 : evE c (.io j) ρ = some (.io j, ρ) := by rw [evE, i0]
  obtain ⟨rs, ρ1, e1, E1, g1, n1, bb, q1⟩ := hx _ _ _ _ hE h1
  obtain ⟨own, ko, hc⟩ := hf _ _ _ _ h3
  obtain ⟨x2, i2, j2⟩ := E1.get hg hj1
  cases j2
  refine ⟨mk (own, eb z), ρ1.set j (.ow (ep q')), ?_, hk q' |>.put E1 hg ?_, ko.rk, .no⟩
  · have ga : NW.getA ρ1 (.io j) = some (ep (gp s1)) := by
      show (match ρ1[j]? with | some (.ow d) => some d | _ => none) = _
      rw [i2]
    have gaa : getAll ρ1 (R.io j :: rs) = some (ep (gp s1) :: em v) := by rw [getAll, ga, g1]
    rw [evE, evA, e0]
    simp only [e1, doCall, ioAt, List.getElem?_cons_zero, List.take_zero, noIo, Nat.zero_add, List.drop_succ_cons, List.drop_zero, n1, anyBo, bb rfl, Bool.not_false, Bool.and_self, if_true, gaa, hc, Bool.false_and, Bool.false_eq_true, if_false, putIo]
  · rw [hs]; rfl
end
end
end NW
namespace NW
def rgI (st : Int) : Nat → Int → List Int
  | 0, _ => []
  | n + 1, i => i :: rgI st n (i + st)
def Src.items : Src → List D
  | .ls ds => ds
  | .rg lo st n => (rgI st n lo).map D.int
theorem walkN_items (f : D → Rho → Option (List D × Rho)) (st : Int) : ∀ (n : Nat) (i : Int) (ρ : Rho), walkN f st n i ρ = walkL f ((rgI st n i).map D.int) ρ
  | 0, _, _ => rfl
  | n + 1, i, ρ => by
    simp only [walkN, rgI, List.map_cons, walkL, walkN_items f st n]
theorem walk_items (f : D → Rho → Option (List D × Rho)) (sr : Src) (ρ : Rho) : sr.walk f ρ = walkL f sr.items ρ := by
  cases sr with
  | ls ds => rfl
  | rg lo st n => exact walkN_items f st n lo ρ
theorem outN_items (f : D → Option (List D)) (st : Int) : ∀ (n : Nat) (i : Int), outN f st n i = outL f ((rgI st n i).map D.int)
  | 0, _ => rfl
  | n + 1, i => by
    simp only [outN, rgI, List.map_cons, outL, outN_items f st n]
theorem out_items (f : D → Option (List D)) (sr : Src) : sr.out f = outL f sr.items := by
  cases sr with
  | ls ds => rfl
  | rg lo st n => exact outN_items f st n lo
theorem runN_items (f : D → Rho → Option Out) (st : Int) : ∀ (n : Nat) (i : Int) (ρ : Rho), runN f st n i ρ = runL f ((rgI st n i).map D.int) ρ
  | 0, _, _ => rfl
  | n + 1, i, ρ => by
    simp only [runN, rgI, List.map_cons, runL]
    cases f (.int i) ρ with
    | none => rfl
    | some o => cases o <;> simp only [runN_items f st n]
theorem run_items (f : D → Rho → Option Out) (sr : Src) (ρ : Rho) : sr.run f ρ = runL f sr.items ρ := by
  cases sr with
  | ls ds => rfl
  | rg lo st n => exact runN_items f st n lo ρ
mutual
theorem stT_out : ∀ (t : Tg) (d : D) (ρ ρ' : Rho), stT t d ρ = some ρ' → ρ'.length = ρ.length ∧ ∀ j, j ∉ t.ix → ρ'[j]? = ρ[j]?
  | .nm i, d, ρ, ρ', h => by
    unfold stT at h
    split at h
    · cases h
      refine ⟨List.length_set, fun j hj => ?_⟩
      rw [List.getElem?_set]
      have : i ≠ j := fun e => hj (by subst e; exact List.mem_singleton.mpr rfl)
      simp [this]
    · cases h
  | .tup ts, d, ρ, ρ', h => by
    unfold stT at h
    split at h
    · exact stTs_out ts _ ρ ρ' h
    · cases h
theorem stTs_out : ∀ (ts : Tgs) (ds : List D) (ρ ρ' : Rho), stTs ts ds ρ = some ρ' → ρ'.length = ρ.length ∧ ∀ j, j ∉ ts.ix → ρ'[j]? = ρ[j]?
  | .nil, ds, ρ, ρ', h => by
    unfold stTs at h
    split at h
    · cases h; exact ⟨rfl, fun _ _ => rfl⟩
    · cases h
  | .cons t ts, ds, ρ, ρ', h => by
    unfold stTs at h
    split at h
    · split at h
      · rename_i e
        obtain ⟨l1, k1⟩ := stT_out t _ _ _ e
        obtain ⟨l2, k2⟩ := stTs_out ts _ _ _ h
        refine ⟨l2.trans l1, fun j hj => ?_⟩
        have : j ∉ t.ix ∧ j ∉ ts.ix := ⟨fun z => hj (List.mem_append.mpr (.inl z)), fun z => hj (List.mem_append.mpr (.inr z))⟩
        rw [k2 j this.2, k1 j this.1]
      · cases h
    · cases h
end
theorem wipeR_in : ∀ {is : List Nat} {ρ : Rho} {j : Nat}, j ∈ is → (wipeR is ρ)[j]? = if j < ρ.length then some .no else none
  | [], _, _, h => by cases h
  | i :: is, ρ, j, h => by
    show (wipeR is (ρ.set i .no))[j]? = _
    by_cases hj : j ∈ is
    · rw [wipeR_in hj, List.length_set]
    · rw [wipeR_out hj]
      rcases List.mem_cons.mp h with rfl | z
      · rw [List.getElem?_set]; simp
      · exact (hj z).elim
/-- a wipe hides what a target stored -/
theorem wipe_same {own : List Nat} {ρ ρ' : Rho} {t : Tg} {d : D} (hs : subB t.ix own = true) (h : stT t d (wipeR own ρ) = some ρ') : wipeR own ρ' = wipeR own ρ := by
  obtain ⟨hl, ho⟩ := stT_out _ _ _ _ h
  rw [wipeR_len] at hl
  apply List.ext_getElem?
  intro j
  by_cases hj : j ∈ own
  · rw [wipeR_in hj, wipeR_in hj, hl]
  · rw [wipeR_out hj, wipeR_out hj, ho j (fun z => hj (sub_of hs j z)), wipeR_out hj]
theorem restore_at {old : Rho} : ∀ {is : List Nat} {ρ : Rho} {j : Nat}, ρ.length = old.length → j ∈ is → (restore old is ρ)[j]? = old[j]?
  | [], _, _, _, h => by cases h
  | i :: is, ρ, j, hl, h => by
    unfold restore
    by_cases hj : j ∈ is
    · exact restore_at (by split <;> simp [hl]) hj
    · rcases List.mem_cons.mp h with rfl | z
      · have out : ∀ (is : List Nat) (ρ : Rho), j ∉ is → (restore old is ρ)[j]? = ρ[j]? := by
          intro is
          induction is with
          | nil => intro ρ _; rfl
          | cons k ks ih =>
            intro ρ hk
            simp only [List.mem_cons, not_or] at hk
            unfold restore
            rw [ih _ hk.2]
            split
            · rw [List.getElem?_set]
              have : k ≠ j := fun e => hk.1 e.symm
              simp [this]
            · rfl
        rw [out _ _ hj]
        split
        · rename_i s e
          rw [List.getElem?_set]
          have : j < old.length := by
            rw [List.getElem?_eq_some_iff] at e
            exact e.1
          rw [if_pos rfl, if_pos (by omega), e]
        · rename_i e
          rw [e, List.getElem?_eq_none_iff, hl]
          rw [List.getElem?_eq_none_iff] at e
          exact e
      · exact (hj z).elim
theorem restore_out {old : Rho} : ∀ {is : List Nat} {ρ : Rho} {j : Nat}, j ∉ is → (restore old is ρ)[j]? = ρ[j]?
  | [], _, _, _ => rfl
  | k :: ks, ρ, j, hk => by
    simp only [List.mem_cons, not_or] at hk
    unfold restore
    rw [restore_out hk.2]
    split
    · rw [List.getElem?_set]
      have : k ≠ j := fun e => hk.1 e.symm
      simp [this]
    · rfl
theorem restore_wipe {own : List Nat} {ρ : Rho} : restore ρ own (wipeR own ρ) = ρ := by
  apply List.ext_getElem?
  intro j
  by_cases hj : j ∈ own
  · rw [restore_at (wipeR_len _ _) hj]
  · rw [restore_out hj, wipeR_out hj]
def wipeS : List Nat → List St → List St
  | [], Φ => Φ
  | i :: is, Φ => wipeS is (Φ.set i .any)
def frzS (Φ : List St) : List St := Φ.map fun t => match t with
  | .any => .any
  | _ => .fz
section
variable {σ : Type} {G : List (σ → D)} {s : σ}
theorem Env.wipeR : ∀ {is : List Nat} {Φ : List St} {ρ : Rho}, Env G Φ s ρ → Env G (wipeS is Φ) s (NW.wipeR is ρ)
  | [], _, _, h => h
  | _ :: is, _, _, h => Env.wipeR (is := is) (h.wipe _)
theorem Env.frz : ∀ {G : List (σ → D)} {Φ : List St} {ρ : Rho}, Env G Φ s ρ → Env G (frzS Φ) s (frzR ρ)
  | [], [], [], _ => trivial
  | g :: G, t :: Φ, x :: ρ, h => by
    refine ⟨?_, Env.frz h.2⟩
    have h1 := h.1
    cases t with
    | any => trivial
    | fz => cases h1; rfl
    | ow => cases h1; rfl
    | ei => rcases h1 with rfl | rfl <;> rfl
  | [], _ :: _, _, h => h.elim
  | _ :: _, [], _, h => h.elim
  | [], [], _ :: _, h => h.elim
  | _ :: _, _ :: _, [], h => h.elim
/-- slots put back -/
theorem Env.restore {old : Rho} : ∀ {is : List Nat} {Φ : List St} {ρ : Rho}, Env G Φ s ρ → Env G (wipeS is Φ) s (NW.restore old is ρ)
  | [], _, _, h => h
  | i :: is, Φ, ρ, h => by
    unfold NW.restore wipeS
    refine Env.restore (is := is) ?_
    split
    · exact h.wipe _
    · have := h.wipe (i := i) ((ρ[i]?).getD .no)
      rwa [show ρ.set i ((ρ[i]?).getD .no) = ρ from by
        apply List.ext_getElem?; intro j
        rw [List.getElem?_set]
        split
        · rename_i q; subst q
          by_cases z : i < ρ.length
          · simp [z]
          · simp [z]
        · rfl] at this
end
section
variable {σ α β γ δ : Type}
/-- a source of items -/
def XI (G : List (σ → D)) (c : Cl) (Φ : List St) (i : I) (Φ' : List St) (pu : Bool) (enc : α → D) (den : σ → Option (List α × σ)) : Prop :=
  ∀ s ρ v s', Env G Φ s ρ → den s = some (v, s') → ∃ sr ρ', evI c i ρ = some (sr, ρ') ∧ Env G Φ' s' ρ' ∧ sr.items = v.map enc ∧ Pu pu ρ ρ' s s'
/-- a target -/
def XG (G : List (σ → D)) (Φ : List St) (t : Tg) (Φ' : List St) (enc : α → D) (upd : α → σ → σ) : Prop :=
  ∀ s ρ a, Env G Φ s ρ → ∃ ρ', stT t (enc a) ρ = some ρ' ∧ Env G Φ' (upd a s) ρ'
def XGs (G : List (σ → D)) (Φ : List St) (t : Tgs) (Φ' : List St) (em : α → List D) (upd : α → σ → σ) : Prop :=
  ∀ s ρ a, Env G Φ s ρ → ∃ ρ', stTs t (em a) ρ = some ρ' ∧ Env G Φ' (upd a s) ρ'
def ucons (f : α → σ → σ) (g : β → σ → σ) : α × β → σ → σ := fun a s => g a.2 (f a.1 s)
def walkP (f : α → Option (Option β)) : List α → Option (List β)
  | [] => some []
  | a :: as => (f a).bind fun o => (walkP f as).bind fun r => some (match o with | some v => v :: r | none => r)
def turnP (upd : α → σ → σ) (test : σ → Option (Bool × σ)) (el : σ → Option (β × σ)) (s : σ) (a : α) : Option (Option β) := (test (upd a s)).bind fun t => match t.1 with
  | true => (el t.2).bind fun v => some (some v.1)
  | false => some none
def dlc (src : σ → Option (List α × σ)) (upd : α → σ → σ) (test : σ → Option (Bool × σ)) (el : σ → Option (β × σ)) : σ → Option (List β × σ) := fun s => (src s).bind fun q => (walkP (turnP upd test el q.2) q.1).bind fun r => (gl r).bind fun v => some (v, q.2)
def walkS (upd : α → σ → σ) (test : σ → Option (Bool × σ)) (el : σ → Option (β × σ)) : List α → σ → Option (List β × σ)
  | [], s => some ([], s)
  | a :: as, s => (test (upd a s)).bind fun t => match t.1 with
    | true => (el t.2).bind fun v => (walkS upd test el as v.2).bind fun r => some (v.1 :: r.1, r.2)
    | false => walkS upd test el as t.2
def dlcS (src : σ → Option (List α × σ)) (upd : α → σ → σ) (test : σ → Option (Bool × σ)) (el : σ → Option (β × σ)) : σ → Option (List β × σ) := fun s => (src s).bind fun q => (walkS upd test el q.1 q.2).bind fun r => (gl r.1).bind fun v => some (v, r.2)
def dsl (f : α → Option Int → Option Int → Option β) (x : σ → Option (α × σ)) (lo hi : σ → Option (Option Int × σ)) : σ → Option (β × σ) := fun s => (x s).bind fun q => (lo q.2).bind fun l => (hi l.2).bind fun h => (f q.1 l.1 h.1).bind fun v => some (v, h.2)
def dso (x : σ → Option (Int × σ)) : σ → Option (Option Int × σ) := fun s => (x s).bind fun q => some (some q.1, q.2)
def dpop (g : σ → List α) (set : List α → σ → σ) : σ → Option (α × σ) := fun s => match (g s).getLast? with
  | some d => some (d, set (g s).dropLast s)
  | none => none
end
section
variable {σ α β γ δ : Type} {G : List (σ → D)} {c : Cl} {Φ Φ1 Φ2 Φ3 Φ4 Φh : List St} {ea : α → D} {eb : β → D} {ec : γ → D} {ed : δ → D} {K K1 K2 K3 : Kd} {p p1 p2 p3 : Bool} {e a b d : E} {x : σ → Option (α × σ)} {y : σ → Option (β × σ)} {z : σ → Option (γ × σ)}
theorem o_no : XO G c Φ .no Φ true dnone := fun s ρ v s' hE h => by cases h; exact ⟨ρ, rfl, hE, .refl⟩
theorem o_so {x : σ → Option (Int × σ)} (hx : XE G c Φ a Φ1 .fz p D.int x) : XO G c Φ (.so a) Φ1 p (dso x) := fun s ρ v s' hE h => by
  obtain ⟨⟨v, s1⟩, h1, h2⟩ := Option.bind_eq_some_iff.mp h
  cases h2
  obtain ⟨r, ρ1, e1, E1, r1, q1⟩ := hx _ _ _ _ hE h1
  cases r1
  exact ⟨ρ1, by rw [evO, e1], E1, q1⟩
/-- what a slice of d is -/
def slD (d : D) (l h : Option Int) : Option (Bool × D) := match d with
  | .lst xs => some (true, .lst (cutL xs l h))
  | .tup xs => some (false, .tup (cutL xs l h))
  | .str s => if s.length ≤ L24 then some (false, .str (cutL s l h)) else none
  | _ => none
theorem x_sl {lo hi : Oe} {l h : σ → Option (Option Int × σ)} {kf : Kd} {f : α → Option Int → Option Int → Option β} (hf : ∀ v l h w, f v l h = some w → ∃ own, KOwn kf own ∧ slD (ea v) l h = some (own, eb w)) (hx : XE G c Φ a Φ1 K p1 ea x) (hl : XO G c Φ1 lo Φ2 p2 l) (hh : XO G c Φ2 hi Φ3 p3 h) (st : (K.free || (p2 && p3)) = true := by rfl) :
    XE G c Φ (.sl a lo hi) Φ3 kf.fn (p1 && p2 && p3) eb (dsl f x l h) := fun s ρ w s' hE h' => by
  obtain ⟨⟨v, s1⟩, h1, h2⟩ := Option.bind_eq_some_iff.mp h'
  obtain ⟨⟨u, s2⟩, h3, h4⟩ := Option.bind_eq_some_iff.mp h2
  obtain ⟨⟨t, s3⟩, h5, h6⟩ := Option.bind_eq_some_iff.mp h4
  obtain ⟨z, h7, h8⟩ := Option.bind_eq_some_iff.mp h6
  cases h8
  obtain ⟨r, ρ1, e1, E1, r1, q1⟩ := hx _ _ _ _ hE h1
  obtain ⟨ρ2, e2, E2, q2⟩ := hl _ _ _ _ E1 h3
  obtain ⟨ρ3, e3, E3, q3⟩ := hh _ _ _ _ E2 h5
  have g1 := (r1.move (ρ' := ρ3) (pu_of st id fun k => ((q2.and q3) k).1)).get
  obtain ⟨own, ko, hs⟩ := hf _ _ _ _ h7
  refine ⟨mk (own, eb w), ρ3, ?_, E3, ko.rk, (q1.and q2).and q3⟩
  rw [evE, e1]
  simp only [e2, e3, g1]
  generalize eb w = ew at hs
  cases hv : ea v with
  | lst xs => rw [hv] at hs; simp only [slD] at hs; cases hs; rfl
  | tup xs => rw [hv] at hs; simp only [slD] at hs; cases hs; rfl
  | str xs =>
    rw [hv] at hs
    simp only [slD] at hs
    split at hs
    · rename_i q; simp only [q, if_true]; cases hs; rfl
    · cases hs
  | non => rw [hv] at hs; cases hs
  | bl _ => rw [hv] at hs; cases hs
  | int _ => rw [hv] at hs; cases hs
  | dct _ => rw [hv] at hs; cases hs
def rvD (d : D) : Option (Bool × D) := match d with
  | .lst xs => some (true, .lst xs.reverse)
  | .tup xs => some (false, .tup xs.reverse)
  | _ => none
theorem x_rv {kf : Kd} {f : α → Option β} (hf : ∀ v w, f v = some w → ∃ own, KOwn kf own ∧ rvD (ea v) = some (own, eb w)) (hx : XE G c Φ a Φ1 K p ea x) : XE G c Φ (.rv a) Φ1 kf.fn p eb (d1 f x) := fun s ρ w s' hE h' => by
  obtain ⟨⟨v, s1⟩, h1, h2⟩ := Option.bind_eq_some_iff.mp h'
  obtain ⟨z, h7, h8⟩ := Option.bind_eq_some_iff.mp h2
  cases h8
  obtain ⟨r, ρ1, e1, E1, r1, q1⟩ := hx _ _ _ _ hE h1
  obtain ⟨own, ko, hs⟩ := hf _ _ h7
  refine ⟨mk (own, eb w), ρ1, ?_, E1, ko.rk, q1⟩
  rw [evE, e1]
  simp only [r1.get]
  generalize eb w = ew at hs
  cases hv : ea v with
  | lst xs => rw [hv] at hs; simp only [rvD] at hs; cases hs; rfl
  | tup xs => rw [hv] at hs; simp only [rvD] at hs; cases hs; rfl
  | str xs => rw [hv] at hs; cases hs
  | non => rw [hv] at hs; cases hs
  | bl _ => rw [hv] at hs; cases hs
  | int _ => rw [hv] at hs; cases hs
  | dct _ => rw [hv] at hs; cases hs
def repL (xs : List α) (j : Int) : Option (List α) := if decide (-(2 ^ 63) ≤ j) && decide (j < 2 ^ 63) && decide (xs.length * j.toNat ≤ L24) then some (List.replicate j.toNat xs).flatten else none
theorem x_rep {x : σ → Option (List α × σ)} {y : σ → Option (Int × σ)} (hx : XE G c Φ a Φ1 .ow p1 (eL ea) x) (hy : XE G c Φ1 b Φ2 .fz p2 D.int y) : XE G c Φ (.rep a b) Φ2 .ow (p1 && p2) (eL ea) (d2 repL x y) := fun s ρ w s' hE h => by
  obtain ⟨⟨v, s1⟩, h1, h2⟩ := Option.bind_eq_some_iff.mp h
  obtain ⟨⟨u, s2⟩, h3, h4⟩ := Option.bind_eq_some_iff.mp h2
  obtain ⟨z, h5, h6⟩ := Option.bind_eq_some_iff.mp h4
  cases h6
  obtain ⟨r, ρ1, e1, E1, r1, q1⟩ := hx _ _ _ _ hE h1
  obtain ⟨q, ρ2, e2, E2, r2, q2⟩ := hy _ _ _ _ E1 h3
  cases r1; cases r2
  unfold repL at h5
  split at h5
  · rename_i k
    cases h5
    refine ⟨_, ρ2, by rw [evE, e1]; simp only [eL, e2, List.length_map, k, if_true]; rfl, E2, ?_, q1.and q2⟩
    show _ = _
    simp [eL, List.map_flatten, List.map_replicate]
  · cases h5
theorem x_pop {i : Nat} {g : σ → List α} {set : List α → σ → σ} (hg : G[i]? = some fun s => eL ea (g s)) (hs : ∀ v s, g (set v s) = v) (hk : ∀ v, Keep (set v) G (some i)) (h : Φ[i]? = some .ow) : XE G c Φ (.pop i) (Φ.set i .ow) .fz false ea (dpop g set) := fun s ρ w s' hE h' => by
  obtain ⟨x, h1, h2⟩ := hE.get hg h
  cases h2
  unfold dpop at h'
  split at h'
  · rename_i d e
    cases h'
    refine ⟨.fz (ea w), ρ.set i (.ow (eL ea (g s).dropLast)), ?_, (hk _).put hE hg (by show _ = _; rw [hs]), rfl, .no⟩
    rw [evE, h1]
    have : ((g s).map ea).getLast? = some (ea w) := by rw [List.getLast?_map, e]; rfl
    simp only [eL, this, List.map_dropLast]
  · cases h'
theorem s_seq {f : α → Option (List β)} (h : ∀ v xs, f v = some xs → ∃ sr, srcOf (ea v) = some sr ∧ sr.items = xs.map eb) (hx : XE G c Φ a Φ1 K p ea x) (n : K.free = true := by rfl) : XI G c Φ (.seq a) Φ1 p eb (d1 f x) := fun s ρ w s' hE h' => by
  obtain ⟨⟨v, s1⟩, h1, h2⟩ := Option.bind_eq_some_iff.mp h'
  obtain ⟨z, h3, h4⟩ := Option.bind_eq_some_iff.mp h2
  cases h4
  obtain ⟨r, ρ1, e1, E1, r1, q1⟩ := hx _ _ _ _ hE h1
  obtain ⟨sr, k1, k2⟩ := h _ _ h3
  exact ⟨sr, ρ1, by rw [evI, e1]; simp only [r1.frz n, k1], E1, k2, q1⟩
/-- a test that stops early where nothing is known -/
def rgT (i : Int) : Bool := Nat.ble i.natAbs 4611686018427387903
theorem rgT_ok {i : Int} (h : rgT i = true) : rgOk i = true := by
  have := Nat.le_of_ble_eq_true h
  unfold rgOk
  simp only [Bool.and_eq_true, decide_eq_true_eq]
  omega
def rg1 (j : Int) : Option (List Int) := if rgT j then some (rgI 1 j.toNat 0) else none
def rg2 (i j : Int) : Option (List Int) := if rgT i && rgT j then some (rgI 1 (j - i).toNat i) else none
def rg3 (i j k : Int) : Option (List Int) := if rgT i && rgT j && (k != 0) && decide (k.natAbs < 1073741824) then some (rgI k (rgLen i j k) i) else none
theorem s_rng1 {x : σ → Option (Int × σ)} (hx : XE G c Φ a Φ1 .fz p D.int x) : XI G c Φ (.rng1 a) Φ1 p D.int (d1 rg1 x) := fun s ρ w s' hE h' => by
  obtain ⟨⟨v, s1⟩, h1, h2⟩ := Option.bind_eq_some_iff.mp h'
  obtain ⟨z, h3, h4⟩ := Option.bind_eq_some_iff.mp h2
  cases h4
  obtain ⟨r, ρ1, e1, E1, r1, q1⟩ := hx _ _ _ _ hE h1
  cases r1
  unfold rg1 at h3
  split at h3
  · rename_i k
    cases h3
    exact ⟨_, ρ1, by rw [evI, e1]; simp only [rgT_ok k, if_true]; rfl, E1, rfl, q1⟩
  · cases h3
theorem s_rng2 {x y : σ → Option (Int × σ)} (hx : XE G c Φ a Φ1 .fz p1 D.int x) (hy : XE G c Φ1 b Φ2 .fz p2 D.int y) : XI G c Φ (.rng2 a b) Φ2 (p1 && p2) D.int (d2 rg2 x y) := fun s ρ w s' hE h' => by
  obtain ⟨⟨v, s1⟩, h1, h2⟩ := Option.bind_eq_some_iff.mp h'
  obtain ⟨⟨u, s2⟩, h3, h4⟩ := Option.bind_eq_some_iff.mp h2
  obtain ⟨z, h5, h6⟩ := Option.bind_eq_some_iff.mp h4
  cases h6
  obtain ⟨r, ρ1, e1, E1, r1, q1⟩ := hx _ _ _ _ hE h1
  obtain ⟨q, ρ2, e2, E2, r2, q2⟩ := hy _ _ _ _ E1 h3
  cases r1; cases r2
  unfold rg2 at h5
  split at h5
  · rename_i k
    cases h5
    simp only [Bool.and_eq_true] at k
    exact ⟨_, ρ2, by rw [evI, e1]; simp only [e2, rgT_ok k.1, rgT_ok k.2, Bool.and_self, if_true]; rfl, E2, rfl, q1.and q2⟩
  · cases h5
def dr3 (x y z : σ → Option (Int × σ)) : σ → Option (List Int × σ) := fun s => (x s).bind fun q => (y q.2).bind fun u => (z u.2).bind fun t => (rg3 q.1 u.1 t.1).bind fun v => some (v, t.2)
theorem s_rng3 {x y z : σ → Option (Int × σ)} (hx : XE G c Φ a Φ1 .fz p1 D.int x) (hy : XE G c Φ1 b Φ2 .fz p2 D.int y) (hz : XE G c Φ2 d Φ3 .fz p3 D.int z) : XI G c Φ (.rng3 a b d) Φ3 (p1 && p2 && p3) D.int (dr3 x y z) := fun s ρ w s' hE h' => by
  obtain ⟨⟨v, s1⟩, h1, h2⟩ := Option.bind_eq_some_iff.mp h'
  obtain ⟨⟨u, s2⟩, h3, h4⟩ := Option.bind_eq_some_iff.mp h2
  obtain ⟨⟨t, s3⟩, h7, h8⟩ := Option.bind_eq_some_iff.mp h4
  obtain ⟨z, h5, h6⟩ := Option.bind_eq_some_iff.mp h8
  cases h6
  obtain ⟨r, ρ1, e1, E1, r1, q1⟩ := hx _ _ _ _ hE h1
  obtain ⟨q, ρ2, e2, E2, r2, q2⟩ := hy _ _ _ _ E1 h3
  obtain ⟨o, ρ3, e3, E3, r3, q3⟩ := hz _ _ _ _ E2 h7
  cases r1; cases r2; cases r3
  unfold rg3 at h5
  split at h5
  · rename_i k
    cases h5
    simp only [Bool.and_eq_true] at k
    exact ⟨_, ρ3, by rw [evI, e1]; simp only [e2, e3, rgT_ok k.1.1.1, rgT_ok k.1.1.2, k.1.2, k.2, Bool.and_self, if_true]; rfl, E3, rfl, (q1.and q2).and q3⟩
  · cases h5
theorem zipD_map : ∀ (xs : List α) (ys : List β), zipD (xs.map ea) (ys.map eb) = (xs.zip ys).map (eT (cc ea (c1 eb)))
  | [], ys => rfl
  | x :: xs, [] => rfl
  | x :: xs, y :: ys => by simp only [List.map_cons, zipD, List.zip_cons_cons, zipD_map xs ys]; rfl
def enumI (k : Int) : List α → List (Int × α)
  | [] => []
  | x :: xs => (k, x) :: enumI (k + 1) xs
theorem enumD_map : ∀ (k : Int) (xs : List α), enumD k (xs.map ea) = (enumI k xs).map (eT (cc D.int (c1 ea)))
  | _, [] => rfl
  | k, x :: xs => by simp only [List.map_cons, enumD, enumI, enumD_map (k + 1) xs]; rfl
def sqF (el : α → D) (eb : β → D) (f : α → Option (List β)) : Prop := ∀ v xs, f v = some xs → seqOf (el v) = some (xs.map eb)
def lsF (el : α → D) (eb : β → D) (f : α → Option (List β)) : Prop := ∀ v xs, f v = some xs → lstOf (el v) = some (xs.map eb)
def twF (ea : α → D) (eb : β → D) (ec : γ → D) (ed : δ → D) (f : α → β → Option (List γ × List δ)) : Prop := ∀ v w q, f v w = some q → twoOf (ea v) (eb w) = some (q.1.map ec, q.2.map ed)
theorem s_zip {f : α → β → Option (List γ × List δ)} (hf : twF ea eb ec ed f) (hx : XE G c Φ a Φ1 K1 p1 ea x) (hy : XE G c Φ1 b Φ2 K2 p2 eb y) (n1 : K1.free = true := by rfl) (n2 : K2.free = true := by rfl) :
    XI G c Φ (.zip a b) Φ2 (p1 && p2) (eT (cc ec (c1 ed))) (d2 (fun v w => (f v w).bind fun q => some (q.1.zip q.2)) x y) := fun s ρ w s' hE h => by
  obtain ⟨⟨v, s1⟩, h1, h2⟩ := Option.bind_eq_some_iff.mp h
  obtain ⟨⟨u, s2⟩, h3, h4⟩ := Option.bind_eq_some_iff.mp h2
  obtain ⟨z, h5, h6⟩ := Option.bind_eq_some_iff.mp h4
  obtain ⟨⟨xs, ys⟩, h7, h8⟩ := Option.bind_eq_some_iff.mp h5
  cases h6; cases h8
  obtain ⟨r, ρ1, e1, E1, r1, q1⟩ := hx _ _ _ _ hE h1
  obtain ⟨q, ρ2, e2, E2, r2, q2⟩ := hy _ _ _ _ E1 h3
  refine ⟨.ls (zipD (xs.map ec) (ys.map ed)), ρ2, ?_, E2, zipD_map xs ys, q1.and q2⟩
  rw [evI, e1]
  simp only [e2, r1.frz n1, r2.frz n2, hf _ _ _ h7]
theorem s_enum {f : α → Option (List β)} (hf : lsF ea eb f) (hx : XE G c Φ a Φ1 K p ea x) (n : K.free = true := by rfl) : XI G c Φ (.enum a) Φ1 p (eT (cc D.int (c1 eb))) (d1 (fun v => (f v).bind fun xs => some (enumI 0 xs)) x) := fun s ρ w s' hE h' => by
  obtain ⟨⟨v, s1⟩, h1, h2⟩ := Option.bind_eq_some_iff.mp h'
  obtain ⟨z, h3, h4⟩ := Option.bind_eq_some_iff.mp h2
  obtain ⟨xs, h5, h6⟩ := Option.bind_eq_some_iff.mp h3
  cases h4; cases h6
  obtain ⟨r, ρ1, e1, E1, r1, q1⟩ := hx _ _ _ _ hE h1
  exact ⟨.ls (enumD 0 (xs.map eb)), ρ1, by rw [evI, e1]; simp only [r1.frz n, hf _ _ h5], E1, enumD_map 0 xs, q1⟩
theorem s_enumK {y : σ → Option (Int × σ)} {f : α → Option (List β)} (hf : lsF ea eb f) (hx : XE G c Φ a Φ1 K p1 ea x) (hy : XE G c Φ1 b Φ2 .fz p2 D.int y) (n : K.free = true := by rfl) : XI G c Φ (.enumK a b) Φ2 (p1 && p2) (eT (cc D.int (c1 eb))) (d2 (fun v k => (f v).bind fun xs => some (enumI k xs)) x y) := fun s ρ w s' hE h => by
  obtain ⟨⟨v, s1⟩, h1, h2⟩ := Option.bind_eq_some_iff.mp h
  obtain ⟨⟨u, s2⟩, h3, h4⟩ := Option.bind_eq_some_iff.mp h2
  obtain ⟨z, h5, h6⟩ := Option.bind_eq_some_iff.mp h4
  obtain ⟨xs, h7, h8⟩ := Option.bind_eq_some_iff.mp h5
  cases h6; cases h8
  obtain ⟨r, ρ1, e1, E1, r1, q1⟩ := hx _ _ _ _ hE h1
  obtain ⟨q, ρ2, e2, E2, r2, q2⟩ := hy _ _ _ _ E1 h3
  cases r2
  exact ⟨.ls (enumD u (xs.map eb)), ρ2, by rw [evI, e1]; simp only [e2, r1.frz n, hf _ _ h7], E2, enumD_map u xs, q1.and q2⟩
theorem s_rev {f : α → Option (List β)} (hf : sqF ea eb f) (hx : XE G c Φ a Φ1 K p ea x) (n : K.free = true := by rfl) : XI G c Φ (.rev a) Φ1 p eb (d1 (fun v => (f v).bind fun xs => some xs.reverse) x) := fun s ρ w s' hE h' => by
  obtain ⟨⟨v, s1⟩, h1, h2⟩ := Option.bind_eq_some_iff.mp h'
  obtain ⟨z, h3, h4⟩ := Option.bind_eq_some_iff.mp h2
  obtain ⟨xs, h5, h6⟩ := Option.bind_eq_some_iff.mp h3
  cases h4; cases h6
  obtain ⟨r, ρ1, e1, E1, r1, q1⟩ := hx _ _ _ _ hE h1
  refine ⟨.ls (xs.map eb).reverse, ρ1, by rw [evI, e1]; simp only [r1.frz n, hf _ _ h5], E1, ?_, q1⟩
  show (xs.map eb).reverse = _
  rw [List.map_reverse]
theorem g_nmT {i : Nat} {g : σ → α} {set : α → σ → σ} (ea : α → D) (hg : G[i]? = some fun s => ea (g s)) (hs : ∀ v s, g (set v s) = v) (hk : ∀ v, Keep (set v) G (some i)) : XG G Φ (.nm i) (Φ.set i .fz) ea set := fun s ρ a hE => by
  have hi : i < ρ.length := by
    rw [hE.len]
    rw [List.getElem?_eq_some_iff] at hg
    exact hg.1
  refine ⟨ρ.set i (.fz (ea a)), by unfold stT; rw [if_pos hi], (hk a).put hE hg (by show _ = _; rw [hs])⟩
theorem g_nilT : XGs G Φ .nil Φ c0 (fun _ s => s) := fun s ρ a hE => ⟨ρ, by simp only [c0, stTs], hE⟩
theorem g_consT {t : Tg} {ts : Tgs} {em : β → List D} {f : α → σ → σ} {g : β → σ → σ} (h1 : XG G Φ t Φ1 ea f) (h2 : XGs G Φ1 ts Φ2 em g) : XGs G Φ (.cons t ts) Φ2 (cc ea em) (ucons f g) := fun s ρ a hE => by
  obtain ⟨ρ1, e1, E1⟩ := h1 s ρ a.1 hE
  obtain ⟨ρ2, e2, E2⟩ := h2 _ ρ1 a.2 E1
  exact ⟨ρ2, by simp only [cc, stTs, e1, e2], E2⟩
theorem g_oneT {t : Tg} {f : α → σ → σ} (h1 : XG G Φ t Φ1 ea f) : XGs G Φ (.cons t .nil) Φ1 (c1 ea) f := fun s ρ a hE => by
  obtain ⟨ρ1, e1, E1⟩ := h1 s ρ a hE
  exact ⟨ρ1, by simp only [c1, stTs, e1], E1⟩
theorem g_tupT {ts : Tgs} {em : α → List D} {f : α → σ → σ} (h : XGs G Φ ts Φ1 em f) : XG G Φ (.tup ts) Φ1 (eT em) f := fun s ρ a hE => by
  obtain ⟨ρ1, e1, E1⟩ := h s ρ a hE
  exact ⟨ρ1, by simp only [eT, stT, e1], E1⟩
theorem x_lc {t : Tg} {own : List Nat} {src : I} {ifs : NW.T} {upd : α → σ → σ} {test : σ → Option (Bool × σ)} {el : σ → Option (β × σ)} {it : σ → Option (List α × σ)} (hI : XI G c Φ src Φ1 p ea it) (hg : XG G (wipeS own Φ1) t Φ2 ea upd) (ht : XT G c Φ2 ifs Φ3 true test) (he : XE G c Φ3 e Φ4 K true eb el) (n : K.free = true := by rfl) (hs : subB t.ix own = true := by rfl) :
    XE G c Φ (.lc t own src ifs e) Φ1 .ow p (eL eb) (dlc it upd test el) := fun s ρ w s' hE h => by
  obtain ⟨⟨as, s1⟩, h1, h2⟩ := Option.bind_eq_some_iff.mp h
  obtain ⟨bs, h3, h4⟩ := Option.bind_eq_some_iff.mp h2
  obtain ⟨z, h5, h6⟩ := Option.bind_eq_some_iff.mp h4
  cases h6
  obtain ⟨sr, ρ1, e1, E1, i1, q1⟩ := hI _ _ _ _ hE h1
  unfold gl at h5
  split at h5
  · rename_i hl
    cases h5
    have key : ∀ (as : List α) (bs : List β), walkP (turnP upd test el s1) as = some bs → walkL (fun d ρ => match stT t d ρ with
        | some ρ => (match evT c ifs ρ with
          | some (true, ρ) => (match evE c e ρ with
            | some (r, ρ) => (match r.frz with
              | some d => some ([d], wipeR own ρ)
              | none => none)
            | none => none)
          | some (false, ρ) => some ([], wipeR own ρ)
          | none => none)
        | none => none) (as.map ea) (wipeR own ρ1) = some (bs.map eb, wipeR own ρ1) := by
      intro as
      induction as with
      | nil => intro bs h; cases h; rfl
      | cons a as ih =>
        intro bs h
        obtain ⟨o, k1, k2⟩ := Option.bind_eq_some_iff.mp h
        obtain ⟨r, k3, k4⟩ := Option.bind_eq_some_iff.mp k2
        obtain ⟨⟨tv, st⟩, k5, k6⟩ := Option.bind_eq_some_iff.mp k1
        obtain ⟨ρt, et, Et⟩ := hg s1 _ a (E1.wipeR (is := own))
        obtain ⟨ρt', et', Et', qt⟩ := ht _ _ _ _ Et k5
        obtain ⟨rfl, rfl⟩ := qt rfl
        have hw := wipe_same hs et
        rw [List.map_cons, walkL]
        simp only [et, et']
        cases tv with
        | false =>
          cases k6; cases k4
          simp only [hw, ih _ k3, List.nil_append]
        | true =>
          obtain ⟨⟨v, sv⟩, k7, k8⟩ := Option.bind_eq_some_iff.mp k6
          cases k8; cases k4
          obtain ⟨r', ρv, ev, Ev, rv, qv⟩ := he _ _ _ _ Et' k7
          obtain ⟨rfl, rfl⟩ := qv rfl
          simp only [ev, rv.frz n, hw, ih _ k3, List.map_cons, List.cons_append, List.nil_append]
    refine ⟨.ow (.lst (w.map eb)), ρ1, ?_, E1, rfl, q1⟩
    have hk := key as _ h3
    rw [evE, e1]
    show (match sr.walk _ (wipeR own ρ1) with | some (ds, ρ2) => if ds.length ≤ L24 then some (R.ow (.lst ds), restore ρ1 own ρ2) else none | none => none) = _
    rw [walk_items, i1]
    erw [hk]
    show (if (w.map eb).length ≤ L24 then _ else _) = _
    rw [if_pos (by rw [List.length_map]; exact hl), restore_wipe]
  · cases h5
/-- one whose items change the state -/
theorem x_lcS {t : Tg} {own : List Nat} {src : I} {ifs : NW.T} {upd : α → σ → σ} {test : σ → Option (Bool × σ)} {el : σ → Option (β × σ)} {it : σ → Option (List α × σ)} (hI : XI G c Φ src Φ1 p ea it) (h0 : subS (wipeS own Φ1) Φh = true) (hg : XG G Φh t Φ2 ea upd) (ht : XT G c Φ2 ifs Φ3 p2 test) (h3 : subS (wipeS own Φ3) Φh = true) (he : XE G c Φ3 e Φ4 K p3 eb el) (h4 : subS (wipeS own Φ4) Φh = true) (n : K.free = true := by rfl) :
    XE G c Φ (.lc t own src ifs e) (wipeS own Φh) .ow false (eL eb) (dlcS it upd test el) := fun s ρ w s' hE h => by
  obtain ⟨⟨as, s1⟩, h1, h2⟩ := Option.bind_eq_some_iff.mp h
  obtain ⟨⟨bs, s2⟩, h3', h4'⟩ := Option.bind_eq_some_iff.mp h2
  obtain ⟨z, h5, h6⟩ := Option.bind_eq_some_iff.mp h4'
  cases h6
  obtain ⟨sr, ρ1, e1, E1, i1, q1⟩ := hI _ _ _ _ hE h1
  unfold gl at h5
  split at h5
  · rename_i hl
    cases h5
    have key : ∀ (as : List α) (bs : List β) (s s2 : σ) (ρ : Rho), Env G Φh s ρ → walkS upd test el as s = some (bs, s2) → ∃ ρ2, walkL (fun d ρ => match stT t d ρ with
        | some ρ => (match evT c ifs ρ with
          | some (true, ρ) => (match evE c e ρ with
            | some (r, ρ) => (match r.frz with
              | some d => some ([d], wipeR own ρ)
              | none => none)
            | none => none)
          | some (false, ρ) => some ([], wipeR own ρ)
          | none => none)
        | none => none) (as.map ea) ρ = some (bs.map eb, ρ2) ∧ Env G Φh s2 ρ2 := by
      intro as
      induction as with
      | nil => intro bs s s2 ρ E h; cases h; exact ⟨ρ, rfl, E⟩
      | cons a as ih =>
        intro bs s s2 ρ E h
        obtain ⟨⟨tv, st⟩, k5, k6⟩ := Option.bind_eq_some_iff.mp h
        obtain ⟨ρt, et, Et⟩ := hg s _ a E
        obtain ⟨ρt', et', Et', qt⟩ := ht _ _ _ _ Et k5
        rw [List.map_cons, walkL]
        simp only [et, et']
        cases tv with
        | false =>
          obtain ⟨ρ2, k1, k2⟩ := ih _ _ _ _ ((Et'.wipeR (is := own)).sub h3) k6
          exact ⟨ρ2, by simp only [k1, List.nil_append], k2⟩
        | true =>
          obtain ⟨⟨v, sv⟩, k7, k8⟩ := Option.bind_eq_some_iff.mp k6
          obtain ⟨⟨vs, sw⟩, k9, k10⟩ := Option.bind_eq_some_iff.mp k8
          cases k10
          obtain ⟨r', ρv, ev, Ev, rv, qv⟩ := he _ _ _ _ Et' k7
          obtain ⟨ρ2, k1, k2⟩ := ih _ _ _ _ ((Ev.wipeR (is := own)).sub h4) k9
          exact ⟨ρ2, by simp only [ev, rv.frz n, k1, List.map_cons, List.cons_append, List.nil_append], k2⟩
    obtain ⟨ρ2, k1, k2⟩ := key _ _ _ _ _ ((E1.wipeR (is := own)).sub h0) h3'
    refine ⟨.ow (.lst (bs.map eb)), restore ρ1 own ρ2, ?_, k2.restore, rfl, .no⟩
    rw [evE, e1]
    show (match sr.walk _ (wipeR own ρ1) with | some (ds, ρ2) => if ds.length ≤ L24 then some (R.ow (.lst ds), restore ρ1 own ρ2) else none | none => none) = _
    rw [walk_items, i1]
    erw [k1]
    show (if (bs.map eb).length ≤ L24 then _ else _) = _
    rw [if_pos (by rw [List.length_map]; exact hl)]
  · cases h5
theorem boolsD_map : ∀ bs : List Bool, boolsD (bs.map D.bl) = some bs
  | [] => rfl
  | b :: bs => by simp only [List.map_cons, boolsD, boolsD_map bs]
theorem gn_items {t : Tg} {own : List Nat} {ifs : NW.T} {upd : α → σ → σ} {test : σ → Option (Bool × σ)} {el : σ → Option (β × σ)} {s1 : σ} {ρ1 : Rho} (E1 : Env G Φ1 s1 ρ1) (hg : XG G (wipeS own (frzS Φ1)) t Φ2 ea upd) (ht : XT G c Φ2 ifs Φ3 p2 test) (he : XE G c Φ3 e Φ4 .fz p3 eb el) :
    ∀ (as : List α) (bs : List β), walkP (turnP upd test el s1) as = some bs → outL (fun d => match stT t d (wipeR own (frzR ρ1)) with
        | some ρ => (match evT c ifs ρ with
          | some (true, ρ) => (match evE c e ρ with
            | some (.fz d, _) => some [d]
            | _ => none)
          | some (false, _) => some []
          | none => none)
        | none => none) (as.map ea) = some (bs.map eb) := by
  intro as
  induction as with
  | nil => intro bs h; cases h; rfl
  | cons a as ih =>
    intro bs h
    obtain ⟨o, k1, k2⟩ := Option.bind_eq_some_iff.mp h
    obtain ⟨r, k3, k4⟩ := Option.bind_eq_some_iff.mp k2
    obtain ⟨⟨tv, st⟩, k5, k6⟩ := Option.bind_eq_some_iff.mp k1
    obtain ⟨ρt, et, Et⟩ := hg s1 _ a (E1.frz.wipeR (is := own))
    obtain ⟨ρt', et', Et', qt⟩ := ht _ _ _ _ Et k5
    rw [List.map_cons, outL]
    simp only [et, et']
    cases tv with
    | false =>
      cases k6; cases k4
      simp only [ih _ k3, List.nil_append]
    | true =>
      obtain ⟨⟨v, sv⟩, k7, k8⟩ := Option.bind_eq_some_iff.mp k6
      cases k8; cases k4
      obtain ⟨r', ρv, ev, Ev, rv, qv⟩ := he _ _ _ _ Et' k7
      cases rv
      simp only [ev, ih _ k3, List.map_cons, List.cons_append, List.nil_append]
theorem x_gnTup {t : Tg} {own : List Nat} {src : I} {ifs : NW.T} {upd : α → σ → σ} {test : σ → Option (Bool × σ)} {el : σ → Option (β × σ)} {it : σ → Option (List α × σ)} (hb : ∀ bs : List β, D.purL (bs.map eb) = true) (hI : XI G c Φ src Φ1 p ea it) (hg : XG G (wipeS own (frzS Φ1)) t Φ2 ea upd) (ht : XT G c Φ2 ifs Φ3 p2 test) (he : XE G c Φ3 e Φ4 .fz p3 eb el) :
    XE G c Φ (.gn .tup t own src ifs e) Φ1 .fz p (eV eb) (dlc it upd test el) := fun s ρ w s' hE h => by
  obtain ⟨⟨as, s1⟩, h1, h2⟩ := Option.bind_eq_some_iff.mp h
  obtain ⟨bs, h3, h4⟩ := Option.bind_eq_some_iff.mp h2
  obtain ⟨z, h5, h6⟩ := Option.bind_eq_some_iff.mp h4
  cases h6
  obtain ⟨sr, ρ1, e1, E1, i1, q1⟩ := hI _ _ _ _ hE h1
  unfold gl at h5
  split at h5
  · rename_i hl
    cases h5
    refine ⟨.fz (.tup (w.map eb)), ρ1, ?_, E1, rfl, q1⟩
    have hk := gn_items E1 hg ht he as _ h3
    rw [evE, e1]
    show (match sr.out _ with | some ds => if ds.length ≤ L24 then (if D.purL ds then some (R.fz (.tup ds), ρ1) else none) else none | none => none) = _
    rw [out_items, i1]
    erw [hk]
    show (if (w.map eb).length ≤ L24 then (if D.purL (w.map eb) then _ else _) else _) = _
    rw [if_pos (by rw [List.length_map]; exact hl), if_pos (hb w)]
  · cases h5
def dany (x : σ → Option (List Bool × σ)) : σ → Option (Bool × σ) := fun s => (x s).bind fun q => some (q.1.any id, q.2)
def dall (x : σ → Option (List Bool × σ)) : σ → Option (Bool × σ) := fun s => (x s).bind fun q => some (q.1.all id, q.2)
theorem x_gnAny {t : Tg} {own : List Nat} {src : I} {ifs : NW.T} {upd : α → σ → σ} {test : σ → Option (Bool × σ)} {el : σ → Option (Bool × σ)} {it : σ → Option (List α × σ)} (hI : XI G c Φ src Φ1 p ea it) (hg : XG G (wipeS own (frzS Φ1)) t Φ2 ea upd) (ht : XT G c Φ2 ifs Φ3 p2 test) (he : XE G c Φ3 e Φ4 .fz p3 D.bl el) :
    XE G c Φ (.gn .any t own src ifs e) Φ1 .fz p D.bl (dany (dlc it upd test el)) := fun s ρ w s' hE h => by
  obtain ⟨⟨bs', s2⟩, h0, h00⟩ := Option.bind_eq_some_iff.mp h
  obtain ⟨⟨as, s1⟩, h1, h2⟩ := Option.bind_eq_some_iff.mp h0
  obtain ⟨bs, h3, h4⟩ := Option.bind_eq_some_iff.mp h2
  obtain ⟨z, h5, h6⟩ := Option.bind_eq_some_iff.mp h4
  cases h6
  obtain ⟨sr, ρ1, e1, E1, i1, q1⟩ := hI _ _ _ _ hE h1
  unfold gl at h5
  split at h5
  · rename_i hl
    cases h5; cases h00
    refine ⟨.fz (.bl (bs'.any id)), ρ1, ?_, E1, rfl, q1⟩
    have hk := gn_items E1 hg ht he as _ h3
    rw [evE, e1]
    show (match sr.out _ with | some ds => if ds.length ≤ L24 then (match boolsD ds with | some bs => some (R.fz (.bl (bs.any id)), ρ1) | none => none) else none | none => none) = _
    rw [out_items, i1]
    erw [hk]
    show (if (bs'.map D.bl).length ≤ L24 then (match boolsD (bs'.map D.bl) with | some bs => some (R.fz (.bl (bs.any id)), ρ1) | none => none) else _) = _
    rw [if_pos (by rw [List.length_map]; exact hl), boolsD_map]
  · cases h5
theorem x_gnAll {t : Tg} {own : List Nat} {src : I} {ifs : NW.T} {upd : α → σ → σ} {test : σ → Option (Bool × σ)} {el : σ → Option (Bool × σ)} {it : σ → Option (List α × σ)} (hI : XI G c Φ src Φ1 p ea it) (hg : XG G (wipeS own (frzS Φ1)) t Φ2 ea upd) (ht : XT G c Φ2 ifs Φ3 p2 test) (he : XE G c Φ3 e Φ4 .fz p3 D.bl el) :
    XE G c Φ (.gn .all t own src ifs e) Φ1 .fz p D.bl (dall (dlc it upd test el)) := fun s ρ w s' hE h => by
  obtain ⟨⟨bs', s2⟩, h0, h00⟩ := Option.bind_eq_some_iff.mp h
  obtain ⟨⟨as, s1⟩, h1, h2⟩ := Option.bind_eq_some_iff.mp h0
  obtain ⟨bs, h3, h4⟩ := Option.bind_eq_some_iff.mp h2
  obtain ⟨z, h5, h6⟩ := Option.bind_eq_some_iff.mp h4
  cases h6
  obtain ⟨sr, ρ1, e1, E1, i1, q1⟩ := hI _ _ _ _ hE h1
  unfold gl at h5
  split at h5
  · rename_i hl
    cases h5; cases h00
    refine ⟨.fz (.bl (bs'.all id)), ρ1, ?_, E1, rfl, q1⟩
    have hk := gn_items E1 hg ht he as _ h3
    rw [evE, e1]
    show (match sr.out _ with | some ds => if ds.length ≤ L24 then (match boolsD ds with | some bs => some (R.fz (.bl (bs.all id)), ρ1) | none => none) else none | none => none) = _
    rw [out_items, i1]
    erw [hk]
    show (if (bs'.map D.bl).length ≤ L24 then (match boolsD (bs'.map D.bl) with | some bs => some (R.fz (.bl (bs.all id)), ρ1) | none => none) else _) = _
    rw [if_pos (by rw [List.length_map]; exact hl), boolsD_map]
  · cases h5
end
end NW
namespace NW
def Kd.mine : Kd → Bool
  | .ow => true
  | .bo _ => true
  | _ => false
def endO : R → Option (Bool × D)
  | .fz d => some (false, d)
  | .ow d => some (true, d)
  | _ => none
theorem endR_eq (k : Option Nat) (r : R) (ρ : Rho) : endR k r ρ = match endO r with
  | some (own, d) => (match k with
    | none => some (own, d, none)
    | some k => (match ρ[k]? with
      | some (.ow x) => some (own, d, some x)
      | _ => none))
  | none => none := rfl
inductive Res (σ β : Type) where | nx (s : σ) | rt (v : β) (s : σ) | bk (s : σ) | ct (s : σ)
section
variable {σ α β γ δ : Type}
def XR (G : List (σ → D)) (Φn Φl Φr : List St) (K : Kd) (eb : β → D) (r : Res σ β) (o : Option Out) : Prop := match r with
  | .nx s => ∃ ρ, o = some (.nx ρ) ∧ Env G Φn s ρ
  | .bk s => ∃ ρ, o = some (.bk ρ) ∧ Env G Φl s ρ
  | .ct s => ∃ ρ, o = some (.ct ρ) ∧ Env G Φl s ρ
  | .rt v s => ∃ q ρ, o = some (.rt q ρ) ∧ RK K (eb v) q ρ ∧ Env G Φr s ρ
def XS (G : List (σ → D)) (c : Cl) (L : Nat) (Φ : List St) (st : S) (Φn Φl Φr : List St) (K : Kd) (eb : β → D) (den : σ → Option (Res σ β)) : Prop :=
  ∀ s ρ r, Env G Φ s ρ → den s = some r → XR G Φn Φl Φr K eb r (evS L c st ρ)
def XSs (G : List (σ → D)) (c : Cl) (L : Nat) (Φ : List St) (st : Ss) (Φn Φl Φr : List St) (K : Kd) (eb : β → D) (den : σ → Option (Res σ β)) : Prop :=
  ∀ s ρ r, Env G Φ s ρ → den s = some r → XR G Φn Φl Φr K eb r (evSs L c st ρ)
def zn : σ → Option (Res σ β) := fun s => some (.nx s)
def sq (x y : σ → Option (Res σ β)) : σ → Option (Res σ β) := fun s => (x s).bind fun r => match r with
  | .nx s' => y s'
  | .rt v s' => some (.rt v s')
  | .bk s' => some (.bk s')
  | .ct s' => some (.ct s')
def zex (x : σ → Option (α × σ)) : σ → Option (Res σ β) := fun s => (x s).bind fun q => some (.nx q.2)
def zset (u : α → σ → σ) (x : σ → Option (α × σ)) : σ → Option (Res σ β) := fun s => (x s).bind fun q => some (.nx (u q.1 q.2))
def zpar2 (u : α → σ → σ) (v : γ → σ → σ) (x : σ → Option (α × σ)) (y : σ → Option (γ × σ)) : σ → Option (Res σ β) := fun s => (x s).bind fun q => (y q.2).bind fun p => some (.nx (v p.1 (u q.1 p.2)))
def zpar3 (u : α → σ → σ) (v : γ → σ → σ) (w : δ → σ → σ) (x : σ → Option (α × σ)) (y : σ → Option (γ × σ)) (z : σ → Option (δ × σ)) : σ → Option (Res σ β) := fun s => (x s).bind fun q => (y q.2).bind fun p => (z p.2).bind fun o => some (.nx (w o.1 (v p.1 (u q.1 o.2))))
def zaug (g : σ → α) (u : α → σ → σ) (f : α → γ → Option α) (y : σ → Option (γ × σ)) : σ → Option (Res σ β) := fun s => (y s).bind fun q => (f (g s) q.1).bind fun v => some (.nx (u v q.2))
def setL (xs : List α) (k : Int) (v : α) : Option (List α) := match ixN xs.length k with
  | some j => some (xs.set j v)
  | none => none
def getL (xs : List α) (k : Int) : Option α := match ixN xs.length k with
  | some j => xs[j]?
  | none => none
def zsetI (g : σ → List α) (u : List α → σ → σ) (k : σ → Option (Int × σ)) (x : σ → Option (α × σ)) : σ → Option (Res σ β) := fun s => (x s).bind fun q => (k q.2).bind fun p => (setL (g p.2) p.1 q.1).bind fun l => some (.nx (u l p.2))
def zaugI (g : σ → List Int) (u : List Int → σ → σ) (f : Int → Int → Option Int) (k y : σ → Option (Int × σ)) : σ → Option (Res σ β) := fun s => (k s).bind fun a => (getL (g a.2) a.1).bind fun b => (y a.2).bind fun d => (f b d.1).bind fun v => (setL (g d.2) a.1 v).bind fun l => some (.nx (u l d.2))
def gapp (xs : List α) (v : α) : Option (List α) := if xs.length < L24 then some (xs ++ [v]) else none
def zapp (g : σ → List α) (u : List α → σ → σ) (x : σ → Option (α × σ)) : σ → Option (Res σ β) := fun s => (x s).bind fun q => (gapp (g q.2) q.1).bind fun l => some (.nx (u l q.2))
def gext (xs ys : List α) : Option (List α) := if xs.length + ys.length ≤ L24 then some (xs ++ ys) else none
def zext (g : σ → List α) (u : List α → σ → σ) (x : σ → Option (List α × σ)) : σ → Option (Res σ β) := fun s => (x s).bind fun q => (gext (g q.2) q.1).bind fun l => some (.nx (u l q.2))
def zret (x : σ → Option (β × σ)) : σ → Option (Res σ β) := fun s => (x s).bind fun q => some (.rt q.1 q.2)
def zretN (v : β) : σ → Option (Res σ β) := fun s => some (.rt v s)
def zif (t : σ → Option (Bool × σ)) (x y : σ → Option (Res σ β)) : σ → Option (Res σ β) := fun s => (t s).bind fun q => match q.1 with
  | true => x q.2
  | false => y q.2
def whlD (t : σ → Option (Bool × σ)) (b : σ → Option (Res σ β)) : Nat → σ → Option (Res σ β)
  | 0, _ => none
  | n + 1, s => (t s).bind fun q => match q.1 with
    | true => (b q.2).bind fun r => match r with
      | .nx s => whlD t b n s
      | .ct s => whlD t b n s
      | .bk s => some (.nx s)
      | .rt v s => some (.rt v s)
    | false => some (.nx q.2)
def forD (u : α → σ → σ) (b : σ → Option (Res σ β)) : List α → σ → Option (Res σ β)
  | [], s => some (.nx s)
  | a :: as, s => (b (u a s)).bind fun r => match r with
    | .nx s => forD u b as s
    | .ct s => forD u b as s
    | .bk s => some (.nx s)
    | .rt v s => some (.rt v s)
def zfor (it : σ → Option (List α × σ)) (u : α → σ → σ) (b : σ → Option (Res σ β)) : σ → Option (Res σ β) := fun s => (it s).bind fun q => forD u b q.1 q.2
def zbk : σ → Option (Res σ β) := fun s => some (.bk s)
def zct : σ → Option (Res σ β) := fun s => some (.ct s)
def fnD (init : α → σ) (dn : Option β) (den : σ → Option (Res σ β)) : α → Option β := fun a => (den (init a)).bind fun r => match r with
  | .rt v _ => some v
  | .nx _ => dn
  | _ => none
def fnDio (init : γ → α → σ) (gp : σ → γ) (dn : Option β) (den : σ → Option (Res σ β)) : γ → α → Option (β × γ) := fun q a => (den (init q a)).bind fun r => match r with
  | .rt v s => some (v, gp s)
  | .nx s => dn.bind fun v => some (v, gp s)
  | _ => none
end
section
variable {σ α β γ δ : Type} {G : List (σ → D)} {c : Cl} {L : Nat} {Φ Φ1 Φ2 Φ3 Φ4 Φn Φl Φr Φh : List St} {ea : α → D} {eb : β → D} {ec : γ → D} {ed : δ → D} {K K1 K2 K3 Kf : Kd} {p p1 p2 p3 : Bool} {e a b d : E} {x : σ → Option (α × σ)} {y : σ → Option (γ × σ)} {z : σ → Option (δ × σ)}
theorem XR.weak {Φn' : List St} {r : Res σ β} {o : Option Out} (h : XR G Φn Φl Φr Kf eb r o) (hs : subS Φn Φn' = true) : XR G Φn' Φl Φr Kf eb r o := by
  cases r with
  | nx s => obtain ⟨ρ, e, E⟩ := h; exact ⟨ρ, e, E.sub hs⟩
  | bk s => exact h
  | ct s => exact h
  | rt v s => exact h
theorem n_nil : XSs (β := β) G c L Φ .nil Φ Φl Φr Kf eb zn := fun s ρ r hE h => by cases h; exact ⟨ρ, rfl, hE⟩
theorem n_cons {st : S} {ss : Ss} {x y : σ → Option (Res σ β)} (hx : XS G c L Φ st Φ1 Φl Φr Kf eb x) (hy : XSs G c L Φ1 ss Φn Φl Φr Kf eb y) : XSs G c L Φ (.cons st ss) Φn Φl Φr Kf eb (sq x y) := fun s ρ r hE h => by
  obtain ⟨r1, h1, h2⟩ := Option.bind_eq_some_iff.mp h
  have k := hx _ _ _ hE h1
  cases r1 with
  | nx s1 =>
    obtain ⟨ρ1, e1, E1⟩ := k
    have k2 := hy _ _ _ E1 h2
    rw [evSs, e1]
    exact k2
  | bk s1 =>
    cases h2
    obtain ⟨ρ1, e1, E1⟩ := k
    exact ⟨ρ1, by rw [evSs, e1], E1⟩
  | ct s1 =>
    cases h2
    obtain ⟨ρ1, e1, E1⟩ := k
    exact ⟨ρ1, by rw [evSs, e1], E1⟩
  | rt v s1 =>
    cases h2
    obtain ⟨q, ρ1, e1, k1, E1⟩ := k
    exact ⟨q, ρ1, by rw [evSs, e1], k1, E1⟩
theorem n_weak {ss : Ss} {x : σ → Option (Res σ β)} {Φn' : List St} (hx : XSs G c L Φ ss Φn Φl Φr Kf eb x) (h : subS Φn Φn' = true := by rfl) : XSs G c L Φ ss Φn' Φl Φr Kf eb x := fun s ρ r hE h' => (hx _ _ _ hE h').weak h
/-- started from more -/
theorem n_from {ss : Ss} {x : σ → Option (Res σ β)} {Φ' : List St} (hx : XSs G c L Φ ss Φn Φl Φr Kf eb x) (h : subS Φ' Φ = true := by rfl) : XSs G c L Φ' ss Φn Φl Φr Kf eb x := fun s ρ r hE h' => hx _ _ _ (hE.sub h) h'
theorem z_ex (hx : XE G c Φ e Φ1 K p ea x) : XS (β := β) G c L Φ (.ex e) Φ1 Φl Φr Kf eb (zex x) := fun s ρ r hE h => by
  obtain ⟨⟨v, s1⟩, h1, h2⟩ := Option.bind_eq_some_iff.mp h
  cases h2
  obtain ⟨r, ρ1, e1, E1, r1, q1⟩ := hx _ _ _ _ hE h1
  exact ⟨ρ1, by rw [evS, e1], E1⟩
theorem lt_of_g {i : Nat} {g : σ → D} {s : σ} {ρ : Rho} (hE : Env G Φ s ρ) (hg : G[i]? = some g) : i < ρ.length := by
  rw [hE.len]
  rw [List.getElem?_eq_some_iff] at hg
  exact hg.1
theorem z_set {i : Nat} {g : σ → α} {u : α → σ → σ} (hg : G[i]? = some fun s => ea (g s)) (hs : ∀ v s, g (u v s) = v) (hk : ∀ v, Keep (u v) G (some i)) (hx : XE G c Φ e Φ1 K p ea x) (n : K.free = true := by rfl) : XS (β := β) G c L Φ (.set (.nm i) e) (Φ1.set i K.st) Φl Φr Kf eb (zset u x) := fun s ρ r hE h => by
  obtain ⟨⟨v, s1⟩, h1, h2⟩ := Option.bind_eq_some_iff.mp h
  cases h2
  obtain ⟨r, ρ1, e1, E1, r1, q1⟩ := hx _ _ _ _ hE h1
  obtain ⟨x, k1, k2⟩ := r1.put n (lt_of_g E1 hg)
  exact ⟨ρ1.set i x, by rw [evS, e1]; simp only [k1], (hk v).put E1 hg (by rw [hs]; exact k2)⟩
theorem z_setT {ts : Tgs} {u : α → σ → σ} (hx : XE G c Φ e Φ1 .fz p ea x) (ht : XG G Φ1 (.tup ts) Φ2 ea u) : XS (β := β) G c L Φ (.set (.tup ts) e) Φ2 Φl Φr Kf eb (zset u x) := fun s ρ r hE h => by
  obtain ⟨⟨v, s1⟩, h1, h2⟩ := Option.bind_eq_some_iff.mp h
  cases h2
  obtain ⟨r, ρ1, e1, E1, r1, q1⟩ := hx _ _ _ _ hE h1
  cases r1
  obtain ⟨ρ2, k1, k2⟩ := ht _ _ v E1
  exact ⟨ρ2, by rw [evS, e1]; simp only [k1]; simp, k2⟩
theorem z_par2 {i j : Nat} {g : σ → α} {u : α → σ → σ} {g2 : σ → γ} {u2 : γ → σ → σ} (hg : G[i]? = some fun s => ea (g s)) (hs : ∀ v s, g (u v s) = v) (hk : ∀ v, Keep (u v) G (some i)) (hg2 : G[j]? = some fun s => ec (g2 s)) (hs2 : ∀ v s, g2 (u2 v s) = v) (hk2 : ∀ v, Keep (u2 v) G (some j))
    (hx : XE G c Φ a Φ1 K1 p1 ea x) (hy : XE G c Φ1 b Φ2 K2 p2 ec y) (n1 : K1.free = true := by rfl) (n2 : K2.free = true := by rfl) : XS (β := β) G c L Φ (.par [i, j] (.cons a (.cons b .nil))) ((Φ2.set i K1.st).set j K2.st) Φl Φr Kf eb (zpar2 u u2 x y) := fun s ρ r hE h => by
  obtain ⟨⟨v, s1⟩, h1, h2⟩ := Option.bind_eq_some_iff.mp h
  obtain ⟨⟨w, s2⟩, h3, h4⟩ := Option.bind_eq_some_iff.mp h2
  cases h4
  obtain ⟨r, ρ1, e1, E1, r1, q1⟩ := hx _ _ _ _ hE h1
  obtain ⟨q, ρ2, e2, E2, r2, q2⟩ := hy _ _ _ _ E1 h3
  obtain ⟨o1, k1, k2⟩ := (r1.move (.inl n1)).put n1 (lt_of_g E2 hg)
  have E3 := (hk v).put E2 hg (by rw [hs]; exact k2)
  obtain ⟨o2, k3, k4⟩ := (r2.move (.inl n2)).put n2 (lt_of_g E3 hg2)
  refine ⟨_, ?_, (hk2 w).put E3 hg2 (by rw [hs2]; exact k4)⟩
  rw [evS, evA, e1]
  simp only [evA, e2, putAll, k1, k3]
theorem z_par3 {i j k : Nat} {g : σ → α} {u : α → σ → σ} {g2 : σ → γ} {u2 : γ → σ → σ} {g3 : σ → δ} {u3 : δ → σ → σ} (hg : G[i]? = some fun s => ea (g s)) (hs : ∀ v s, g (u v s) = v) (hk : ∀ v, Keep (u v) G (some i)) (hg2 : G[j]? = some fun s => ec (g2 s)) (hs2 : ∀ v s, g2 (u2 v s) = v) (hk2 : ∀ v, Keep (u2 v) G (some j))
    (hg3 : G[k]? = some fun s => ed (g3 s)) (hs3 : ∀ v s, g3 (u3 v s) = v) (hk3 : ∀ v, Keep (u3 v) G (some k)) (hx : XE G c Φ a Φ1 K1 p1 ea x) (hy : XE G c Φ1 b Φ2 K2 p2 ec y) (hz : XE G c Φ2 d Φ3 K3 p3 ed z) (n1 : K1.free = true := by rfl) (n2 : K2.free = true := by rfl) (n3 : K3.free = true := by rfl) :
    XS (β := β) G c L Φ (.par [i, j, k] (.cons a (.cons b (.cons d .nil)))) (((Φ3.set i K1.st).set j K2.st).set k K3.st) Φl Φr Kf eb (zpar3 u u2 u3 x y z) := fun s ρ r hE h => by
  obtain ⟨⟨v, s1⟩, h1, h2⟩ := Option.bind_eq_some_iff.mp h
  obtain ⟨⟨w, s2⟩, h3, h4⟩ := Option.bind_eq_some_iff.mp h2
  obtain ⟨⟨t, s3⟩, h5, h6⟩ := Option.bind_eq_some_iff.mp h4
  cases h6
  obtain ⟨r, ρ1, e1, E1, r1, q1⟩ := hx _ _ _ _ hE h1
  obtain ⟨q, ρ2, e2, E2, r2, q2⟩ := hy _ _ _ _ E1 h3
  obtain ⟨o, ρ3, e3, E3, r3, q3⟩ := hz _ _ _ _ E2 h5
  obtain ⟨o1, k1, k2⟩ := (r1.move (.inl n1)).put n1 (lt_of_g E3 hg)
  have E4 := (hk v).put E3 hg (by rw [hs]; exact k2)
  obtain ⟨o2, k3, k4⟩ := (r2.move (.inl n2)).put n2 (lt_of_g E4 hg2)
  have E5 := (hk2 w).put E4 hg2 (by rw [hs2]; exact k4)
  obtain ⟨o3, k5, k6⟩ := (r3.move (.inl n3)).put n3 (lt_of_g E5 hg3)
  refine ⟨_, ?_, (hk3 t).put E5 hg3 (by rw [hs3]; exact k6)⟩
  rw [evS, evA, e1]
  simp only [evA, e2, e3, putAll, k1, k3, k5]
theorem z_aug {i : Nat} {o : O2} {g : σ → α} {u : α → σ → σ} {f : α → γ → Option α} (hf : ∀ v w t, f v w = some t → apI o (ea v) (ec w) = some (false, ea t)) (hg : G[i]? = some fun s => ea (g s)) (hs : ∀ v s, g (u v s) = v) (hk : ∀ v, Keep (u v) G (some i)) (hi : Φ[i]? = some .fz) (hy : XE G c Φ e Φ1 K p ec y) : XS (β := β) G c L Φ (.aug i o e) (Φ1.set i .fz) Φl Φr Kf eb (zaug g u f y) := fun s ρ r hE h => by
  obtain ⟨⟨v, s1⟩, h1, h2⟩ := Option.bind_eq_some_iff.mp h
  obtain ⟨t, h3, h4⟩ := Option.bind_eq_some_iff.mp h2
  cases h4
  obtain ⟨x, i0, j0⟩ := hE.get hg hi
  cases j0
  obtain ⟨r, ρ1, e1, E1, r1, q1⟩ := hy _ _ _ _ hE h1
  have hp : put i (mk (false, ea t)) ρ1 = some (ρ1.set i (.fz (ea t))) := if_pos (lt_of_g E1 hg)
  exact ⟨ρ1.set i (.fz (ea t)), by rw [evS, i0]; simp only [e1, r1.get, hf _ _ _ h3, hp], (hk t).put E1 hg (by rw [hs]; rfl)⟩
theorem setItem_map {xs : List α} {k : Int} {v : α} {l : List α} (h : setL xs k v = some l) : setItem (eL ea xs) (.int k) (ea v) = some (eL ea l) := by
  unfold setL at h
  split at h
  · rename_i j e
    cases h
    simp only [setItem, eL, List.length_map, e, List.map_set]
  · cases h
theorem z_setI {i : Nat} {g : σ → List α} {u : List α → σ → σ} {k : E} {dk : σ → Option (Int × σ)} (hg : G[i]? = some fun s => eL ea (g s)) (hs : ∀ v s, g (u v s) = v) (hk : ∀ v, Keep (u v) G (some i)) (hx : XE G c Φ e Φ1 K p1 ea x) (hd : XE G c Φ1 k Φ2 .fz p2 D.int dk) (i1 : Φ1[i]? = some .ow) (i2 : Φ2[i]? = some .ow) (n : K.free = true := by rfl) :
    XS (β := β) G c L Φ (.setI i k e) (Φ2.set i .ow) Φl Φr Kf eb (zsetI g u dk x) := fun s ρ r hE h => by
  obtain ⟨⟨v, s1⟩, h1, h2⟩ := Option.bind_eq_some_iff.mp h
  obtain ⟨⟨w, s2⟩, h3, h4⟩ := Option.bind_eq_some_iff.mp h2
  obtain ⟨l, h5, h6⟩ := Option.bind_eq_some_iff.mp h4
  cases h6
  obtain ⟨r, ρ1, e1, E1, r1, q1⟩ := hx _ _ _ _ hE h1
  obtain ⟨q, ρ2, e2, E2, r2, q2⟩ := hd _ _ _ _ E1 h3
  cases r2
  obtain ⟨x1, g1, g2⟩ := E1.get hg i1
  obtain ⟨x2, g3, g4⟩ := E2.get hg i2
  cases g2; cases g4
  exact ⟨ρ2.set i (.ow (eL ea l)), by rw [evS, e1]; simp only [r1.frz n, g1, e2, g3, setItem_map h5], (hk l).put E2 hg (by rw [hs]; rfl)⟩
theorem getL_map {xs : List α} {k : Int} {v : α} (h : getL xs k = some v) : ap2 .idx (eL ea xs) (.int k) = some (false, ea v) := by
  unfold getL at h
  split at h
  · rename_i j e
    simp only [ap2, eL, List.length_map, e, List.getElem?_map, h, Option.map_some]
  · cases h
theorem z_augI {i : Nat} {o : O2} {g : σ → List Int} {u : List Int → σ → σ} {k : E} {dk y : σ → Option (Int × σ)} {f : Int → Int → Option Int} (hf : ∀ v w t, f v w = some t → apI o (.int v) (.int w) = some (false, .int t)) (hg : G[i]? = some fun s => eL D.int (g s)) (hs : ∀ v s, g (u v s) = v) (hk : ∀ v, Keep (u v) G (some i)) (i0 : Φ[i]? = some .ow) (hd : XE G c Φ k Φ1 .fz p1 D.int dk) (hy : XE G c Φ1 e Φ2 K p2 D.int y) (i1 : Φ1[i]? = some .ow) (i2 : Φ2[i]? = some .ow) :
    XS (β := β) G c L Φ (.augI i k o e) (Φ2.set i .ow) Φl Φr Kf eb (zaugI g u f dk y) := fun s ρ r hE h => by
  obtain ⟨⟨v, s1⟩, h1, h2⟩ := Option.bind_eq_some_iff.mp h
  obtain ⟨b0, h3, h4⟩ := Option.bind_eq_some_iff.mp h2
  obtain ⟨⟨w, s2⟩, h5, h6⟩ := Option.bind_eq_some_iff.mp h4
  obtain ⟨t, h7, h8⟩ := Option.bind_eq_some_iff.mp h6
  obtain ⟨l, h9, h10⟩ := Option.bind_eq_some_iff.mp h8
  cases h10
  obtain ⟨x0, g5, g6⟩ := hE.get hg i0
  cases g6
  obtain ⟨r, ρ1, e1, E1, r1, q1⟩ := hd _ _ _ _ hE h1
  obtain ⟨q, ρ2, e2, E2, r2, q2⟩ := hy _ _ _ _ E1 h5
  cases r1
  obtain ⟨x1, g1, g2⟩ := E1.get hg i1
  obtain ⟨x2, g3, g4⟩ := E2.get hg i2
  cases g2; cases g4
  have hl := getL_map (ea := D.int) h3
  exact ⟨ρ2.set i (.ow (eL D.int l)), by rw [evS, g5]; simp only [e1, g1, hl, e2, r2.get, hf _ _ _ h7, g3, setItem_map h9], (hk l).put E2 hg (by rw [hs]; rfl)⟩
theorem z_app {i : Nat} {g : σ → List α} {u : List α → σ → σ} (hg : G[i]? = some fun s => eL ea (g s)) (hs : ∀ v s, g (u v s) = v) (hk : ∀ v, Keep (u v) G (some i)) (i0 : Φ[i]? = some .ow) (hx : XE G c Φ e Φ1 K p ea x) (i1 : Φ1[i]? = some .ow) (n : K.free = true := by rfl) : XS (β := β) G c L Φ (.app i e) (Φ1.set i .ow) Φl Φr Kf eb (zapp g u x) := fun s ρ r hE h => by
  obtain ⟨⟨v, s1⟩, h1, h2⟩ := Option.bind_eq_some_iff.mp h
  obtain ⟨l, h3, h4⟩ := Option.bind_eq_some_iff.mp h2
  cases h4
  obtain ⟨x0, g5, g6⟩ := hE.get hg i0
  cases g6
  obtain ⟨r, ρ1, e1, E1, r1, q1⟩ := hx _ _ _ _ hE h1
  obtain ⟨x1, g1, g2⟩ := E1.get hg i1
  cases g2
  unfold gapp at h3
  split at h3
  · rename_i hl
    cases h3
    refine ⟨ρ1.set i (.ow (eL ea (g s1 ++ [v]))), ?_, (hk _).put E1 hg (by rw [hs]; rfl)⟩
    rw [evS, g5]
    simp only [eL, e1, r1.frz n, g1, List.length_map, hl, if_true, List.map_append, List.map_cons, List.map_nil]
  · cases h3
theorem z_ext {i : Nat} {g : σ → List α} {u : List α → σ → σ} {x : σ → Option (List α × σ)} (hg : G[i]? = some fun s => eL ea (g s)) (hs : ∀ v s, g (u v s) = v) (hk : ∀ v, Keep (u v) G (some i)) (i0 : Φ[i]? = some .ow) (hx : XE G c Φ e Φ1 K p (eL ea) x) (i1 : Φ1[i]? = some .ow) (n : K.mine = true := by rfl) : XS (β := β) G c L Φ (.ext i e) (Φ1.set i .ow) Φl Φr Kf eb (zext g u x) := fun s ρ r hE h => by
  obtain ⟨⟨v, s1⟩, h1, h2⟩ := Option.bind_eq_some_iff.mp h
  obtain ⟨l, h3, h4⟩ := Option.bind_eq_some_iff.mp h2
  cases h4
  obtain ⟨x0, g5, g6⟩ := hE.get hg i0
  cases g6
  obtain ⟨r, ρ1, e1, E1, r1, q1⟩ := hx _ _ _ _ hE h1
  obtain ⟨x1, g1, g2⟩ := E1.get hg i1
  cases g2
  have hx : extOf r (eL ea v) = some (v.map ea) := by
    cases K with
    | ow => cases r1; rfl
    | bo i => rw [r1.1]; rfl
    | fz => cases n
    | nw => cases n
    | pk i => cases n
  unfold gext at h3
  split at h3
  · rename_i hl
    cases h3
    refine ⟨ρ1.set i (.ow (eL ea (g s1 ++ v))), ?_, (hk _).put E1 hg (by rw [hs]; rfl)⟩
    rw [evS, g5]
    have hgt := r1.get
    simp only [eL] at hx hgt g1 g5 ⊢
    simp only [e1, hgt, hx, g1, List.length_map, hl, if_true, List.map_append]
  · cases h3
theorem z_ret {x : σ → Option (β × σ)} (hx : XE G c Φ e Φ1 Kf p eb x) (h : subS Φ1 Φr = true := by rfl) : XS G c L Φ (.ret e) Φn Φl Φr Kf eb (zret x) := fun s ρ r hE h' => by
  obtain ⟨⟨v, s1⟩, h1, h2⟩ := Option.bind_eq_some_iff.mp h'
  cases h2
  obtain ⟨r, ρ1, e1, E1, r1, q1⟩ := hx _ _ _ _ hE h1
  exact ⟨r, ρ1, by rw [evS, e1], r1, E1.sub h⟩
theorem z_retN (v : β) (hv : eb v = .non) (hK : RK Kf .non (.fz .non) []) (hf : Kf.free = true := by rfl) (h : subS Φ Φr = true := by rfl) : XS G c L Φ .retN Φn Φl Φr Kf eb (zretN v) := fun s ρ r hE h' => by
  cases h'
  exact ⟨.fz .non, ρ, by rw [evS], by rw [hv]; exact hK.move (.inl hf), hE.sub h⟩
theorem z_if {t : NW.T} {u v : Ss} {q : σ → Option (Bool × σ)} {x y : σ → Option (Res σ β)} (ht : XT G c Φ t Φ1 p q) (hx : XSs G c L Φ1 u Φn Φl Φr Kf eb x) (hy : XSs G c L Φ1 v Φn Φl Φr Kf eb y) : XS G c L Φ (.ite t u v) Φn Φl Φr Kf eb (zif q x y) := fun s ρ r hE h => by
  obtain ⟨⟨b, s1⟩, h1, h2⟩ := Option.bind_eq_some_iff.mp h
  obtain ⟨ρ1, e1, E1, q1⟩ := ht _ _ _ _ hE h1
  rw [evS, e1]
  cases b with
  | true => exact hx _ _ _ E1 h2
  | false => exact hy _ _ _ E1 h2
theorem whl_run {t : NW.T} {u : Ss} {q : σ → Option (Bool × σ)} {x : σ → Option (Res σ β)} (ht : XT G c Φ t Φ1 p q) (hx : XSs G c L Φ1 u Φ Φ Φr Kf eb x) (h1 : subS Φ Φn = true) (h2 : subS Φ1 Φn = true) : ∀ (n : Nat) (s : σ) (ρ : Rho) (r : Res σ β), Env G Φ s ρ → whlD q x n s = some r → XR G Φn Φl Φr Kf eb r (runW (evT c t) (evSs L c u) n ρ)
  | 0, _, _, _, _, h => by cases h
  | n + 1, s, ρ, r, hE, h => by
    obtain ⟨⟨b, s1⟩, k1, k2⟩ := Option.bind_eq_some_iff.mp h
    obtain ⟨ρ1, e1, E1, q1⟩ := ht _ _ _ _ hE k1
    rw [runW, e1]
    cases b with
    | false => cases k2; exact ⟨ρ1, rfl, E1.sub h2⟩
    | true =>
      obtain ⟨r1, k3, k4⟩ := Option.bind_eq_some_iff.mp k2
      have k := hx _ _ _ E1 k3
      cases r1 with
      | nx s2 =>
        obtain ⟨ρ2, e2, E2⟩ := k
        simp only [e2]
        exact whl_run ht hx h1 h2 n _ _ _ E2 k4
      | ct s2 =>
        obtain ⟨ρ2, e2, E2⟩ := k
        simp only [e2]
        exact whl_run ht hx h1 h2 n _ _ _ E2 k4
      | bk s2 =>
        obtain ⟨ρ2, e2, E2⟩ := k
        simp only [e2]
        cases k4
        exact ⟨ρ2, rfl, E2.sub h1⟩
      | rt v s2 =>
        obtain ⟨o, ρ2, e2, m2, E2⟩ := k
        simp only [e2]
        cases k4
        exact ⟨o, ρ2, rfl, m2, E2⟩
theorem z_whl {t : NW.T} {u : Ss} {q : σ → Option (Bool × σ)} {x : σ → Option (Res σ β)} (ht : XT G c Φ t Φ1 p q) (hx : XSs G c L Φ1 u Φ Φ Φr Kf eb x) (h1 : subS Φ Φn = true := by rfl) (h2 : subS Φ1 Φn = true := by rfl) : XS G c L Φ (.whl t u) Φn Φl Φr Kf eb (whlD q x L) := fun s ρ r hE h => by
  rw [evS]
  exact whl_run ht hx h1 h2 L _ _ _ hE h
theorem for_run {t : Tg} {u : Ss} {f : α → σ → σ} {x : σ → Option (Res σ β)} (hg : XG G Φ t Φ1 ea f) (hx : XSs G c L Φ1 u Φ Φ Φr Kf eb x) : ∀ (as : List α) (s : σ) (ρ : Rho) (r : Res σ β), Env G Φ s ρ → forD f x as s = some r → XR G Φ Φl Φr Kf eb r (runL (fun d ρ => match stT t d ρ with
      | some ρ => evSs L c u ρ
      | none => none) (as.map ea) ρ)
  | [], _, ρ, _, hE, h => by cases h; exact ⟨ρ, rfl, hE⟩
  | a :: as, s, ρ, r, hE, h => by
    obtain ⟨r1, k3, k4⟩ := Option.bind_eq_some_iff.mp h
    obtain ⟨ρ1, e1, E1⟩ := hg s ρ a hE
    have k := hx _ _ _ E1 k3
    rw [List.map_cons, runL, e1]
    cases r1 with
    | nx s2 =>
      obtain ⟨ρ2, e2, E2⟩ := k
      simp only [e2]
      exact for_run hg hx as _ _ _ E2 k4
    | ct s2 =>
      obtain ⟨ρ2, e2, E2⟩ := k
      simp only [e2]
      exact for_run hg hx as _ _ _ E2 k4
    | bk s2 =>
      obtain ⟨ρ2, e2, E2⟩ := k
      simp only [e2]
      cases k4
      exact ⟨ρ2, rfl, E2⟩
    | rt v s2 =>
      obtain ⟨o, ρ2, e2, m2, E2⟩ := k
      simp only [e2]
      cases k4
      exact ⟨o, ρ2, rfl, m2, E2⟩
theorem z_for {t : Tg} {i : I} {u : Ss} {f : α → σ → σ} {it : σ → Option (List α × σ)} {x : σ → Option (Res σ β)} (hI : XI G c Φ i Φ1 p ea it) (h1 : subS Φ1 Φh = true) (hg : XG G Φh t Φ2 ea f) (hx : XSs G c L Φ2 u Φh Φh Φr Kf eb x) : XS G c L Φ (.for_ t i u) Φh Φl Φr Kf eb (zfor it f x) := fun s ρ r hE h => by
  obtain ⟨⟨as, s1⟩, k1, k2⟩ := Option.bind_eq_some_iff.mp h
  obtain ⟨sr, ρ1, e1, E1, i1, q1⟩ := hI _ _ _ _ hE k1
  have k := for_run (Φl := Φl) hg hx as _ _ _ (E1.sub h1) k2
  rw [evS, e1]
  show XR G Φh Φl Φr Kf eb r (sr.run _ ρ1)
  rw [run_items, i1]
  exact k
theorem z_brk (h : subS Φ Φl = true := by rfl) : XS (β := β) G c L Φ .brk Φn Φl Φr Kf eb zbk := fun s ρ r hE h' => by
  cases h'
  exact ⟨ρ, by rw [evS], hE.sub h⟩
theorem z_cnt (h : subS Φ Φl = true := by rfl) : XS (β := β) G c L Φ .cnt Φn Φl Φr Kf eb zct := fun s ρ r hE h' => by
  cases h'
  exact ⟨ρ, by rw [evS], hE.sub h⟩
theorem z_pass : XS (β := β) G c L Φ .pass Φ Φl Φr Kf eb zn := fun s ρ r hE h' => by
  cases h'
  exact ⟨ρ, by rw [evS], hE⟩
theorem RK.end_ {d : D} {r : R} {ρ : Rho} (h : RK K d r ρ) (hf : K.free = true) : ∃ own, KOwn K own ∧ endO r = some (own, d) := by
  cases K with
  | fz => cases h; exact ⟨false, rfl, rfl⟩
  | ow => cases h; exact ⟨true, rfl, rfl⟩
  | nw => rcases h with rfl | rfl; exact ⟨false, trivial, rfl⟩; exact ⟨true, trivial, rfl⟩
  | bo i => cases hf
  | pk i => cases hf
theorem tc_fn {P : Prog} {i n : Nat} {fn : Fn} {em : α → List D} {init : α → σ} {dn : Option β} {den : σ → Option (Res σ β)} (hP : P[i]? = some fn) (hio : fn.io = none) (hps : ∀ v, (em v).length = fn.ps) (h0 : ∀ v, Env G Φ (init v) (startR fn (em v))) (hb : XSs G (evF L P n) L Φ fn.body Φn Φl Φr Kf eb den) (hd : dn = none ∨ (KOwn Kf false ∧ ∀ v, dn = some v → eb v = .non)) (hf : Kf.free = true := by rfl) : TC (evF L P (n + 1)) i em eb Kf (fnD init dn den) := fun a v h => by
  obtain ⟨r, h1, h2⟩ := Option.bind_eq_some_iff.mp h
  have k := hb _ _ _ (h0 a) h1
  have e : evF L P (n + 1) i none (em a) = runF L (evF L P n) fn none (em a) := by show (match P[i]? with | some fn => _ | none => none) = _; rw [hP]
  rw [e, runF, if_pos ⟨hio, hps a⟩]
  cases r with
  | nx s =>
    obtain ⟨ρ, e1, E1⟩ := k
    rcases hd with hd | ⟨hd, hd2⟩
    · rw [hd] at h2; cases h2
    · refine ⟨false, hd, ?_⟩
      rw [e1, hd2 v h2]
      rfl
  | rt w s =>
    cases h2
    obtain ⟨q, ρ, e1, k1, E1⟩ := k
    obtain ⟨own, k2, k3⟩ := k1.end_ hf
    refine ⟨own, k2, ?_⟩
    rw [e1]
    show endR none q ρ = _
    rw [endR_eq, k3]
  | bk s => cases h2
  | ct s => cases h2
theorem tc_fnIo {P : Prog} {i n : Nat} {fn : Fn} {ep : γ → D} {em : α → List D} {init : γ → α → σ} {gp : σ → γ} {dn : Option β} {den : σ → Option (Res σ β)} (hP : P[i]? = some fn) (hio : fn.io = some 0) (hps : ∀ v, (em v).length + 1 = fn.ps) (h0 : ∀ q v, Env G Φ (init q v) (startR fn (ep q :: em v))) (hb : XSs G (evF L P n) L Φ fn.body Φn Φl Φr Kf eb den) (hd : dn = none ∨ (KOwn Kf false ∧ Φn[0]? = some .ow ∧ ∀ v, dn = some v → eb v = .non)) (hg : G[0]? = some fun s => ep (gp s)) (hr : Φr[0]? = some .ow) (hf : Kf.free = true := by rfl) : TCio (evF L P (n + 1)) i ep em eb Kf (fnDio init gp dn den) := fun q a v q' h => by
  obtain ⟨r, h1, h2⟩ := Option.bind_eq_some_iff.mp h
  have k := hb _ _ _ (h0 q a) h1
  have e : evF L P (n + 1) i (some 0) (ep q :: em a) = runF L (evF L P n) fn (some 0) (ep q :: em a) := by show (match P[i]? with | some fn => _ | none => none) = _; rw [hP]
  rw [e, runF, if_pos ⟨hio, hps a⟩]
  cases r with
  | nx s =>
    obtain ⟨ρ, e1, E1⟩ := k
    rcases hd with hd | ⟨hd, hd1, hd2⟩
    · rw [hd] at h2; cases h2
    · obtain ⟨w, h3, h4⟩ := Option.bind_eq_some_iff.mp h2
      cases h4
      obtain ⟨x, g1, g2⟩ := E1.get hg hd1
      cases g2
      refine ⟨false, hd, ?_⟩
      rw [e1, hd2 v h3]
      show endR (some 0) (.fz .non) ρ = _
      unfold endR
      simp only [g1]
  | rt w s =>
    cases h2
    obtain ⟨q, ρ, e1, k1, E1⟩ := k
    obtain ⟨own, k2, k3⟩ := k1.end_ hf
    obtain ⟨x, g1, g2⟩ := E1.get hg hr
    cases g2
    refine ⟨own, k2, ?_⟩
    rw [e1]
    show endR (some 0) q ρ = _
    rw [endR_eq, k3]
    simp only [g1]
  | bk s => cases h2
  | ct s => cases h2
end
end NW
namespace NW
section
variable {α β γ : Type} {ea : α → D} {eb : β → D} {ec : γ → D} {em : α → List D}
def addI (a b : Int) : Option Int := some (a + b)
def subI (a b : Int) : Option Int := some (a - b)
def mulI (a b : Int) : Option Int := if a.natAbs.log2 + b.natAbs.log2 < 1000000 then some (a * b) else none
def fdivI (a b : Int) : Option Int := if b ≠ 0 ∧ b.natAbs.log2 < 9000 then some (Int.fdiv a b) else none
def modI (a b : Int) : Option Int := if b ≠ 0 then some (Int.fmod a b) else none
def powI (a b : Int) : Option Int := if 0 ≤ b ∧ b ≤ 1000000 ∧ a.natAbs < 2 ^ 64 then some (a ^ b.toNat) else none
def negI (a : Int) : Option Int := some (-a)
def absI (a : Int) : Option Int := some (if a < 0 then -a else a)
def ltI (a b : Int) : Option Bool := some (decide (a < b))
def leI (a b : Int) : Option Bool := some (decide (a ≤ b))
def gtI (a b : Int) : Option Bool := some (decide (b < a))
def geI (a b : Int) : Option Bool := some (decide (b ≤ a))
def eqI (a b : Int) : Option Bool := some (a == b)
def neI (a b : Int) : Option Bool := some (!(a == b))
def minI2 (a b : Int) : Option Int := some (if b < a then b else a)
def maxI2 (a b : Int) : Option Int := some (if b > a then b else a)
def gcdI (a b : Int) : Option Int := some (Nat.gcd a.natAbs b.natAbs)
theorem addI_p : P2 .add D.int D.int false D.int addI := fun a b z h => by cases h; rfl
theorem subI_p : P2 .sub D.int D.int false D.int subI := fun a b z h => by cases h; rfl
theorem mulI_p : P2 .mul D.int D.int false D.int mulI := fun a b z h => by
  unfold mulI at h; split at h
  · rename_i k; cases h; simp only [ap2, k, if_true]; rfl
  · cases h
theorem fdivI_p : P2 .fdiv D.int D.int false D.int fdivI := fun a b z h => by
  unfold fdivI at h; split at h
  · rename_i k; cases h; exact if_pos k
  · cases h
theorem modI_p : P2 .mod D.int D.int false D.int modI := fun a b z h => by
  unfold modI at h; split at h
  · rename_i k; cases h; exact if_pos k
  · cases h
theorem powI_p : P2 .pow D.int D.int false D.int powI := fun a b z h => by
  unfold powI at h; split at h
  · rename_i k; cases h; exact if_pos k
  · cases h
theorem negI_p : P1 .neg D.int false D.int negI := fun a z h => by cases h; rfl
theorem absI_p : P1 .abs D.int false D.int absI := fun a z h => by cases h; rfl
theorem ltI_p : P2 .lt D.int D.int false D.bl ltI := fun a b z h => by cases h; rfl
theorem leI_p : P2 .le D.int D.int false D.bl leI := fun a b z h => by cases h; rfl
theorem gtI_p : P2 .gt D.int D.int false D.bl gtI := fun a b z h => by cases h; rfl
theorem geI_p : P2 .ge D.int D.int false D.bl geI := fun a b z h => by cases h; rfl
theorem eqI_p : P2 .eq D.int D.int false D.bl eqI := fun a b z h => by cases h; rfl
theorem neI_p : P2 .ne D.int D.int false D.bl neI := fun a b z h => by cases h; rfl
theorem minI2_p : P2 .min D.int D.int false D.int minI2 := fun a b z h => by cases h; rfl
theorem maxI2_p : P2 .max D.int D.int false D.int maxI2 := fun a b z h => by cases h; rfl
theorem gcdI_p : P2 .gcd D.int D.int false D.int gcdI := fun a b z h => by cases h; rfl
theorem toIntI_p : P1 .toInt D.int false D.int some := fun a z h => by cases h; rfl
theorem toIntB_p : P1 .toInt D.bl false D.int (fun b => some (if b then 1 else 0)) := fun a z h => by cases h; rfl
/-- op=: whole numbers alone -/
theorem augI_p {o : O2} {f : Int → Int → Option Int} (h : P2 o D.int D.int false D.int f) : ∀ v w t, f v w = some t → apI o (.int v) (.int w) = some (false, .int t) := fun v w t k => h v w t k
def eqB (a b : Bool) : Option Bool := some (a == b)
def neB (a b : Bool) : Option Bool := some (!(a == b))
def eqS (a b : List Nat) : Option Bool := some (a == b)
def neS (a b : List Nat) : Option Bool := some (!(a == b))
theorem eqB_p : P2 .eq D.bl D.bl false D.bl eqB := fun a b z h => by cases h; rfl
theorem neB_p : P2 .ne D.bl D.bl false D.bl neB := fun a b z h => by cases h; rfl
theorem eqS_p : P2 .eq D.str D.str false D.bl eqS := fun a b z h => by cases h; rfl
theorem neS_p : P2 .ne D.str D.str false D.bl neS := fun a b z h => by cases h; rfl
def eqG (ea : α → D) (eb : β → D) (a : α) (b : β) : Option Bool := eqD (ea a) (eb b)
def neG (ea : α → D) (eb : β → D) (a : α) (b : β) : Option Bool := (eqD (ea a) (eb b)).bind fun b => some (!b)
theorem eqG_p : P2 .eq ea eb false D.bl (eqG ea eb) := fun a b z h => by
  show (match eqD (ea a) (eb b) with | some b => b1 b | none => none) = _
  rw [show eqD (ea a) (eb b) = some z from h]; rfl
theorem neG_p : P2 .ne ea eb false D.bl (neG ea eb) := fun a b z h => by
  obtain ⟨w, h1, h2⟩ := Option.bind_eq_some_iff.mp h
  show (match eqD (ea a) (eb b) with | some b => b1 (!b) | none => none) = _
  rw [h1]; cases h2; rfl
def inG (ea : α → D) (eb : β → D) (a : α) (b : β) : Option Bool := inD (ea a) (eb b)
def ninG (ea : α → D) (eb : β → D) (a : α) (b : β) : Option Bool := (inD (ea a) (eb b)).bind fun b => some (!b)
theorem inG_p : P2 .isin ea eb false D.bl (inG ea eb) := fun a b z h => by
  show (match inD (ea a) (eb b) with | some b => b1 b | none => none) = _
  rw [show inD (ea a) (eb b) = some z from h]; rfl
theorem ninG_p : P2 .notin ea eb false D.bl (ninG ea eb) := fun a b z h => by
  obtain ⟨w, h1, h2⟩ := Option.bind_eq_some_iff.mp h
  show (match inD (ea a) (eb b) with | some b => b1 (!b) | none => none) = _
  rw [h1]; cases h2; rfl
theorem isIn_int (x : Int) : ∀ xs : List Int, isIn (.int x) (xs.map D.int) = xs.contains x
  | [] => rfl
  | y :: ys => by
    rw [List.map_cons, isIn, isIn_int x ys, List.contains_cons]
    show ((y == x) || _) = _
    rw [show (y == x) = (x == y) from by rw [Bool.eq_iff_iff, beq_iff_eq, beq_iff_eq]; exact eq_comm]
theorem flat_int (xs : List Int) : (xs.map D.int).all D.flat = true := by simp [D.flat]
def inI (x : Int) (xs : List Int) : Option Bool := some (xs.contains x)
def ninI (x : Int) (xs : List Int) : Option Bool := some (!xs.contains x)
theorem inD_int (x : Int) (xs : List Int) : inD (.int x) (eL D.int xs) = some (xs.contains x) := by
  show (if (true && (xs.map D.int).all D.flat) = true then some (isIn (.int x) (xs.map D.int)) else _) = _
  rw [flat_int, isIn_int]; rfl
theorem inD_intV (x : Int) (xs : List Int) : inD (.int x) (eV D.int xs) = some (xs.contains x) := by
  show (if (true && (xs.map D.int).all D.flat) = true then some (isIn (.int x) (xs.map D.int)) else none) = _
  rw [flat_int, isIn_int]; rfl
theorem inI_p : P2 .isin D.int (eL D.int) false D.bl inI := fun a b z h => inG_p a b z ((inD_int a b).trans h)
theorem inIV_p : P2 .isin D.int (eV D.int) false D.bl inI := fun a b z h => inG_p a b z ((inD_intV a b).trans h)
theorem ninI_p : P2 .notin D.int (eL D.int) false D.bl ninI := fun a b z h => ninG_p a b z (by unfold ninG; rw [inD_int]; exact h)
theorem ninIV_p : P2 .notin D.int (eV D.int) false D.bl ninI := fun a b z h => ninG_p a b z (by unfold ninG; rw [inD_intV]; exact h)
theorem getL_p : P2 .idx (eL ea) D.int false ea getL := fun a b z h => getL_map h
theorem getV_p : P2 .idx (eV ea) D.int false ea getL := fun xs k v h => by
  unfold getL at h
  split at h
  · rename_i j e
    simp only [ap2, eV, List.length_map, e, List.getElem?_map, h, Option.map_some]
  · cases h
def getS (s : List Nat) (k : Int) : Option (List Nat) := if s.length ≤ L24 then (getL s k).bind fun c => some [c] else none
theorem getS_p : P2 .idx D.str D.int false D.str getS := fun xs k v h => by
  unfold getS at h
  split at h
  · rename_i hl
    obtain ⟨c, h1, h2⟩ := Option.bind_eq_some_iff.mp h
    cases h2
    unfold getL at h1
    split at h1
    · rename_i j e
      simp only [ap2, hl, if_true, e, h1]
    · cases h1
  · cases h
def lenL (xs : List α) : Option Int := some xs.length
theorem lenL_p : P1 .len (eL ea) false D.int lenL := fun a z h => by cases h; simp [ap1, eL, i1]
theorem lenV_p : P1 .len (eV ea) false D.int lenL := fun a z h => by cases h; simp [ap1, eV, i1]
def lenS (s : List Nat) : Option Int := if s.length ≤ L24 then some s.length else none
theorem lenS_p : P1 .len D.str false D.int lenS := fun a z h => by
  unfold lenS at h; split at h
  · rename_i k; cases h; exact if_pos k
  · cases h
theorem lenT_p : P1 .len (eT em) false D.int (fun v => some ((em v).length : Int)) := fun a z h => by cases h; rfl
theorem addL_p : P2 .add (eL ea) (eL ea) true (eL ea) gext := fun a b z h => by
  unfold gext at h; split at h
  · rename_i k; cases h
    show (if (a.map ea).length + (b.map ea).length ≤ L24 then _ else _) = _
    rw [if_pos (by simpa using k)]
    simp [eL]
  · cases h
theorem addV_p : P2 .add (eV ea) (eV ea) false (eV ea) gext := fun a b z h => by
  unfold gext at h; split at h
  · rename_i k; cases h
    show (if (a.map ea).length + (b.map ea).length ≤ L24 then _ else _) = _
    rw [if_pos (by simpa using k)]
    simp [eV]
  · cases h
theorem addS_p : P2 .add D.str D.str false D.str gext := fun a b z h => by
  unfold gext at h; split at h
  · rename_i k; cases h; exact if_pos k
  · cases h
def mulV (xs : List α) (j : Int) : Option (List α) := if 2 ≤ j ∧ j ≤ 1000 ∧ xs.length ≤ 1000 ∧ xs.isEmpty = false then some (List.replicate j.toNat xs).flatten else none
theorem mulV_p : P2 .mul (eV ea) D.int false (eV ea) mulV := fun a b z h => by
  unfold mulV at h; split at h
  · rename_i k; cases h
    show (if 2 ≤ b ∧ b ≤ 1000 ∧ (a.map ea).length ≤ 1000 ∧ (a.map ea).isEmpty = false then _ else _) = _
    rw [if_pos (by simpa using k)]
    simp [eV, List.map_flatten, List.map_replicate]
  · cases h
theorem toListL_p : P1 .toList (eL ea) true (eL ea) some := fun a z h => by cases h; rfl
theorem toListV_p : P1 .toList (eV ea) true (eL ea) some := fun a z h => by cases h; rfl
theorem toTupL_p : P1 .toTup (eL ea) false (eV ea) some := fun a z h => by cases h; rfl
theorem toTupV_p : P1 .toTup (eV ea) false (eV ea) some := fun a z h => by cases h; rfl
theorem intsD_map : ∀ xs : List Int, intsD (xs.map D.int) = some xs
  | [] => rfl
  | x :: xs => by simp only [List.map_cons, intsD, intsD_map xs]
def sumI (xs : List Int) : Option Int := some xs.sum
theorem sumI_p : P1 .sum (eL D.int) false D.int sumI := fun a z h => by
  cases h
  show (match intsD (a.map D.int) with | some is => i1 is.sum | none => none) = _
  rw [intsD_map]; rfl
theorem isNO_p (h : ∀ v, ap1 .isN (ea v) = some (false, .bl false)) : P1 .isN (eO ea) false D.bl (fun o => some o.isNone) := fun a z k => by
  cases k; cases a with
  | none => rfl
  | some v => exact h v
theorem notNO_p (h : ∀ v, ap1 .notN (ea v) = some (false, .bl true)) : P1 .notN (eO ea) false D.bl (fun o => some o.isSome) := fun a z k => by
  cases k; cases a with
  | none => rfl
  | some v => exact h v
theorem const1_p {o : O1} {d : Bool} (h : ∀ v, ap1 o (ea v) = some (false, .bl d)) : P1 o ea false D.bl (fun _ => some d) := fun a z k => by cases k; exact h a
/-- raw data: what comes must be of the wanted kind -/
def asI : D → Option Int
  | .int i => some i
  | _ => none
def asBl : D → Option Bool
  | .bl i => some i
  | _ => none
def asS : D → Option (List Nat)
  | .str i => some i
  | _ => none
def asV : D → Option (List D)
  | .tup i => some i
  | _ => none
def asL : D → Option (List D)
  | .lst i => some i
  | _ => none
def asN : D → Option Unit
  | .non => some ()
  | _ => none
theorem map_id (xs : List D) : xs.map eD = xs := List.map_id xs
theorem asI_c : ∀ v w, asI v = some w → eD v = D.int w := fun v w h => by cases v <;> cases h; rfl
theorem asB_c : ∀ v w, asBl v = some w → eD v = D.bl w := fun v w h => by cases v <;> cases h; rfl
theorem asS_c : ∀ v w, asS v = some w → eD v = D.str w := fun v w h => by cases v <;> cases h; rfl
theorem asV_c : ∀ v w, asV v = some w → eD v = eV eD w := fun v w h => by cases v <;> cases h; exact congrArg D.tup (map_id _).symm
theorem asL_c : ∀ v w, asL v = some w → eD v = eL eD w := fun v w h => by cases v <;> cases h; exact congrArg D.lst (map_id _).symm
theorem asO_c {f : α → Option β} (h : ∀ v w, f v = some w → ea v = eb w) : ∀ v w, (fun o : Option α => o.bind f) v = some w → eO ea v = eb w := fun v w k => by
  cases v with
  | none => cases k
  | some v => exact h v w k
theorem some_c : ∀ v w, (id : Option α → Option α) v = some w → eO ea v = ea w := fun v w k => by cases k; rfl
def raw1 (o : O1) (own : Bool) (f : D → Option β) (ea : α → D) : α → Option β := fun a => match ap1 o (ea a) with
  | some (w, d) => if w = own then f d else none
  | none => none
def raw2 (o : O2) (own : Bool) (f : D → Option γ) (ea : α → D) (eb : β → D) : α → β → Option γ := fun a b => match ap2 o (ea a) (eb b) with
  | some (w, d) => if w = own then f d else none
  | none => none
theorem raw1_p {o : O1} {own : Bool} {f : D → Option β} (h : ∀ v w, f v = some w → eD v = eb w) : P1 o ea own eb (raw1 o own f ea) := fun a z k => by
  unfold raw1 at k
  split at k
  · rename_i w d e
    split at k
    · rename_i q; subst q
      rw [e, show d = eb z from h _ _ k]
    · cases k
  · cases k
theorem raw2_p {o : O2} {own : Bool} {f : D → Option γ} (h : ∀ v w, f v = some w → eD v = ec w) : P2 o ea eb own ec (raw2 o own f ea eb) := fun a b z k => by
  unfold raw2 at k
  split at k
  · rename_i w d e
    split at k
    · rename_i q; subst q
      rw [e, show d = ec z from h _ _ k]
    · cases k
  · cases k
theorem someD_c : ∀ v w, (some : D → Option D) v = some w → eD v = eD w := fun v w h => by cases h; rfl
theorem truI : ∀ v b, (fun i : Int => some (i != 0)) v = some b → truth (D.int v) = some b := fun v b h => h
theorem truL : ∀ (v : List α) b, (fun xs : List α => some (!xs.isEmpty)) v = some b → truth (eL ea v) = some b := fun v b h => by
  cases h; cases v <;> rfl
theorem truV : ∀ (v : List α) b, (fun xs : List α => some (!xs.isEmpty)) v = some b → truth (eV ea v) = some b := fun v b h => by
  cases h; cases v <;> rfl
theorem truG : ∀ v b, (fun v : α => truth (ea v)) v = some b → truth (ea v) = some b := fun v b h => h
theorem srcL : ∀ (v : List α) xs, some v = some xs → ∃ sr, srcOf (eL ea v) = some sr ∧ sr.items = xs.map ea := fun v xs h => by cases h; exact ⟨.ls (v.map ea), rfl, rfl⟩
theorem srcV : ∀ (v : List α) xs, some v = some xs → ∃ sr, srcOf (eV ea v) = some sr ∧ sr.items = xs.map ea := fun v xs h => by cases h; exact ⟨.ls (v.map ea), rfl, rfl⟩
def itemsD (d : D) : Option (List D) := (srcOf d).bind fun sr => some sr.items
theorem srcD : ∀ (v : D) xs, itemsD v = some xs → ∃ sr, srcOf (eD v) = some sr ∧ sr.items = xs.map eD := fun v xs h => by
  obtain ⟨sr, h1, h2⟩ := Option.bind_eq_some_iff.mp h
  cases h2
  exact ⟨sr, h1, by rw [map_id]⟩
def chrs (s : List Nat) : Option (List (List Nat)) := if s.length ≤ L24 then some (s.map fun c => [c]) else none
theorem srcS : ∀ (v : List Nat) xs, chrs v = some xs → ∃ sr, srcOf (D.str v) = some sr ∧ sr.items = xs.map D.str := fun v xs h => by
  unfold chrs at h; split at h
  · rename_i k; cases h
    exact ⟨.ls (signs v), by simp only [srcOf, k, if_true], by simp [Src.items, signs]⟩
  · cases h
theorem sqL : sqF (eL ea) ea some := fun v xs h => by cases h; rfl
theorem sqV : sqF (eV ea) ea some := fun v xs h => by cases h; rfl
theorem sqD : sqF eD eD seqOf := fun v xs h => by rw [map_id]; exact h
theorem lsL : lsF (eL ea) ea some := fun v xs h => by cases h; rfl
theorem lsD : lsF eD eD lstOf := fun v xs h => by rw [map_id]; exact h
theorem twL : twF (eL ea) (eL eb) ea eb (fun v w => some (v, w)) := fun v w q h => by cases h; rfl
theorem twV : twF (eV ea) (eV eb) ea eb (fun v w => some (v, w)) := fun v w q h => by cases h; rfl
theorem twD : twF eD eD eD eD twoOf := fun v w q h => by rw [map_id, map_id]; exact h
theorem starL : ∀ xs : List α, seqOf (eL ea xs) = some (xs.map ea) := fun _ => rfl
theorem starV : ∀ xs : List α, seqOf (eV ea xs) = some (xs.map ea) := fun _ => rfl
def cutT (xs : List α) (l h : Option Int) : Option (List α) := some (cutL xs l h)
theorem cutL_map (xs : List α) (l h : Option Int) (f : α → β) : cutL (xs.map f) l h = (cutL xs l h).map f := by
  simp only [cutL, List.length_map, List.map_take, List.map_drop]
theorem slL : ∀ (v : List α) l h w, cutT v l h = some w → ∃ own, KOwn .ow own ∧ slD (eL ea v) l h = some (own, eL ea w) := fun v l h w k => by
  cases k; exact ⟨true, rfl, by simp only [slD, eL, cutL_map]⟩
theorem slV : ∀ (v : List α) l h w, cutT v l h = some w → ∃ own, KOwn .fz own ∧ slD (eV ea v) l h = some (own, eV ea w) := fun v l h w k => by
  cases k; exact ⟨false, rfl, by simp only [slD, eV, cutL_map]⟩
def cutS (s : List Nat) (l h : Option Int) : Option (List Nat) := if s.length ≤ L24 then some (cutL s l h) else none
theorem slS : ∀ v l h w, cutS v l h = some w → ∃ own, KOwn .fz own ∧ slD (D.str v) l h = some (own, D.str w) := fun v l h w k => by
  unfold cutS at k; split at k
  · rename_i q; cases k; exact ⟨false, rfl, if_pos q⟩
  · cases k
def cutD (d : D) (l h : Option Int) : Option D := (slD d l h).bind fun p => some p.2
theorem slDD : ∀ v l h w, cutD v l h = some w → ∃ own, KOwn .nw own ∧ slD (eD v) l h = some (own, eD w) := fun v l h w k => by
  obtain ⟨⟨o, d⟩, h1, h2⟩ := Option.bind_eq_some_iff.mp k
  cases h2; exact ⟨o, trivial, h1⟩
def revT (xs : List α) : Option (List α) := some xs.reverse
theorem rvL : ∀ (v : List α) w, revT v = some w → ∃ own, KOwn .ow own ∧ rvD (eL ea v) = some (own, eL ea w) := fun v w k => by
  cases k; exact ⟨true, rfl, by simp only [rvD, eL, List.map_reverse]⟩
theorem rvV : ∀ (v : List α) w, revT v = some w → ∃ own, KOwn .fz own ∧ rvD (eV ea v) = some (own, eV ea w) := fun v w k => by
  cases k; exact ⟨false, rfl, by simp only [rvD, eV, List.map_reverse]⟩
def revD (d : D) : Option D := (rvD d).bind fun p => some p.2
theorem rvDD : ∀ v w, revD v = some w → ∃ own, KOwn .nw own ∧ rvD (eD v) = some (own, eD w) := fun v w k => by
  obtain ⟨⟨o, d⟩, h1, h2⟩ := Option.bind_eq_some_iff.mp k
  cases h2; exact ⟨o, trivial, h1⟩
theorem co_L {f : α → β} (h : ∀ v, eb (f v) = ea v) : ∀ xs, eL eb (xs.map f) = eL ea xs := fun xs => by simp [eL, h]
theorem co_V {f : α → β} (h : ∀ v, eb (f v) = ea v) : ∀ xs, eV eb (xs.map f) = eV ea xs := fun xs => by simp [eV, h]
theorem co_O {f : α → β} (h : ∀ v, eb (f v) = ea v) : ∀ o, eO eb (o.map f) = eO ea o := fun o => by cases o with | none => rfl | some v => exact h v
theorem cast_of {f : α → β} (h : ∀ v, eb (f v) = ea v) : ∀ v w, (fun v => some (f v)) v = some w → ea v = eb w := fun v w k => by cases k; exact (h v).symm
theorem co_O1 {f : α → β} (h : ∀ v, eb (f v) = ea v) : ∀ v, eO eb ((fun v => some (f v)) v) = ea v := fun v => h v
theorem co_D : ∀ v, eD (ea v) = ea v := fun _ => rfl
theorem co_id : ∀ v, ea (id v) = ea v := fun _ => rfl
theorem co_some : ∀ v, eO ea (some v) = ea v := fun _ => rfl
theorem co_none : ∀ v : Unit, eO ea ((fun _ => none) v) = eN v := fun _ => rfl
theorem co_T {em' : β → List D} {f : α → β} (h : ∀ v, em' (f v) = em v) : ∀ v, eT em' (f v) = eT em v := fun v => by simp only [eT, h]
theorem co_1 {f : α → β} (h : ∀ v, eb (f v) = ea v) : ∀ v, c1 eb (f v) = c1 ea v := fun v => by simp only [c1, h]
theorem co_c {α' β' : Type} {ea : α → D} {ea' : α' → D} {em : β → List D} {em' : β' → List D} {f : α → α'} {g : β → β'} (h : ∀ v, ea' (f v) = ea v) (k : ∀ v, em' (g v) = em v) : ∀ v, cc ea' em' ((fun v : α × β => (f v.1, g v.2)) v) = cc ea em v := fun v => by simp only [cc, h, k]
/-- fixed places as a row of one kind -/
theorem co_TV {em : α → List D} {f : α → List β} (h : ∀ v, (f v).map eb = em v) : ∀ v, eV eb (f v) = eT em v := fun v => by simp only [eV, eT, h]
theorem co_v1 {f : α → β} (h : ∀ v, eb (f v) = ea v) : ∀ v, ((fun v => [f v]) v).map eb = c1 ea v := fun v => by simp [c1, h]
theorem co_vc {δ : Type} {em : γ → List D} {f : α → δ} {g : γ → List δ} {ed : δ → D} (h : ∀ v, ed (f v) = ea v) (k : ∀ v, (g v).map ed = em v) : ∀ v, ((fun v : α × γ => f v.1 :: g v.2) v).map ed = cc ea em v := fun v => by simp [cc, h, k]
theorem co_v0 : ∀ v, ((fun _ : Unit => ([] : List β)) v).map eb = c0 v := fun v => rfl
/-- what may be handed on where a list is lent -/
theorem pu_int : ∀ own v, KOwn .fz own → purO own (D.int v) = true := fun _ _ _ => rfl
theorem pu_bl : ∀ own v, KOwn .fz own → purO own (D.bl v) = true := fun _ _ _ => rfl
end
end NW
namespace NW
abbrev LL : Nat := 1606938044258990275541962092341162602522202993782792835301376
section
variable {σ α β γ δ : Type} {G : List (σ → D)} {c : Cl} {L : Nat} {Φ Φ1 Φ2 Φ3 Φ4 Φn Φl Φr Φh : List St} {ea : α → D} {eb : β → D} {ec : γ → D} {ed : δ → D} {K K1 K2 K3 Kf : Kd} {p p1 p2 p3 : Bool} {e a b d : E} {es : Es} {em : α → List D} {x : σ → Option (α × σ)} {y : σ → Option (β × σ)} {z : σ → Option (γ × σ)}
theorem x_o1F {o : O1} {f : α → Option β} (hf : P1 o ea false eb f) (hx : XE G c Φ a Φ1 K p ea x) : XE G c Φ (.o1 o a) Φ1 .fz p eb (d1 f x) := x_o1 hf hx
theorem x_o1W {o : O1} {f : α → Option β} (hf : P1 o ea true eb f) (hx : XE G c Φ a Φ1 K p ea x) : XE G c Φ (.o1 o a) Φ1 .ow p eb (d1 f x) := x_o1 hf hx
theorem x_o2F {o : O2} {f : α → β → Option γ} (hf : P2 o ea eb false ec f) (hx : XE G c Φ a Φ1 K1 p1 ea x) (hy : XE G c Φ1 b Φ2 K2 p2 eb y) (st : (K1.free || p2) = true := by rfl) : XE G c Φ (.o2 o a b) Φ2 .fz (p1 && p2) ec (d2 f x y) := x_o2 hf hx hy st
theorem x_o2W {o : O2} {f : α → β → Option γ} (hf : P2 o ea eb true ec f) (hx : XE G c Φ a Φ1 K1 p1 ea x) (hy : XE G c Φ1 b Φ2 K2 p2 eb y) (st : (K1.free || p2) = true := by rfl) : XE G c Φ (.o2 o a b) Φ2 .ow (p1 && p2) ec (d2 f x y) := x_o2 hf hx hy st
theorem r_one (hx : XE G c Φ a Φ1 K p1 ea x) : XA G c Φ (.cons a .nil) Φ1 p1 (!K.free) (c1 ea) x := fun s ρ v s' hE h1 => by
  obtain ⟨r, ρ1, e1, E1, r1, q1⟩ := hx _ _ _ _ hE h1
  refine ⟨[r], ρ1, by rw [evA, e1]; simp only [evA], E1, by rw [getAll, r1.getA]; rfl, ?_, ?_, q1⟩
  · cases K with
    | fz => cases r1; rfl
    | ow => cases r1; rfl
    | nw => rcases r1 with rfl | rfl <;> rfl
    | bo i => rw [r1.1]; rfl
    | pk i =>
      rcases r1 with rfl | h
      · rfl
      · rw [h.1]; rfl
  · intro k
    simp only [Bool.not_eq_false'] at k
    cases K with
    | fz => cases r1; rfl
    | ow => cases r1; rfl
    | nw => rcases r1 with rfl | rfl <;> rfl
    | bo i => cases k
    | pk i => cases k
theorem x_callF {f : Nat} {h : α → Option β} {b1 : Bool} (hf : TC c f em eb .fz h) (hx : XA G c Φ es Φ1 p b1 em x) (hb : b1 = false ∨ ∀ own v, KOwn .fz own → purO own (eb v) = true := by exact .inl rfl) : XE G c Φ (.call f none es) Φ1 .fz p eb (d1 h x) := x_call hf hx hb
theorem x_callW {f : Nat} {h : α → Option β} {b1 : Bool} (hf : TC c f em eb .ow h) (hx : XA G c Φ es Φ1 p b1 em x) (hb : b1 = false ∨ ∀ own v, KOwn .ow own → purO own (eb v) = true := by exact .inl rfl) : XE G c Φ (.call f none es) Φ1 .ow p eb (d1 h x) := x_call hf hx hb
theorem x_callN {f : Nat} {h : α → Option β} {b1 : Bool} (hf : TC c f em eb .nw h) (hx : XA G c Φ es Φ1 p b1 em x) (hb : b1 = false ∨ ∀ own v, KOwn .nw own → purO own (eb v) = true := by exact .inl rfl) : XE G c Φ (.call f none es) Φ1 .nw p eb (d1 h x) := x_call hf hx hb
section
variable {f j : Nat} {ep : γ → D} {gp : σ → γ} {sp : γ → σ → σ} {h : γ → α → Option (β × γ)}
theorem x_ioF (hf : TCio c f ep em eb .fz h) (hg : G[j]? = some fun s => ep (gp s)) (hs : ∀ q s, gp (sp q s) = q) (hk : ∀ q, Keep (sp q) G (some j)) (hj : Φ[j]? = some .ow) (hx : XA G c Φ es Φ1 p false em x) (hj1 : Φ1[j]? = some .ow := by rfl) : XE G c Φ (.call f (some 0) (.cons (.io j) es)) (Φ1.set j .ow) .fz false eb (dio h gp sp x) := x_callIo hf hg hs hk hj hj1 hx
theorem x_ioW (hf : TCio c f ep em eb .ow h) (hg : G[j]? = some fun s => ep (gp s)) (hs : ∀ q s, gp (sp q s) = q) (hk : ∀ q, Keep (sp q) G (some j)) (hj : Φ[j]? = some .ow) (hx : XA G c Φ es Φ1 p false em x) (hj1 : Φ1[j]? = some .ow := by rfl) : XE G c Φ (.call f (some 0) (.cons (.io j) es)) (Φ1.set j .ow) .ow false eb (dio h gp sp x) := x_callIo hf hg hs hk hj hj1 hx
theorem x_ioN (hf : TCio c f ep em eb .nw h) (hg : G[j]? = some fun s => ep (gp s)) (hs : ∀ q s, gp (sp q s) = q) (hk : ∀ q, Keep (sp q) G (some j)) (hj : Φ[j]? = some .ow) (hx : XA G c Φ es Φ1 p false em x) (hj1 : Φ1[j]? = some .ow := by rfl) : XE G c Φ (.call f (some 0) (.cons (.io j) es)) (Φ1.set j .ow) .nw false eb (dio h gp sp x) := x_callIo hf hg hs hk hj hj1 hx
end
section
variable {lo hi : Oe} {l h : σ → Option (Option Int × σ)} {f : α → Option Int → Option Int → Option β}
theorem x_slF (hf : ∀ v l h w, f v l h = some w → ∃ own, KOwn .fz own ∧ slD (ea v) l h = some (own, eb w)) (hx : XE G c Φ a Φ1 K p1 ea x) (hl : XO G c Φ1 lo Φ2 p2 l) (hh : XO G c Φ2 hi Φ3 p3 h) (st : (K.free || (p2 && p3)) = true := by rfl) : XE G c Φ (.sl a lo hi) Φ3 .fz (p1 && p2 && p3) eb (dsl f x l h) := x_sl hf hx hl hh st
theorem x_slW (hf : ∀ v l h w, f v l h = some w → ∃ own, KOwn .ow own ∧ slD (ea v) l h = some (own, eb w)) (hx : XE G c Φ a Φ1 K p1 ea x) (hl : XO G c Φ1 lo Φ2 p2 l) (hh : XO G c Φ2 hi Φ3 p3 h) (st : (K.free || (p2 && p3)) = true := by rfl) : XE G c Φ (.sl a lo hi) Φ3 .ow (p1 && p2 && p3) eb (dsl f x l h) := x_sl hf hx hl hh st
theorem x_slN (hf : ∀ v l h w, f v l h = some w → ∃ own, KOwn .nw own ∧ slD (ea v) l h = some (own, eb w)) (hx : XE G c Φ a Φ1 K p1 ea x) (hl : XO G c Φ1 lo Φ2 p2 l) (hh : XO G c Φ2 hi Φ3 p3 h) (st : (K.free || (p2 && p3)) = true := by rfl) : XE G c Φ (.sl a lo hi) Φ3 .nw (p1 && p2 && p3) eb (dsl f x l h) := x_sl hf hx hl hh st
end
section
variable {f : α → Option β}
theorem x_rvF (hf : ∀ v w, f v = some w → ∃ own, KOwn .fz own ∧ rvD (ea v) = some (own, eb w)) (hx : XE G c Φ a Φ1 K p ea x) : XE G c Φ (.rv a) Φ1 .fz p eb (d1 f x) := x_rv hf hx
theorem x_rvW (hf : ∀ v w, f v = some w → ∃ own, KOwn .ow own ∧ rvD (ea v) = some (own, eb w)) (hx : XE G c Φ a Φ1 K p ea x) : XE G c Φ (.rv a) Φ1 .ow p eb (d1 f x) := x_rv hf hx
theorem x_rvN (hf : ∀ v w, f v = some w → ∃ own, KOwn .nw own ∧ rvD (ea v) = some (own, eb w)) (hx : XE G c Φ a Φ1 K p ea x) : XE G c Φ (.rv a) Φ1 .nw p eb (d1 f x) := x_rv hf hx
end
theorem x_lcP {t : Tg} {own : List Nat} {src : I} {ifs : NW.T} {upd : α → σ → σ} {test : σ → Option (Bool × σ)} {el : σ → Option (β × σ)} {it : σ → Option (List α × σ)} (hI : XI G c Φ src Φ1 p ea it) (hg : XG G (wipeS own Φ1) t Φ2 ea upd) (ht : XT G c Φ2 ifs Φ3 p2 test) (he : XE G c Φ3 e Φ4 K p3 eb el) (n : K.free = true := by rfl) (hs : subB t.ix own = true := by rfl) (h2 : p2 = true := by rfl) (h3 : p3 = true := by rfl) :
    XE G c Φ (.lc t own src ifs e) Φ1 .ow p (eL eb) (dlc it upd test el) := by
  subst h2; subst h3
  exact x_lc hI hg ht he n hs
theorem s_cast {i : I} {it : σ → Option (List α × σ)} {f : List α → Option (List β)} (h : ∀ xs ys, f xs = some ys → xs.map ea = ys.map eb) (hI : XI G c Φ i Φ1 p ea it) : XI G c Φ i Φ1 p eb (d1 f it) := fun s ρ w s' hE h' => by
  obtain ⟨⟨v, s1⟩, h1, h2⟩ := Option.bind_eq_some_iff.mp h'
  obtain ⟨z, h3, h4⟩ := Option.bind_eq_some_iff.mp h2
  cases h4
  obtain ⟨sr, ρ1, e1, E1, i1, q1⟩ := hI _ _ _ _ hE h1
  exact ⟨sr, ρ1, e1, E1, i1.trans (h _ _ h3), q1⟩
def mapO (f : α → Option β) : List α → Option (List β)
  | [] => some []
  | v :: vs => (f v).bind fun w => (mapO f vs).bind fun ws => some (w :: ws)
theorem mapO_c {f : α → Option β} (h : ∀ v w, f v = some w → ea v = eb w) : ∀ xs ys, mapO f xs = some ys → xs.map ea = ys.map eb
  | [], _, k => by cases k; rfl
  | v :: vs, ys, k => by
    obtain ⟨w, k1, k2⟩ := Option.bind_eq_some_iff.mp k
    obtain ⟨ws, k3, k4⟩ := Option.bind_eq_some_iff.mp k2
    cases k4
    rw [List.map_cons, List.map_cons, h _ _ k1, mapO_c h _ _ k3]
theorem castL_c {f : α → Option β} (h : ∀ v w, f v = some w → ea v = eb w) : ∀ v w, mapO f v = some w → eL ea v = eL eb w := fun v w k => congrArg D.lst (mapO_c h v w k)
theorem castV_c {f : α → Option β} (h : ∀ v w, f v = some w → ea v = eb w) : ∀ v w, mapO f v = some w → eV ea v = eV eb w := fun v w k => congrArg D.tup (mapO_c h v w k)
theorem cast_trans {f : α → Option β} {g : β → Option γ} (h : ∀ v w, f v = some w → ea v = eb w) (k : ∀ v w, g v = some w → eb v = ec w) : ∀ v w, (fun v => (f v).bind g) v = some w → ea v = ec w := fun v w q => by
  obtain ⟨u, q1, q2⟩ := Option.bind_eq_some_iff.mp q
  rw [h _ _ q1, k _ _ q2]
theorem z_whlH {t : NW.T} {u : Ss} {q : σ → Option (Bool × σ)} {x : σ → Option (Res σ β)} (h0 : subS Φ Φh = true) (ht : XT G c Φh t Φ1 p q) (hx : XSs G c L Φ1 u Φh Φh Φr Kf eb x) (h1 : subS Φh Φn = true := by rfl) (h2 : subS Φ1 Φn = true := by rfl) : XS G c L Φ (.whl t u) Φn Φl Φr Kf eb (whlD q x L) := fun s ρ r hE h => by
  rw [evS]
  exact whl_run ht hx h1 h2 L _ _ _ (hE.sub h0) h
/-- a lent name read where the right side changed the state: it is read after -/
def d2L (g : σ → α) (f : α → β → Option γ) (y : σ → Option (β × σ)) : σ → Option (γ × σ) := fun s => (y s).bind fun u => (f (g u.2) u.1).bind fun v => some (v, u.2)
theorem x_o2L {i : Nat} {o : O2} {own : Bool} {f : α → β → Option γ} {g : σ → α} (hf : P2 o ea eb own ec f) (hg : G[i]? = some fun s => ea (g s)) (hi : Φ[i]? = some .ow) (hy : XE G c Φ b Φ2 K2 p2 eb y) (h2 : Φ2[i]? = some .ow := by rfl) : XE G c Φ (.o2 o (.peek i) b) Φ2 (ownK own) false ec (d2L g f y) := fun s ρ w s' hE h => by
  obtain ⟨⟨u, s2⟩, h3, h4⟩ := Option.bind_eq_some_iff.mp h
  obtain ⟨z, h5, h6⟩ := Option.bind_eq_some_iff.mp h4
  cases h6
  obtain ⟨x0, i0, j0⟩ := hE.get hg hi
  cases j0
  have e0 : evE c (.peek i) ρ = some (.bo i, ρ) := by rw [evE, i0]
  obtain ⟨q, ρ2, e2, E2, r2, q2⟩ := hy _ _ _ _ hE h3
  obtain ⟨x2, i2, j2⟩ := E2.get hg h2
  cases j2
  have g1 : (R.bo i).get ρ2 = some (ea (g s2)) := by
    show (match ρ2[i]? with | some (.ow d) => some d | _ => none) = _
    rw [i2]
  exact ⟨_, ρ2, by rw [evE, e0]; simp only [e2, g1, r2.get, hf _ _ _ h5], E2, mk_rk, .no⟩
theorem x_o2LF {i : Nat} {o : O2} {f : α → β → Option γ} {g : σ → α} (hf : P2 o ea eb false ec f) (hg : G[i]? = some fun s => ea (g s)) (hi : Φ[i]? = some .ow) (hy : XE G c Φ b Φ2 K2 p2 eb y) (h2 : Φ2[i]? = some .ow := by rfl) : XE G c Φ (.o2 o (.peek i) b) Φ2 .fz false ec (d2L g f y) := x_o2L hf hg hi hy h2
theorem x_o2LW {i : Nat} {o : O2} {f : α → β → Option γ} {g : σ → α} (hf : P2 o ea eb true ec f) (hg : G[i]? = some fun s => ea (g s)) (hi : Φ[i]? = some .ow) (hy : XE G c Φ b Φ2 K2 p2 eb y) (h2 : Φ2[i]? = some .ow := by rfl) : XE G c Φ (.o2 o (.peek i) b) Φ2 .ow false ec (d2L g f y) := x_o2L hf hg hi hy h2
theorem x_dct0 : XE G c Φ (.dct .nil) Φ .ow true eD (dc (D.dct [])) := fun s ρ v s' hE h => by
  cases h
  exact ⟨.ow (.dct []), ρ, by simp only [evE, evEs, pairs, List.foldl_nil], hE, rfl, .refl⟩
theorem minI_p : P1 .min (eL D.int) false D.int minI := fun a z h => by
  show (match intsD (a.map D.int) with | some is => (match minI is with | some m => i1 m | none => none) | none => none) = _
  rw [intsD_map]; simp only [h]; rfl
theorem maxI_p : P1 .max (eL D.int) false D.int maxI := fun a z h => by
  show (match intsD (a.map D.int) with | some is => (match maxI is with | some m => i1 m | none => none) | none => none) = _
  rw [intsD_map]; simp only [h]; rfl
theorem sortI_p : P1 .sorted (eL D.int) true (eL D.int) (fun xs => some (sortI xs)) := fun a z h => by
  cases h
  show (match intsD (a.map D.int) with | some is => some (true, D.lst ((sortI is).map D.int)) | none => none) = _
  rw [intsD_map]; rfl
theorem sortIR_p : P1 .sortedR (eL D.int) true (eL D.int) (fun xs => some (sortI xs).reverse) := fun a z h => by
  cases h
  show (match sortD (a.map D.int) with | some ys => some (true, D.lst ys.reverse) | none => none) = _
  unfold sortD
  rw [intsD_map]
  simp only [eL, List.map_reverse]
theorem purL_map (h : ∀ v, (ea v).pur = true) : ∀ xs : List α, D.purL (xs.map ea) = true
  | [] => rfl
  | v :: vs => by rw [List.map_cons, D.purL, h, purL_map h vs]; rfl
theorem pur_int : ∀ v, (D.int v).pur = true := fun _ => rfl
theorem pur_bl : ∀ v, (D.bl v).pur = true := fun _ => rfl
theorem pur_str : ∀ v, (D.str v).pur = true := fun _ => rfl
theorem pur_N : ∀ v, (eN v).pur = true := fun _ => rfl
theorem pur_V (h : ∀ v, (ea v).pur = true) : ∀ v, (eV ea v).pur = true := fun v => by show D.purL (v.map ea) = true; exact purL_map h v
theorem pur_O (h : ∀ v, (ea v).pur = true) : ∀ v, (eO ea v).pur = true := fun v => by cases v with | none => rfl | some v => exact h v
theorem pur_T {em : α → List D} (h : ∀ v, D.purL (em v) = true) : ∀ v, (eT em v).pur = true := fun v => h v
theorem pur_0 : ∀ v, D.purL (c0 v) = true := fun _ => rfl
theorem pur_1 (h : ∀ v, (ea v).pur = true) : ∀ v, D.purL (c1 ea v) = true := fun v => by show ((ea v).pur && true) = true; rw [h]; rfl
theorem pur_c {em : β → List D} (h : ∀ v, (ea v).pur = true) (k : ∀ v, D.purL (em v) = true) : ∀ v, D.purL (cc ea em v) = true := fun v => by show ((ea v.1).pur && D.purL (em v.2)) = true; rw [h, k]; rfl
theorem purO_of (h : ∀ v, (ea v).pur = true) : ∀ own v, purO own (ea v) = true := fun own v => by
  have := h v
  cases e : ea v <;> rw [e] at this <;> first | exact this | cases this
end
structure Good {α : Type} [DecidableEq α] (ea : α → D) (n : Nat) : Prop where
  dq : ∀ a b, (ea a).deq (ea b) = decide (a = b)
  nod : ∀ a, (ea a).nod = true
  lev : ∀ a, (ea a).lev n = true
structure GoodM {α : Type} [DecidableEq α] (em : α → List D) (n : Nat) : Prop where
  dq : ∀ a b, D.deqL (em a) (em b) = decide (a = b)
  nod : ∀ a, D.nodL (em a) = true
  lev : ∀ a, D.levL n (em a) = true
mutual
theorem lev_up : ∀ (n : Nat) (d : D), d.lev n = true → d.lev (n + 1) = true
  | 0, d, h => by cases d <;> simp [D.lev] at h
  | n + 1, .tup xs, h => by simp only [D.lev] at h ⊢; exact levL_up n xs h
  | n + 1, .lst xs, h => by simp only [D.lev] at h ⊢; exact levL_up n xs h
  | n + 1, .non, h => rfl
  | n + 1, .bl _, h => rfl
  | n + 1, .int _, h => rfl
  | n + 1, .str _, h => rfl
  | n + 1, .dct _, h => rfl
theorem levL_up : ∀ (n : Nat) (xs : List D), D.levL n xs = true → D.levL (n + 1) xs = true
  | _, [], _ => by simp [D.levL]
  | n, x :: xs, h => by
    simp only [D.levL, Bool.and_eq_true] at h ⊢
    exact ⟨lev_up n x h.1, levL_up n xs h.2⟩
end
theorem lev_le {m n : Nat} (h : m ≤ n) {d : D} (k : d.lev m = true) : d.lev n = true := by
  induction h with
  | refl => exact k
  | step _ ih => exact lev_up _ _ ih
theorem eqD_deq {d e : D} (h1 : okE d = true) (h2 : okE e = true) : eqD d e = some (d.deq e) := by
  cases d <;> cases e <;> first | (simp only [eqD, D.deq]; done) | (simp only [eqD, h1, h2, Bool.and_self, if_true])
section
variable {α β : Type} [DecidableEq α] [DecidableEq β] {ea : α → D} {em : β → List D} {n : Nat}
def eqQ (a b : α) : Option Bool := some (decide (a = b))
def neQ (a b : α) : Option Bool := some (!decide (a = b))
theorem Good.eq (h : Good ea n) (hn : n ≤ 64) (a b : α) : eqD (ea a) (ea b) = some (decide (a = b)) := by
  have ok : ∀ a, okE (ea a) = true := fun a => by unfold okE; rw [h.nod, lev_le hn (h.lev a)]; rfl
  rw [eqD_deq (ok a) (ok b), h.dq]
theorem eqQ_p (h : Good ea n) (hn : n ≤ 64 := by decide) : P2 .eq ea ea false D.bl eqQ := fun a b z k => eqG_p a b z (by unfold eqG; rw [h.eq hn]; exact k)
theorem neQ_p (h : Good ea n) (hn : n ≤ 64 := by decide) : P2 .ne ea ea false D.bl neQ := fun a b z k => neG_p a b z (by unfold neG; rw [h.eq hn]; exact k)
theorem good_int : Good D.int 1 := ⟨fun a b => rfl, fun _ => rfl, fun _ => rfl⟩
theorem good_bl : Good D.bl 1 := ⟨fun a b => by cases a <;> cases b <;> rfl, fun _ => rfl, fun _ => rfl⟩
theorem deqL_map (h : Good ea n) : ∀ xs ys : List α, D.deqL (xs.map ea) (ys.map ea) = decide (xs = ys)
  | [], [] => rfl
  | [], _ :: _ => rfl
  | _ :: _, [] => rfl
  | x :: xs, y :: ys => by
    simp only [List.map_cons, D.deqL, h.dq, deqL_map h xs ys, List.cons.injEq, Bool.decide_and]
theorem nodL_map (h : Good ea n) : ∀ xs : List α, D.nodL (xs.map ea) = true
  | [] => rfl
  | x :: xs => by simp only [List.map_cons, D.nodL, h.nod, nodL_map h xs, Bool.and_self]
theorem levL_map (h : Good ea n) : ∀ xs : List α, D.levL n (xs.map ea) = true
  | [] => by simp [D.levL]
  | x :: xs => by simp only [List.map_cons, D.levL, h.lev, levL_map h xs, Bool.and_self]
theorem good_V (h : Good ea n) : Good (eV ea) (n + 1) := ⟨fun a b => deqL_map h a b, fun a => nodL_map h a, fun a => levL_map h a⟩
theorem good_L (h : Good ea n) : Good (eL ea) (n + 1) := ⟨fun a b => deqL_map h a b, fun a => nodL_map h a, fun a => levL_map h a⟩
theorem good_T (h : GoodM em n) : Good (eT em) (n + 1) := ⟨fun a b => h.dq a b, fun a => h.nod a, fun a => h.lev a⟩
theorem goodm_0 : GoodM c0 1 := ⟨fun a b => by cases a; cases b; rfl, fun _ => rfl, fun _ => by simp [c0, D.levL]⟩
theorem goodm_1 (h : Good ea n) : GoodM (c1 ea) n := ⟨fun a b => by show ((ea a).deq (ea b) && true) = _; rw [h.dq, Bool.and_true], fun a => by show ((ea a).nod && true) = _; rw [h.nod]; rfl, fun a => by show D.levL n [ea a] = true; simp only [D.levL, h.lev, Bool.and_self]⟩
theorem Good.up (h : Good ea n) {m : Nat} (k : n ≤ m) : Good ea m := ⟨h.dq, h.nod, fun a => lev_le k (h.lev a)⟩
theorem GoodM.up (h : GoodM em n) {m : Nat} (k : n ≤ m) : GoodM em m := ⟨h.dq, h.nod, fun a => by
  induction k with
  | refl => exact h.lev a
  | step _ ih => exact levL_up _ _ ih⟩
theorem goodm_c {m : Nat} (h : Good ea n) (k : GoodM em m) : GoodM (cc ea em) (max n m) := by
  have h' := h.up (Nat.le_max_left n m)
  have k' := k.up (Nat.le_max_right n m)
  refine ⟨fun a b => ?_, fun a => ?_, fun a => ?_⟩
  · show ((ea a.1).deq (ea b.1) && D.deqL (em a.2) (em b.2)) = _
    rw [h'.dq, k'.dq, ← Bool.decide_and]
    exact decide_eq_decide.mpr ⟨fun e => Prod.ext e.1 e.2, fun e => by rw [e]; exact ⟨rfl, rfl⟩⟩
  · show ((ea a.1).nod && D.nodL (em a.2)) = _
    rw [h'.nod, k'.nod]; rfl
  · show D.levL (max n m) (ea a.1 :: em a.2) = true
    simp only [D.levL, h'.lev, k'.lev, Bool.and_self]
end
end NW
namespace NW
structure y_law_pool.S where
  script : (List Int)
  salt : Int
  cell : Int
def y_law_pool.G : List (y_law_pool.S → D) := [fun s => (eL D.int) s.script, fun s => D.int s.salt, fun s => D.int s.cell]
def y_law_pool.b0 : y_law_pool.S → Option (Res y_law_pool.S (List D)) := (sq (zset (fun (v : Int) (s : y_law_pool.S) => { s with salt := v }) (d2 modI (d1 (some : Int → Option Int) (d2 addI (d2 mulI (dv (fun s : y_law_pool.S => s.salt)) (dc ((31) : Int))) (dv (fun s : y_law_pool.S => s.cell)))) (dc ((1000003) : Int))))
    zn)
def y_law_pool.den : y_law_pool.S → Option (Res y_law_pool.S (List D)) := (sq (zset (fun (v : Int) (s : y_law_pool.S) => { s with salt := v }) (dc ((7) : Int)))
    (sq (zfor (d1 some (dsl cutT (dv (fun s : y_law_pool.S => s.script)) dnone (dso (dc ((63) : Int))))) (fun (v : Int) (s : y_law_pool.S) => { s with cell := v }) y_law_pool.b0)
    (sq (zret (d1 gl (dlcons (dm (eL D.int) (d1 (some : (List Int) → Option (List Int)) (dv (fun s : y_law_pool.S => s.script)))) (dlcons (dm D.int (dc ((0) : Int))) (dlcons (dm D.int (dc ((0) : Int))) (dlcons (dm D.int (dc ((0) : Int))) (dlcons (dm D.int (dv (fun s : y_law_pool.S => s.salt))) (dc ([] : List D)))))))))
    zn)))
def y_law_pool : (List Int) → Option (List D) := fnD (fun a : (List Int) => ⟨a, 0, 0⟩) (none) y_law_pool.den
structure y_law_spread.S where
  cell : D
  blended : Int
  whole_sum : Int
  k : Int
def y_law_spread.G : List (y_law_spread.S → D) := [fun s => eD s.cell, fun s => D.int s.blended, fun s => D.int s.whole_sum, fun s => D.int s.k]
def y_law_spread.b0 : y_law_spread.S → Option (Res y_law_spread.S Int) := (sq (zset (fun (v : Int) (s : y_law_spread.S) => { s with blended := v }) (d2 modI (d1 (some : Int → Option Int) (d2 addI (d2 addI (d2 mulI (dv (fun s : y_law_spread.S => s.blended)) (dc ((48271) : Int))) (dc ((12345) : Int))) (dv (fun s : y_law_spread.S => s.k)))) (dc ((2147483647) : Int))))
    (sq (zset (fun (v : Int) (s : y_law_spread.S) => { s with whole_sum := v }) (d2 addI (d2 mulI (dv (fun s : y_law_spread.S => s.whole_sum)) (dc ((2147483647) : Int))) (dv (fun s : y_law_spread.S => s.blended))))
    zn))
def y_law_spread.den : y_law_spread.S → Option (Res y_law_spread.S Int) := (sq (zset (fun (v : Int) (s : y_law_spread.S) => { s with blended := v }) (d2 modI (d1 (raw1 .toInt false asI eD) (dv (fun s : y_law_spread.S => s.cell))) (dc ((2147483647) : Int))))
    (sq (zset (fun (v : Int) (s : y_law_spread.S) => { s with whole_sum := v }) (dc ((1) : Int)))
    (sq (zfor (d1 rg1 (dc ((4) : Int))) (fun (v : Int) (s : y_law_spread.S) => { s with k := v }) y_law_spread.b0)
    (sq (zret (dv (fun s : y_law_spread.S => s.whole_sum)))
    zn))))
def y_law_spread : D → Option Int := fnD (fun a : D => ⟨a, 0, 0, 0⟩) (none) y_law_spread.den
structure y_law_draw.S where
  pool : (List D)
  many : Int
  cell : D
  blended : Int
  value : Int
def y_law_draw.G : List (y_law_draw.S → D) := [fun s => (eL eD) s.pool, fun s => D.int s.many, fun s => eD s.cell, fun s => D.int s.blended, fun s => D.int s.value]
def y_law_draw.den : y_law_draw.S → Option (Res y_law_draw.S Int) := (sq (zif (dand (d2 (raw2 .le false asBl eD D.int) (d2 getL (dv (fun s : y_law_draw.S => s.pool)) (dc ((2) : Int))) (dc ((0) : Int))) (d2 (raw2 .lt false asBl eD D.int) (d2 getL (dv (fun s : y_law_draw.S => s.pool)) (dc ((1) : Int))) (d1 (raw1 .len false asI eD) (d2 getL (dv (fun s : y_law_draw.S => s.pool)) (dc ((0) : Int)))))) (sq (zset (fun (v : D) (s : y_law_draw.S) => { s with cell := v }) (d2 (raw2 .idx false some eD eD) (d2 getL (dv (fun s : y_law_draw.S => s.pool)) (dc ((0) : Int))) (d2 getL (dv (fun s : y_law_draw.S => s.pool)) (dc ((1) : Int)))))
    (sq (zsetI (fun s : y_law_draw.S => s.pool) (fun (v : (List D)) (s : y_law_draw.S) => { s with pool := v }) (dc ((1) : Int)) (dm D.int (d2 addI (d1 asI (d2 getL (dv (fun s : y_law_draw.S => s.pool)) (dc ((1) : Int)))) (dc ((1) : Int)))))
    (sq (zsetI (fun s : y_law_draw.S => s.pool) (fun (v : (List D)) (s : y_law_draw.S) => { s with pool := v }) (dc ((2) : Int)) (dv (fun s : y_law_draw.S => s.cell)))
    (sq (zif (d2 (raw2 .lt false asBl eD D.int) (dv (fun s : y_law_draw.S => s.cell)) (dc ((1000000000000000000) : Int))) (sq (zsetI (fun s : y_law_draw.S => s.pool) (fun (v : (List D)) (s : y_law_draw.S) => { s with pool := v }) (dc ((2) : Int)) (dm D.int (d1 y_law_spread (dv (fun s : y_law_draw.S => s.cell)))))
    zn) zn)
    zn)))) zn)
    (sq (zsetI (fun s : y_law_draw.S => s.pool) (fun (v : (List D)) (s : y_law_draw.S) => { s with pool := v }) (dc ((3) : Int)) (dm D.int (d2 addI (d1 asI (d2 getL (dv (fun s : y_law_draw.S => s.pool)) (dc ((3) : Int)))) (dc ((1) : Int)))))
    (sq (zif (d2 (raw2 .le false asBl eD D.int) (d2 getL (dv (fun s : y_law_draw.S => s.pool)) (dc ((2) : Int))) (dc ((0) : Int))) (sq (zset (fun (v : Int) (s : y_law_draw.S) => { s with blended := v }) (d2 modI (d1 (some : Int → Option Int) (d2 addI (d2 addI (d2 mulI (d1 asI (d2 getL (dv (fun s : y_law_draw.S => s.pool)) (dc ((4) : Int)))) (dc ((48271) : Int))) (d2 mulI (d1 asI (d2 getL (dv (fun s : y_law_draw.S => s.pool)) (dc ((3) : Int)))) (dc ((69621) : Int)))) (dc ((1) : Int)))) (dc ((2147483647) : Int))))
    (sq (zset (fun (v : Int) (s : y_law_draw.S) => { s with blended := v }) (d2 modI (d1 (some : Int → Option Int) (d2 addI (d2 mulI (dv (fun s : y_law_draw.S => s.blended)) (dc ((16807) : Int))) (d1 asI (d2 getL (dv (fun s : y_law_draw.S => s.pool)) (dc ((3) : Int)))))) (dc ((2147483629) : Int))))
    (sq (zret (d2 modI (d2 fdivI (dv (fun s : y_law_draw.S => s.blended)) (dc ((5) : Int))) (dv (fun s : y_law_draw.S => s.many))))
    zn))) zn)
    (sq (zset (fun (v : Int) (s : y_law_draw.S) => { s with value := v }) (d2 modI (d1 (raw1 .toInt false asI eD) (d2 getL (dv (fun s : y_law_draw.S => s.pool)) (dc ((2) : Int)))) (dv (fun s : y_law_draw.S => s.many))))
    (sq (zsetI (fun s : y_law_draw.S => s.pool) (fun (v : (List D)) (s : y_law_draw.S) => { s with pool := v }) (dc ((2) : Int)) (dm D.int (d2 fdivI (d1 asI (d2 getL (dv (fun s : y_law_draw.S => s.pool)) (dc ((2) : Int)))) (dv (fun s : y_law_draw.S => s.many)))))
    (sq (zret (dv (fun s : y_law_draw.S => s.value)))
    zn))))))
def y_law_draw : (List D) → Int → Option (Int × (List D)) := fnDio (fun (q : (List D)) (a : Int) => ⟨q, a, D.non, 0, 0⟩) (fun s : y_law_draw.S => s.pool) (none) y_law_draw.den
structure y_law_int.S where
  pool : (List D)
  most : Int
def y_law_int.G : List (y_law_int.S → D) := [fun s => (eL eD) s.pool, fun s => D.int s.most]
def y_law_int.den : y_law_int.S → Option (Res y_law_int.S Int) := (sq (zret (d2 mulI (dio y_law_draw (fun s : y_law_int.S => s.pool) (fun (v : (List D)) (s : y_law_int.S) => { s with pool := v }) (dv (fun s : y_law_int.S => s.most))) (dif (d2 eqI (dio y_law_draw (fun s : y_law_int.S => s.pool) (fun (v : (List D)) (s : y_law_int.S) => { s with pool := v }) (dc ((2) : Int))) (dc ((0) : Int))) (dc ((1) : Int)) (d1 negI (dc ((1) : Int))))))
    zn)
def y_law_int : (List D) → Int → Option (Int × (List D)) := fnDio (fun (q : (List D)) (a : Int) => ⟨q, a⟩) (fun s : y_law_int.S => s.pool) (none) y_law_int.den
structure y_law_same.S where
  actual : D
  due : D
  k : Int
def y_law_same.G : List (y_law_same.S → D) := [fun s => eD s.actual, fun s => eD s.due, fun s => D.int s.k]
def y_law_same.den (self : (D × D) → Option Bool) : y_law_same.S → Option (Res y_law_same.S Bool) := (sq (zif (dor (d1 (raw1 .isTup false asBl eD) (dv (fun s : y_law_same.S => s.due))) (d1 (raw1 .isLst false asBl eD) (dv (fun s : y_law_same.S => s.due)))) (sq (zif (dor (d2 neB (d1 (raw1 .isTup false asBl eD) (dv (fun s : y_law_same.S => s.due))) (d1 (raw1 .isTup false asBl eD) (dv (fun s : y_law_same.S => s.actual)))) (d2 neB (d1 (raw1 .isLst false asBl eD) (dv (fun s : y_law_same.S => s.due))) (d1 (raw1 .isLst false asBl eD) (dv (fun s : y_law_same.S => s.actual))))) (sq (zret (dc (false : Bool)))
    zn) zn)
    (sq (zif (d2 neI (d1 (raw1 .len false asI eD) (dv (fun s : y_law_same.S => s.actual))) (d1 (raw1 .len false asI eD) (dv (fun s : y_law_same.S => s.due)))) (sq (zret (dc (false : Bool)))
    zn) zn)
    (sq (zret (d2 eqI (d1 lenL (dlc (d1 rg1 (d1 (raw1 .len false asI eD) (dv (fun s : y_law_same.S => s.due)))) (fun (v : Int) (s : y_law_same.S) => { s with k := v }) (dnot (d1 self (dcons (d2 (raw2 .idx false some eD D.int) (dv (fun s : y_law_same.S => s.actual)) (dv (fun s : y_law_same.S => s.k))) (d2 (raw2 .idx false some eD D.int) (dv (fun s : y_law_same.S => s.due)) (dv (fun s : y_law_same.S => s.k)))))) (dv (fun s : y_law_same.S => s.k)))) (dc ((0) : Int))))
    zn))) zn)
    (sq (zif (d1 (raw1 .isN false asBl eD) (dv (fun s : y_law_same.S => s.due))) (sq (zret (d1 (raw1 .isN false asBl eD) (dv (fun s : y_law_same.S => s.actual))))
    zn) zn)
    (sq (zif (dor (d1 (raw1 .isBool false asBl eD) (dv (fun s : y_law_same.S => s.due))) (d1 (raw1 .isBool false asBl eD) (dv (fun s : y_law_same.S => s.actual)))) (sq (zret (dand (d1 (raw1 .isBool false asBl eD) (dv (fun s : y_law_same.S => s.due))) (dand (d1 (raw1 .isBool false asBl eD) (dv (fun s : y_law_same.S => s.actual))) (d2 (eqG eD eD) (dv (fun s : y_law_same.S => s.actual)) (dv (fun s : y_law_same.S => s.due))))))
    zn) zn)
    (sq (zif (d1 (raw1 .isInt false asBl eD) (dv (fun s : y_law_same.S => s.due))) (sq (zret (dand (d1 (raw1 .isInt false asBl eD) (dv (fun s : y_law_same.S => s.actual))) (d2 (eqG eD eD) (dv (fun s : y_law_same.S => s.actual)) (dv (fun s : y_law_same.S => s.due)))))
    zn) zn)
    (sq (zret (dand (d1 (raw1 .isStr false asBl eD) (dv (fun s : y_law_same.S => s.actual))) (d2 (eqG eD eD) (dv (fun s : y_law_same.S => s.actual)) (dv (fun s : y_law_same.S => s.due)))))
    zn)))))
def y_law_same : Nat → (D × D) → Option Bool
  | 0 => fun _ => none
  | n + 1 => fnD (fun a : (D × D) => ⟨a.1, a.2, 0⟩) (none) (y_law_same.den (y_law_same n))
structure y_law_power.S where
  base : Int
  many : Int
  value : Int
  k : Int
def y_law_power.G : List (y_law_power.S → D) := [fun s => D.int s.base, fun s => D.int s.many, fun s => D.int s.value, fun s => D.int s.k]
def y_law_power.b0 : y_law_power.S → Option (Res y_law_power.S Int) := (sq (zset (fun (v : Int) (s : y_law_power.S) => { s with value := v }) (d2 mulI (dv (fun s : y_law_power.S => s.value)) (dv (fun s : y_law_power.S => s.base))))
    zn)
def y_law_power.den : y_law_power.S → Option (Res y_law_power.S Int) := (sq (zset (fun (v : Int) (s : y_law_power.S) => { s with value := v }) (dc ((1) : Int)))
    (sq (zfor (d1 rg1 (dv (fun s : y_law_power.S => s.many))) (fun (v : Int) (s : y_law_power.S) => { s with k := v }) y_law_power.b0)
    (sq (zret (dv (fun s : y_law_power.S => s.value)))
    zn)))
def y_law_power : (Int × Int) → Option Int := fnD (fun a : (Int × Int) => ⟨a.1, a.2, 0, 0⟩) (none) y_law_power.den
structure y_law_rest.S where
  a : Int
  k : Int
  m : Int
  found : Int
  base : Int
  step : Int
def y_law_rest.G : List (y_law_rest.S → D) := [fun s => D.int s.a, fun s => D.int s.k, fun s => D.int s.m, fun s => D.int s.found, fun s => D.int s.base, fun s => D.int s.step]
def y_law_rest.b0 : y_law_rest.S → Option (Res y_law_rest.S Int) := (sq (zif (d2 gtI (dv (fun s : y_law_rest.S => s.k)) (dc ((0) : Int))) (sq (zif (d2 eqI (d2 modI (dv (fun s : y_law_rest.S => s.k)) (dc ((2) : Int))) (dc ((1) : Int))) (sq (zset (fun (v : Int) (s : y_law_rest.S) => { s with found := v }) (d2 modI (d2 mulI (dv (fun s : y_law_rest.S => s.found)) (dv (fun s : y_law_rest.S => s.base))) (dv (fun s : y_law_rest.S => s.m))))
    zn) zn)
    (sq (zset (fun (v : Int) (s : y_law_rest.S) => { s with base := v }) (d2 modI (d2 mulI (dv (fun s : y_law_rest.S => s.base)) (dv (fun s : y_law_rest.S => s.base))) (dv (fun s : y_law_rest.S => s.m))))
    (sq (zset (fun (v : Int) (s : y_law_rest.S) => { s with k := v }) (d2 fdivI (dv (fun s : y_law_rest.S => s.k)) (dc ((2) : Int))))
    zn))) zn)
    zn)
def y_law_rest.den : y_law_rest.S → Option (Res y_law_rest.S Int) := (sq (zpar2 (fun (v : Int) (s : y_law_rest.S) => { s with found := v }) (fun (v : Int) (s : y_law_rest.S) => { s with base := v }) (d2 modI (dc ((1) : Int)) (dv (fun s : y_law_rest.S => s.m))) (d2 modI (dv (fun s : y_law_rest.S => s.a)) (dv (fun s : y_law_rest.S => s.m))))
    (sq (zfor (d1 rg1 (dc ((140) : Int))) (fun (v : Int) (s : y_law_rest.S) => { s with step := v }) y_law_rest.b0)
    (sq (zret (dv (fun s : y_law_rest.S => s.found)))
    zn)))
def y_law_rest : (Int × (Int × Int)) → Option Int := fnD (fun a : (Int × (Int × Int)) => ⟨a.1, a.2.1, a.2.2, 0, 0, 0⟩) (none) y_law_rest.den
structure y_law_abs.S where
  a : Int
def y_law_abs.G : List (y_law_abs.S → D) := [fun s => D.int s.a]
def y_law_abs.den : y_law_abs.S → Option (Res y_law_abs.S Int) := (sq (zret (dif (d2 geI (dv (fun s : y_law_abs.S => s.a)) (dc ((0) : Int))) (dv (fun s : y_law_abs.S => s.a)) (d2 subI (dc ((0) : Int)) (dv (fun s : y_law_abs.S => s.a)))))
    zn)
def y_law_abs : Int → Option Int := fnD (fun a : Int => ⟨a⟩) (none) y_law_abs.den
structure y_law_common.S where
  a : Int
  b : Int
  k : Int
  rest : Int
def y_law_common.G : List (y_law_common.S → D) := [fun s => D.int s.a, fun s => D.int s.b, fun s => D.int s.k, fun s => D.int s.rest]
def y_law_common.b0 : y_law_common.S → Option (Res y_law_common.S Int) := (sq (zif (d2 eqI (dv (fun s : y_law_common.S => s.b)) (dc ((0) : Int))) (sq (zret (dv (fun s : y_law_common.S => s.a)))
    zn) zn)
    (sq (zset (fun (v : Int) (s : y_law_common.S) => { s with rest := v }) (d2 modI (d1 (some : Int → Option Int) (dv (fun s : y_law_common.S => s.a))) (dv (fun s : y_law_common.S => s.b))))
    (sq (zset (fun (v : Int) (s : y_law_common.S) => { s with a := v }) (dv (fun s : y_law_common.S => s.b)))
    (sq (zset (fun (v : Int) (s : y_law_common.S) => { s with b := v }) (dv (fun s : y_law_common.S => s.rest)))
    zn))))
def y_law_common.den : y_law_common.S → Option (Res y_law_common.S Int) := (sq (zfor (d1 rg1 (dc ((2000) : Int))) (fun (v : Int) (s : y_law_common.S) => { s with k := v }) y_law_common.b0)
    (sq (zret (dv (fun s : y_law_common.S => s.a)))
    zn))
def y_law_common : (Int × Int) → Option Int := fnD (fun a : (Int × Int) => ⟨a.1, a.2, 0, 0⟩) (none) y_law_common.den
structure y_law_pick.S where
  pool : (List D)
  items : (List D)
def y_law_pick.G : List (y_law_pick.S → D) := [fun s => (eL eD) s.pool, fun s => (eL eD) s.items]
def y_law_pick.den : y_law_pick.S → Option (Res y_law_pick.S D) := (sq (zret (d2 getL (dv (fun s : y_law_pick.S => s.items)) (dio y_law_draw (fun s : y_law_pick.S => s.pool) (fun (v : (List D)) (s : y_law_pick.S) => { s with pool := v }) (d1 lenL (dv (fun s : y_law_pick.S => s.items))))))
    zn)
def y_law_pick : (List D) → (List D) → Option (D × (List D)) := fnDio (fun (q : (List D)) (a : (List D)) => ⟨q, a⟩) (fun s : y_law_pick.S => s.pool) (none) y_law_pick.den
structure y_law_is_integer.S where
  actual : D
def y_law_is_integer.G : List (y_law_is_integer.S → D) := [fun s => eD s.actual]
def y_law_is_integer.den : y_law_is_integer.S → Option (Res y_law_is_integer.S Bool) := (sq (zret (dand (d1 (raw1 .isInt false asBl eD) (dv (fun s : y_law_is_integer.S => s.actual))) (dnot (d1 (raw1 .isBool false asBl eD) (dv (fun s : y_law_is_integer.S => s.actual))))))
    zn)
def y_law_is_integer : D → Option Bool := fnD (fun a : D => ⟨a⟩) (none) y_law_is_integer.den
structure y_law_is_row.S where
  value : D
  many : Int
  n : D
def y_law_is_row.G : List (y_law_is_row.S → D) := [fun s => eD s.value, fun s => D.int s.many, fun s => eD s.n]
def y_law_is_row.den : y_law_is_row.S → Option (Res y_law_is_row.S Bool) := (sq (zret (dand (d1 (raw1 .isTup false asBl eD) (dv (fun s : y_law_is_row.S => s.value))) (dand (d2 eqI (d1 (raw1 .len false asI eD) (dv (fun s : y_law_is_row.S => s.value))) (dv (fun s : y_law_is_row.S => s.many))) (d2 eqI (d1 lenL (dlc (d1 itemsD (dv (fun s : y_law_is_row.S => s.value))) (fun (v : D) (s : y_law_is_row.S) => { s with n := v }) (dnot (d1 y_law_is_integer (dv (fun s : y_law_is_row.S => s.n)))) (dv (fun s : y_law_is_row.S => s.n)))) (dc ((0) : Int))))))
    zn)
def y_law_is_row : (D × Int) → Option Bool := fnD (fun a : (D × Int) => ⟨a.1, a.2, D.non⟩) (none) y_law_is_row.den
structure y_law_is_worded.S where
  value : D
  word : (List Nat)
  length : Int
def y_law_is_worded.G : List (y_law_is_worded.S → D) := [fun s => eD s.value, fun s => D.str s.word, fun s => D.int s.length]
def y_law_is_worded.den : y_law_is_worded.S → Option (Res y_law_is_worded.S Bool) := (sq (zif (dor (dnot (d1 (raw1 .isTup false asBl eD) (dv (fun s : y_law_is_worded.S => s.value)))) (d2 neI (d1 (raw1 .len false asI eD) (dv (fun s : y_law_is_worded.S => s.value))) (dv (fun s : y_law_is_worded.S => s.length)))) (sq (zret (dc (false : Bool)))
    zn) zn)
    (sq (zret (dand (d1 (raw1 .isStr false asBl eD) (d2 (raw2 .idx false some eD D.int) (dv (fun s : y_law_is_worded.S => s.value)) (dc ((0) : Int)))) (d2 (eqG eD D.str) (d2 (raw2 .idx false some eD D.int) (dv (fun s : y_law_is_worded.S => s.value)) (dc ((0) : Int))) (dv (fun s : y_law_is_worded.S => s.word)))))
    zn))
def y_law_is_worded : (D × ((List Nat) × Int)) → Option Bool := fnD (fun a : (D × ((List Nat) × Int)) => ⟨a.1, a.2.1, a.2.2⟩) (none) y_law_is_worded.den
structure y_law_spots.S where
  value : D
  path : (List Int)
  found : (List (List Int))
  k : Int
def y_law_spots.G : List (y_law_spots.S → D) := [fun s => eD s.value, fun s => (eL D.int) s.path, fun s => (eL (eL D.int)) s.found, fun s => D.int s.k]
def y_law_spots.b0 (self : (D × (List Int)) → Option (List (List Int))) : y_law_spots.S → Option (Res y_law_spots.S (List (List Int))) := (sq (zset (fun (v : (List (List Int))) (s : y_law_spots.S) => { s with found := v }) (d2 gext (dv (fun s : y_law_spots.S => s.found)) (d1 self (dcons (d2 (raw2 .idx false some eD D.int) (dv (fun s : y_law_spots.S => s.value)) (dv (fun s : y_law_spots.S => s.k))) (d2 gext (dv (fun s : y_law_spots.S => s.path)) (d1 gl (dlcons (dv (fun s : y_law_spots.S => s.k)) (dc ([] : List Int)))))))))
    zn)
def y_law_spots.den (self : (D × (List Int)) → Option (List (List Int))) : y_law_spots.S → Option (Res y_law_spots.S (List (List Int))) := (sq (zset (fun (v : (List (List Int))) (s : y_law_spots.S) => { s with found := v }) (d1 gl (dlcons (dv (fun s : y_law_spots.S => s.path)) (dc ([] : List (List Int))))))
    (sq (zif (d1 (raw1 .isTup false asBl eD) (dv (fun s : y_law_spots.S => s.value))) (sq (zfor (d1 rg1 (d1 (raw1 .len false asI eD) (dv (fun s : y_law_spots.S => s.value)))) (fun (v : Int) (s : y_law_spots.S) => { s with k := v }) (y_law_spots.b0 self))
    zn) zn)
    (sq (zret (dv (fun s : y_law_spots.S => s.found)))
    zn)))
def y_law_spots : Nat → (D × (List Int)) → Option (List (List Int))
  | 0 => fun _ => none
  | n + 1 => fnD (fun a : (D × (List Int)) => ⟨a.1, a.2, [], 0⟩) (none) (y_law_spots.den (y_law_spots n))
structure y_law_spot_put.S where
  value : D
  path : (List Int)
  item : D
def y_law_spot_put.G : List (y_law_spot_put.S → D) := [fun s => eD s.value, fun s => (eL D.int) s.path, fun s => eD s.item]
def y_law_spot_put.den (self : (D × ((List Int) × D)) → Option D) : y_law_spot_put.S → Option (Res y_law_spot_put.S D) := (sq (zif (d2 eqI (d1 lenL (dv (fun s : y_law_spot_put.S => s.path))) (dc ((0) : Int))) (sq (zret (dv (fun s : y_law_spot_put.S => s.item)))
    zn) zn)
    (sq (zret (dm (eV eD) (d2 gext (d2 gext (dsl cutT (d1 asV (dv (fun s : y_law_spot_put.S => s.value))) dnone (dso (d2 getL (dv (fun s : y_law_spot_put.S => s.path)) (dc ((0) : Int))))) (dm (fun v : D => [(id : D → D) v]) (d1 self (dcons (d2 (raw2 .idx false some eD D.int) (dv (fun s : y_law_spot_put.S => s.value)) (d2 getL (dv (fun s : y_law_spot_put.S => s.path)) (dc ((0) : Int)))) (dcons (dsl cutT (dv (fun s : y_law_spot_put.S => s.path)) (dso (dc ((1) : Int))) dnone) (dv (fun s : y_law_spot_put.S => s.item))))))) (dsl cutT (d1 asV (dv (fun s : y_law_spot_put.S => s.value))) (dso (d2 addI (d2 getL (dv (fun s : y_law_spot_put.S => s.path)) (dc ((0) : Int))) (dc ((1) : Int)))) dnone))))
    zn))
def y_law_spot_put : Nat → (D × ((List Int) × D)) → Option D
  | 0 => fun _ => none
  | n + 1 => fnD (fun a : (D × ((List Int) × D)) => ⟨a.1, a.2.1, a.2.2⟩) (none) (y_law_spot_put.den (y_law_spot_put n))
structure y_law_spot.S where
  value : D
  path : (List Int)
  step : Int
def y_law_spot.G : List (y_law_spot.S → D) := [fun s => eD s.value, fun s => (eL D.int) s.path, fun s => D.int s.step]
def y_law_spot.b0 : y_law_spot.S → Option (Res y_law_spot.S D) := (sq (zset (fun (v : D) (s : y_law_spot.S) => { s with value := v }) (d2 (raw2 .idx false some eD D.int) (dv (fun s : y_law_spot.S => s.value)) (dv (fun s : y_law_spot.S => s.step))))
    zn)
def y_law_spot.den : y_law_spot.S → Option (Res y_law_spot.S D) := (sq (zfor (d1 some (dv (fun s : y_law_spot.S => s.path))) (fun (v : Int) (s : y_law_spot.S) => { s with step := v }) y_law_spot.b0)
    (sq (zret (dv (fun s : y_law_spot.S => s.value)))
    zn))
def y_law_spot : (D × (List Int)) → Option D := fnD (fun a : (D × (List Int)) => ⟨a.1, a.2, 0⟩) (none) y_law_spot.den
structure y_law_bent_spot.S where
  pool : (List D)
  value : D
  items : (List D)
def y_law_bent_spot.G : List (y_law_bent_spot.S → D) := [fun s => (eL eD) s.pool, fun s => eD s.value, fun s => (eL eD) s.items]
def y_law_bent_spot.den : y_law_bent_spot.S → Option (Res y_law_bent_spot.S D) := (sq (zif (d1 (raw1 .isTup false asBl eD) (dv (fun s : y_law_bent_spot.S => s.value))) (sq (zset (fun (v : (List D)) (s : y_law_bent_spot.S) => { s with items := v }) (d1 gl (dlcons (dm (eV eD) (dsl cutT (d1 asV (dv (fun s : y_law_bent_spot.S => s.value))) (dso (dc ((1) : Int))) dnone)) (dlcons (d2 (raw2 .add false some eD eD) (dv (fun s : y_law_bent_spot.S => s.value)) (dm (eV eD) (dsl cutT (d1 asV (dv (fun s : y_law_bent_spot.S => s.value))) (dso (d1 negI (dc ((1) : Int)))) dnone))) (dlcons (dm (eV eD) (d1 revT (d1 asV (dv (fun s : y_law_bent_spot.S => s.value))))) (dlcons (dm (eL eD) (d1 (raw1 .toList true asL eD) (dv (fun s : y_law_bent_spot.S => s.value)))) (dlcons (dm eN (dc (() : Unit))) (dlcons (dm (eT c0) (dc ())) (dlcons (d2 (raw2 .add false some eD eD) (dv (fun s : y_law_bent_spot.S => s.value)) (dm (eT (c1 D.int)) (dc ((0) : Int)))) (dc ([] : List D)))))))))))
    (sq (zret (dio y_law_pick (fun s : y_law_bent_spot.S => s.pool) (fun (v : (List D)) (s : y_law_bent_spot.S) => { s with pool := v }) (dv (fun s : y_law_bent_spot.S => s.items))))
    zn)) zn)
    (sq (zif (d1 (raw1 .isStr false asBl eD) (dv (fun s : y_law_bent_spot.S => s.value))) (sq (zret (dio y_law_pick (fun s : y_law_bent_spot.S => s.pool) (fun (v : (List D)) (s : y_law_bent_spot.S) => { s with pool := v }) (d1 gl (dlcons (dm D.str (dc ([97, 115, 107] : (List Nat)))) (dlcons (dm D.str (dc ([116, 101, 108, 108] : (List Nat)))) (dlcons (dm D.str (dc ([112, 108, 97, 110] : (List Nat)))) (dlcons (dm D.str (dc ([116, 114, 97, 112] : (List Nat)))) (dlcons (dm D.str (dc ([116, 111, 108, 100] : (List Nat)))) (dlcons (dm D.str (dc ([116, 119, 111] : (List Nat)))) (dlcons (dm D.str (dc ([108, 97, 110, 103, 117, 97, 103, 101] : (List Nat)))) (dlcons (dm D.str (dc ([120] : (List Nat)))) (dlcons (dm eN (dc (() : Unit))) (dc ([] : List D))))))))))))))
    zn) zn)
    (sq (zif (d1 (raw1 .isN false asBl eD) (dv (fun s : y_law_bent_spot.S => s.value))) (sq (zret (dio y_law_pick (fun s : y_law_bent_spot.S => s.pool) (fun (v : (List D)) (s : y_law_bent_spot.S) => { s with pool := v }) (d1 gl (dlcons (dm (eT c0) (dc ())) (dlcons (dm D.int (dc ((0) : Int))) (dlcons (dm D.bl (dc (false : Bool))) (dlcons (dm (eT (cc D.str (cc (eT c0) (c1 eN)))) (dcons (dc ([116, 101, 108, 108] : (List Nat))) (dcons (dc ()) (dc (() : Unit))))) (dlcons (dm (eT (cc (eT c0) (c1 (eT c0)))) (dcons (dc ()) (dc ()))) (dc ([] : List D))))))))))
    zn) zn)
    (sq (zret (dio y_law_pick (fun s : y_law_bent_spot.S => s.pool) (fun (v : (List D)) (s : y_law_bent_spot.S) => { s with pool := v }) (d1 gl (dlcons (dm D.int (d2 addI (d1 asI (dv (fun s : y_law_bent_spot.S => s.value))) (dc ((1) : Int)))) (dlcons (dm D.int (d2 subI (d1 asI (dv (fun s : y_law_bent_spot.S => s.value))) (dc ((1) : Int)))) (dlcons (dm D.int (d2 addI (d1 asI (dv (fun s : y_law_bent_spot.S => s.value))) (dc ((0) : Int)))) (dlcons (dm D.bl (d2 (eqG eD D.int) (dv (fun s : y_law_bent_spot.S => s.value)) (dc ((1) : Int)))) (dlcons (dm eN (dc (() : Unit))) (dlcons (dm D.str (d1 (raw1 .toStr false asS eD) (dv (fun s : y_law_bent_spot.S => s.value)))) (dlcons (dm D.int (dc ((7) : Int))) (dc ([] : List D))))))))))))
    zn))))
def y_law_bent_spot : (List D) → D → Option (D × (List D)) := fnDio (fun (q : (List D)) (a : D) => ⟨q, a, []⟩) (fun s : y_law_bent_spot.S => s.pool) (none) y_law_bent_spot.den
structure y_law_odd_values.S where
def y_law_odd_values.G : List (y_law_odd_values.S → D) := []
def y_law_odd_values.den : y_law_odd_values.S → Option (Res y_law_odd_values.S (List D)) := (sq (zret (d1 gl (dlcons (dm eN (dc (() : Unit))) (dlcons (dm D.bl (dc (true : Bool))) (dlcons (dm D.bl (dc (false : Bool))) (dlcons (dm D.int (dc ((0) : Int))) (dlcons (dm D.int (dc ((1) : Int))) (dlcons (dm D.int (d1 negI (dc ((1) : Int)))) (dlcons (dm D.str (dc ([] : (List Nat)))) (dlcons (dm D.str (dc ([114, 97, 110, 107, 105, 110, 103] : (List Nat)))) (dlcons (dm (eT c0) (dc ())) (dlcons (dm (eL D.int) (d1 gl (dc ([] : List Int)))) (dlcons (dc (D.dct [])) (dlcons (dm (eT (c1 D.int)) (dc ((0) : Int))) (dlcons (dm (eT (c1 D.bl)) (dc (true : Bool))) (dlcons (dm (eT (c1 (eT c0))) (dc ())) (dlcons (dm (eL D.int) (d1 gl (dlcons (dc ((0) : Int)) (dlcons (dc ((1) : Int)) (dc ([] : List Int)))))) (dlcons (dm (eT (cc D.int (c1 D.int))) (dcons (dc ((0) : Int)) (dc ((0) : Int)))) (dlcons (dm (eT (cc D.int (cc D.int (c1 D.int)))) (dcons (dc ((1) : Int)) (dcons (dc ((0) : Int)) (dc ((2) : Int))))) (dlcons (dm (eT (c1 D.str)) (dc ([114, 97, 110, 107, 105, 110, 103] : (List Nat)))) (dlcons (dm (eT (cc D.str (c1 (eT c0)))) (dcons (dc ([114, 97, 110, 107, 105, 110, 103] : (List Nat))) (dc ()))) (dlcons (dm (eT (cc D.str (c1 (eT c0)))) (dcons (dc ([99, 108, 97, 115, 104] : (List Nat))) (dc ()))) (dlcons (dm (eT (cc D.str (cc (eT (cc D.int (c1 D.int))) (c1 D.int)))) (dcons (dc ([114, 97, 110, 107, 105, 110, 103] : (List Nat))) (dcons (dcons (dc ((0) : Int)) (dc ((1) : Int))) (dc ((2) : Int))))) (dc ([] : List D)))))))))))))))))))))))))
    zn)
def y_law_odd_values : Unit → Option (List D) := fnD (fun a : Unit => ⟨⟩) (none) y_law_odd_values.den
structure y_law_bent.S where
  pool : (List D)
  paper : (List D)
  many : Int
  found : (List D)
  spots : (List (List Int))
  k : Int
  path : D
def y_law_bent.G : List (y_law_bent.S → D) := [fun s => (eL eD) s.pool, fun s => (eV eD) s.paper, fun s => D.int s.many, fun s => (eL eD) s.found, fun s => (eL (eL D.int)) s.spots, fun s => D.int s.k, fun s => eD s.path]
def y_law_bent.b0 : y_law_bent.S → Option (Res y_law_bent.S (List D)) := (sq (zset (fun (v : D) (s : y_law_bent.S) => { s with path := v }) (dio y_law_pick (fun s : y_law_bent.S => s.pool) (fun (v : (List D)) (s : y_law_bent.S) => { s with pool := v }) (dm (List.map (eL D.int)) (dv (fun s : y_law_bent.S => s.spots)))))
    (sq (zapp (fun s : y_law_bent.S => s.found) (fun (v : (List D)) (s : y_law_bent.S) => { s with found := v }) (d1 (y_law_spot_put 12) (dcons (dm (eV eD) (dv (fun s : y_law_bent.S => s.paper))) (dcons (d1 (fun v => (asL v).bind (mapO asI)) (dv (fun s : y_law_bent.S => s.path))) (dio y_law_bent_spot (fun s : y_law_bent.S => s.pool) (fun (v : (List D)) (s : y_law_bent.S) => { s with pool := v }) (d1 y_law_spot (dcons (dm (eV eD) (dv (fun s : y_law_bent.S => s.paper))) (d1 (fun v => (asL v).bind (mapO asI)) (dv (fun s : y_law_bent.S => s.path))))))))))
    zn))
def y_law_bent.den : y_law_bent.S → Option (Res y_law_bent.S (List D)) := (sq (zset (fun (v : (List D)) (s : y_law_bent.S) => { s with found := v }) (d1 gl (dlcons (dm (eV eD) (dv (fun s : y_law_bent.S => s.paper))) (dlcons (dm (eL eD) (d1 (some : (List D) → Option (List D)) (dv (fun s : y_law_bent.S => s.paper)))) (dlcons (dm (eV eD) (d2 gext (dv (fun s : y_law_bent.S => s.paper)) (dm (fun v : Int => [D.int v]) (dc ((0) : Int))))) (dlcons (dm (eT (c1 eD)) (d2 getL (dv (fun s : y_law_bent.S => s.paper)) (dc ((0) : Int)))) (dlcons (dm (eV eD) (d1 revT (dv (fun s : y_law_bent.S => s.paper)))) (dc ([] : List D)))))))))
    (sq (zset (fun (v : (List (List Int))) (s : y_law_bent.S) => { s with spots := v }) (d1 (y_law_spots 12) (dcons (dm (eV eD) (dv (fun s : y_law_bent.S => s.paper))) (d1 gl (dc ([] : List Int))))))
    (sq (zfor (d1 rg1 (dv (fun s : y_law_bent.S => s.many))) (fun (v : Int) (s : y_law_bent.S) => { s with k := v }) y_law_bent.b0)
    (sq (zret (d2 gext (dv (fun s : y_law_bent.S => s.found)) (d1 y_law_odd_values (dc ()))))
    zn))))
def y_law_bent : (List D) → ((List D) × Int) → Option ((List D) × (List D)) := fnDio (fun (q : (List D)) (a : ((List D) × Int)) => ⟨q, a.1, a.2, [], [], 0, D.non⟩) (fun s : y_law_bent.S => s.pool) (none) y_law_bent.den
end NW
namespace NW
/-- a size that is found by instances -/
class Bd (x : Int) (k : outParam Nat) : Prop where
  lt : x.natAbs < 2 ^ k
section
variable {x y : Int} {j k : Nat}
theorem Bd.mono (h : Bd x j) (hk : j ≤ k) : Bd x k := ⟨Nat.lt_of_lt_of_le h.lt (Nat.pow_le_pow_right (by omega) hk)⟩
instance bd_lit (n : Nat) : Bd (no_index (OfNat.ofNat n : Int)) (n.log2 + 1) := ⟨by show (Int.ofNat n).natAbs < _; exact Nat.lt_log2_self⟩
instance bd_neg [h : Bd x j] : Bd (-x) j := ⟨by rw [Int.natAbs_neg]; exact h.lt⟩
theorem pow_two_le (j k : Nat) : 2 ^ j + 2 ^ k ≤ 2 ^ (j + k + 1) := by
  have h1 : 2 ^ j ≤ 2 ^ (j + k) := Nat.pow_le_pow_right (by omega) (by omega)
  have h2 : 2 ^ k ≤ 2 ^ (j + k) := Nat.pow_le_pow_right (by omega) (by omega)
  rw [Nat.pow_succ]; omega
instance bd_add [h : Bd x j] [g : Bd y k] : Bd (x + y) (j + k + 1) := ⟨by have := h.lt; have := g.lt; have := pow_two_le j k; have := Int.natAbs_add_le x y; omega⟩
instance bd_sub [h : Bd x j] [g : Bd y k] : Bd (x - y) (j + k + 1) := ⟨by have := h.lt; have := g.lt; have := pow_two_le j k; omega⟩
instance bd_mul [h : Bd x j] [g : Bd y k] : Bd (x * y) (j + k) := ⟨by
  rw [Int.natAbs_mul, Nat.pow_add]
  exact Nat.mul_lt_mul'' h.lt g.lt⟩
instance bd_cast (n : Nat) : Bd (n : Int) (n.log2 + 1) := ⟨by show (Int.ofNat n).natAbs < _; exact Nat.lt_log2_self⟩
theorem two_pos' (k : Nat) : 0 < 2 ^ k := Nat.pow_pos (by omega)
instance bd_div [h : Bd x j] : Bd (x / y) (j + 1) := ⟨by
  have h1 := Int.natAbs_ediv_le_natAbs x y
  have h2 := h.lt
  rw [Nat.pow_succ]; omega⟩
instance bd_emod [g : Bd y k] [h : Bd x j] : Bd (x % y) (j + k + 1) := ⟨by
  have := h.lt; have := g.lt; have := pow_two_le j k
  by_cases z : y = 0
  · subst z; rw [Int.emod_zero]; omega
  · have h1 := Int.emod_nonneg x z
    have h2 := Int.emod_lt x z
    omega⟩
theorem bd_of (h0 : 0 ≤ x) (h1 : x < ((2 ^ k : Nat) : Int)) : Bd x k := ⟨by omega⟩
theorem bd_two (h0 : -((2 ^ k : Nat) : Int) < x) (h1 : x < ((2 ^ k : Nat) : Int)) : Bd x k := ⟨by omega⟩
theorem log2_le (h : x.natAbs < 2 ^ k) : x.natAbs.log2 ≤ k := by
  by_cases z : x.natAbs = 0
  · rw [z]; simp
  · have := (Nat.log2_lt z).mpr h; omega
theorem mulI_ok [h : Bd x j] [g : Bd y k] (hk : j + k ≤ 900000) : mulI x y = some (x * y) := by
  unfold mulI
  rw [if_pos]
  have := log2_le h.lt; have := log2_le g.lt
  omega
theorem fdivI_ok [g : Bd y k] (h0 : 0 < y) (hk : k ≤ 8000) : fdivI x y = some (x / y) := by
  unfold fdivI
  rw [if_pos ⟨by omega, by have := log2_le g.lt; omega⟩, Int.fdiv_eq_ediv_of_nonneg _ (by omega)]
theorem modI_ok (h0 : 0 < y) : modI x y = some (x % y) := by
  unfold modI
  rw [if_pos (by omega), Int.fmod_eq_emod_of_nonneg _ (by omega)]
theorem rgT_of [h : Bd x j] (hk : j ≤ 62) : rgT x = true := by
  have := (Bd.mono h hk).lt
  unfold rgT
  exact Nat.ble_eq_true_of_le (by omega)
theorem rg1_ok [h : Bd x j] (hk : j ≤ 62) : rg1 x = some (rgI 1 x.toNat 0) := by
  unfold rg1
  rw [if_pos (rgT_of hk)]
theorem rg2_ok [h : Bd x j] [g : Bd y k] (hj : j ≤ 62) (hk : k ≤ 62) : rg2 x y = some (rgI 1 (y - x).toNat x) := by
  unfold rg2
  rw [rgT_of hj, rgT_of hk]; rfl
end
section
variable {σ α β γ δ : Type}
theorem fnD_ap {init : α → σ} {dn : Option β} {den : σ → Option (Res σ β)} {a : α} : fnD init dn den a = (den (init a)).bind fun r => match r with | .rt v _ => some v | .nx _ => dn | _ => none := rfl
theorem fnDio_ap {init : γ → α → σ} {gp : σ → γ} {dn : Option β} {den : σ → Option (Res σ β)} {q : γ} {a : α} : fnDio init gp dn den q a = (den (init q a)).bind fun r => match r with | .rt v s => some (v, gp s) | .nx s => dn.bind fun v => some (v, gp s) | _ => none := rfl
theorem sq_ap {x y : σ → Option (Res σ β)} {s : σ} : sq x y s = (x s).bind fun r => match r with | .nx s' => y s' | .rt v s' => some (.rt v s') | .bk s' => some (.bk s') | .ct s' => some (.ct s') := rfl
theorem zn_ap {s : σ} : (zn s : Option (Res σ β)) = some (.nx s) := rfl
theorem zex_ap {x : σ → Option (α × σ)} {s : σ} : (zex x s : Option (Res σ β)) = (x s).bind fun q => some (.nx q.2) := rfl
theorem zset_ap {u : α → σ → σ} {x : σ → Option (α × σ)} {s : σ} : (zset u x s : Option (Res σ β)) = (x s).bind fun q => some (.nx (u q.1 q.2)) := rfl
theorem zsetI_ap {g : σ → List α} {u : List α → σ → σ} {k : σ → Option (Int × σ)} {x : σ → Option (α × σ)} {s : σ} : (zsetI g u k x s : Option (Res σ β)) = (x s).bind fun q => (k q.2).bind fun p => (setL (g p.2) p.1 q.1).bind fun l => some (.nx (u l p.2)) := rfl
theorem zaugI_ap {g : σ → List Int} {u : List Int → σ → σ} {f : Int → Int → Option Int} {k y : σ → Option (Int × σ)} {s : σ} : (zaugI g u f k y s : Option (Res σ β)) = (k s).bind fun a => (getL (g a.2) a.1).bind fun b => (y a.2).bind fun d => (f b d.1).bind fun v => (setL (g d.2) a.1 v).bind fun l => some (.nx (u l d.2)) := rfl
theorem zapp_ap {g : σ → List α} {u : List α → σ → σ} {x : σ → Option (α × σ)} {s : σ} : (zapp g u x s : Option (Res σ β)) = (x s).bind fun q => (gapp (g q.2) q.1).bind fun l => some (.nx (u l q.2)) := rfl
theorem zext_ap {g : σ → List α} {u : List α → σ → σ} {x : σ → Option (List α × σ)} {s : σ} : (zext g u x s : Option (Res σ β)) = (x s).bind fun q => (gext (g q.2) q.1).bind fun l => some (.nx (u l q.2)) := rfl
theorem zpar2_ap {u : α → σ → σ} {v : γ → σ → σ} {x : σ → Option (α × σ)} {y : σ → Option (γ × σ)} {s : σ} : (zpar2 u v x y s : Option (Res σ β)) = (x s).bind fun q => (y q.2).bind fun p => some (.nx (v p.1 (u q.1 p.2))) := rfl
theorem zpar3_ap {u : α → σ → σ} {v : γ → σ → σ} {w : δ → σ → σ} {x : σ → Option (α × σ)} {y : σ → Option (γ × σ)} {z : σ → Option (δ × σ)} {s : σ} : (zpar3 u v w x y z s : Option (Res σ β)) = (x s).bind fun q => (y q.2).bind fun p => (z p.2).bind fun o => some (.nx (w o.1 (v p.1 (u q.1 o.2)))) := rfl
theorem zaug_ap {g : σ → α} {u : α → σ → σ} {f : α → γ → Option α} {y : σ → Option (γ × σ)} {s : σ} : (zaug g u f y s : Option (Res σ β)) = (y s).bind fun q => (f (g s) q.1).bind fun v => some (.nx (u v q.2)) := rfl
theorem zret_ap {x : σ → Option (β × σ)} {s : σ} : zret x s = (x s).bind fun q => some (.rt q.1 q.2) := rfl
theorem zretN_ap {v : β} {s : σ} : zretN v s = some (.rt v s) := rfl
theorem zif_ap {t : σ → Option (Bool × σ)} {x y : σ → Option (Res σ β)} {s : σ} : zif t x y s = (t s).bind fun q => match q.1 with | true => x q.2 | false => y q.2 := rfl
theorem zfor_ap {it : σ → Option (List α × σ)} {u : α → σ → σ} {b : σ → Option (Res σ β)} {s : σ} : zfor it u b s = (it s).bind fun q => forD u b q.1 q.2 := rfl
theorem zbk_ap {s : σ} : (zbk s : Option (Res σ β)) = some (.bk s) := rfl
theorem zct_ap {s : σ} : (zct s : Option (Res σ β)) = some (.ct s) := rfl
theorem dv_ap {g : σ → α} {s : σ} : dv g s = some (g s, s) := rfl
theorem dc_ap {v : α} {s : σ} : dc v s = some (v, s) := rfl
theorem d1_ap {f : α → Option β} {x : σ → Option (α × σ)} {s : σ} : d1 f x s = (x s).bind fun q => (f q.1).bind fun v => some (v, q.2) := rfl
theorem d2_ap {f : α → β → Option γ} {x : σ → Option (α × σ)} {y : σ → Option (β × σ)} {s : σ} : d2 f x y s = (x s).bind fun q => (y q.2).bind fun u => (f q.1 u.1).bind fun v => some (v, u.2) := rfl
theorem d2L_ap {g : σ → α} {f : α → β → Option γ} {y : σ → Option (β × σ)} {s : σ} : d2L g f y s = (y s).bind fun u => (f (g u.2) u.1).bind fun v => some (v, u.2) := rfl
theorem dm_ap {f : α → β} {x : σ → Option (α × σ)} {s : σ} : dm f x s = (x s).bind fun q => some (f q.1, q.2) := rfl
theorem dcons_ap {x : σ → Option (α × σ)} {y : σ → Option (β × σ)} {s : σ} : dcons x y s = (x s).bind fun q => (y q.2).bind fun u => some ((q.1, u.1), u.2) := rfl
theorem dlcons_ap {x : σ → Option (α × σ)} {y : σ → Option (List α × σ)} {s : σ} : dlcons x y s = (x s).bind fun q => (y q.2).bind fun u => some (q.1 :: u.1, u.2) := rfl
theorem dstar_ap {x y : σ → Option (List α × σ)} {s : σ} : dstar x y s = (x s).bind fun q => (y q.2).bind fun u => some (q.1 ++ u.1, u.2) := rfl
theorem dnot_ap {x : σ → Option (Bool × σ)} {s : σ} : dnot x s = (x s).bind fun q => some (!q.1, q.2) := rfl
theorem dand_ap {x y : σ → Option (Bool × σ)} {s : σ} : dand x y s = (x s).bind fun q => match q.1 with | true => y q.2 | false => some (false, q.2) := rfl
theorem dor_ap {x y : σ → Option (Bool × σ)} {s : σ} : dor x y s = (x s).bind fun q => match q.1 with | true => some (true, q.2) | false => y q.2 := rfl
theorem dif_ap {t : σ → Option (Bool × σ)} {x y : σ → Option (α × σ)} {s : σ} : dif t x y s = (t s).bind fun q => match q.1 with | true => x q.2 | false => y q.2 := rfl
theorem dch_ap {f : α → β → Option Bool} {g : β → γ → Option Bool} {x : σ → Option (α × σ)} {y : σ → Option (β × σ)} {z : σ → Option (γ × σ)} {s : σ} : dch f g x y z s = (x s).bind fun q => (y q.2).bind fun u => (f q.1 u.1).bind fun v => match v with | true => (z u.2).bind fun w => (g u.1 w.1).bind fun k => some (k, w.2) | false => some (false, u.2) := rfl
theorem dio_ap {f : γ → α → Option (β × γ)} {gp : σ → γ} {sp : γ → σ → σ} {x : σ → Option (α × σ)} {s : σ} : dio f gp sp x s = (x s).bind fun q => (f (gp q.2) q.1).bind fun v => some (v.1, sp v.2 q.2) := rfl
theorem dnone_ap {s : σ} : (dnone s : Option (Option α × σ)) = some (none, s) := rfl
theorem dso_ap {x : σ → Option (Int × σ)} {s : σ} : dso x s = (x s).bind fun q => some (some q.1, q.2) := rfl
theorem dsl_ap {f : α → Option Int → Option Int → Option β} {x : σ → Option (α × σ)} {lo hi : σ → Option (Option Int × σ)} {s : σ} : dsl f x lo hi s = (x s).bind fun q => (lo q.2).bind fun l => (hi l.2).bind fun h => (f q.1 l.1 h.1).bind fun v => some (v, h.2) := rfl
theorem dlc_ap {it : σ → Option (List α × σ)} {upd : α → σ → σ} {test : σ → Option (Bool × σ)} {el : σ → Option (β × σ)} {s : σ} : dlc it upd test el s = (it s).bind fun q => (walkP (turnP upd test el q.2) q.1).bind fun r => (gl r).bind fun v => some (v, q.2) := rfl
theorem dany_ap {x : σ → Option (List Bool × σ)} {s : σ} : dany x s = (x s).bind fun q => some (q.1.any id, q.2) := rfl
theorem dall_ap {x : σ → Option (List Bool × σ)} {s : σ} : dall x s = (x s).bind fun q => some (q.1.all id, q.2) := rfl
theorem ucons_ap {f : α → σ → σ} {g : β → σ → σ} {a : α × β} {s : σ} : ucons f g a s = g a.2 (f a.1 s) := rfl
theorem addI_ap {a b : Int} : addI a b = some (a + b) := rfl
theorem subI_ap {a b : Int} : subI a b = some (a - b) := rfl
theorem negI_ap {a : Int} : negI a = some (-a) := rfl
theorem ltI_ap {a b : Int} : ltI a b = some (decide (a < b)) := rfl
theorem leI_ap {a b : Int} : leI a b = some (decide (a ≤ b)) := rfl
theorem gtI_ap {a b : Int} : gtI a b = some (decide (b < a)) := rfl
theorem geI_ap {a b : Int} : geI a b = some (decide (b ≤ a)) := rfl
theorem eqI_ap {a b : Int} : eqI a b = some (a == b) := rfl
theorem neI_ap {a b : Int} : neI a b = some (!(a == b)) := rfl
theorem eqB_ap {a b : Bool} : eqB a b = some (a == b) := rfl
theorem neB_ap {a b : Bool} : neB a b = some (!(a == b)) := rfl
theorem eqQ_ap [DecidableEq α] {a b : α} : eqQ a b = some (decide (a = b)) := rfl
theorem neQ_ap [DecidableEq α] {a b : α} : neQ a b = some (!decide (a = b)) := rfl
theorem lenL_ap {xs : List α} : lenL xs = some (xs.length : Int) := rfl
/-- a statement's outcome -/
def Ok (o : Option (Res σ β)) (Q : Res σ β → Prop) : Prop := ∃ r, o = some r ∧ Q r
def cont (y : σ → Option (Res σ β)) (Q : Res σ β → Prop) : Res σ β → Prop
  | .nx s => Ok (y s) Q
  | r => Q r
theorem ok_some {r : Res σ β} {Q : Res σ β → Prop} : Ok (some r) Q ↔ Q r := ⟨fun ⟨_, e, q⟩ => by cases e; exact q, fun q => ⟨_, rfl, q⟩⟩
theorem ok_sq {x y : σ → Option (Res σ β)} {s : σ} {Q : Res σ β → Prop} : Ok (sq x y s) Q ↔ Ok (x s) (cont y Q) := by
  constructor
  · rintro ⟨r, e, q⟩
    obtain ⟨r1, h1, h2⟩ := Option.bind_eq_some_iff.mp e
    refine ⟨r1, h1, ?_⟩
    cases r1 with
    | nx s' => exact ⟨r, h2, q⟩
    | rt v s' => cases h2; exact q
    | bk s' => cases h2; exact q
    | ct s' => cases h2; exact q
  · rintro ⟨r, e, q⟩
    unfold Ok sq
    rw [e]
    cases r with
    | nx s' => exact q
    | rt v s' => exact ⟨_, rfl, q⟩
    | bk s' => exact ⟨_, rfl, q⟩
    | ct s' => exact ⟨_, rfl, q⟩
theorem cont_nx {y : σ → Option (Res σ β)} {Q : Res σ β → Prop} {s : σ} : cont y Q (.nx s) = Ok (y s) Q := rfl
theorem cont_rt {y : σ → Option (Res σ β)} {Q : Res σ β → Prop} {v : β} {s : σ} : cont y Q (.rt v s) = Q (.rt v s) := rfl
theorem cont_bk {y : σ → Option (Res σ β)} {Q : Res σ β → Prop} {s : σ} : cont y Q (.bk s) = Q (.bk s) := rfl
theorem cont_ct {y : σ → Option (Res σ β)} {Q : Res σ β → Prop} {s : σ} : cont y Q (.ct s) = Q (.ct s) := rfl
theorem Ok.imp {o : Option (Res σ β)} {P Q : Res σ β → Prop} (h : Ok o P) (k : ∀ r, P r → Q r) : Ok o Q := by
  obtain ⟨r, e, p⟩ := h
  exact ⟨r, e, k r p⟩
/-- a def's value by its outcome -/
theorem fn_ok {init : α → σ} {dn : Option β} {den : σ → Option (Res σ β)} {a : α} {v : β} (h : Ok (den (init a)) (fun r => match r with | .rt w _ => w = v | .nx _ => dn = some v | _ => False)) : fnD init dn den a = some v := by
  obtain ⟨r, e, q⟩ := h
  unfold fnD
  rw [e]
  cases r with
  | nx s => exact q
  | rt w s => exact congrArg some q
  | bk s => exact q.elim
  | ct s => exact q.elim
theorem fnIo_ok {init : γ → α → σ} {gp : σ → γ} {dn : Option β} {den : σ → Option (Res σ β)} {q : γ} {a : α} {P : β → γ → Prop} (h : Ok (den (init q a)) (fun r => match r with | .rt w s => P w (gp s) | _ => False)) : ∃ v p, fnDio init gp dn den q a = some (v, p) ∧ P v p := by
  obtain ⟨r, e, k⟩ := h
  unfold fnDio
  rw [e]
  cases r with
  | rt w s => exact ⟨w, gp s, rfl, k⟩
  | nx s => exact k.elim
  | bk s => exact k.elim
  | ct s => exact k.elim
end
section
variable {σ α β γ : Type} {init : α → σ} {dn : Option β} {den x y : σ → Option (Res σ β)} {a : α} {v : β} {s s' : σ}
theorem fnD_rt (h : den (init a) = some (.rt v s)) : fnD init dn den a = some v := by unfold fnD; rw [h]; rfl
theorem fnD_nx (h : den (init a) = some (.nx s)) : fnD init dn den a = dn := by unfold fnD; rw [h]; rfl
theorem fnDio_rt {init : γ → α → σ} {gp : σ → γ} {q : γ} (h : den (init q a) = some (.rt v s)) : fnDio init gp dn den q a = some (v, gp s) := by unfold fnDio; rw [h]; rfl
theorem sq_nx (h : x s = some (.nx s')) : sq x y s = y s' := by unfold sq; rw [h]; rfl
theorem sq_rt (h : x s = some (.rt v s')) : sq x y s = some (.rt v s') := by unfold sq; rw [h]; rfl
theorem sq_bk (h : x s = some (.bk s')) : sq x y s = some (.bk s') := by unfold sq; rw [h]; rfl
theorem zif_t {t : σ → Option (Bool × σ)} (h : t s = some (true, s')) : zif t x y s = x s' := by unfold zif; rw [h]; rfl
theorem zif_f {t : σ → Option (Bool × σ)} (h : t s = some (false, s')) : zif t x y s = y s' := by unfold zif; rw [h]; rfl
theorem d1_ok {f : α → Option β} {x : σ → Option (α × σ)} {w : α} (h : x s = some (w, s')) (hf : f w = some v) : d1 f x s = some (v, s') := by unfold d1; rw [h]; simp only [Option.bind_some, hf]
theorem d2_ok {f : α → γ → Option β} {x : σ → Option (α × σ)} {y : σ → Option (γ × σ)} {w : α} {z : γ} {s'' : σ} (h : x s = some (w, s')) (k : y s' = some (z, s'')) (hf : f w z = some v) : d2 f x y s = some (v, s'') := by unfold d2; rw [h]; simp only [Option.bind_some, k, hf]
theorem dm_ok {f : α → β} {x : σ → Option (α × σ)} {w : α} (h : x s = some (w, s')) : dm f x s = some (f w, s') := by unfold dm; rw [h]; rfl
theorem dcons_ok {x : σ → Option (α × σ)} {y : σ → Option (γ × σ)} {w : α} {z : γ} {s'' : σ} (h : x s = some (w, s')) (k : y s' = some (z, s'')) : dcons x y s = some ((w, z), s'') := by unfold dcons; rw [h]; simp only [Option.bind_some, k]
theorem dlc_ok {it : σ → Option (List α × σ)} {upd : α → σ → σ} {test : σ → Option (Bool × σ)} {el : σ → Option (β × σ)} {as : List α} {bs : List β} (h : it s = some (as, s')) (hw : walkP (turnP upd test el s') as = some bs) (hl : bs.length ≤ L24) : dlc it upd test el s = some (bs, s') := by
  unfold dlc; rw [h]; simp only [Option.bind_some, hw, gl, if_pos hl]
theorem zret_ok {e : σ → Option (β × σ)} (h : e s = some (v, s')) : zret e s = some (.rt v s') := by unfold zret; rw [h]; rfl
theorem zset_ok {u : γ → σ → σ} {e : σ → Option (γ × σ)} {w : γ} (h : e s = some (w, s')) : zset (β := β) u e s = some (.nx (u w s')) := by unfold zset; rw [h]; rfl
end
section
variable {σ α β : Type}
/-- one turn: it goes on with I, or ends with Post -/
def Turn (o : Option (Res σ β)) (I : σ → Prop) (Post : Res σ β → Prop) : Prop := match o with
  | some (.nx s) => I s
  | some (.ct s) => I s
  | some (.bk s) => Post (.nx s)
  | some (.rt v s) => Post (.rt v s)
  | none => False
theorem Turn.of {o : Option (Res σ β)} {I : σ → Prop} {Post : Res σ β → Prop} (h : Ok o (fun r => match r with | .nx s => I s | .ct s => I s | .bk s => Post (.nx s) | .rt v s => Post (.rt v s))) : Turn o I Post := by
  obtain ⟨r, e, q⟩ := h
  rw [e]
  cases r <;> exact q
theorem for_ls {u : α → σ → σ} {b : σ → Option (Res σ β)} (Inv : List α → σ → Prop) (Post : Res σ β → Prop) : ∀ (as : List α) (s : σ), Inv as s → (∀ a as s, Inv (a :: as) s → Turn (b (u a s)) (Inv as) Post) → (∀ s, Inv [] s → Post (.nx s)) → ∃ r, forD u b as s = some r ∧ Post r
  | [], s, h, _, he => ⟨_, rfl, he s h⟩
  | a :: as, s, h, ht, he => by
    have t := ht a as s h
    unfold forD
    cases e : b (u a s) with
    | none => rw [e] at t; exact t.elim
    | some r =>
      rw [e] at t
      cases r with
      | nx s' => exact for_ls Inv Post as s' t ht he
      | ct s' => exact for_ls Inv Post as s' t ht he
      | bk s' => exact ⟨_, rfl, t⟩
      | rt v s' => exact ⟨_, rfl, t⟩
theorem for_rg {u : Int → σ → σ} {b : σ → Option (Res σ β)} (Inv : Int → σ → Prop) (Post : Res σ β → Prop) : ∀ (n : Nat) (lo : Int) (s : σ), Inv lo s → (∀ i s, lo ≤ i → i < lo + n → Inv i s → Turn (b (u i s)) (Inv (i + 1)) Post) → (∀ s, Inv (lo + n) s → Post (.nx s)) → ∃ r, forD u b (rgI 1 n lo) s = some r ∧ Post r
  | 0, lo, s, h, _, he => ⟨_, rfl, he s (by simpa using h)⟩
  | n + 1, lo, s, h, ht, he => by
    have t := ht lo s (by omega) (by omega) h
    unfold rgI forD
    have ih : ∀ s', Inv (lo + 1) s' → ∃ r, forD u b (rgI 1 n (lo + 1)) s' = some r ∧ Post r := fun s' h' => for_rg Inv Post n (lo + 1) s' h' (fun i s h1 h2 h3 => ht i s (by omega) (by omega) h3) (fun s h => he s (by rw [show lo + ((n + 1 : Nat) : Int) = lo + 1 + n by omega]; exact h))
    cases e : b (u lo s) with
    | none => rw [e] at t; exact t.elim
    | some r =>
      rw [e] at t
      cases r with
      | nx s' => exact ih s' t
      | ct s' => exact ih s' t
      | bk s' => exact ⟨_, rfl, t⟩
      | rt v s' => exact ⟨_, rfl, t⟩
theorem whl_in {t : σ → Option (Bool × σ)} {b : σ → Option (Res σ β)} (Inv : σ → Prop) (μ : σ → Nat) (Post : Res σ β → Prop) : ∀ (n : Nat) (s : σ), Inv s → μ s < n → (∀ s, Inv s → (∃ s', t s = some (true, s') ∧ Turn (b s') (fun x => Inv x ∧ μ x < μ s) Post) ∨ ∃ s', t s = some (false, s') ∧ Post (.nx s')) → ∃ r, whlD t b n s = some r ∧ Post r
  | 0, _, _, h, _ => by omega
  | n + 1, s, h, hn, ht => by
    unfold whlD
    rcases ht s h with ⟨s', e1, k⟩ | ⟨s', e1, k⟩
    · simp only [e1, Option.bind_some]
      cases e : b s' with
      | none => rw [e] at k; exact k.elim
      | some r =>
        rw [e] at k
        cases r with
        | nx x => exact whl_in Inv μ Post n x k.1 (by have := k.2; omega) ht
        | ct x => exact whl_in Inv μ Post n x k.1 (by have := k.2; omega) ht
        | bk x => exact ⟨_, rfl, k⟩
        | rt v x => exact ⟨_, rfl, k⟩
    · simp only [e1, Option.bind_some]
      exact ⟨_, rfl, k⟩
theorem walkP_none {f : α → Option (Option β)} : ∀ as : List α, (∀ a ∈ as, f a = some none) → walkP f as = some []
  | [], _ => rfl
  | a :: as, h => by
    unfold walkP
    rw [h a (List.mem_cons_self), walkP_none as (fun x hx => h x (List.mem_cons_of_mem _ hx))]
    rfl
theorem mem_rgI : ∀ {n : Nat} {lo i : Int}, i ∈ rgI 1 n lo → lo ≤ i ∧ i < lo + n
  | 0, _, _, h => by cases h
  | n + 1, lo, i, h => by
    unfold rgI at h
    rcases List.mem_cons.mp h with rfl | h
    · omega
    · have := mem_rgI h; omega
end
def pl (ns : List Int) (i v c s : Int) : List D := [.lst (ns.map D.int), .int i, .int v, .int c, .int s]
/-- a pool after at most m draws -/
def Pl (m : Nat) (p : List D) : Prop := ∃ (ns : List Int) (i v c s : Int), p = pl ns i v c s ∧ 0 ≤ i ∧ 0 ≤ c ∧ c ≤ m ∧ 0 ≤ s ∧ s < 2 ^ 64
theorem y_spread_ok (c : Int) : ∃ w, y_law_spread (.int c) = some w := by
  have e0 : raw1 .toInt false asI eD (.int c) = some c := rfl
  have m0 : modI c 2147483647 = some (c % 2147483647) := modI_ok (by omega)
  have r0 : rg1 4 = some [0, 1, 2, 3] := by decide +kernel
  have key : ∀ (as : List Int), (∀ a ∈ as, 0 ≤ a ∧ a < 4) → ∀ (k : Nat) (s : y_law_spread.S), 0 ≤ s.blended → s.blended < 2147483647 → s.whole_sum.natAbs < 2 ^ (64 * k + 1) → k + as.length ≤ 10 → ∃ s', forD (fun v s => { s with k := v }) y_law_spread.b0 as s = some (.nx s') := by
    intro as
    induction as with
    | nil => intro _ k s _ _ _ _; exact ⟨s, rfl⟩
    | cons a as ih =>
      intro ha k s h0 h1 h2 h3
      have b1 : Bd s.blended 31 := bd_of h0 (by omega)
      have b2 : Bd s.whole_sum (64 * k + 1) := ⟨h2⟩
      have b3 : Bd (2147483647 : Int) 31 := bd_of (by omega) (by omega)
      simp only [List.length_cons] at h3
      have m1 : mulI s.blended 48271 = some (s.blended * 48271) := mulI_ok (by decide)
      have m2 : mulI s.whole_sum 2147483647 = some (s.whole_sum * 2147483647) := mulI_ok (by omega)
      have m3 : modI (s.blended * 48271 + 12345 + a) 2147483647 = some ((s.blended * 48271 + 12345 + a) % 2147483647) := modI_ok (by omega)
      have hb : y_law_spread.b0 { s with k := a } = some (.nx { s with k := a, blended := (s.blended * 48271 + 12345 + a) % 2147483647, whole_sum := s.whole_sum * 2147483647 + (s.blended * 48271 + 12345 + a) % 2147483647 }) := by
        simp only [y_law_spread.b0, fnD, fnDio, sq, zn, zex, zset, zsetI, zapp, zpar2, zpar3, zaug, zret, zretN, zif, zfor, zbk, zct, forD, dv, dc, d1, d2, dm, dcons, dlcons, dstar, dnot, dand, dor, dif, dch, dio, dnone, dso, dsl, addI, subI, negI, ltI, leI, gtI, geI, eqI, neI, eqB, neB, ucons, Option.bind_some, Option.bind_none, Bool.not_true, Bool.not_false, id_eq, m1, m2, m3]
      unfold forD
      rw [hb]
      refine ih (fun x hx => ha x (List.mem_cons_of_mem _ hx)) (k + 1) _ ?_ ?_ ?_ (by omega)
      · exact Int.emod_nonneg _ (by omega)
      · exact Int.emod_lt_of_pos _ (by omega)
      · have q0 := Int.emod_nonneg (s.blended * 48271 + 12345 + a) (b := 2147483647) (by omega)
        have q1 := Int.emod_lt_of_pos (s.blended * 48271 + 12345 + a) (b := 2147483647) (by omega)
        show (s.whole_sum * 2147483647 + (s.blended * 48271 + 12345 + a) % 2147483647).natAbs < _
        have e : 2 ^ (64 * (k + 1) + 1) = 2 ^ (64 * k + 1) * 18446744073709551616 := by rw [show 64 * (k + 1) + 1 = (64 * k + 1) + 64 by omega, Nat.pow_add]
        rw [e]
        have := two_pos' (64 * k + 1)
        generalize 2 ^ (64 * k + 1) = P at *
        omega
  obtain ⟨s', e⟩ := key [0, 1, 2, 3] (by decide) 0 ⟨.int c, c % 2147483647, 1, 0⟩ (Int.emod_nonneg _ (by omega)) (Int.emod_lt_of_pos _ (by omega)) (by show (1 : Nat) < _; decide) (by decide)
  refine ⟨s'.whole_sum, ?_⟩
  simp only [y_law_spread, y_law_spread.den, fnD, sq, zn, zset, zret, zfor, dv, dc, d1, d2, e0, m0, r0, e, Option.bind_some]
theorem gl5 {a b c d e : D} : gl [a, b, c, d, e] = some [a, b, c, d, e] := rfl
theorem y_pool_ok (ns : List Int) (hl : ns.length ≤ 63) : ∃ q, y_law_pool ns = some q ∧ Pl 0 q := by
  have hc : cutT ns none (some 63) = some ns := by
    unfold cutT cutL sIx
    simp only [List.drop_zero, Nat.sub_zero]
    rw [if_neg (by omega), List.take_of_length_le (by have : (63 : Int).toNat = 63 := rfl; omega)]
  have key : ∀ (as : List Int) (s : y_law_pool.S), 0 ≤ s.salt → s.salt < 1000003 → s.script = ns → ∃ s', forD (fun v s => { s with cell := v }) y_law_pool.b0 as s = some (.nx s') ∧ 0 ≤ s'.salt ∧ s'.salt < 1000003 ∧ s'.script = ns := by
    intro as
    induction as with
    | nil => intro s h0 h1 h2; exact ⟨s, rfl, h0, h1, h2⟩
    | cons a as ih =>
      intro s h0 h1 h2
      have b1 : Bd s.salt 20 := bd_of h0 (by omega)
      have m1 : mulI s.salt 31 = some (s.salt * 31) := mulI_ok (by decide)
      have m3 : modI (s.salt * 31 + a) 1000003 = some ((s.salt * 31 + a) % 1000003) := modI_ok (by omega)
      have hb : y_law_pool.b0 { s with cell := a } = some (.nx { s with cell := a, salt := (s.salt * 31 + a) % 1000003 }) := by
        simp only [y_law_pool.b0, fnD, fnDio, sq, zn, zex, zset, zsetI, zapp, zpar2, zpar3, zaug, zret, zretN, zif, zfor, zbk, zct, forD, dv, dc, d1, d2, dm, dcons, dlcons, dstar, dnot, dand, dor, dif, dch, dio, dnone, dso, dsl, addI, subI, negI, ltI, leI, gtI, geI, eqI, neI, eqB, neB, ucons, Option.bind_some, Option.bind_none, Bool.not_true, Bool.not_false, id_eq, m1, m3]
      unfold forD
      rw [hb]
      exact ih _ (Int.emod_nonneg _ (by omega)) (Int.emod_lt_of_pos _ (by omega)) h2
  obtain ⟨s', e, h0, h1, h2⟩ := key ns ⟨ns, 7, 0⟩ (by show (0 : Int) ≤ 7; omega) (by show (7 : Int) < _; omega) rfl
  refine ⟨pl ns 0 0 0 s'.salt, ?_, ns, 0, 0, 0, s'.salt, rfl, by omega, by omega, by omega, h0, by omega⟩
  simp only [y_law_pool, y_law_pool.den, fnD, sq, zn, zset, zret, zfor, dv, dc, d1, d2, dm, dsl, dnone, dso, dlcons, hc, e, h2, gl5, Option.bind_some]
  rfl
section
variable {ns : List Int} {i v c s : Int} {x : D}
theorem pl0 : getL (pl ns i v c s) 0 = some (.lst (ns.map D.int)) := rfl
theorem pl1 : getL (pl ns i v c s) 1 = some (.int i) := rfl
theorem pl2 : getL (pl ns i v c s) 2 = some (.int v) := rfl
theorem pl3 : getL (pl ns i v c s) 3 = some (.int c) := rfl
theorem pl4 : getL (pl ns i v c s) 4 = some (.int s) := rfl
theorem ps1 {k : Int} : setL (pl ns i v c s) 1 (.int k) = some (pl ns k v c s) := rfl
theorem ps2 {k : Int} : setL (pl ns i v c s) 2 (.int k) = some (pl ns i k c s) := rfl
theorem ps3 {k : Int} : setL (pl ns i v c s) 3 (.int k) = some (pl ns i v k s) := rfl
theorem rle {a b : Int} : raw2 .le false asBl eD D.int (.int a) b = some (decide (a ≤ b)) := rfl
theorem rlt {a b : Int} : raw2 .lt false asBl eD D.int (.int a) b = some (decide (a < b)) := rfl
theorem rltd {a b : Int} : raw2 .lt false asBl eD D.int (.int a) b = some (decide (a < b)) := rfl
theorem rlen : raw1 .len false asI eD (.lst (ns.map D.int)) = some (ns.length : Int) := by
  show some ((ns.map D.int).length : Int) = _
  rw [List.length_map]
theorem rint {a : Int} : raw1 .toInt false asI eD (.int a) = some a := rfl
theorem asI_i {a : Int} : asI (.int a) = some a := rfl
theorem ridx {j : Nat} {a : Int} (h : ns[j]? = some a) : raw2 .idx false some eD eD (.lst (ns.map D.int)) (.int j) = some (.int a) := by
  have hj : j < ns.length := by
    rw [List.getElem?_eq_some_iff] at h
    exact h.1
  unfold raw2
  have : ap2 .idx (.lst (ns.map D.int)) (.int (j : Int)) = some (false, .int a) := by
    have e : ixN (ns.map D.int).length (j : Int) = some j := by
      unfold ixN
      rw [List.length_map, if_pos (by omega), if_pos (by omega)]
      rfl
    simp only [ap2, e, List.getElem?_map, h, Option.map_some]
  show (match ap2 .idx (.lst (ns.map D.int)) (.int (j : Int)) with | some (w, d) => if w = false then some d else none | none => none) = _
  rw [this]; rfl
end
theorem y_draw_ok {m : Nat} {p : List D} (hp : Pl m p) (hm : m < 2 ^ 59) {k : Int} (hk : 0 < k) (hk2 : k < 2 ^ 200) : ∃ r p', y_law_draw p k = some (r, p') ∧ 0 ≤ r ∧ r < k ∧ Pl (m + 1) p' := by
  obtain ⟨ns, i, v, c, s, rfl, i0, c0, c1, s0, s1⟩ := hp
  -- the first part: the pool is filled when it is spent
  have A : ∃ (i' v' : Int) (x : D), 0 ≤ i' ∧ (zif (dand (d2 (raw2 .le false asBl eD D.int) (d2 getL (dv (fun s : y_law_draw.S => s.pool)) (dc ((2) : Int))) (dc ((0) : Int))) (d2 (raw2 .lt false asBl eD D.int) (d2 getL (dv (fun s : y_law_draw.S => s.pool)) (dc ((1) : Int))) (d1 (raw1 .len false asI eD) (d2 getL (dv (fun s : y_law_draw.S => s.pool)) (dc ((0) : Int)))))) (sq (zset (fun (v : D) (s : y_law_draw.S) => { s with cell := v }) (d2 (raw2 .idx false some eD eD) (d2 getL (dv (fun s : y_law_draw.S => s.pool)) (dc ((0) : Int))) (d2 getL (dv (fun s : y_law_draw.S => s.pool)) (dc ((1) : Int)))))
    (sq (zsetI (fun s : y_law_draw.S => s.pool) (fun (v : (List D)) (s : y_law_draw.S) => { s with pool := v }) (dc ((1) : Int)) (dm D.int (d2 addI (d1 asI (d2 getL (dv (fun s : y_law_draw.S => s.pool)) (dc ((1) : Int)))) (dc ((1) : Int)))))
    (sq (zsetI (fun s : y_law_draw.S => s.pool) (fun (v : (List D)) (s : y_law_draw.S) => { s with pool := v }) (dc ((2) : Int)) (dv (fun s : y_law_draw.S => s.cell)))
    (sq (zif (d2 (raw2 .lt false asBl eD D.int) (dv (fun s : y_law_draw.S => s.cell)) (dc ((1000000000000000000) : Int))) (sq (zsetI (fun s : y_law_draw.S => s.pool) (fun (v : (List D)) (s : y_law_draw.S) => { s with pool := v }) (dc ((2) : Int)) (dm D.int (d1 y_law_spread (dv (fun s : y_law_draw.S => s.cell)))))
    zn) zn)
    zn)))) zn : y_law_draw.S → Option (Res y_law_draw.S Int)) ⟨pl ns i v c s, k, .non, 0, 0⟩ = some (.nx ⟨pl ns i' v' c s, k, x, 0, 0⟩) := by
    by_cases hv : v ≤ 0
    · by_cases hi : i < (ns.length : Int)
      · have hj : i.toNat < ns.length := by omega
        have e1 := ridx (List.getElem?_eq_getElem hj)
        rw [show ((i.toNat : Nat) : Int) = i by omega] at e1
        generalize ns[i.toNat] = w at e1
        obtain ⟨z, ez⟩ := y_spread_ok w
        by_cases hw : w < 1000000000000000000
        · refine ⟨i + 1, z, .int w, by omega, ?_⟩
          simp only [fnD, fnDio, sq, zn, zex, zset, zsetI, zapp, zpar2, zpar3, zaug, zret, zretN, zif, zfor, zbk, zct, forD, dv, dc, d1, d2, dm, dcons, dlcons, dstar, dnot, dand, dor, dif, dch, dio, dnone, dso, dsl, addI, subI, negI, ltI, leI, gtI, geI, eqI, neI, eqB, neB, ucons, Option.bind_some, Option.bind_none, Bool.not_true, Bool.not_false, id_eq, pl0, pl1, pl2, rle, rlt, rlen, decide_eq_true hv, decide_eq_true hi, e1, asI_i, ps1, ps2, decide_eq_true hw, ez]
        · refine ⟨i + 1, w, .int w, by omega, ?_⟩
          simp only [fnD, fnDio, sq, zn, zex, zset, zsetI, zapp, zpar2, zpar3, zaug, zret, zretN, zif, zfor, zbk, zct, forD, dv, dc, d1, d2, dm, dcons, dlcons, dstar, dnot, dand, dor, dif, dch, dio, dnone, dso, dsl, addI, subI, negI, ltI, leI, gtI, geI, eqI, neI, eqB, neB, ucons, Option.bind_some, Option.bind_none, Bool.not_true, Bool.not_false, id_eq, pl0, pl1, pl2, rle, rlt, rlen, decide_eq_true hv, decide_eq_true hi, e1, asI_i, ps1, ps2, decide_eq_false hw]
      · refine ⟨i, v, .non, i0, ?_⟩
        simp only [fnD, fnDio, sq, zn, zex, zset, zsetI, zapp, zpar2, zpar3, zaug, zret, zretN, zif, zfor, zbk, zct, forD, dv, dc, d1, d2, dm, dcons, dlcons, dstar, dnot, dand, dor, dif, dch, dio, dnone, dso, dsl, addI, subI, negI, ltI, leI, gtI, geI, eqI, neI, eqB, neB, ucons, Option.bind_some, Option.bind_none, Bool.not_true, Bool.not_false, id_eq, pl0, pl1, pl2, rle, rlt, rlen, decide_eq_true hv, decide_eq_false hi]
    · refine ⟨i, v, .non, i0, ?_⟩
      simp only [fnD, fnDio, sq, zn, zex, zset, zsetI, zapp, zpar2, zpar3, zaug, zret, zretN, zif, zfor, zbk, zct, forD, dv, dc, d1, d2, dm, dcons, dlcons, dstar, dnot, dand, dor, dif, dch, dio, dnone, dso, dsl, addI, subI, negI, ltI, leI, gtI, geI, eqI, neI, eqB, neB, ucons, Option.bind_some, Option.bind_none, Bool.not_true, Bool.not_false, id_eq, pl0, pl1, pl2, rle, rlt, rlen, decide_eq_false hv]
  obtain ⟨i', v', x, hi', eA⟩ := A
  have bk : Bd k 200 := bd_of (by omega) (by omega)
  have mk (a : Int) : modI a k = some (a % k) := modI_ok hk
  have dk (a : Int) : fdivI a k = some (a / k) := fdivI_ok hk (by decide)
  have bs : Bd s 64 := bd_of s0 (by omega)
  have bc : Bd (c + 1) 64 := bd_of (by omega) (by omega)
  have m1 : mulI s 48271 = some (s * 48271) := mulI_ok (by decide)
  have m2 : mulI (c + 1) 69621 = some ((c + 1) * 69621) := mulI_ok (by decide)
  have m3 (a : Int) : modI a 2147483647 = some (a % 2147483647) := modI_ok (by omega)
  have m5 (a : Int) : modI a 2147483629 = some (a % 2147483629) := modI_ok (by omega)
  have m4 (a : Int) : mulI (a % 2147483647) 16807 = some (a % 2147483647 * 16807) := by
    have : Bd (a % 2147483647) 31 := bd_of (Int.emod_nonneg _ (by omega)) (by have := Int.emod_lt_of_pos a (b := 2147483647) (by omega); omega)
    exact mulI_ok (by decide)
  have m6 (a : Int) : fdivI a 5 = some (a / 5) := fdivI_ok (by omega) (by decide)
  by_cases hv : v' ≤ 0
  · refine ⟨(((s * 48271 + (c + 1) * 69621 + 1) % 2147483647 * 16807 + (c + 1)) % 2147483629) / 5 % k, pl ns i' v' (c + 1) s, ?_, Int.emod_nonneg _ (by omega), Int.emod_lt_of_pos _ hk, ns, i', v', c + 1, s, rfl, hi', by omega, by omega, s0, s1⟩
    simp only [y_law_draw, y_law_draw.den, fnDio]
    rw [sq, eA]
    simp only [fnD, fnDio, sq, zn, zex, zset, zsetI, zapp, zpar2, zpar3, zaug, zret, zretN, zif, zfor, zbk, zct, forD, dv, dc, d1, d2, dm, dcons, dlcons, dstar, dnot, dand, dor, dif, dch, dio, dnone, dso, dsl, addI, subI, negI, ltI, leI, gtI, geI, eqI, neI, eqB, neB, ucons, Option.bind_some, Option.bind_none, Bool.not_true, Bool.not_false, id_eq, pl0, pl1, pl2, pl3, pl4, rle, rlt, rlen, decide_eq_true hv, asI_i, ps1, ps2, ps3, mk, dk, m1, m2, m3, m4, m5, m6, rint]
  · refine ⟨v' % k, pl ns i' (v' / k) (c + 1) s, ?_, Int.emod_nonneg _ (by omega), Int.emod_lt_of_pos _ hk, ns, i', v' / k, c + 1, s, rfl, hi', by omega, by omega, s0, s1⟩
    simp only [y_law_draw, y_law_draw.den, fnDio]
    rw [sq, eA]
    simp only [fnD, fnDio, sq, zn, zex, zset, zsetI, zapp, zpar2, zpar3, zaug, zret, zretN, zif, zfor, zbk, zct, forD, dv, dc, d1, d2, dm, dcons, dlcons, dstar, dnot, dand, dor, dif, dch, dio, dnone, dso, dsl, addI, subI, negI, ltI, leI, gtI, geI, eqI, neI, eqB, neB, ucons, Option.bind_some, Option.bind_none, Bool.not_true, Bool.not_false, id_eq, pl0, pl1, pl2, pl3, pl4, rle, rlt, rlen, decide_eq_false hv, asI_i, ps1, ps2, ps3, mk, dk, m1, m2, m3, m4, m5, m6, rint]
theorem y_int_ok {m : Nat} {p : List D} (hp : Pl m p) (hm : m < 2 ^ 58) {k : Int} (hk : 0 < k) (hk2 : k < 2 ^ 199) : ∃ r p', y_law_int p k = some (r, p') ∧ -k < r ∧ r < k ∧ Pl (m + 2) p' := by
  obtain ⟨r, p1, e1, r0, r1, P1⟩ := y_draw_ok hp (by omega) hk (by omega)
  obtain ⟨z, p2, e2, z0, z1, P2⟩ := y_draw_ok (k := 2) P1 (by omega) (by omega) (by omega)
  have br : Bd r 199 := bd_of r0 (by omega)
  by_cases hz : z = 0
  · have m1 : mulI r 1 = some (r * 1) := mulI_ok (by decide)
    refine ⟨r * 1, p2, ?_, by omega, by omega, P2⟩
    simp only [y_law_int, y_law_int.den, fnD, fnDio, sq, zn, zex, zset, zsetI, zapp, zpar2, zpar3, zaug, zret, zretN, zif, zfor, zbk, zct, forD, dv, dc, d1, d2, dm, dcons, dlcons, dstar, dnot, dand, dor, dif, dch, dio, dnone, dso, dsl, addI, subI, negI, ltI, leI, gtI, geI, eqI, neI, eqB, neB, ucons, Option.bind_some, Option.bind_none, Bool.not_true, Bool.not_false, id_eq, e1, e2, hz, beq_self_eq_true, m1]
  · have m1 : mulI r (-1) = some (r * (-1)) := mulI_ok (by decide)
    have hz' : (z == 0) = false := by simp [hz]
    refine ⟨r * (-1), p2, ?_, by omega, by omega, P2⟩
    simp only [y_law_int, y_law_int.den, fnD, fnDio, sq, zn, zex, zset, zsetI, zapp, zpar2, zpar3, zaug, zret, zretN, zif, zfor, zbk, zct, forD, dv, dc, d1, d2, dm, dcons, dlcons, dstar, dnot, dand, dor, dif, dch, dio, dnone, dso, dsl, addI, subI, negI, ltI, leI, gtI, geI, eqI, neI, eqB, neB, ucons, Option.bind_some, Option.bind_none, Bool.not_true, Bool.not_false, id_eq, e1, e2, hz', m1]
theorem y_same_ok : ∀ (n : Nat) (d : D), sameOk n d = true → y_law_same n (d, d) = some true := by
  intro n
  induction n with
  | zero => intro d h; simp [sameOk] at h
  | succ n ih =>
    intro d h
    have seq : ∀ (d : D) (xs : List D), (d = .tup xs ∨ d = .lst xs) → xs.length ≤ L24 → sameOkL n xs = true → y_law_same (n + 1) (d, d) = some true := by
      intro d xs hd hl hs
      have eT : raw1 .isTup false asBl eD d = some (match d with | .tup _ => true | _ => false) := by rcases hd with rfl | rfl <;> rfl
      have eL : raw1 .isLst false asBl eD d = some (match d with | .lst _ => true | _ => false) := by rcases hd with rfl | rfl <;> rfl
      have eN : raw1 .len false asI eD d = some (xs.length : Int) := by rcases hd with rfl | rfl <;> rfl
      have eor : ((match d with | .tup _ => true | _ => false) || (match d with | .lst _ => true | _ => false)) = true := by rcases hd with rfl | rfl <;> rfl
      have eI : ∀ j : Int, 0 ≤ j → j < xs.length → ∃ x, raw2 .idx false some eD D.int d j = some x ∧ sameOk n x = true := by
        intro j h0 h1
        have hj : j.toNat < xs.length := by omega
        refine ⟨xs[j.toNat], ?_, sameOkL_get hs (List.getElem?_eq_getElem hj)⟩
        have ei : ixN xs.length j = some j.toNat := by unfold ixN; rw [if_pos h0, if_pos h1]
        have hx : xs[j.toNat]? = some xs[j.toNat] := List.getElem?_eq_getElem hj
        have ea : ap2 .idx d (.int j) = some (false, xs[j.toNat]) := by rcases hd with rfl | rfl <;> simp only [ap2, ei, hx]
        show (match ap2 .idx d (.int j) with | some (w, d) => if w = false then some d else none | none => none) = _
        rw [ea]; rfl
      have hrg : rg1 (xs.length : Int) = some (rgI 1 xs.length 0) := by
        unfold rg1
        have : L24 = 16777216 := rfl
        rw [if_pos (by unfold rgT; exact Nat.ble_eq_true_of_le (by omega))]
        rfl
      have hw : ∀ s : y_law_same.S, s.actual = d → s.due = d → walkP (turnP (fun (v : Int) (s : y_law_same.S) => { s with k := v }) (dnot (d1 (y_law_same n) (dcons (d2 (raw2 .idx false some eD D.int) (dv (fun s : y_law_same.S => s.actual)) (dv (fun s : y_law_same.S => s.k))) (d2 (raw2 .idx false some eD D.int) (dv (fun s : y_law_same.S => s.due)) (dv (fun s : y_law_same.S => s.k)))))) (dv (fun s : y_law_same.S => s.k)) s) (rgI 1 xs.length 0) = some [] := by
        intro s h1 h2
        refine walkP_none _ fun j hj => ?_
        have hm := mem_rgI hj
        obtain ⟨x, ex, sx⟩ := eI j hm.1 (by omega)
        simp only [turnP, dnot, d1, dcons, d2, dv, h1, h2, ex, Option.bind_some, ih x sx, Bool.not_true]
      have hw' := hw ⟨d, d, 0⟩ rfl rfl
      have hb : ∀ b : Bool, (!(b == b)) = false := fun b => by cases b <;> rfl
      have hi : (!((xs.length : Int) == xs.length)) = false := by simp
      have hl : lenL ([] : List Int) = some 0 := rfl
      have hg : gl ([] : List Int) = some [] := rfl
      have eIf : (zif (dor (d1 (raw1 .isTup false asBl eD) (dv (fun s : y_law_same.S => s.due))) (d1 (raw1 .isLst false asBl eD) (dv (fun s : y_law_same.S => s.due)))) (sq (zif (dor (d2 neB (d1 (raw1 .isTup false asBl eD) (dv (fun s : y_law_same.S => s.due))) (d1 (raw1 .isTup false asBl eD) (dv (fun s : y_law_same.S => s.actual)))) (d2 neB (d1 (raw1 .isLst false asBl eD) (dv (fun s : y_law_same.S => s.due))) (d1 (raw1 .isLst false asBl eD) (dv (fun s : y_law_same.S => s.actual))))) (sq (zret (dc (false : Bool)))
    zn) zn)
    (sq (zif (d2 neI (d1 (raw1 .len false asI eD) (dv (fun s : y_law_same.S => s.actual))) (d1 (raw1 .len false asI eD) (dv (fun s : y_law_same.S => s.due)))) (sq (zret (dc (false : Bool)))
    zn) zn)
    (sq (zret (d2 eqI (d1 lenL (dlc (d1 rg1 (d1 (raw1 .len false asI eD) (dv (fun s : y_law_same.S => s.due)))) (fun (v : Int) (s : y_law_same.S) => { s with k := v }) (dnot (d1 (y_law_same n) (dcons (d2 (raw2 .idx false some eD D.int) (dv (fun s : y_law_same.S => s.actual)) (dv (fun s : y_law_same.S => s.k))) (d2 (raw2 .idx false some eD D.int) (dv (fun s : y_law_same.S => s.due)) (dv (fun s : y_law_same.S => s.k)))))) (dv (fun s : y_law_same.S => s.k)))) (dc ((0) : Int))))
    zn))) zn : y_law_same.S → Option (Res y_law_same.S Bool)) ⟨d, d, 0⟩ = some (.rt true ⟨d, d, 0⟩) := by
        have hor : (dor (d1 (raw1 .isTup false asBl eD) (dv (fun s : y_law_same.S => s.due))) (d1 (raw1 .isLst false asBl eD) (dv (fun s : y_law_same.S => s.due)))) ⟨d, d, 0⟩ = some (true, ⟨d, d, 0⟩) := by
          rcases hd with rfl | rfl <;> simp only at eT eL <;> simp only [dor, d1, dv, eT, eL, Option.bind_some]
        have hne : (dor (d2 neB (d1 (raw1 .isTup false asBl eD) (dv (fun s : y_law_same.S => s.due))) (d1 (raw1 .isTup false asBl eD) (dv (fun s : y_law_same.S => s.actual)))) (d2 neB (d1 (raw1 .isLst false asBl eD) (dv (fun s : y_law_same.S => s.due))) (d1 (raw1 .isLst false asBl eD) (dv (fun s : y_law_same.S => s.actual))))) ⟨d, d, 0⟩ = some (false, ⟨d, d, 0⟩) := by
          simp only [dor, d1, d2, dv, eT, eL, Option.bind_some, neB, hb]
        rw [zif_t hor]
        have h1 : ∀ y : y_law_same.S → Option (Res y_law_same.S Bool), zif (dor (d2 neB (d1 (raw1 .isTup false asBl eD) (dv (fun s : y_law_same.S => s.due))) (d1 (raw1 .isTup false asBl eD) (dv (fun s : y_law_same.S => s.actual)))) (d2 neB (d1 (raw1 .isLst false asBl eD) (dv (fun s : y_law_same.S => s.due))) (d1 (raw1 .isLst false asBl eD) (dv (fun s : y_law_same.S => s.actual))))) y zn ⟨d, d, 0⟩ = some (.nx ⟨d, d, 0⟩) := fun y => zif_f hne
        rw [sq_nx (h1 _)]
        have hln : (d2 neI (d1 (raw1 .len false asI eD) (dv (fun s : y_law_same.S => s.actual))) (d1 (raw1 .len false asI eD) (dv (fun s : y_law_same.S => s.due)))) ⟨d, d, 0⟩ = some (false, ⟨d, d, 0⟩) := by
          simp only [d1, d2, dv, eN, Option.bind_some, neI, hi]
        have h2 : ∀ y : y_law_same.S → Option (Res y_law_same.S Bool), zif (d2 neI (d1 (raw1 .len false asI eD) (dv (fun s : y_law_same.S => s.actual))) (d1 (raw1 .len false asI eD) (dv (fun s : y_law_same.S => s.due)))) y zn ⟨d, d, 0⟩ = some (.nx ⟨d, d, 0⟩) := fun y => zif_f hln
        rw [sq_nx (h2 _)]
        refine sq_rt (zret_ok ?_)
        have hs1 : d1 rg1 (d1 (raw1 .len false asI eD) (dv (fun s : y_law_same.S => s.due))) ⟨d, d, 0⟩ = some (rgI 1 xs.length 0, ⟨d, d, 0⟩) := by
          simp only [d1, dv, eN, Option.bind_some, hrg]
        exact d2_ok (d1_ok (dlc_ok hs1 hw' (Nat.zero_le _)) rfl) rfl rfl
      rw [y_law_same]
      exact fnD_rt (s := ⟨d, d, 0⟩) (by rw [y_law_same.den]; exact sq_rt eIf)
    cases d with
    | non => rfl
    | bl b => cases b <;> rfl
    | int i =>
      have e : raw2 .eq false asBl eD eD (.int i) (.int i) = some true := by
        have : eqD (.int i) (.int i) = some true := by simp [eqD]
        show (match (match eqD (.int i) (.int i) with | some b => b1 b | none => none) with | some (w, d) => if w = false then asBl d else none | none => none) = _
        rw [this]; rfl
      have e' : eqG eD eD (.int i) (.int i) = some true := by show eqD (.int i) (.int i) = _; simp [eqD]
      have r1 : raw1 .isTup false asBl eD (.int i) = some false := rfl
      have r2 : raw1 .isLst false asBl eD (.int i) = some false := rfl
      have r3 : raw1 .isN false asBl eD (.int i) = some false := rfl
      have r4 : raw1 .isBool false asBl eD (.int i) = some false := rfl
      have r5 : raw1 .isInt false asBl eD (.int i) = some true := rfl
      simp only [y_law_same, y_law_same.den, fnD, fnDio, sq, zn, zex, zset, zsetI, zapp, zpar2, zpar3, zaug, zret, zretN, zif, zfor, zbk, zct, forD, dv, dc, d1, d2, dm, dcons, dlcons, dstar, dnot, dand, dor, dif, dch, dio, dnone, dso, dsl, addI, subI, negI, ltI, leI, gtI, geI, eqI, neI, eqB, neB, ucons, Option.bind_some, Option.bind_none, Bool.not_true, Bool.not_false, id_eq, r1, r2, r3, r4, r5, e, e']
    | str s =>
      have e' : eqG eD eD (.str s) (.str s) = some true := by show eqD (.str s) (.str s) = _; simp [eqD]
      have r1 : raw1 .isTup false asBl eD (.str s) = some false := rfl
      have r2 : raw1 .isLst false asBl eD (.str s) = some false := rfl
      have r3 : raw1 .isN false asBl eD (.str s) = some false := rfl
      have r4 : raw1 .isBool false asBl eD (.str s) = some false := rfl
      have r5 : raw1 .isInt false asBl eD (.str s) = some false := rfl
      have r6 : raw1 .isStr false asBl eD (.str s) = some true := rfl
      simp only [y_law_same, y_law_same.den, fnD, fnDio, sq, zn, zex, zset, zsetI, zapp, zpar2, zpar3, zaug, zret, zretN, zif, zfor, zbk, zct, forD, dv, dc, d1, d2, dm, dcons, dlcons, dstar, dnot, dand, dor, dif, dch, dio, dnone, dso, dsl, addI, subI, negI, ltI, leI, gtI, geI, eqI, neI, eqB, neB, ucons, Option.bind_some, Option.bind_none, Bool.not_true, Bool.not_false, id_eq, r1, r2, r3, r4, r5, r6, e']
    | tup xs =>
      simp only [sameOk, Bool.and_eq_true, decide_eq_true_eq] at h
      exact seq _ xs (.inl rfl) h.1 h.2
    | lst xs =>
      simp only [sameOk, Bool.and_eq_true, decide_eq_true_eq] at h
      exact seq _ xs (.inr rfl) h.1 h.2
    | dct _ => simp [sameOk] at h
end NW
namespace NW
theorem sqn (x : Int) : 0 ≤ x * x := by
  rcases Int.le_total 0 x with h | h
  · exact Int.mul_nonneg h h
  · exact Int.mul_nonneg_of_nonpos_of_nonpos h h
theorem y_abs_ok (a : Int) : y_law_abs a = some (a.natAbs : Int) := by
  by_cases h : 0 ≤ a
  · simp only [y_law_abs, y_law_abs.den, sq_ap, fnD_ap, fnDio_ap, zn_ap, zex_ap, zset_ap, zsetI_ap, zaugI_ap, zapp_ap, zext_ap, zpar2_ap, zpar3_ap, zaug_ap, zret_ap, zretN_ap, zif_ap, zfor_ap, zbk_ap, zct_ap, dv_ap, dc_ap, d1_ap, d2_ap, d2L_ap, dm_ap, dcons_ap, dlcons_ap, dstar_ap, dnot_ap, dand_ap, dor_ap, dif_ap, dch_ap, dio_ap, dnone_ap, dso_ap, dsl_ap, dany_ap, dall_ap, ucons_ap, addI_ap, subI_ap, negI_ap, ltI_ap, leI_ap, gtI_ap, geI_ap, eqI_ap, neI_ap, eqB_ap, neB_ap, eqQ_ap, neQ_ap, lenL_ap, ok_sq, ok_some, cont_nx, cont_rt, cont_bk, cont_ct, Option.bind_some, Option.bind_none, Bool.not_true, Bool.not_false, id_eq, decide_eq_true h]
    rw [show (a.natAbs : Int) = a by omega]
  · simp only [y_law_abs, y_law_abs.den, sq_ap, fnD_ap, fnDio_ap, zn_ap, zex_ap, zset_ap, zsetI_ap, zaugI_ap, zapp_ap, zext_ap, zpar2_ap, zpar3_ap, zaug_ap, zret_ap, zretN_ap, zif_ap, zfor_ap, zbk_ap, zct_ap, dv_ap, dc_ap, d1_ap, d2_ap, d2L_ap, dm_ap, dcons_ap, dlcons_ap, dstar_ap, dnot_ap, dand_ap, dor_ap, dif_ap, dch_ap, dio_ap, dnone_ap, dso_ap, dsl_ap, dany_ap, dall_ap, ucons_ap, addI_ap, subI_ap, negI_ap, ltI_ap, leI_ap, gtI_ap, geI_ap, eqI_ap, neI_ap, eqB_ap, neB_ap, eqQ_ap, neQ_ap, lenL_ap, ok_sq, ok_some, cont_nx, cont_rt, cont_bk, cont_ct, Option.bind_some, Option.bind_none, Bool.not_true, Bool.not_false, id_eq, decide_eq_false h]
    rw [show (a.natAbs : Int) = 0 - a by omega]
theorem bd_pow {a : Int} {k : Nat} (h : Bd a k) : ∀ n : Nat, Bd (a ^ n) (k * n + 1)
  | 0 => ⟨by rw [Int.pow_zero]; show 1 < 2 ^ 1; omega⟩
  | n + 1 => by
    rw [Int.pow_succ]
    have := bd_pow h n
    exact Bd.mono (inferInstance : Bd (a ^ n * a) _) (by rw [Nat.mul_succ]; omega)
theorem y_power_ok (a n : Int) {k : Nat} (h : Bd a k) (hn : 0 ≤ n) (hb : k * n.toNat + 1 + k ≤ 900000) (hn2 : n < 2 ^ 60) : y_law_power (a, n) = some (a ^ n.toNat) := by
  have rg : rg1 n = some (rgI 1 n.toNat 0) := by
    have : Bd n 60 := bd_of hn (by omega)
    exact rg1_ok (by omega)
  have lp := for_rg (u := fun (v : Int) (s : y_law_power.S) => { s with k := v }) (b := y_law_power.b0) (fun i s => s.base = a ∧ s.value = a ^ i.toNat) (fun r => match r with | .nx s => s.value = a ^ n.toNat | _ => False) n.toNat 0 ⟨a, n, 1, 0⟩ ⟨rfl, by show (1 : Int) = a ^ 0; rw [Int.pow_zero]⟩
  obtain ⟨r, e, h'⟩ := lp (by
    rintro i s i0 i1 ⟨h1, h2⟩
    have b1 : Bd s.value (k * n.toNat + 1) := by
      rw [h2]
      exact Bd.mono (bd_pow h i.toNat) (by have : k * i.toNat ≤ k * n.toNat := Nat.mul_le_mul_left k (by omega); omega)
    have b2 : Bd s.base k := by rw [h1]; exact h
    have m1 : mulI s.value s.base = some (s.value * s.base) := mulI_ok (by omega)
    refine Turn.of ?_
    simp only [y_law_power.b0, fnD_ap, fnDio_ap, zn_ap, zex_ap, zset_ap, zsetI_ap, zaugI_ap, zapp_ap, zext_ap, zpar2_ap, zpar3_ap, zaug_ap, zret_ap, zretN_ap, zif_ap, zfor_ap, zbk_ap, zct_ap, dv_ap, dc_ap, d1_ap, d2_ap, d2L_ap, dm_ap, dcons_ap, dlcons_ap, dstar_ap, dnot_ap, dand_ap, dor_ap, dif_ap, dch_ap, dio_ap, dnone_ap, dso_ap, dsl_ap, dany_ap, dall_ap, ucons_ap, addI_ap, subI_ap, negI_ap, ltI_ap, leI_ap, gtI_ap, geI_ap, eqI_ap, neI_ap, eqB_ap, neB_ap, eqQ_ap, neQ_ap, lenL_ap, ok_sq, ok_some, cont_nx, cont_rt, cont_bk, cont_ct, Option.bind_some, Option.bind_none, Bool.not_true, Bool.not_false, id_eq, m1]
    refine ⟨h1, ?_⟩
    rw [h2, h1, show (i + 1).toNat = i.toNat + 1 by omega, Int.pow_succ]) (by
    rintro s ⟨h1, h2⟩
    show s.value = _
    rw [h2]
    congr 1
    omega)
  refine fn_ok ?_
  simp only [y_law_power.den, fnD_ap, fnDio_ap, zn_ap, zex_ap, zset_ap, zsetI_ap, zaugI_ap, zapp_ap, zext_ap, zpar2_ap, zpar3_ap, zaug_ap, zret_ap, zretN_ap, zif_ap, zfor_ap, zbk_ap, zct_ap, dv_ap, dc_ap, d1_ap, d2_ap, d2L_ap, dm_ap, dcons_ap, dlcons_ap, dstar_ap, dnot_ap, dand_ap, dor_ap, dif_ap, dch_ap, dio_ap, dnone_ap, dso_ap, dsl_ap, dany_ap, dall_ap, ucons_ap, addI_ap, subI_ap, negI_ap, ltI_ap, leI_ap, gtI_ap, geI_ap, eqI_ap, neI_ap, eqB_ap, neB_ap, eqQ_ap, neQ_ap, lenL_ap, ok_sq, ok_some, cont_nx, cont_rt, cont_bk, cont_ct, Option.bind_some, Option.bind_none, Bool.not_true, Bool.not_false, id_eq, rg, e]
  cases r with
  | nx s => simp only [fnD_ap, fnDio_ap, zn_ap, zex_ap, zset_ap, zsetI_ap, zaugI_ap, zapp_ap, zext_ap, zpar2_ap, zpar3_ap, zaug_ap, zret_ap, zretN_ap, zif_ap, zfor_ap, zbk_ap, zct_ap, dv_ap, dc_ap, d1_ap, d2_ap, d2L_ap, dm_ap, dcons_ap, dlcons_ap, dstar_ap, dnot_ap, dand_ap, dor_ap, dif_ap, dch_ap, dio_ap, dnone_ap, dso_ap, dsl_ap, dany_ap, dall_ap, ucons_ap, addI_ap, subI_ap, negI_ap, ltI_ap, leI_ap, gtI_ap, geI_ap, eqI_ap, neI_ap, eqB_ap, neB_ap, eqQ_ap, neQ_ap, lenL_ap, ok_sq, ok_some, cont_nx, cont_rt, cont_bk, cont_ct, Option.bind_some, Option.bind_none, Bool.not_true, Bool.not_false, id_eq]; exact h'
  | rt v s => exact h'.elim
  | bk s => exact h'.elim
  | ct s => exact h'.elim
theorem y_rest_ok (a k m : Int) (hk : 0 ≤ k) (hk2 : k < 2 ^ 139) (hm : 0 < m) (hm2 : m < 2 ^ 190) : y_law_rest (a, k, m) = some (a ^ k.toNat % m) := by
  have mm (x : Int) : modI x m = some (x % m) := modI_ok hm
  have rg : rg1 140 = some (rgI 1 140 0) := by decide +kernel
  have lp := for_rg (u := fun (v : Int) (s : y_law_rest.S) => { s with step := v }) (b := y_law_rest.b0) (fun i s => s.m = m ∧ 0 ≤ s.k ∧ 0 ≤ s.found ∧ s.found < m ∧ 0 ≤ s.base ∧ s.base < m ∧ (s.found * s.base ^ s.k.toNat) % m = a ^ k.toNat % m ∧ bits s.k + i.toNat ≤ 140) (fun r => match r with | .nx s => s.found = a ^ k.toNat % m | _ => False) 140 0 ⟨a, k, m, 1 % m, a % m, 0⟩
    ⟨rfl, hk, Int.emod_nonneg _ (by omega), Int.emod_lt_of_pos _ hm, Int.emod_nonneg _ (by omega), Int.emod_lt_of_pos _ hm, by show (1 % m * (a % m) ^ k.toNat) % m = _; rw [Int.mul_emod, pow_mod, Int.emod_emod_of_dvd _ (Int.dvd_refl m), ← Int.mul_emod, Int.one_mul], by have := bits_le (k := k) (n := 139) (by omega); show bits k + 0 ≤ 140; omega⟩
  obtain ⟨r, e, h'⟩ := lp (by
    rintro i s i0 i1 ⟨h1, h2, h3, h4, h5, h6, h7, h8⟩
    have bm : Bd m 190 := bd_of (by omega) (by omega)
    have b1 : Bd s.found 190 := bd_of h3 (by omega)
    have b2 : Bd s.base 190 := bd_of h5 (by omega)
    have m1 : mulI s.found s.base = some (s.found * s.base) := mulI_ok (by omega)
    have m2 : mulI s.base s.base = some (s.base * s.base) := mulI_ok (by omega)
    have m3 : modI s.k 2 = some (s.k % 2) := modI_ok (by omega)
    have m4 : fdivI s.k 2 = some (s.k / 2) := fdivI_ok (by omega) (by decide)
    refine Turn.of ?_
    by_cases z : 0 < s.k
    · have hb := bits_half z
      have pt := pow_turn z h7
      by_cases o : s.k % 2 = 1
      · rw [if_pos o] at pt
        simp only [y_law_rest.b0, fnD_ap, fnDio_ap, zn_ap, zex_ap, zset_ap, zsetI_ap, zaugI_ap, zapp_ap, zext_ap, zpar2_ap, zpar3_ap, zaug_ap, zret_ap, zretN_ap, zif_ap, zfor_ap, zbk_ap, zct_ap, dv_ap, dc_ap, d1_ap, d2_ap, d2L_ap, dm_ap, dcons_ap, dlcons_ap, dstar_ap, dnot_ap, dand_ap, dor_ap, dif_ap, dch_ap, dio_ap, dnone_ap, dso_ap, dsl_ap, dany_ap, dall_ap, ucons_ap, addI_ap, subI_ap, negI_ap, ltI_ap, leI_ap, gtI_ap, geI_ap, eqI_ap, neI_ap, eqB_ap, neB_ap, eqQ_ap, neQ_ap, lenL_ap, ok_sq, ok_some, cont_nx, cont_rt, cont_bk, cont_ct, Option.bind_some, Option.bind_none, Bool.not_true, Bool.not_false, id_eq, decide_eq_true z, m3, o, beq_self_eq_true, m1, m2, m4, h1, mm]
        exact ⟨trivial, by omega, Int.emod_nonneg _ (by omega), Int.emod_lt_of_pos _ hm, Int.emod_nonneg _ (by omega), Int.emod_lt_of_pos _ hm, pt, by rw [show (i + 1).toNat = i.toNat + 1 by omega]; omega⟩
      · rw [if_neg o] at pt
        have o' : (s.k % 2 == 1) = false := by simp [o]
        simp only [y_law_rest.b0, fnD_ap, fnDio_ap, zn_ap, zex_ap, zset_ap, zsetI_ap, zaugI_ap, zapp_ap, zext_ap, zpar2_ap, zpar3_ap, zaug_ap, zret_ap, zretN_ap, zif_ap, zfor_ap, zbk_ap, zct_ap, dv_ap, dc_ap, d1_ap, d2_ap, d2L_ap, dm_ap, dcons_ap, dlcons_ap, dstar_ap, dnot_ap, dand_ap, dor_ap, dif_ap, dch_ap, dio_ap, dnone_ap, dso_ap, dsl_ap, dany_ap, dall_ap, ucons_ap, addI_ap, subI_ap, negI_ap, ltI_ap, leI_ap, gtI_ap, geI_ap, eqI_ap, neI_ap, eqB_ap, neB_ap, eqQ_ap, neQ_ap, lenL_ap, ok_sq, ok_some, cont_nx, cont_rt, cont_bk, cont_ct, Option.bind_some, Option.bind_none, Bool.not_true, Bool.not_false, id_eq, decide_eq_true z, m3, o', m2, m4, h1, mm]
        exact ⟨trivial, by omega, h3, h4, Int.emod_nonneg _ (by omega), Int.emod_lt_of_pos _ hm, pt, by rw [show (i + 1).toNat = i.toNat + 1 by omega]; omega⟩
    · simp only [y_law_rest.b0, fnD_ap, fnDio_ap, zn_ap, zex_ap, zset_ap, zsetI_ap, zaugI_ap, zapp_ap, zext_ap, zpar2_ap, zpar3_ap, zaug_ap, zret_ap, zretN_ap, zif_ap, zfor_ap, zbk_ap, zct_ap, dv_ap, dc_ap, d1_ap, d2_ap, d2L_ap, dm_ap, dcons_ap, dlcons_ap, dstar_ap, dnot_ap, dand_ap, dor_ap, dif_ap, dch_ap, dio_ap, dnone_ap, dso_ap, dsl_ap, dany_ap, dall_ap, ucons_ap, addI_ap, subI_ap, negI_ap, ltI_ap, leI_ap, gtI_ap, geI_ap, eqI_ap, neI_ap, eqB_ap, neB_ap, eqQ_ap, neQ_ap, lenL_ap, ok_sq, ok_some, cont_nx, cont_rt, cont_bk, cont_ct, Option.bind_some, Option.bind_none, Bool.not_true, Bool.not_false, id_eq, decide_eq_false z]
      refine ⟨h1, h2, h3, h4, h5, h6, h7, ?_⟩
      have : bits s.k = 0 := if_pos (by omega)
      rw [this, show (i + 1).toNat = i.toNat + 1 by omega]
      omega) (by
    rintro s ⟨h1, h2, h3, h4, h5, h6, h7, h8⟩
    have : s.k = 0 := by
      by_cases z : 0 < s.k
      · have := bits_pos z
        omega
      · omega
    rw [this] at h7
    show s.found = _
    rw [← h7]
    simp [Int.emod_eq_of_lt h3 h4])
  refine fn_ok ?_
  simp only [y_law_rest.den, fnD_ap, fnDio_ap, zn_ap, zex_ap, zset_ap, zsetI_ap, zaugI_ap, zapp_ap, zext_ap, zpar2_ap, zpar3_ap, zaug_ap, zret_ap, zretN_ap, zif_ap, zfor_ap, zbk_ap, zct_ap, dv_ap, dc_ap, d1_ap, d2_ap, d2L_ap, dm_ap, dcons_ap, dlcons_ap, dstar_ap, dnot_ap, dand_ap, dor_ap, dif_ap, dch_ap, dio_ap, dnone_ap, dso_ap, dsl_ap, dany_ap, dall_ap, ucons_ap, addI_ap, subI_ap, negI_ap, ltI_ap, leI_ap, gtI_ap, geI_ap, eqI_ap, neI_ap, eqB_ap, neB_ap, eqQ_ap, neQ_ap, lenL_ap, ok_sq, ok_some, cont_nx, cont_rt, cont_bk, cont_ct, Option.bind_some, Option.bind_none, Bool.not_true, Bool.not_false, id_eq, mm, rg, e]
  cases r with
  | nx s => simp only [fnD_ap, fnDio_ap, zn_ap, zex_ap, zset_ap, zsetI_ap, zaugI_ap, zapp_ap, zext_ap, zpar2_ap, zpar3_ap, zaug_ap, zret_ap, zretN_ap, zif_ap, zfor_ap, zbk_ap, zct_ap, dv_ap, dc_ap, d1_ap, d2_ap, d2L_ap, dm_ap, dcons_ap, dlcons_ap, dstar_ap, dnot_ap, dand_ap, dor_ap, dif_ap, dch_ap, dio_ap, dnone_ap, dso_ap, dsl_ap, dany_ap, dall_ap, ucons_ap, addI_ap, subI_ap, negI_ap, ltI_ap, leI_ap, gtI_ap, geI_ap, eqI_ap, neI_ap, eqB_ap, neB_ap, eqQ_ap, neQ_ap, lenL_ap, ok_sq, ok_some, cont_nx, cont_rt, cont_bk, cont_ct, Option.bind_some, Option.bind_none, Bool.not_true, Bool.not_false, id_eq]; exact h'
  | rt v s => exact h'.elim
  | bk s => exact h'.elim
  | ct s => exact h'.elim
theorem y_common_ok (a b : Int) (ha : 0 ≤ a) (hb : 0 ≤ b) (hab : a * b < 2 ^ 1900) : y_law_common (a, b) = some (Nat.gcd a.natAbs b.natAbs : Int) := by
  have rg : rg1 2000 = some (rgI 1 2000 0) := by decide +kernel
  have lp := for_rg (u := fun (v : Int) (s : y_law_common.S) => { s with k := v }) (b := y_law_common.b0) (fun i s => 0 ≤ s.a ∧ 0 ≤ s.b ∧ Nat.gcd s.a.natAbs s.b.natAbs = Nat.gcd a.natAbs b.natAbs ∧ ((i = 0 ∧ s.a = a ∧ s.b = b) ∨ (1 ≤ i ∧ s.b ≤ s.a ∧ s.a * s.b < 2 ^ (1901 - i).toNat))) (fun r => match r with | .nx s => s.a = (Nat.gcd a.natAbs b.natAbs : Int) | .rt v _ => v = (Nat.gcd a.natAbs b.natAbs : Int) | _ => False) 2000 0 ⟨a, b, 0, 0⟩
    ⟨ha, hb, rfl, .inl ⟨rfl, rfl, rfl⟩⟩
  have gz : ∀ x : Int, 0 ≤ x → (Nat.gcd x.natAbs (0 : Int).natAbs : Int) = x := by
    intro x hx
    simp
    omega
  have small : ∀ (x y : Int), 0 ≤ y → y ≤ x → x * y < 2 ^ 0 → y = 0 := by
    intro x y h1 h2 h3
    by_cases z : y = 0
    · exact z
    · have : 1 * 1 ≤ x * y := Int.mul_le_mul (by omega) (by omega) (by omega) (by omega)
      rw [Int.pow_zero] at h3
      omega
  obtain ⟨r, e, h'⟩ := lp (by
    rintro i s i0 i1 ⟨h1, h2, h3, h4⟩
    refine Turn.of ?_
    by_cases z : s.b = 0
    · simp only [y_law_common.b0, fnD_ap, fnDio_ap, zn_ap, zex_ap, zset_ap, zsetI_ap, zaugI_ap, zapp_ap, zext_ap, zpar2_ap, zpar3_ap, zaug_ap, zret_ap, zretN_ap, zif_ap, zfor_ap, zbk_ap, zct_ap, dv_ap, dc_ap, d1_ap, d2_ap, d2L_ap, dm_ap, dcons_ap, dlcons_ap, dstar_ap, dnot_ap, dand_ap, dor_ap, dif_ap, dch_ap, dio_ap, dnone_ap, dso_ap, dsl_ap, dany_ap, dall_ap, ucons_ap, addI_ap, subI_ap, negI_ap, ltI_ap, leI_ap, gtI_ap, geI_ap, eqI_ap, neI_ap, eqB_ap, neB_ap, eqQ_ap, neQ_ap, lenL_ap, ok_sq, ok_some, cont_nx, cont_rt, cont_bk, cont_ct, Option.bind_some, Option.bind_none, Bool.not_true, Bool.not_false, id_eq, z, beq_self_eq_true]
      rw [← h3, z]
      exact (gz s.a h1).symm
    · have z' : (s.b == 0) = false := by simp [z]
      have mm : modI s.a s.b = some (s.a % s.b) := modI_ok (by omega)
      simp only [y_law_common.b0, fnD_ap, fnDio_ap, zn_ap, zex_ap, zset_ap, zsetI_ap, zaugI_ap, zapp_ap, zext_ap, zpar2_ap, zpar3_ap, zaug_ap, zret_ap, zretN_ap, zif_ap, zfor_ap, zbk_ap, zct_ap, dv_ap, dc_ap, d1_ap, d2_ap, d2L_ap, dm_ap, dcons_ap, dlcons_ap, dstar_ap, dnot_ap, dand_ap, dor_ap, dif_ap, dch_ap, dio_ap, dnone_ap, dso_ap, dsl_ap, dany_ap, dall_ap, ucons_ap, addI_ap, subI_ap, negI_ap, ltI_ap, leI_ap, gtI_ap, geI_ap, eqI_ap, neI_ap, eqB_ap, neB_ap, eqQ_ap, neQ_ap, lenL_ap, ok_sq, ok_some, cont_nx, cont_rt, cont_bk, cont_ct, Option.bind_some, Option.bind_none, Bool.not_true, Bool.not_false, id_eq, z', mm]
      have r0 := Int.emod_nonneg s.a (show s.b ≠ 0 by omega)
      have r1 := Int.emod_lt_of_pos s.a (show 0 < s.b by omega)
      refine ⟨h2, r0, by rw [← h3, gcd_step s.a s.b h1 (by omega)], .inr ⟨by omega, by omega, ?_⟩⟩
      show s.b * (s.a % s.b) < _
      rcases h4 with ⟨q1, q2, q3⟩ | ⟨q1, q2, q3⟩
      · subst q1
        rw [show (1901 - (0 + 1 : Int)).toNat = 1900 by omega]
        by_cases xy : s.b ≤ s.a
        · have := half_prod (show 0 < s.b by omega) xy
          have p0 := Int.mul_nonneg h2 r0
          rw [q2, q3] at *
          omega
        · rw [Int.emod_eq_of_lt h1 (by omega), Int.mul_comm, q2, q3]
          exact hab
      · have hp := half_prod (show 0 < s.b by omega) q2
        by_cases w : (1901 - i).toNat = 0
        · rw [w] at q3
          exact (z (small _ _ h2 q2 q3)).elim
        · obtain ⟨n, hn⟩ : ∃ n, (1901 - i).toNat = n + 1 := ⟨(1901 - i).toNat - 1, by omega⟩
          rw [hn, Int.pow_succ] at q3
          rw [show (1901 - (i + 1)).toNat = n by omega]
          omega) (by
    rintro s ⟨h1, h2, h3, h4⟩
    rcases h4 with ⟨q1, _⟩ | ⟨q1, q2, q3⟩
    · omega
    · rw [show (1901 - (0 + ((2000 : Nat) : Int))).toNat = 0 by omega] at q3
      have := small _ _ h2 q2 q3
      show s.a = _
      rw [← h3, this]
      exact (gz s.a h1).symm)
  refine fn_ok ?_
  simp only [y_law_common.den, fnD_ap, fnDio_ap, zn_ap, zex_ap, zset_ap, zsetI_ap, zaugI_ap, zapp_ap, zext_ap, zpar2_ap, zpar3_ap, zaug_ap, zret_ap, zretN_ap, zif_ap, zfor_ap, zbk_ap, zct_ap, dv_ap, dc_ap, d1_ap, d2_ap, d2L_ap, dm_ap, dcons_ap, dlcons_ap, dstar_ap, dnot_ap, dand_ap, dor_ap, dif_ap, dch_ap, dio_ap, dnone_ap, dso_ap, dsl_ap, dany_ap, dall_ap, ucons_ap, addI_ap, subI_ap, negI_ap, ltI_ap, leI_ap, gtI_ap, geI_ap, eqI_ap, neI_ap, eqB_ap, neB_ap, eqQ_ap, neQ_ap, lenL_ap, ok_sq, ok_some, cont_nx, cont_rt, cont_bk, cont_ct, Option.bind_some, Option.bind_none, Bool.not_true, Bool.not_false, id_eq, rg, e]
  cases r with
  | nx s => simp only [fnD_ap, fnDio_ap, zn_ap, zex_ap, zset_ap, zsetI_ap, zaugI_ap, zapp_ap, zext_ap, zpar2_ap, zpar3_ap, zaug_ap, zret_ap, zretN_ap, zif_ap, zfor_ap, zbk_ap, zct_ap, dv_ap, dc_ap, d1_ap, d2_ap, d2L_ap, dm_ap, dcons_ap, dlcons_ap, dstar_ap, dnot_ap, dand_ap, dor_ap, dif_ap, dch_ap, dio_ap, dnone_ap, dso_ap, dsl_ap, dany_ap, dall_ap, ucons_ap, addI_ap, subI_ap, negI_ap, ltI_ap, leI_ap, gtI_ap, geI_ap, eqI_ap, neI_ap, eqB_ap, neB_ap, eqQ_ap, neQ_ap, lenL_ap, ok_sq, ok_some, cont_nx, cont_rt, cont_bk, cont_ct, Option.bind_some, Option.bind_none, Bool.not_true, Bool.not_false, id_eq]; exact h'
  | rt v s => exact h'
  | bk s => exact h'.elim
  | ct s => exact h'.elim
end NW
set_option maxHeartbeats 0
namespace NW
open PySem PySem.Spec PyProof.Rows L2
/-- lowest(a, b): a 0, b 1, whole 2 -/
def ir_lowest : Fn := ⟨2, 3, none,
  (.cons (.set (.nm 2) (.o2 .gcd (.var 0) (.var 1)))
  (.cons (.ret (.tup (.cons (.o2 .fdiv (.peek 0) (.peek 2)) (.cons (.o2 .fdiv (.peek 1) (.peek 2)) .nil))))
  .nil))⟩
/-- saw_sum(h, k): h 0, k 1, number 2, under 3, sign 4 -/
def ir_saw_sum : Fn := ⟨2, 5, none,
  (.cons (.set (.tup (.cons (.nm 2) (.cons (.nm 3) .nil))) (.tup (.cons (.cst (.int 0)) (.cons (.cst (.int 1)) .nil))))
  (.cons (.set (.nm 4) (.cst (.int 1)))
  (.cons (.aug 0 .mod (.peek 1))
  (.cons (.whl (.val (.o2 .gt (.peek 1) (.cst (.int 1)))) (.cons (.par [2, 3] (.cons (.o2 .add (.o2 .mul (.o2 .mul (.o2 .mul (.peek 2) (.cst (.int 12))) (.peek 0)) (.peek 1)) (.o2 .mul (.o2 .mul (.peek 4) (.peek 3)) (.o2 .sub (.o2 .add (.o2 .add (.o2 .mul (.peek 0) (.peek 0)) (.o2 .mul (.peek 1) (.peek 1))) (.cst (.int 1))) (.o2 .mul (.o2 .mul (.cst (.int 3)) (.peek 0)) (.peek 1))))) (.cons (.o2 .mul (.o2 .mul (.o2 .mul (.peek 3) (.cst (.int 12))) (.peek 0)) (.peek 1)) .nil)))
  (.cons (.set (.tup (.cons (.nm 2) (.cons (.nm 3) .nil))) (.call 0 none (.cons (.var 2) (.cons (.var 3) .nil))))
  (.cons (.par [0, 1] (.cons (.o2 .mod (.peek 1) (.peek 0)) (.cons (.var 0) .nil)))
  (.cons (.set (.nm 4) (.o1 .neg (.var 4)))
  .nil)))))
  (.cons (.ret (.call 0 none (.cons (.var 2) (.cons (.var 3) .nil))))
  .nil)))))⟩
/-- whole_saw(h, k): h 0, k 1, number 2, under 3 -/
def ir_whole_saw : Fn := ⟨2, 4, none,
  (.cons (.set (.tup (.cons (.nm 2) (.cons (.nm 3) .nil))) (.call 1 none (.cons (.var 0) (.cons (.var 1) .nil))))
  (.cons (.ret (.o2 .fdiv (.o2 .mul (.o2 .mul (.cst (.int 6)) (.peek 1)) (.peek 2)) (.peek 3)))
  .nil))⟩
/-- _law_same(actual, due): actual 0, due 1, k 2 -/
def ir_law_same : Fn := ⟨2, 3, none,
  (.cons (.ite (.or_ (.val (.o1 .isTup (.peek 1))) (.val (.o1 .isLst (.peek 1)))) (.cons (.ite (.or_ (.val (.o2 .ne (.o1 .isTup (.peek 1)) (.o1 .isTup (.peek 0)))) (.val (.o2 .ne (.o1 .isLst (.peek 1)) (.o1 .isLst (.peek 0))))) (.cons (.ret (.cst (.bl false)))
  .nil) .nil)
  (.cons (.ite (.val (.o2 .ne (.o1 .len (.peek 0)) (.o1 .len (.peek 1)))) (.cons (.ret (.cst (.bl false)))
  .nil) .nil)
  (.cons (.ret (.o2 .eq (.o1 .len (.lc (.nm 2) [2] (.rng1 (.o1 .len (.peek 1))) (.not_ (.val (.call 3 none (.cons (.o2 .idx (.peek 0) (.var 2)) (.cons (.o2 .idx (.peek 1) (.var 2)) .nil))))) (.var 2))) (.cst (.int 0))))
  .nil))) .nil)
  (.cons (.ite (.val (.o1 .isN (.peek 1))) (.cons (.ret (.o1 .isN (.peek 0)))
  .nil) .nil)
  (.cons (.ite (.or_ (.val (.o1 .isBool (.peek 1))) (.val (.o1 .isBool (.peek 0)))) (.cons (.ret (.and_ (.o1 .isBool (.peek 1)) (.and_ (.o1 .isBool (.peek 0)) (.o2 .eq (.peek 0) (.peek 1)))))
  .nil) .nil)
  (.cons (.ite (.val (.o1 .isInt (.peek 1))) (.cons (.ret (.and_ (.o1 .isInt (.peek 0)) (.o2 .eq (.peek 0) (.peek 1))))
  .nil) .nil)
  (.cons (.ret (.and_ (.o1 .isStr (.peek 0)) (.o2 .eq (.peek 0) (.peek 1))))
  .nil)))))⟩
/-- _law_pool(script): script 0, salt 1, cell 2 -/
def ir_law_pool : Fn := ⟨1, 3, none,
  (.cons (.set (.nm 1) (.cst (.int 7)))
  (.cons (.for_ (.nm 2) (.seq (.sl (.peek 0) .no (.so (.cst (.int 63))))) (.cons (.set (.nm 1) (.o2 .mod (.o1 .toInt (.o2 .add (.o2 .mul (.peek 1) (.cst (.int 31))) (.peek 2))) (.cst (.int 1000003))))
  .nil))
  (.cons (.ret (.lst (.cons (.o1 .toList (.peek 0)) (.cons (.cst (.int 0)) (.cons (.cst (.int 0)) (.cons (.cst (.int 0)) (.cons (.var 1) .nil)))))))
  .nil)))⟩
/-- _law_spread(cell): cell 0, blended 1, whole_sum 2, k 3 -/
def ir_law_spread : Fn := ⟨1, 4, none,
  (.cons (.set (.nm 1) (.o2 .mod (.o1 .toInt (.peek 0)) (.cst (.int 2147483647))))
  (.cons (.set (.nm 2) (.cst (.int 1)))
  (.cons (.for_ (.nm 3) (.rng1 (.cst (.int 4))) (.cons (.set (.nm 1) (.o2 .mod (.o1 .toInt (.o2 .add (.o2 .add (.o2 .mul (.peek 1) (.cst (.int 48271))) (.cst (.int 12345))) (.peek 3))) (.cst (.int 2147483647))))
  (.cons (.set (.nm 2) (.o2 .add (.o2 .mul (.peek 2) (.cst (.int 2147483647))) (.peek 1)))
  .nil)))
  (.cons (.ret (.mv 2))
  .nil))))⟩
/-- _law_draw(pool, many): pool 0, many 1, cell 2, blended 3, value 4 -/
def ir_law_draw : Fn := ⟨2, 5, (some 0),
  (.cons (.ite (.and_ (.val (.o2 .le (.o2 .idx (.peek 0) (.cst (.int 2))) (.cst (.int 0)))) (.val (.o2 .lt (.o2 .idx (.peek 0) (.cst (.int 1))) (.o1 .len (.o2 .idx (.peek 0) (.cst (.int 0))))))) (.cons (.set (.nm 2) (.o2 .idx (.o2 .idx (.peek 0) (.cst (.int 0))) (.o2 .idx (.peek 0) (.cst (.int 1)))))
  (.cons (.setI 0 (.cst (.int 1)) (.o2 .add (.o2 .idx (.peek 0) (.cst (.int 1))) (.cst (.int 1))))
  (.cons (.setI 0 (.cst (.int 2)) (.var 2))
  (.cons (.ite (.val (.o2 .lt (.peek 2) (.cst (.int 1000000000000000000)))) (.cons (.setI 0 (.cst (.int 2)) (.call 5 none (.cons (.var 2) .nil)))
  .nil) .nil)
  .nil)))) .nil)
  (.cons (.setI 0 (.cst (.int 3)) (.o2 .add (.o2 .idx (.peek 0) (.cst (.int 3))) (.cst (.int 1))))
  (.cons (.ite (.val (.o2 .le (.o2 .idx (.peek 0) (.cst (.int 2))) (.cst (.int 0)))) (.cons (.set (.nm 3) (.o2 .mod (.o1 .toInt (.o2 .add (.o2 .add (.o2 .mul (.o2 .idx (.peek 0) (.cst (.int 4))) (.cst (.int 48271))) (.o2 .mul (.o2 .idx (.peek 0) (.cst (.int 3))) (.cst (.int 69621)))) (.cst (.int 1)))) (.cst (.int 2147483647))))
  (.cons (.set (.nm 3) (.o2 .mod (.o1 .toInt (.o2 .add (.o2 .mul (.peek 3) (.cst (.int 16807))) (.o2 .idx (.peek 0) (.cst (.int 3))))) (.cst (.int 2147483629))))
  (.cons (.ret (.o2 .mod (.o2 .fdiv (.peek 3) (.cst (.int 5))) (.peek 1)))
  .nil))) .nil)
  (.cons (.set (.nm 4) (.o2 .mod (.o1 .toInt (.o2 .idx (.peek 0) (.cst (.int 2)))) (.peek 1)))
  (.cons (.setI 0 (.cst (.int 2)) (.o2 .fdiv (.o2 .idx (.peek 0) (.cst (.int 2))) (.peek 1)))
  (.cons (.ret (.mv 4))
  .nil))))))⟩
/-- _law_common(a, b): a 0, b 1, k 2, rest 3 -/
def ir_law_common : Fn := ⟨2, 4, none,
  (.cons (.for_ (.nm 2) (.rng1 (.cst (.int 2000))) (.cons (.ite (.val (.o2 .eq (.peek 1) (.cst (.int 0)))) (.cons (.ret (.mv 0))
  .nil) .nil)
  (.cons (.set (.nm 3) (.o2 .mod (.o1 .toInt (.peek 0)) (.peek 1)))
  (.cons (.set (.nm 0) (.var 1))
  (.cons (.set (.nm 1) (.var 3))
  .nil)))))
  (.cons (.ret (.mv 0))
  .nil))⟩
/-- _law_int(pool, most): pool 0, most 1 -/
def ir_law_int : Fn := ⟨2, 2, (some 0),
  (.cons (.ret (.o2 .mul (.call 6 (some 0) (.cons (.io 0) (.cons (.var 1) .nil))) (.ite (.val (.o2 .eq (.call 6 (some 0) (.cons (.io 0) (.cons (.cst (.int 2)) .nil))) (.cst (.int 0)))) (.cst (.int 1)) (.o1 .neg (.cst (.int 1))))))
  .nil)⟩
/-- _law_abs(a): a 0 -/
def ir_law_abs : Fn := ⟨1, 1, none,
  (.cons (.ret (.ite (.val (.o2 .ge (.peek 0) (.cst (.int 0)))) (.mv 0) (.o2 .sub (.cst (.int 0)) (.peek 0))))
  .nil)⟩
/-- law(script): script 0, pool 1, k 2, h 3, step 4, total 5, j 6, g 7, due 8, a 9, b 10, one 11, two 12, up 13, down 14 -/
def ir_law : Fn := ⟨1, 15, none,
  (.cons (.set (.nm 1) (.call 4 none (.cons (.var 0) .nil)))
  (.cons (.set (.nm 2) (.o2 .add (.cst (.int 1)) (.call 6 (some 0) (.cons (.io 1) (.cons (.cst (.int 60)) .nil)))))
  (.cons (.set (.nm 3) (.call 8 (some 0) (.cons (.io 1) (.cons (.cst (.int 200)) .nil))))
  (.cons (.for_ (.nm 4) (.rng1 (.cst (.int 70))) (.cons (.ite (.val (.o2 .ne (.call 7 none (.cons (.call 9 none (.cons (.var 3) .nil)) (.cons (.var 2) .nil))) (.cst (.int 1)))) (.cons (.set (.nm 3) (.o2 .add (.peek 3) (.cst (.int 1))))
  .nil) .nil)
  .nil))
  (.cons (.set (.nm 5) (.cst (.int 0)))
  (.cons (.for_ (.nm 6) (.rng2 (.cst (.int 1)) (.var 2)) (.cons (.set (.nm 5) (.o2 .add (.peek 5) (.o2 .mul (.o2 .sub (.o2 .mul (.cst (.int 2)) (.peek 6)) (.peek 2)) (.o2 .sub (.o2 .mul (.cst (.int 2)) (.o2 .mod (.o2 .mul (.peek 3) (.peek 6)) (.peek 2))) (.peek 2)))))
  .nil))
  (.cons (.set (.nm 7) (.call 7 none (.cons (.call 9 none (.cons (.var 5) .nil)) (.cons (.o2 .mul (.o2 .mul (.cst (.int 4)) (.peek 2)) (.peek 2)) .nil))))
  (.cons (.set (.nm 8) (.tup (.cons (.o2 .fdiv (.peek 5) (.peek 7)) (.cons (.o2 .fdiv (.o2 .mul (.o2 .mul (.cst (.int 4)) (.peek 2)) (.peek 2)) (.peek 7)) .nil))))
  (.cons (.ite (.or_ (.not_ (.val (.call 3 none (.cons (.lst (.cons (.call 1 none (.cons (.var 3) (.cons (.var 2) .nil))) (.cons (.call 1 none (.cons (.o2 .add (.peek 3) (.o2 .mul (.cst (.int 3)) (.peek 2))) (.cons (.var 2) .nil))) (.cons (.call 2 none (.cons (.var 3) (.cons (.var 2) .nil))) .nil)))) (.cons (.lst (.cons (.var 8) (.cons (.var 8) (.cons (.o2 .fdiv (.o2 .mul (.o2 .mul (.cst (.int 6)) (.peek 2)) (.o2 .idx (.peek 8) (.cst (.int 0)))) (.o2 .idx (.peek 8) (.cst (.int 1)))) .nil)))) .nil))))) (.val (.o2 .ne (.o2 .mod (.o2 .mul (.o2 .mul (.cst (.int 6)) (.peek 2)) (.o2 .idx (.peek 8) (.cst (.int 0)))) (.o2 .idx (.peek 8) (.cst (.int 1)))) (.cst (.int 0))))) (.cons (.ret (.cst (.bl false)))
  .nil) .nil)
  (.cons (.ite (.val (.o2 .ne (.call 1 none (.cons (.o2 .sub (.cst (.int 0)) (.peek 3)) (.cons (.var 2) .nil))) (.tup (.cons (.o2 .sub (.cst (.int 0)) (.o2 .idx (.peek 8) (.cst (.int 0)))) (.cons (.o2 .idx (.peek 8) (.cst (.int 1))) .nil))))) (.cons (.ret (.cst (.bl false)))
  .nil) .nil)
  (.cons (.par [9, 10] (.cons (.o2 .add (.cst (.int 1)) (.call 6 (some 0) (.cons (.io 1) (.cons (.o2 .pow (.cst (.int 10)) (.cst (.int 15))) .nil)))) (.cons (.o2 .add (.cst (.int 1)) (.call 6 (some 0) (.cons (.io 1) (.cons (.o2 .pow (.cst (.int 10)) (.cst (.int 15))) .nil)))) .nil)))
  (.cons (.set (.nm 7) (.call 7 none (.cons (.var 9) (.cons (.var 10) .nil))))
  (.cons (.par [9, 10] (.cons (.o2 .fdiv (.peek 9) (.peek 7)) (.cons (.o2 .fdiv (.peek 10) (.peek 7)) .nil)))
  (.cons (.par [11, 12] (.cons (.call 1 none (.cons (.var 9) (.cons (.var 10) .nil))) (.cons (.call 1 none (.cons (.var 10) (.cons (.var 9) .nil))) .nil)))
  (.cons (.set (.nm 13) (.o2 .add (.o2 .mul (.o2 .idx (.peek 11) (.cst (.int 0))) (.o2 .idx (.peek 12) (.cst (.int 1)))) (.o2 .mul (.o2 .idx (.peek 12) (.cst (.int 0))) (.o2 .idx (.peek 11) (.cst (.int 1))))))
  (.cons (.set (.nm 14) (.o2 .mul (.o2 .idx (.peek 11) (.cst (.int 1))) (.o2 .idx (.peek 12) (.cst (.int 1)))))
  (.cons (.ret (.and_ (.o2 .eq (.o2 .mul (.o2 .mul (.o2 .mul (.peek 13) (.cst (.int 12))) (.peek 9)) (.peek 10)) (.o2 .mul (.peek 14) (.o2 .sub (.o2 .add (.o2 .add (.o2 .mul (.peek 9) (.peek 9)) (.o2 .mul (.peek 10) (.peek 10))) (.cst (.int 1))) (.o2 .mul (.o2 .mul (.cst (.int 3)) (.peek 9)) (.peek 10))))) (.o2 .eq (.o2 .mod (.o2 .mul (.o2 .mul (.o2 .mul (.cst (.int 2)) (.peek 10)) (.o2 .idx (.peek 11) (.cst (.int 0)))) (.cst (.int 3))) (.o2 .idx (.peek 11) (.cst (.int 1)))) (.cst (.int 0)))))
  .nil)))))))))))))))))⟩
def prog : Prog := [ir_lowest, ir_saw_sum, ir_whole_saw, ir_law_same, ir_law_pool, ir_law_spread, ir_law_draw, ir_law_common, ir_law_int, ir_law_abs, ir_law]
def tp (i : Nat) : Stmt := PySem.Challenge.pw_numberwright_k45_whole_saws.main.body.getD i (.Pass ⟨0, 0, 0, 0⟩)
def dfs : List Df := [
  ⟨"lowest", ["a", "b"], ["a", "b", "whole"], tp 2, ir_lowest, false⟩,
  ⟨"saw_sum", ["h", "k"], ["h", "k", "number", "under", "sign"], tp 4, ir_saw_sum, false⟩,
  ⟨"whole_saw", ["h", "k"], ["h", "k", "number", "under"], tp 5, ir_whole_saw, false⟩,
  ⟨"_law_same", ["actual", "due"], ["actual", "due", "k"], tp 7, ir_law_same, false⟩,
  ⟨"_law_pool", ["script"], ["script", "salt", "cell"], tp 8, ir_law_pool, false⟩,
  ⟨"_law_spread", ["cell"], ["cell", "blended", "whole_sum", "k"], tp 9, ir_law_spread, false⟩,
  ⟨"_law_draw", ["pool", "many"], ["pool", "many", "cell", "blended", "value"], tp 10, ir_law_draw, false⟩,
  ⟨"_law_common", ["a", "b"], ["a", "b", "k", "rest"], tp 11, ir_law_common, false⟩,
  ⟨"_law_int", ["pool", "most"], ["pool", "most"], tp 12, ir_law_int, false⟩,
  ⟨"_law_abs", ["a"], ["a"], tp 13, ir_law_abs, false⟩,
  ⟨"law", ["script"], ["script", "pool", "k", "h", "step", "total", "j", "g", "due", "a", "b", "one", "two", "up", "down"], tp 14, ir_law, false⟩]
def gm : Gm := ⟨dfs.map fun d => (d.name, d.ps), [], ["len", "int", "list", "tuple", "range", "isinstance", "bool", "str"], true, false⟩
abbrev PP : Prog := dfs.map (·.fn)
theorem y_law_pool.k0 : ∀ v, Keep ((fun (v : (List Int)) (s : y_law_pool.S) => { s with script := v }) v) y_law_pool.G (some 0) := by intros; repeat' (first | exact (fun _ => rfl) | exact trivial | apply And.intro)
theorem y_law_pool.k1 : ∀ v, Keep ((fun (v : Int) (s : y_law_pool.S) => { s with salt := v }) v) y_law_pool.G (some 1) := by intros; repeat' (first | exact (fun _ => rfl) | exact trivial | apply And.intro)
theorem y_law_pool.k2 : ∀ v, Keep ((fun (v : Int) (s : y_law_pool.S) => { s with cell := v }) v) y_law_pool.G (some 2) := by intros; repeat' (first | exact (fun _ => rfl) | exact trivial | apply And.intro)
theorem y_law_pool.body {c : Cl}  : XSs y_law_pool.G c LL [.fz, .any, .any] ir_law_pool.body [.any, .any, .any] [.any, .any, .any] [.any, .any, .any] .ow (eL eD) y_law_pool.den :=
  (n_cons (z_set (g := (fun s : y_law_pool.S => s.salt)) rfl (fun _ _ => rfl) y_law_pool.k1 (x_cst ((7) : Int) D.int rfl))
    (n_cons (z_for (Φh := [.fz, .fz, .any]) (s_seq srcL (x_slW slL (x_peek (eL D.int) (fun s : y_law_pool.S => s.script) rfl rfl) o_no (o_so (x_cst ((63) : Int) D.int rfl)))) rfl (g_nmT D.int (g := (fun s : y_law_pool.S => s.cell)) rfl (fun _ _ => rfl) y_law_pool.k2) (n_weak (Φn := [.fz, .fz, .fz]) (Φn' := [.fz, .fz, .any]) (n_cons (z_set (g := (fun s : y_law_pool.S => s.salt)) rfl (fun _ _ => rfl) y_law_pool.k1 (x_o2F modI_p (x_o1F toIntI_p (x_o2F addI_p (x_o2F mulI_p (x_peek D.int (fun s : y_law_pool.S => s.salt) rfl rfl) (x_cst ((31) : Int) D.int rfl)) (x_peek D.int (fun s : y_law_pool.S => s.cell) rfl rfl))) (x_cst ((1000003) : Int) D.int rfl)))
    n_nil)))
    (n_cons (z_ret (x_lst (l_cons (x_map (f := (eL D.int)) co_D (x_o1W toListL_p (x_peek (eL D.int) (fun s : y_law_pool.S => s.script) rfl rfl))) (l_cons (x_map (f := D.int) co_D (x_cst ((0) : Int) D.int rfl)) (l_cons (x_map (f := D.int) co_D (x_cst ((0) : Int) D.int rfl)) (l_cons (x_map (f := D.int) co_D (x_cst ((0) : Int) D.int rfl)) (l_cons (x_map (f := D.int) co_D (x_var D.int (fun s : y_law_pool.S => s.salt) rfl rfl)) (l_nil eD))))))))
    n_nil)))
theorem y_law_pool.tc (d : Nat) (hd : 1 ≤ d) : TC (evF LL PP d) 4 (c1 (eL D.int)) (eL eD) .ow y_law_pool := by
  obtain ⟨n, rfl⟩ : ∃ n, d = n + 1 := ⟨d - 1, by omega⟩
  exact tc_fn rfl rfl (fun _ => rfl) (fun _ => by intros; repeat' (first | exact rfl | exact trivial | apply And.intro)) (y_law_pool.body ) (.inl rfl)
theorem y_law_spread.k0 : ∀ v, Keep ((fun (v : D) (s : y_law_spread.S) => { s with cell := v }) v) y_law_spread.G (some 0) := by intros; repeat' (first | exact (fun _ => rfl) | exact trivial | apply And.intro)
theorem y_law_spread.k1 : ∀ v, Keep ((fun (v : Int) (s : y_law_spread.S) => { s with blended := v }) v) y_law_spread.G (some 1) := by intros; repeat' (first | exact (fun _ => rfl) | exact trivial | apply And.intro)
theorem y_law_spread.k2 : ∀ v, Keep ((fun (v : Int) (s : y_law_spread.S) => { s with whole_sum := v }) v) y_law_spread.G (some 2) := by intros; repeat' (first | exact (fun _ => rfl) | exact trivial | apply And.intro)
theorem y_law_spread.k3 : ∀ v, Keep ((fun (v : Int) (s : y_law_spread.S) => { s with k := v }) v) y_law_spread.G (some 3) := by intros; repeat' (first | exact (fun _ => rfl) | exact trivial | apply And.intro)
theorem y_law_spread.body {c : Cl}  : XSs y_law_spread.G c LL [.fz, .any, .any, .any] ir_law_spread.body [.any, .any, .any, .any] [.any, .any, .any, .any] [.any, .any, .any, .any] .fz D.int y_law_spread.den :=
  (n_cons (z_set (g := (fun s : y_law_spread.S => s.blended)) rfl (fun _ _ => rfl) y_law_spread.k1 (x_o2F modI_p (x_o1F (raw1_p asI_c) (x_peek eD (fun s : y_law_spread.S => s.cell) rfl rfl)) (x_cst ((2147483647) : Int) D.int rfl)))
    (n_cons (z_set (g := (fun s : y_law_spread.S => s.whole_sum)) rfl (fun _ _ => rfl) y_law_spread.k2 (x_cst ((1) : Int) D.int rfl))
    (n_cons (z_for (Φh := [.fz, .fz, .fz, .any]) (s_rng1 (x_cst ((4) : Int) D.int rfl)) rfl (g_nmT D.int (g := (fun s : y_law_spread.S => s.k)) rfl (fun _ _ => rfl) y_law_spread.k3) (n_weak (Φn := [.fz, .fz, .fz, .fz]) (Φn' := [.fz, .fz, .fz, .any]) (n_cons (z_set (g := (fun s : y_law_spread.S => s.blended)) rfl (fun _ _ => rfl) y_law_spread.k1 (x_o2F modI_p (x_o1F toIntI_p (x_o2F addI_p (x_o2F addI_p (x_o2F mulI_p (x_peek D.int (fun s : y_law_spread.S => s.blended) rfl rfl) (x_cst ((48271) : Int) D.int rfl)) (x_cst ((12345) : Int) D.int rfl)) (x_peek D.int (fun s : y_law_spread.S => s.k) rfl rfl))) (x_cst ((2147483647) : Int) D.int rfl)))
    (n_cons (z_set (g := (fun s : y_law_spread.S => s.whole_sum)) rfl (fun _ _ => rfl) y_law_spread.k2 (x_o2F addI_p (x_o2F mulI_p (x_peek D.int (fun s : y_law_spread.S => s.whole_sum) rfl rfl) (x_cst ((2147483647) : Int) D.int rfl)) (x_peek D.int (fun s : y_law_spread.S => s.blended) rfl rfl)))
    n_nil))))
    (n_cons (z_ret (x_mv D.int (fun s : y_law_spread.S => s.whole_sum) rfl rfl))
    n_nil))))
theorem y_law_spread.tc (d : Nat) (hd : 1 ≤ d) : TC (evF LL PP d) 5 (c1 eD) D.int .fz y_law_spread := by
  obtain ⟨n, rfl⟩ : ∃ n, d = n + 1 := ⟨d - 1, by omega⟩
  exact tc_fn rfl rfl (fun _ => rfl) (fun _ => by intros; repeat' (first | exact rfl | exact trivial | apply And.intro)) (y_law_spread.body ) (.inl rfl)
theorem y_law_draw.k0 : ∀ v, Keep ((fun (v : (List D)) (s : y_law_draw.S) => { s with pool := v }) v) y_law_draw.G (some 0) := by intros; repeat' (first | exact (fun _ => rfl) | exact trivial | apply And.intro)
theorem y_law_draw.k1 : ∀ v, Keep ((fun (v : Int) (s : y_law_draw.S) => { s with many := v }) v) y_law_draw.G (some 1) := by intros; repeat' (first | exact (fun _ => rfl) | exact trivial | apply And.intro)
theorem y_law_draw.k2 : ∀ v, Keep ((fun (v : D) (s : y_law_draw.S) => { s with cell := v }) v) y_law_draw.G (some 2) := by intros; repeat' (first | exact (fun _ => rfl) | exact trivial | apply And.intro)
theorem y_law_draw.k3 : ∀ v, Keep ((fun (v : Int) (s : y_law_draw.S) => { s with blended := v }) v) y_law_draw.G (some 3) := by intros; repeat' (first | exact (fun _ => rfl) | exact trivial | apply And.intro)
theorem y_law_draw.k4 : ∀ v, Keep ((fun (v : Int) (s : y_law_draw.S) => { s with value := v }) v) y_law_draw.G (some 4) := by intros; repeat' (first | exact (fun _ => rfl) | exact trivial | apply And.intro)
theorem y_law_draw.body {c : Cl} (h_law_spread : TC c 5 (c1 eD) D.int .fz y_law_spread) : XSs y_law_draw.G c LL [.ow, .fz, .any, .any, .any] ir_law_draw.body [.ow, .any, .any, .any, .any] [.ow, .any, .any, .any, .any] [.ow, .any, .any, .any, .any] .fz D.int y_law_draw.den :=
  (n_cons (z_if (Φn := [.ow, .fz, .any, .any, .any]) (q_and (q_bl (x_o2F (raw2_p asB_c) (x_o2F getL_p (x_peekO (eL eD) (fun s : y_law_draw.S => s.pool) rfl rfl) (x_cst ((2) : Int) D.int rfl)) (x_cst ((0) : Int) D.int rfl))) (q_bl (x_o2F (raw2_p asB_c) (x_o2F getL_p (x_peekO (eL eD) (fun s : y_law_draw.S => s.pool) rfl rfl) (x_cst ((1) : Int) D.int rfl)) (x_o1F (raw1_p asI_c) (x_o2F getL_p (x_peekO (eL eD) (fun s : y_law_draw.S => s.pool) rfl rfl) (x_cst ((0) : Int) D.int rfl)))))) (n_weak (Φn := [.ow, .fz, .fz, .any, .any]) (Φn' := [.ow, .fz, .any, .any, .any]) (n_cons (z_set (g := (fun s : y_law_draw.S => s.cell)) rfl (fun _ _ => rfl) y_law_draw.k2 (x_o2F (raw2_p someD_c) (x_o2F getL_p (x_peekO (eL eD) (fun s : y_law_draw.S => s.pool) rfl rfl) (x_cst ((0) : Int) D.int rfl)) (x_o2F getL_p (x_peekO (eL eD) (fun s : y_law_draw.S => s.pool) rfl rfl) (x_cst ((1) : Int) D.int rfl))))
    (n_cons (z_setI (g := (fun s : y_law_draw.S => s.pool)) rfl (fun _ _ => rfl) y_law_draw.k0 (x_map (f := D.int) co_D (x_o2F addI_p (x_cast (f := asI) asI_c (x_o2F getL_p (x_peekO (eL eD) (fun s : y_law_draw.S => s.pool) rfl rfl) (x_cst ((1) : Int) D.int rfl))) (x_cst ((1) : Int) D.int rfl))) (x_cst ((1) : Int) D.int rfl) rfl rfl)
    (n_cons (z_setI (g := (fun s : y_law_draw.S => s.pool)) rfl (fun _ _ => rfl) y_law_draw.k0 (x_var eD (fun s : y_law_draw.S => s.cell) rfl rfl) (x_cst ((2) : Int) D.int rfl) rfl rfl)
    (n_cons (z_if (Φn := [.ow, .fz, .fz, .any, .any]) (q_bl (x_o2F (raw2_p asB_c) (x_peek eD (fun s : y_law_draw.S => s.cell) rfl rfl) (x_cst ((1000000000000000000) : Int) D.int rfl))) (n_cons (z_setI (g := (fun s : y_law_draw.S => s.pool)) rfl (fun _ _ => rfl) y_law_draw.k0 (x_map (f := D.int) co_D (x_callF h_law_spread (r_one (x_var eD (fun s : y_law_draw.S => s.cell) rfl rfl)))) (x_cst ((2) : Int) D.int rfl) rfl rfl)
    n_nil) n_nil)
    n_nil))))) n_nil)
    (n_cons (z_setI (g := (fun s : y_law_draw.S => s.pool)) rfl (fun _ _ => rfl) y_law_draw.k0 (x_map (f := D.int) co_D (x_o2F addI_p (x_cast (f := asI) asI_c (x_o2F getL_p (x_peekO (eL eD) (fun s : y_law_draw.S => s.pool) rfl rfl) (x_cst ((3) : Int) D.int rfl))) (x_cst ((1) : Int) D.int rfl))) (x_cst ((3) : Int) D.int rfl) rfl rfl)
    (n_cons (z_if (Φn := [.ow, .fz, .any, .any, .any]) (q_bl (x_o2F (raw2_p asB_c) (x_o2F getL_p (x_peekO (eL eD) (fun s : y_law_draw.S => s.pool) rfl rfl) (x_cst ((2) : Int) D.int rfl)) (x_cst ((0) : Int) D.int rfl))) (n_cons (z_set (g := (fun s : y_law_draw.S => s.blended)) rfl (fun _ _ => rfl) y_law_draw.k3 (x_o2F modI_p (x_o1F toIntI_p (x_o2F addI_p (x_o2F addI_p (x_o2F mulI_p (x_cast (f := asI) asI_c (x_o2F getL_p (x_peekO (eL eD) (fun s : y_law_draw.S => s.pool) rfl rfl) (x_cst ((4) : Int) D.int rfl))) (x_cst ((48271) : Int) D.int rfl)) (x_o2F mulI_p (x_cast (f := asI) asI_c (x_o2F getL_p (x_peekO (eL eD) (fun s : y_law_draw.S => s.pool) rfl rfl) (x_cst ((3) : Int) D.int rfl))) (x_cst ((69621) : Int) D.int rfl))) (x_cst ((1) : Int) D.int rfl))) (x_cst ((2147483647) : Int) D.int rfl)))
    (n_cons (z_set (g := (fun s : y_law_draw.S => s.blended)) rfl (fun _ _ => rfl) y_law_draw.k3 (x_o2F modI_p (x_o1F toIntI_p (x_o2F addI_p (x_o2F mulI_p (x_peek D.int (fun s : y_law_draw.S => s.blended) rfl rfl) (x_cst ((16807) : Int) D.int rfl)) (x_cast (f := asI) asI_c (x_o2F getL_p (x_peekO (eL eD) (fun s : y_law_draw.S => s.pool) rfl rfl) (x_cst ((3) : Int) D.int rfl))))) (x_cst ((2147483629) : Int) D.int rfl)))
    (n_cons (z_ret (x_o2F modI_p (x_o2F fdivI_p (x_peek D.int (fun s : y_law_draw.S => s.blended) rfl rfl) (x_cst ((5) : Int) D.int rfl)) (x_peek D.int (fun s : y_law_draw.S => s.many) rfl rfl)))
    n_nil))) n_nil)
    (n_cons (z_set (g := (fun s : y_law_draw.S => s.value)) rfl (fun _ _ => rfl) y_law_draw.k4 (x_o2F modI_p (x_o1F (raw1_p asI_c) (x_o2F getL_p (x_peekO (eL eD) (fun s : y_law_draw.S => s.pool) rfl rfl) (x_cst ((2) : Int) D.int rfl))) (x_peek D.int (fun s : y_law_draw.S => s.many) rfl rfl)))
    (n_cons (z_setI (g := (fun s : y_law_draw.S => s.pool)) rfl (fun _ _ => rfl) y_law_draw.k0 (x_map (f := D.int) co_D (x_o2F fdivI_p (x_cast (f := asI) asI_c (x_o2F getL_p (x_peekO (eL eD) (fun s : y_law_draw.S => s.pool) rfl rfl) (x_cst ((2) : Int) D.int rfl))) (x_peek D.int (fun s : y_law_draw.S => s.many) rfl rfl))) (x_cst ((2) : Int) D.int rfl) rfl rfl)
    (n_cons (z_ret (x_mv D.int (fun s : y_law_draw.S => s.value) rfl rfl))
    n_nil))))))
theorem y_law_draw.tc (d : Nat) (hd : 2 ≤ d) : TCio (evF LL PP d) 6 (eL eD) (c1 D.int) D.int .fz y_law_draw := by
  obtain ⟨n, rfl⟩ : ∃ n, d = n + 1 := ⟨d - 1, by omega⟩
  exact tc_fnIo rfl rfl (fun _ => rfl) (fun _ _ => by intros; repeat' (first | exact rfl | exact trivial | apply And.intro)) (y_law_draw.body (y_law_spread.tc _ (by omega))) (.inl rfl) rfl rfl
theorem y_law_int.k0 : ∀ v, Keep ((fun (v : (List D)) (s : y_law_int.S) => { s with pool := v }) v) y_law_int.G (some 0) := by intros; repeat' (first | exact (fun _ => rfl) | exact trivial | apply And.intro)
theorem y_law_int.k1 : ∀ v, Keep ((fun (v : Int) (s : y_law_int.S) => { s with most := v }) v) y_law_int.G (some 1) := by intros; repeat' (first | exact (fun _ => rfl) | exact trivial | apply And.intro)
theorem y_law_int.body {c : Cl} (h_law_draw : TCio c 6 (eL eD) (c1 D.int) D.int .fz y_law_draw) : XSs y_law_int.G c LL [.ow, .fz] ir_law_int.body [.ow, .any] [.ow, .any] [.ow, .any] .fz D.int y_law_int.den :=
  (n_cons (z_ret (x_o2F mulI_p (x_ioF (gp := (fun s : y_law_int.S => s.pool)) h_law_draw rfl (fun _ _ => rfl) y_law_int.k0 rfl (r_one (x_var D.int (fun s : y_law_int.S => s.most) rfl rfl))) (x_ite (q_bl (x_o2F eqI_p (x_ioF (gp := (fun s : y_law_int.S => s.pool)) h_law_draw rfl (fun _ _ => rfl) y_law_int.k0 rfl (r_one (x_cst ((2) : Int) D.int rfl))) (x_cst ((0) : Int) D.int rfl))) (x_cst ((1) : Int) D.int rfl) (x_o1F negI_p (x_cst ((1) : Int) D.int rfl)))))
    n_nil)
theorem y_law_int.tc (d : Nat) (hd : 3 ≤ d) : TCio (evF LL PP d) 8 (eL eD) (c1 D.int) D.int .fz y_law_int := by
  obtain ⟨n, rfl⟩ : ∃ n, d = n + 1 := ⟨d - 1, by omega⟩
  exact tc_fnIo rfl rfl (fun _ => rfl) (fun _ _ => by intros; repeat' (first | exact rfl | exact trivial | apply And.intro)) (y_law_int.body (y_law_draw.tc _ (by omega))) (.inl rfl) rfl rfl
theorem y_law_common.k0 : ∀ v, Keep ((fun (v : Int) (s : y_law_common.S) => { s with a := v }) v) y_law_common.G (some 0) := by intros; repeat' (first | exact (fun _ => rfl) | exact trivial | apply And.intro)
theorem y_law_common.k1 : ∀ v, Keep ((fun (v : Int) (s : y_law_common.S) => { s with b := v }) v) y_law_common.G (some 1) := by intros; repeat' (first | exact (fun _ => rfl) | exact trivial | apply And.intro)
theorem y_law_common.k2 : ∀ v, Keep ((fun (v : Int) (s : y_law_common.S) => { s with k := v }) v) y_law_common.G (some 2) := by intros; repeat' (first | exact (fun _ => rfl) | exact trivial | apply And.intro)
theorem y_law_common.k3 : ∀ v, Keep ((fun (v : Int) (s : y_law_common.S) => { s with rest := v }) v) y_law_common.G (some 3) := by intros; repeat' (first | exact (fun _ => rfl) | exact trivial | apply And.intro)
theorem y_law_common.body {c : Cl}  : XSs y_law_common.G c LL [.fz, .fz, .any, .any] ir_law_common.body [.any, .any, .any, .any] [.any, .any, .any, .any] [.any, .any, .any, .any] .fz D.int y_law_common.den :=
  (n_cons (z_for (Φh := [.fz, .fz, .any, .any]) (s_rng1 (x_cst ((2000) : Int) D.int rfl)) rfl (g_nmT D.int (g := (fun s : y_law_common.S => s.k)) rfl (fun _ _ => rfl) y_law_common.k2) (n_weak (Φn := [.fz, .fz, .fz, .fz]) (Φn' := [.fz, .fz, .any, .any]) (n_cons (z_if (Φn := [.fz, .fz, .fz, .any]) (q_bl (x_o2F eqI_p (x_peek D.int (fun s : y_law_common.S => s.b) rfl rfl) (x_cst ((0) : Int) D.int rfl))) (n_cons (z_ret (x_mv D.int (fun s : y_law_common.S => s.a) rfl rfl))
    n_nil) n_nil)
    (n_cons (z_set (g := (fun s : y_law_common.S => s.rest)) rfl (fun _ _ => rfl) y_law_common.k3 (x_o2F modI_p (x_o1F toIntI_p (x_peek D.int (fun s : y_law_common.S => s.a) rfl rfl)) (x_peek D.int (fun s : y_law_common.S => s.b) rfl rfl)))
    (n_cons (z_set (g := (fun s : y_law_common.S => s.a)) rfl (fun _ _ => rfl) y_law_common.k0 (x_var D.int (fun s : y_law_common.S => s.b) rfl rfl))
    (n_cons (z_set (g := (fun s : y_law_common.S => s.b)) rfl (fun _ _ => rfl) y_law_common.k1 (x_var D.int (fun s : y_law_common.S => s.rest) rfl rfl))
    n_nil))))))
    (n_cons (z_ret (x_mv D.int (fun s : y_law_common.S => s.a) rfl rfl))
    n_nil))
theorem y_law_common.tc (d : Nat) (hd : 1 ≤ d) : TC (evF LL PP d) 7 (cc D.int (c1 D.int)) D.int .fz y_law_common := by
  obtain ⟨n, rfl⟩ : ∃ n, d = n + 1 := ⟨d - 1, by omega⟩
  exact tc_fn rfl rfl (fun _ => rfl) (fun _ => by intros; repeat' (first | exact rfl | exact trivial | apply And.intro)) (y_law_common.body ) (.inl rfl)
theorem y_law_abs.k0 : ∀ v, Keep ((fun (v : Int) (s : y_law_abs.S) => { s with a := v }) v) y_law_abs.G (some 0) := by intros; repeat' (first | exact (fun _ => rfl) | exact trivial | apply And.intro)
theorem y_law_abs.body {c : Cl}  : XSs y_law_abs.G c LL [.fz] ir_law_abs.body [.any] [.any] [.any] .fz D.int y_law_abs.den :=
  (n_cons (z_ret (x_ite (q_bl (x_o2F geI_p (x_peek D.int (fun s : y_law_abs.S => s.a) rfl rfl) (x_cst ((0) : Int) D.int rfl))) (x_mv D.int (fun s : y_law_abs.S => s.a) rfl rfl) (x_o2F subI_p (x_cst ((0) : Int) D.int rfl) (x_peek D.int (fun s : y_law_abs.S => s.a) rfl rfl))))
    n_nil)
theorem y_law_abs.tc (d : Nat) (hd : 1 ≤ d) : TC (evF LL PP d) 9 (c1 D.int) D.int .fz y_law_abs := by
  obtain ⟨n, rfl⟩ : ∃ n, d = n + 1 := ⟨d - 1, by omega⟩
  exact tc_fn rfl rfl (fun _ => rfl) (fun _ => by intros; repeat' (first | exact rfl | exact trivial | apply And.intro)) (y_law_abs.body ) (.inl rfl)
theorem y_law_same.k0 : ∀ v, Keep ((fun (v : D) (s : y_law_same.S) => { s with actual := v }) v) y_law_same.G (some 0) := by intros; repeat' (first | exact (fun _ => rfl) | exact trivial | apply And.intro)
theorem y_law_same.k1 : ∀ v, Keep ((fun (v : D) (s : y_law_same.S) => { s with due := v }) v) y_law_same.G (some 1) := by intros; repeat' (first | exact (fun _ => rfl) | exact trivial | apply And.intro)
theorem y_law_same.k2 : ∀ v, Keep ((fun (v : Int) (s : y_law_same.S) => { s with k := v }) v) y_law_same.G (some 2) := by intros; repeat' (first | exact (fun _ => rfl) | exact trivial | apply And.intro)
theorem y_law_same.body {c : Cl} {self : (D × D) → Option Bool} (h_law_same : TC c 3 (cc eD (c1 eD)) D.bl .fz self) : XSs y_law_same.G c LL [.fz, .fz, .any] ir_law_same.body [.any, .any, .any] [.any, .any, .any] [.any, .any, .any] .fz D.bl (y_law_same.den self) :=
  (n_cons (z_if (Φn := [.fz, .fz, .any]) (q_or (q_bl (x_o1F (raw1_p asB_c) (x_peek eD (fun s : y_law_same.S => s.due) rfl rfl))) (q_bl (x_o1F (raw1_p asB_c) (x_peek eD (fun s : y_law_same.S => s.due) rfl rfl)))) (n_cons (z_if (Φn := [.fz, .fz, .any]) (q_or (q_bl (x_o2F neB_p (x_o1F (raw1_p asB_c) (x_peek eD (fun s : y_law_same.S => s.due) rfl rfl)) (x_o1F (raw1_p asB_c) (x_peek eD (fun s : y_law_same.S => s.actual) rfl rfl)))) (q_bl (x_o2F neB_p (x_o1F (raw1_p asB_c) (x_peek eD (fun s : y_law_same.S => s.due) rfl rfl)) (x_o1F (raw1_p asB_c) (x_peek eD (fun s : y_law_same.S => s.actual) rfl rfl))))) (n_cons (z_ret (x_cst (false : Bool) D.bl rfl))
    n_nil) n_nil)
    (n_cons (z_if (Φn := [.fz, .fz, .any]) (q_bl (x_o2F neI_p (x_o1F (raw1_p asI_c) (x_peek eD (fun s : y_law_same.S => s.actual) rfl rfl)) (x_o1F (raw1_p asI_c) (x_peek eD (fun s : y_law_same.S => s.due) rfl rfl)))) (n_cons (z_ret (x_cst (false : Bool) D.bl rfl))
    n_nil) n_nil)
    (n_cons (z_ret (x_o2F eqI_p (x_o1F lenL_p (x_lcP (s_rng1 (x_o1F (raw1_p asI_c) (x_peek eD (fun s : y_law_same.S => s.due) rfl rfl))) (g_nmT D.int (g := (fun s : y_law_same.S => s.k)) rfl (fun _ _ => rfl) y_law_same.k2) (q_not (q_bl (x_callF h_law_same (r_cons (x_o2F (raw2_p someD_c) (x_peek eD (fun s : y_law_same.S => s.actual) rfl rfl) (x_var D.int (fun s : y_law_same.S => s.k) rfl rfl)) (r_one (x_o2F (raw2_p someD_c) (x_peek eD (fun s : y_law_same.S => s.due) rfl rfl) (x_var D.int (fun s : y_law_same.S => s.k) rfl rfl))))))) (x_var D.int (fun s : y_law_same.S => s.k) rfl rfl))) (x_cst ((0) : Int) D.int rfl)))
    n_nil))) n_nil)
    (n_cons (z_if (Φn := [.fz, .fz, .any]) (q_bl (x_o1F (raw1_p asB_c) (x_peek eD (fun s : y_law_same.S => s.due) rfl rfl))) (n_cons (z_ret (x_o1F (raw1_p asB_c) (x_peek eD (fun s : y_law_same.S => s.actual) rfl rfl)))
    n_nil) n_nil)
    (n_cons (z_if (Φn := [.fz, .fz, .any]) (q_or (q_bl (x_o1F (raw1_p asB_c) (x_peek eD (fun s : y_law_same.S => s.due) rfl rfl))) (q_bl (x_o1F (raw1_p asB_c) (x_peek eD (fun s : y_law_same.S => s.actual) rfl rfl)))) (n_cons (z_ret (x_and (x_o1F (raw1_p asB_c) (x_peek eD (fun s : y_law_same.S => s.due) rfl rfl)) (x_and (x_o1F (raw1_p asB_c) (x_peek eD (fun s : y_law_same.S => s.actual) rfl rfl)) (x_o2F eqG_p (x_peek eD (fun s : y_law_same.S => s.actual) rfl rfl) (x_peek eD (fun s : y_law_same.S => s.due) rfl rfl)))))
    n_nil) n_nil)
    (n_cons (z_if (Φn := [.fz, .fz, .any]) (q_bl (x_o1F (raw1_p asB_c) (x_peek eD (fun s : y_law_same.S => s.due) rfl rfl))) (n_cons (z_ret (x_and (x_o1F (raw1_p asB_c) (x_peek eD (fun s : y_law_same.S => s.actual) rfl rfl)) (x_o2F eqG_p (x_peek eD (fun s : y_law_same.S => s.actual) rfl rfl) (x_peek eD (fun s : y_law_same.S => s.due) rfl rfl))))
    n_nil) n_nil)
    (n_cons (z_ret (x_and (x_o1F (raw1_p asB_c) (x_peek eD (fun s : y_law_same.S => s.actual) rfl rfl)) (x_o2F eqG_p (x_peek eD (fun s : y_law_same.S => s.actual) rfl rfl) (x_peek eD (fun s : y_law_same.S => s.due) rfl rfl))))
    n_nil)))))
theorem y_law_same.tc : ∀ (k : Nat) (d : Nat), 1 + k ≤ d → TC (evF LL PP d) 3 (cc eD (c1 eD)) D.bl .fz (y_law_same k)
  | 0, _, _ => fun a v h => by cases h
  | k + 1, d, hd => by
    have ih := y_law_same.tc k
    obtain ⟨n, rfl⟩ : ∃ n, d = n + 1 := ⟨d - 1, by omega⟩
    exact tc_fn rfl rfl (fun _ => rfl) (fun _ => by intros; repeat' (first | exact rfl | exact trivial | apply And.intro)) (y_law_same.body (ih _ (by omega))) (.inl rfl)
structure y_lowest.S where
  a : Int
  b : Int
  whole : Int
def y_lowest.G : List (y_lowest.S → D) := [fun s => D.int s.a, fun s => D.int s.b, fun s => D.int s.whole]
def y_lowest.den : y_lowest.S → Option (Res y_lowest.S (Int × Int)) := (sq (zset (fun (v : Int) (s : y_lowest.S) => { s with whole := v }) (d2 gcdI (dv (fun s : y_lowest.S => s.a)) (dv (fun s : y_lowest.S => s.b))))
    (sq (zret (dcons (d2 fdivI (dv (fun s : y_lowest.S => s.a)) (dv (fun s : y_lowest.S => s.whole))) (d2 fdivI (dv (fun s : y_lowest.S => s.b)) (dv (fun s : y_lowest.S => s.whole)))))
    zn))
def y_lowest : (Int × Int) → Option (Int × Int) := fnD (fun a : (Int × Int) => ⟨a.1, a.2, 0⟩) (none) y_lowest.den
theorem y_lowest.k0 : ∀ v, Keep ((fun (v : Int) (s : y_lowest.S) => { s with a := v }) v) y_lowest.G (some 0) := by intros; repeat' (first | exact (fun _ => rfl) | exact trivial | apply And.intro)
theorem y_lowest.k1 : ∀ v, Keep ((fun (v : Int) (s : y_lowest.S) => { s with b := v }) v) y_lowest.G (some 1) := by intros; repeat' (first | exact (fun _ => rfl) | exact trivial | apply And.intro)
theorem y_lowest.k2 : ∀ v, Keep ((fun (v : Int) (s : y_lowest.S) => { s with whole := v }) v) y_lowest.G (some 2) := by intros; repeat' (first | exact (fun _ => rfl) | exact trivial | apply And.intro)
theorem y_lowest.body {c : Cl}  : XSs y_lowest.G c LL [.fz, .fz, .any] ir_lowest.body [.any, .any, .any] [.any, .any, .any] [.any, .any, .any] .fz (eT (cc D.int (c1 D.int))) y_lowest.den :=
  (n_cons (z_set (g := (fun s : y_lowest.S => s.whole)) rfl (fun _ _ => rfl) y_lowest.k2 (x_o2F gcdI_p (x_var D.int (fun s : y_lowest.S => s.a) rfl rfl) (x_var D.int (fun s : y_lowest.S => s.b) rfl rfl)))
    (n_cons (z_ret (x_tup (m_cons (x_o2F fdivI_p (x_peek D.int (fun s : y_lowest.S => s.a) rfl rfl) (x_peek D.int (fun s : y_lowest.S => s.whole) rfl rfl)) (m_one (x_o2F fdivI_p (x_peek D.int (fun s : y_lowest.S => s.b) rfl rfl) (x_peek D.int (fun s : y_lowest.S => s.whole) rfl rfl)))) (fun _ => Nat.le_of_ble_eq_true rfl)))
    n_nil))
theorem y_lowest.tc (d : Nat) (hd : 1 ≤ d) : TC (evF LL PP d) 0 (cc D.int (c1 D.int)) (eT (cc D.int (c1 D.int))) .fz y_lowest := by
  obtain ⟨n, rfl⟩ : ∃ n, d = n + 1 := ⟨d - 1, by omega⟩
  exact tc_fn rfl rfl (fun _ => rfl) (fun _ => by intros; repeat' (first | exact rfl | exact trivial | apply And.intro)) (y_lowest.body ) (.inl rfl)
structure y_saw_sum.S where
  h : Int
  k : Int
  number : Int
  under : Int
  sign : Int
def y_saw_sum.G : List (y_saw_sum.S → D) := [fun s => D.int s.h, fun s => D.int s.k, fun s => D.int s.number, fun s => D.int s.under, fun s => D.int s.sign]
def y_saw_sum.t0 : y_saw_sum.S → Option (Bool × y_saw_sum.S) := (d2 gtI (dv (fun s : y_saw_sum.S => s.k)) (dc ((1) : Int)))
def y_saw_sum.b0 : y_saw_sum.S → Option (Res y_saw_sum.S (Int × Int)) := (sq (zpar2 (fun (v : Int) (s : y_saw_sum.S) => { s with number := v }) (fun (v : Int) (s : y_saw_sum.S) => { s with under := v }) (d2 addI (d2 mulI (d2 mulI (d2 mulI (dv (fun s : y_saw_sum.S => s.number)) (dc ((12) : Int))) (dv (fun s : y_saw_sum.S => s.h))) (dv (fun s : y_saw_sum.S => s.k))) (d2 mulI (d2 mulI (dv (fun s : y_saw_sum.S => s.sign)) (dv (fun s : y_saw_sum.S => s.under))) (d2 subI (d2 addI (d2 addI (d2 mulI (dv (fun s : y_saw_sum.S => s.h)) (dv (fun s : y_saw_sum.S => s.h))) (d2 mulI (dv (fun s : y_saw_sum.S => s.k)) (dv (fun s : y_saw_sum.S => s.k)))) (dc ((1) : Int))) (d2 mulI (d2 mulI (dc ((3) : Int)) (dv (fun s : y_saw_sum.S => s.h))) (dv (fun s : y_saw_sum.S => s.k)))))) (d2 mulI (d2 mulI (d2 mulI (dv (fun s : y_saw_sum.S => s.under)) (dc ((12) : Int))) (dv (fun s : y_saw_sum.S => s.h))) (dv (fun s : y_saw_sum.S => s.k))))
    (sq (zset (ucons (fun (v : Int) (s : y_saw_sum.S) => { s with number := v }) (fun (v : Int) (s : y_saw_sum.S) => { s with under := v })) (d1 y_lowest (dcons (dv (fun s : y_saw_sum.S => s.number)) (dv (fun s : y_saw_sum.S => s.under)))))
    (sq (zpar2 (fun (v : Int) (s : y_saw_sum.S) => { s with h := v }) (fun (v : Int) (s : y_saw_sum.S) => { s with k := v }) (d2 modI (dv (fun s : y_saw_sum.S => s.k)) (dv (fun s : y_saw_sum.S => s.h))) (dv (fun s : y_saw_sum.S => s.h)))
    (sq (zset (fun (v : Int) (s : y_saw_sum.S) => { s with sign := v }) (d1 negI (dv (fun s : y_saw_sum.S => s.sign))))
    zn))))
def y_saw_sum.den : y_saw_sum.S → Option (Res y_saw_sum.S (Int × Int)) := (sq (zset (ucons (fun (v : Int) (s : y_saw_sum.S) => { s with number := v }) (fun (v : Int) (s : y_saw_sum.S) => { s with under := v })) (dcons (dc ((0) : Int)) (dc ((1) : Int))))
    (sq (zset (fun (v : Int) (s : y_saw_sum.S) => { s with sign := v }) (dc ((1) : Int)))
    (sq (zaug (fun s : y_saw_sum.S => s.h) (fun (v : Int) (s : y_saw_sum.S) => { s with h := v }) modI (dv (fun s : y_saw_sum.S => s.k)))
    (sq (whlD y_saw_sum.t0 y_saw_sum.b0 LL)
    (sq (zret (d1 y_lowest (dcons (dv (fun s : y_saw_sum.S => s.number)) (dv (fun s : y_saw_sum.S => s.under)))))
    zn)))))
def y_saw_sum : (Int × Int) → Option (Int × Int) := fnD (fun a : (Int × Int) => ⟨a.1, a.2, 0, 0, 0⟩) (none) y_saw_sum.den
theorem y_saw_sum.k0 : ∀ v, Keep ((fun (v : Int) (s : y_saw_sum.S) => { s with h := v }) v) y_saw_sum.G (some 0) := by intros; repeat' (first | exact (fun _ => rfl) | exact trivial | apply And.intro)
theorem y_saw_sum.k1 : ∀ v, Keep ((fun (v : Int) (s : y_saw_sum.S) => { s with k := v }) v) y_saw_sum.G (some 1) := by intros; repeat' (first | exact (fun _ => rfl) | exact trivial | apply And.intro)
theorem y_saw_sum.k2 : ∀ v, Keep ((fun (v : Int) (s : y_saw_sum.S) => { s with number := v }) v) y_saw_sum.G (some 2) := by intros; repeat' (first | exact (fun _ => rfl) | exact trivial | apply And.intro)
theorem y_saw_sum.k3 : ∀ v, Keep ((fun (v : Int) (s : y_saw_sum.S) => { s with under := v }) v) y_saw_sum.G (some 3) := by intros; repeat' (first | exact (fun _ => rfl) | exact trivial | apply And.intro)
theorem y_saw_sum.k4 : ∀ v, Keep ((fun (v : Int) (s : y_saw_sum.S) => { s with sign := v }) v) y_saw_sum.G (some 4) := by intros; repeat' (first | exact (fun _ => rfl) | exact trivial | apply And.intro)
theorem y_saw_sum.body {c : Cl} (h_lowest : TC c 0 (cc D.int (c1 D.int)) (eT (cc D.int (c1 D.int))) .fz y_lowest) : XSs y_saw_sum.G c LL [.fz, .fz, .any, .any, .any] ir_saw_sum.body [.any, .any, .any, .any, .any] [.any, .any, .any, .any, .any] [.any, .any, .any, .any, .any] .fz (eT (cc D.int (c1 D.int))) y_saw_sum.den :=
  (n_cons (z_setT (x_tup (m_cons (x_cst ((0) : Int) D.int rfl) (m_one (x_cst ((1) : Int) D.int rfl))) (fun _ => Nat.le_of_ble_eq_true rfl)) (g_tupT (g_consT (g_nmT D.int (g := (fun s : y_saw_sum.S => s.number)) rfl (fun _ _ => rfl) y_saw_sum.k2) (g_oneT (g_nmT D.int (g := (fun s : y_saw_sum.S => s.under)) rfl (fun _ _ => rfl) y_saw_sum.k3)))))
    (n_cons (z_set (g := (fun s : y_saw_sum.S => s.sign)) rfl (fun _ _ => rfl) y_saw_sum.k4 (x_cst ((1) : Int) D.int rfl))
    (n_cons (z_aug (augI_p modI_p) (g := (fun s : y_saw_sum.S => s.h)) rfl (fun _ _ => rfl) y_saw_sum.k0 rfl (x_peek D.int (fun s : y_saw_sum.S => s.k) rfl rfl))
    (n_cons (z_whlH (Φh := [.fz, .fz, .fz, .fz, .fz]) (Φn := [.fz, .fz, .fz, .fz, .fz]) rfl (q_bl (x_o2F gtI_p (x_peek D.int (fun s : y_saw_sum.S => s.k) rfl rfl) (x_cst ((1) : Int) D.int rfl))) (n_cons (z_par2 (g := (fun s : y_saw_sum.S => s.number)) (g2 := (fun s : y_saw_sum.S => s.under)) rfl (fun _ _ => rfl) y_saw_sum.k2 rfl (fun _ _ => rfl) y_saw_sum.k3 (x_o2F addI_p (x_o2F mulI_p (x_o2F mulI_p (x_o2F mulI_p (x_peek D.int (fun s : y_saw_sum.S => s.number) rfl rfl) (x_cst ((12) : Int) D.int rfl)) (x_peek D.int (fun s : y_saw_sum.S => s.h) rfl rfl)) (x_peek D.int (fun s : y_saw_sum.S => s.k) rfl rfl)) (x_o2F mulI_p (x_o2F mulI_p (x_peek D.int (fun s : y_saw_sum.S => s.sign) rfl rfl) (x_peek D.int (fun s : y_saw_sum.S => s.under) rfl rfl)) (x_o2F subI_p (x_o2F addI_p (x_o2F addI_p (x_o2F mulI_p (x_peek D.int (fun s : y_saw_sum.S => s.h) rfl rfl) (x_peek D.int (fun s : y_saw_sum.S => s.h) rfl rfl)) (x_o2F mulI_p (x_peek D.int (fun s : y_saw_sum.S => s.k) rfl rfl) (x_peek D.int (fun s : y_saw_sum.S => s.k) rfl rfl))) (x_cst ((1) : Int) D.int rfl)) (x_o2F mulI_p (x_o2F mulI_p (x_cst ((3) : Int) D.int rfl) (x_peek D.int (fun s : y_saw_sum.S => s.h) rfl rfl)) (x_peek D.int (fun s : y_saw_sum.S => s.k) rfl rfl))))) (x_o2F mulI_p (x_o2F mulI_p (x_o2F mulI_p (x_peek D.int (fun s : y_saw_sum.S => s.under) rfl rfl) (x_cst ((12) : Int) D.int rfl)) (x_peek D.int (fun s : y_saw_sum.S => s.h) rfl rfl)) (x_peek D.int (fun s : y_saw_sum.S => s.k) rfl rfl)))
    (n_cons (z_setT (x_callF h_lowest (r_cons (x_var D.int (fun s : y_saw_sum.S => s.number) rfl rfl) (r_one (x_var D.int (fun s : y_saw_sum.S => s.under) rfl rfl)))) (g_tupT (g_consT (g_nmT D.int (g := (fun s : y_saw_sum.S => s.number)) rfl (fun _ _ => rfl) y_saw_sum.k2) (g_oneT (g_nmT D.int (g := (fun s : y_saw_sum.S => s.under)) rfl (fun _ _ => rfl) y_saw_sum.k3)))))
    (n_cons (z_par2 (g := (fun s : y_saw_sum.S => s.h)) (g2 := (fun s : y_saw_sum.S => s.k)) rfl (fun _ _ => rfl) y_saw_sum.k0 rfl (fun _ _ => rfl) y_saw_sum.k1 (x_o2F modI_p (x_peek D.int (fun s : y_saw_sum.S => s.k) rfl rfl) (x_peek D.int (fun s : y_saw_sum.S => s.h) rfl rfl)) (x_var D.int (fun s : y_saw_sum.S => s.h) rfl rfl))
    (n_cons (z_set (g := (fun s : y_saw_sum.S => s.sign)) rfl (fun _ _ => rfl) y_saw_sum.k4 (x_o1F negI_p (x_var D.int (fun s : y_saw_sum.S => s.sign) rfl rfl)))
    n_nil)))))
    (n_cons (z_ret (x_callF h_lowest (r_cons (x_var D.int (fun s : y_saw_sum.S => s.number) rfl rfl) (r_one (x_var D.int (fun s : y_saw_sum.S => s.under) rfl rfl)))))
    n_nil)))))
theorem y_saw_sum.tc (d : Nat) (hd : 2 ≤ d) : TC (evF LL PP d) 1 (cc D.int (c1 D.int)) (eT (cc D.int (c1 D.int))) .fz y_saw_sum := by
  obtain ⟨n, rfl⟩ : ∃ n, d = n + 1 := ⟨d - 1, by omega⟩
  exact tc_fn rfl rfl (fun _ => rfl) (fun _ => by intros; repeat' (first | exact rfl | exact trivial | apply And.intro)) (y_saw_sum.body (y_lowest.tc _ (by omega))) (.inl rfl)
structure y_whole_saw.S where
  h : Int
  k : Int
  number : Int
  under : Int
def y_whole_saw.G : List (y_whole_saw.S → D) := [fun s => D.int s.h, fun s => D.int s.k, fun s => D.int s.number, fun s => D.int s.under]
def y_whole_saw.den : y_whole_saw.S → Option (Res y_whole_saw.S Int) := (sq (zset (ucons (fun (v : Int) (s : y_whole_saw.S) => { s with number := v }) (fun (v : Int) (s : y_whole_saw.S) => { s with under := v })) (d1 y_saw_sum (dcons (dv (fun s : y_whole_saw.S => s.h)) (dv (fun s : y_whole_saw.S => s.k)))))
    (sq (zret (d2 fdivI (d2 mulI (d2 mulI (dc ((6) : Int)) (dv (fun s : y_whole_saw.S => s.k))) (dv (fun s : y_whole_saw.S => s.number))) (dv (fun s : y_whole_saw.S => s.under))))
    zn))
def y_whole_saw : (Int × Int) → Option Int := fnD (fun a : (Int × Int) => ⟨a.1, a.2, 0, 0⟩) (none) y_whole_saw.den
theorem y_whole_saw.k0 : ∀ v, Keep ((fun (v : Int) (s : y_whole_saw.S) => { s with h := v }) v) y_whole_saw.G (some 0) := by intros; repeat' (first | exact (fun _ => rfl) | exact trivial | apply And.intro)
theorem y_whole_saw.k1 : ∀ v, Keep ((fun (v : Int) (s : y_whole_saw.S) => { s with k := v }) v) y_whole_saw.G (some 1) := by intros; repeat' (first | exact (fun _ => rfl) | exact trivial | apply And.intro)
theorem y_whole_saw.k2 : ∀ v, Keep ((fun (v : Int) (s : y_whole_saw.S) => { s with number := v }) v) y_whole_saw.G (some 2) := by intros; repeat' (first | exact (fun _ => rfl) | exact trivial | apply And.intro)
theorem y_whole_saw.k3 : ∀ v, Keep ((fun (v : Int) (s : y_whole_saw.S) => { s with under := v }) v) y_whole_saw.G (some 3) := by intros; repeat' (first | exact (fun _ => rfl) | exact trivial | apply And.intro)
theorem y_whole_saw.body {c : Cl} (h_saw_sum : TC c 1 (cc D.int (c1 D.int)) (eT (cc D.int (c1 D.int))) .fz y_saw_sum) : XSs y_whole_saw.G c LL [.fz, .fz, .any, .any] ir_whole_saw.body [.any, .any, .any, .any] [.any, .any, .any, .any] [.any, .any, .any, .any] .fz D.int y_whole_saw.den :=
  (n_cons (z_setT (x_callF h_saw_sum (r_cons (x_var D.int (fun s : y_whole_saw.S => s.h) rfl rfl) (r_one (x_var D.int (fun s : y_whole_saw.S => s.k) rfl rfl)))) (g_tupT (g_consT (g_nmT D.int (g := (fun s : y_whole_saw.S => s.number)) rfl (fun _ _ => rfl) y_whole_saw.k2) (g_oneT (g_nmT D.int (g := (fun s : y_whole_saw.S => s.under)) rfl (fun _ _ => rfl) y_whole_saw.k3)))))
    (n_cons (z_ret (x_o2F fdivI_p (x_o2F mulI_p (x_o2F mulI_p (x_cst ((6) : Int) D.int rfl) (x_peek D.int (fun s : y_whole_saw.S => s.k) rfl rfl)) (x_peek D.int (fun s : y_whole_saw.S => s.number) rfl rfl)) (x_peek D.int (fun s : y_whole_saw.S => s.under) rfl rfl)))
    n_nil))
theorem y_whole_saw.tc (d : Nat) (hd : 3 ≤ d) : TC (evF LL PP d) 2 (cc D.int (c1 D.int)) D.int .fz y_whole_saw := by
  obtain ⟨n, rfl⟩ : ∃ n, d = n + 1 := ⟨d - 1, by omega⟩
  exact tc_fn rfl rfl (fun _ => rfl) (fun _ => by intros; repeat' (first | exact rfl | exact trivial | apply And.intro)) (y_whole_saw.body (y_saw_sum.tc _ (by omega))) (.inl rfl)
structure y_law.S where
  script : (List Int)
  pool : (List D)
  k : Int
  h : Int
  step : Int
  total : Int
  j : Int
  g : Int
  due : (Int × Int)
  a : Int
  b : Int
  one : (Int × Int)
  two : (Int × Int)
  up : Int
  down : Int
def y_law.G : List (y_law.S → D) := [fun s => (eL D.int) s.script, fun s => (eL eD) s.pool, fun s => D.int s.k, fun s => D.int s.h, fun s => D.int s.step, fun s => D.int s.total, fun s => D.int s.j, fun s => D.int s.g, fun s => (eT (cc D.int (c1 D.int))) s.due, fun s => D.int s.a, fun s => D.int s.b, fun s => (eT (cc D.int (c1 D.int))) s.one, fun s => (eT (cc D.int (c1 D.int))) s.two, fun s => D.int s.up, fun s => D.int s.down]
def y_law.b0 : y_law.S → Option (Res y_law.S Bool) := (sq (zif (d2 neI (d1 y_law_common (dcons (d1 y_law_abs (dv (fun s : y_law.S => s.h))) (dv (fun s : y_law.S => s.k)))) (dc ((1) : Int))) (sq (zset (fun (v : Int) (s : y_law.S) => { s with h := v }) (d2 addI (dv (fun s : y_law.S => s.h)) (dc ((1) : Int))))
    zn) zn)
    zn)
def y_law.b1 : y_law.S → Option (Res y_law.S Bool) := (sq (zset (fun (v : Int) (s : y_law.S) => { s with total := v }) (d2 addI (dv (fun s : y_law.S => s.total)) (d2 mulI (d2 subI (d2 mulI (dc ((2) : Int)) (dv (fun s : y_law.S => s.j))) (dv (fun s : y_law.S => s.k))) (d2 subI (d2 mulI (dc ((2) : Int)) (d2 modI (d2 mulI (dv (fun s : y_law.S => s.h)) (dv (fun s : y_law.S => s.j))) (dv (fun s : y_law.S => s.k)))) (dv (fun s : y_law.S => s.k))))))
    zn)
def y_law.den : y_law.S → Option (Res y_law.S Bool) := (sq (zset (fun (v : (List D)) (s : y_law.S) => { s with pool := v }) (d1 y_law_pool (dv (fun s : y_law.S => s.script))))
    (sq (zset (fun (v : Int) (s : y_law.S) => { s with k := v }) (d2 addI (dc ((1) : Int)) (dio y_law_draw (fun s : y_law.S => s.pool) (fun (v : (List D)) (s : y_law.S) => { s with pool := v }) (dc ((60) : Int)))))
    (sq (zset (fun (v : Int) (s : y_law.S) => { s with h := v }) (dio y_law_int (fun s : y_law.S => s.pool) (fun (v : (List D)) (s : y_law.S) => { s with pool := v }) (dc ((200) : Int))))
    (sq (zfor (d1 rg1 (dc ((70) : Int))) (fun (v : Int) (s : y_law.S) => { s with step := v }) y_law.b0)
    (sq (zset (fun (v : Int) (s : y_law.S) => { s with total := v }) (dc ((0) : Int)))
    (sq (zfor (d2 rg2 (dc ((1) : Int)) (dv (fun s : y_law.S => s.k))) (fun (v : Int) (s : y_law.S) => { s with j := v }) y_law.b1)
    (sq (zset (fun (v : Int) (s : y_law.S) => { s with g := v }) (d1 y_law_common (dcons (d1 y_law_abs (dv (fun s : y_law.S => s.total))) (d2 mulI (d2 mulI (dc ((4) : Int)) (dv (fun s : y_law.S => s.k))) (dv (fun s : y_law.S => s.k))))))
    (sq (zset (fun (v : (Int × Int)) (s : y_law.S) => { s with due := v }) (dcons (d2 fdivI (dv (fun s : y_law.S => s.total)) (dv (fun s : y_law.S => s.g))) (d2 fdivI (d2 mulI (d2 mulI (dc ((4) : Int)) (dv (fun s : y_law.S => s.k))) (dv (fun s : y_law.S => s.k))) (dv (fun s : y_law.S => s.g)))))
    (sq (zif (dor (dnot (d1 (y_law_same 12) (dcons (dm (eL eD) (d1 gl (dlcons (dm (eT (cc D.int (c1 D.int))) (d1 y_saw_sum (dcons (dv (fun s : y_law.S => s.h)) (dv (fun s : y_law.S => s.k))))) (dlcons (dm (eT (cc D.int (c1 D.int))) (d1 y_saw_sum (dcons (d2 addI (dv (fun s : y_law.S => s.h)) (d2 mulI (dc ((3) : Int)) (dv (fun s : y_law.S => s.k)))) (dv (fun s : y_law.S => s.k))))) (dlcons (dm D.int (d1 y_whole_saw (dcons (dv (fun s : y_law.S => s.h)) (dv (fun s : y_law.S => s.k))))) (dc ([] : List D))))))) (dm (eL eD) (d1 gl (dlcons (dm (eT (cc D.int (c1 D.int))) (dv (fun s : y_law.S => s.due))) (dlcons (dm (eT (cc D.int (c1 D.int))) (dv (fun s : y_law.S => s.due))) (dlcons (dm D.int (d2 fdivI (d2 mulI (d2 mulI (dc ((6) : Int)) (dv (fun s : y_law.S => s.k))) (dm (fun v : (Int × Int) => v.1) (dv (fun s : y_law.S => s.due)))) (dm (fun v : (Int × Int) => v.2) (dv (fun s : y_law.S => s.due))))) (dc ([] : List D)))))))))) (d2 neI (d2 modI (d2 mulI (d2 mulI (dc ((6) : Int)) (dv (fun s : y_law.S => s.k))) (dm (fun v : (Int × Int) => v.1) (dv (fun s : y_law.S => s.due)))) (dm (fun v : (Int × Int) => v.2) (dv (fun s : y_law.S => s.due)))) (dc ((0) : Int)))) (sq (zret (dc (false : Bool)))
    zn) zn)
    (sq (zif (d2 (neQ : (Int × Int) → (Int × Int) → Option Bool) (d1 y_saw_sum (dcons (d2 subI (dc ((0) : Int)) (dv (fun s : y_law.S => s.h))) (dv (fun s : y_law.S => s.k)))) (dcons (d2 subI (dc ((0) : Int)) (dm (fun v : (Int × Int) => v.1) (dv (fun s : y_law.S => s.due)))) (dm (fun v : (Int × Int) => v.2) (dv (fun s : y_law.S => s.due))))) (sq (zret (dc (false : Bool)))
    zn) zn)
    (sq (zpar2 (fun (v : Int) (s : y_law.S) => { s with a := v }) (fun (v : Int) (s : y_law.S) => { s with b := v }) (d2 addI (dc ((1) : Int)) (dio y_law_draw (fun s : y_law.S => s.pool) (fun (v : (List D)) (s : y_law.S) => { s with pool := v }) (d2 powI (dc ((10) : Int)) (dc ((15) : Int))))) (d2 addI (dc ((1) : Int)) (dio y_law_draw (fun s : y_law.S => s.pool) (fun (v : (List D)) (s : y_law.S) => { s with pool := v }) (d2 powI (dc ((10) : Int)) (dc ((15) : Int))))))
    (sq (zset (fun (v : Int) (s : y_law.S) => { s with g := v }) (d1 y_law_common (dcons (dv (fun s : y_law.S => s.a)) (dv (fun s : y_law.S => s.b)))))
    (sq (zpar2 (fun (v : Int) (s : y_law.S) => { s with a := v }) (fun (v : Int) (s : y_law.S) => { s with b := v }) (d2 fdivI (dv (fun s : y_law.S => s.a)) (dv (fun s : y_law.S => s.g))) (d2 fdivI (dv (fun s : y_law.S => s.b)) (dv (fun s : y_law.S => s.g))))
    (sq (zpar2 (fun (v : (Int × Int)) (s : y_law.S) => { s with one := v }) (fun (v : (Int × Int)) (s : y_law.S) => { s with two := v }) (d1 y_saw_sum (dcons (dv (fun s : y_law.S => s.a)) (dv (fun s : y_law.S => s.b)))) (d1 y_saw_sum (dcons (dv (fun s : y_law.S => s.b)) (dv (fun s : y_law.S => s.a)))))
    (sq (zset (fun (v : Int) (s : y_law.S) => { s with up := v }) (d2 addI (d2 mulI (dm (fun v : (Int × Int) => v.1) (dv (fun s : y_law.S => s.one))) (dm (fun v : (Int × Int) => v.2) (dv (fun s : y_law.S => s.two)))) (d2 mulI (dm (fun v : (Int × Int) => v.1) (dv (fun s : y_law.S => s.two))) (dm (fun v : (Int × Int) => v.2) (dv (fun s : y_law.S => s.one))))))
    (sq (zset (fun (v : Int) (s : y_law.S) => { s with down := v }) (d2 mulI (dm (fun v : (Int × Int) => v.2) (dv (fun s : y_law.S => s.one))) (dm (fun v : (Int × Int) => v.2) (dv (fun s : y_law.S => s.two)))))
    (sq (zret (dand (d2 eqI (d2 mulI (d2 mulI (d2 mulI (dv (fun s : y_law.S => s.up)) (dc ((12) : Int))) (dv (fun s : y_law.S => s.a))) (dv (fun s : y_law.S => s.b))) (d2 mulI (dv (fun s : y_law.S => s.down)) (d2 subI (d2 addI (d2 addI (d2 mulI (dv (fun s : y_law.S => s.a)) (dv (fun s : y_law.S => s.a))) (d2 mulI (dv (fun s : y_law.S => s.b)) (dv (fun s : y_law.S => s.b)))) (dc ((1) : Int))) (d2 mulI (d2 mulI (dc ((3) : Int)) (dv (fun s : y_law.S => s.a))) (dv (fun s : y_law.S => s.b)))))) (d2 eqI (d2 modI (d2 mulI (d2 mulI (d2 mulI (dc ((2) : Int)) (dv (fun s : y_law.S => s.b))) (dm (fun v : (Int × Int) => v.1) (dv (fun s : y_law.S => s.one)))) (dc ((3) : Int))) (dm (fun v : (Int × Int) => v.2) (dv (fun s : y_law.S => s.one)))) (dc ((0) : Int)))))
    zn)))))))))))))))))
def y_law : (List Int) → Option Bool := fnD (fun a : (List Int) => ⟨a, [], 0, 0, 0, 0, 0, 0, (0, 0), 0, 0, (0, 0), (0, 0), 0, 0⟩) (none) y_law.den
theorem y_law.k0 : ∀ v, Keep ((fun (v : (List Int)) (s : y_law.S) => { s with script := v }) v) y_law.G (some 0) := by intros; repeat' (first | exact (fun _ => rfl) | exact trivial | apply And.intro)
theorem y_law.k1 : ∀ v, Keep ((fun (v : (List D)) (s : y_law.S) => { s with pool := v }) v) y_law.G (some 1) := by intros; repeat' (first | exact (fun _ => rfl) | exact trivial | apply And.intro)
theorem y_law.k2 : ∀ v, Keep ((fun (v : Int) (s : y_law.S) => { s with k := v }) v) y_law.G (some 2) := by intros; repeat' (first | exact (fun _ => rfl) | exact trivial | apply And.intro)
theorem y_law.k3 : ∀ v, Keep ((fun (v : Int) (s : y_law.S) => { s with h := v }) v) y_law.G (some 3) := by intros; repeat' (first | exact (fun _ => rfl) | exact trivial | apply And.intro)
theorem y_law.k4 : ∀ v, Keep ((fun (v : Int) (s : y_law.S) => { s with step := v }) v) y_law.G (some 4) := by intros; repeat' (first | exact (fun _ => rfl) | exact trivial | apply And.intro)
theorem y_law.k5 : ∀ v, Keep ((fun (v : Int) (s : y_law.S) => { s with total := v }) v) y_law.G (some 5) := by intros; repeat' (first | exact (fun _ => rfl) | exact trivial | apply And.intro)
theorem y_law.k6 : ∀ v, Keep ((fun (v : Int) (s : y_law.S) => { s with j := v }) v) y_law.G (some 6) := by intros; repeat' (first | exact (fun _ => rfl) | exact trivial | apply And.intro)
theorem y_law.k7 : ∀ v, Keep ((fun (v : Int) (s : y_law.S) => { s with g := v }) v) y_law.G (some 7) := by intros; repeat' (first | exact (fun _ => rfl) | exact trivial | apply And.intro)
theorem y_law.k8 : ∀ v, Keep ((fun (v : (Int × Int)) (s : y_law.S) => { s with due := v }) v) y_law.G (some 8) := by intros; repeat' (first | exact (fun _ => rfl) | exact trivial | apply And.intro)
theorem y_law.k9 : ∀ v, Keep ((fun (v : Int) (s : y_law.S) => { s with a := v }) v) y_law.G (some 9) := by intros; repeat' (first | exact (fun _ => rfl) | exact trivial | apply And.intro)
theorem y_law.k10 : ∀ v, Keep ((fun (v : Int) (s : y_law.S) => { s with b := v }) v) y_law.G (some 10) := by intros; repeat' (first | exact (fun _ => rfl) | exact trivial | apply And.intro)
theorem y_law.k11 : ∀ v, Keep ((fun (v : (Int × Int)) (s : y_law.S) => { s with one := v }) v) y_law.G (some 11) := by intros; repeat' (first | exact (fun _ => rfl) | exact trivial | apply And.intro)
theorem y_law.k12 : ∀ v, Keep ((fun (v : (Int × Int)) (s : y_law.S) => { s with two := v }) v) y_law.G (some 12) := by intros; repeat' (first | exact (fun _ => rfl) | exact trivial | apply And.intro)
theorem y_law.k13 : ∀ v, Keep ((fun (v : Int) (s : y_law.S) => { s with up := v }) v) y_law.G (some 13) := by intros; repeat' (first | exact (fun _ => rfl) | exact trivial | apply And.intro)
theorem y_law.k14 : ∀ v, Keep ((fun (v : Int) (s : y_law.S) => { s with down := v }) v) y_law.G (some 14) := by intros; repeat' (first | exact (fun _ => rfl) | exact trivial | apply And.intro)
theorem y_law.body {c : Cl} (h_law_pool : TC c 4 (c1 (eL D.int)) (eL eD) .ow y_law_pool) (h_law_draw : TCio c 6 (eL eD) (c1 D.int) D.int .fz y_law_draw) (h_law_int : TCio c 8 (eL eD) (c1 D.int) D.int .fz y_law_int) (h_law_common : TC c 7 (cc D.int (c1 D.int)) D.int .fz y_law_common) (h_law_abs : TC c 9 (c1 D.int) D.int .fz y_law_abs) (h_law_same : TC c 3 (cc eD (c1 eD)) D.bl .fz (y_law_same 12)) (h_saw_sum : TC c 1 (cc D.int (c1 D.int)) (eT (cc D.int (c1 D.int))) .fz y_saw_sum) (h_whole_saw : TC c 2 (cc D.int (c1 D.int)) D.int .fz y_whole_saw) : XSs y_law.G c LL [.fz, .any, .any, .any, .any, .any, .any, .any, .any, .any, .any, .any, .any, .any, .any] ir_law.body [.any, .any, .any, .any, .any, .any, .any, .any, .any, .any, .any, .any, .any, .any, .any] [.any, .any, .any, .any, .any, .any, .any, .any, .any, .any, .any, .any, .any, .any, .any] [.any, .any, .any, .any, .any, .any, .any, .any, .any, .any, .any, .any, .any, .any, .any] .fz D.bl y_law.den :=
  (n_cons (z_set (g := (fun s : y_law.S => s.pool)) rfl (fun _ _ => rfl) y_law.k1 (x_callW h_law_pool (r_one (x_var (eL D.int) (fun s : y_law.S => s.script) rfl rfl))))
    (n_cons (z_set (g := (fun s : y_law.S => s.k)) rfl (fun _ _ => rfl) y_law.k2 (x_o2F addI_p (x_cst ((1) : Int) D.int rfl) (x_ioF (gp := (fun s : y_law.S => s.pool)) h_law_draw rfl (fun _ _ => rfl) y_law.k1 rfl (r_one (x_cst ((60) : Int) D.int rfl)))))
    (n_cons (z_set (g := (fun s : y_law.S => s.h)) rfl (fun _ _ => rfl) y_law.k3 (x_ioF (gp := (fun s : y_law.S => s.pool)) h_law_int rfl (fun _ _ => rfl) y_law.k1 rfl (r_one (x_cst ((200) : Int) D.int rfl))))
    (n_cons (z_for (Φh := [.fz, .ow, .fz, .fz, .any, .any, .any, .any, .any, .any, .any, .any, .any, .any, .any]) (s_rng1 (x_cst ((70) : Int) D.int rfl)) rfl (g_nmT D.int (g := (fun s : y_law.S => s.step)) rfl (fun _ _ => rfl) y_law.k4) (n_weak (Φn := [.fz, .ow, .fz, .fz, .fz, .any, .any, .any, .any, .any, .any, .any, .any, .any, .any]) (Φn' := [.fz, .ow, .fz, .fz, .any, .any, .any, .any, .any, .any, .any, .any, .any, .any, .any]) (n_cons (z_if (Φn := [.fz, .ow, .fz, .fz, .fz, .any, .any, .any, .any, .any, .any, .any, .any, .any, .any]) (q_bl (x_o2F neI_p (x_callF h_law_common (r_cons (x_callF h_law_abs (r_one (x_var D.int (fun s : y_law.S => s.h) rfl rfl))) (r_one (x_var D.int (fun s : y_law.S => s.k) rfl rfl)))) (x_cst ((1) : Int) D.int rfl))) (n_cons (z_set (g := (fun s : y_law.S => s.h)) rfl (fun _ _ => rfl) y_law.k3 (x_o2F addI_p (x_peek D.int (fun s : y_law.S => s.h) rfl rfl) (x_cst ((1) : Int) D.int rfl)))
    n_nil) n_nil)
    n_nil)))
    (n_cons (z_set (g := (fun s : y_law.S => s.total)) rfl (fun _ _ => rfl) y_law.k5 (x_cst ((0) : Int) D.int rfl))
    (n_cons (z_for (Φh := [.fz, .ow, .fz, .fz, .any, .fz, .any, .any, .any, .any, .any, .any, .any, .any, .any]) (s_rng2 (x_cst ((1) : Int) D.int rfl) (x_var D.int (fun s : y_law.S => s.k) rfl rfl)) rfl (g_nmT D.int (g := (fun s : y_law.S => s.j)) rfl (fun _ _ => rfl) y_law.k6) (n_weak (Φn := [.fz, .ow, .fz, .fz, .any, .fz, .fz, .any, .any, .any, .any, .any, .any, .any, .any]) (Φn' := [.fz, .ow, .fz, .fz, .any, .fz, .any, .any, .any, .any, .any, .any, .any, .any, .any]) (n_cons (z_set (g := (fun s : y_law.S => s.total)) rfl (fun _ _ => rfl) y_law.k5 (x_o2F addI_p (x_peek D.int (fun s : y_law.S => s.total) rfl rfl) (x_o2F mulI_p (x_o2F subI_p (x_o2F mulI_p (x_cst ((2) : Int) D.int rfl) (x_peek D.int (fun s : y_law.S => s.j) rfl rfl)) (x_peek D.int (fun s : y_law.S => s.k) rfl rfl)) (x_o2F subI_p (x_o2F mulI_p (x_cst ((2) : Int) D.int rfl) (x_o2F modI_p (x_o2F mulI_p (x_peek D.int (fun s : y_law.S => s.h) rfl rfl) (x_peek D.int (fun s : y_law.S => s.j) rfl rfl)) (x_peek D.int (fun s : y_law.S => s.k) rfl rfl))) (x_peek D.int (fun s : y_law.S => s.k) rfl rfl)))))
    n_nil)))
    (n_cons (z_set (g := (fun s : y_law.S => s.g)) rfl (fun _ _ => rfl) y_law.k7 (x_callF h_law_common (r_cons (x_callF h_law_abs (r_one (x_var D.int (fun s : y_law.S => s.total) rfl rfl))) (r_one (x_o2F mulI_p (x_o2F mulI_p (x_cst ((4) : Int) D.int rfl) (x_peek D.int (fun s : y_law.S => s.k) rfl rfl)) (x_peek D.int (fun s : y_law.S => s.k) rfl rfl))))))
    (n_cons (z_set (g := (fun s : y_law.S => s.due)) rfl (fun _ _ => rfl) y_law.k8 (x_tup (m_cons (x_o2F fdivI_p (x_peek D.int (fun s : y_law.S => s.total) rfl rfl) (x_peek D.int (fun s : y_law.S => s.g) rfl rfl)) (m_one (x_o2F fdivI_p (x_o2F mulI_p (x_o2F mulI_p (x_cst ((4) : Int) D.int rfl) (x_peek D.int (fun s : y_law.S => s.k) rfl rfl)) (x_peek D.int (fun s : y_law.S => s.k) rfl rfl)) (x_peek D.int (fun s : y_law.S => s.g) rfl rfl)))) (fun _ => Nat.le_of_ble_eq_true rfl)))
    (n_cons (z_if (Φn := [.fz, .ow, .fz, .fz, .any, .fz, .any, .fz, .fz, .any, .any, .any, .any, .any, .any]) (q_or (q_not (q_bl (x_callF h_law_same (r_cons (x_map (f := (eL eD)) co_D (x_lst (l_cons (x_map (f := (eT (cc D.int (c1 D.int)))) co_D (x_callF h_saw_sum (r_cons (x_var D.int (fun s : y_law.S => s.h) rfl rfl) (r_one (x_var D.int (fun s : y_law.S => s.k) rfl rfl))))) (l_cons (x_map (f := (eT (cc D.int (c1 D.int)))) co_D (x_callF h_saw_sum (r_cons (x_o2F addI_p (x_peek D.int (fun s : y_law.S => s.h) rfl rfl) (x_o2F mulI_p (x_cst ((3) : Int) D.int rfl) (x_peek D.int (fun s : y_law.S => s.k) rfl rfl))) (r_one (x_var D.int (fun s : y_law.S => s.k) rfl rfl))))) (l_cons (x_map (f := D.int) co_D (x_callF h_whole_saw (r_cons (x_var D.int (fun s : y_law.S => s.h) rfl rfl) (r_one (x_var D.int (fun s : y_law.S => s.k) rfl rfl))))) (l_nil eD)))))) (r_one (x_map (f := (eL eD)) co_D (x_lst (l_cons (x_map (f := (eT (cc D.int (c1 D.int)))) co_D (x_var (eT (cc D.int (c1 D.int))) (fun s : y_law.S => s.due) rfl rfl)) (l_cons (x_map (f := (eT (cc D.int (c1 D.int)))) co_D (x_var (eT (cc D.int (c1 D.int))) (fun s : y_law.S => s.due) rfl rfl)) (l_cons (x_map (f := D.int) co_D (x_o2F fdivI_p (x_o2F mulI_p (x_o2F mulI_p (x_cst ((6) : Int) D.int rfl) (x_peek D.int (fun s : y_law.S => s.k) rfl rfl)) (x_fld (eb := D.int) (fun v : (Int × Int) => v.1) (fun v => ⟨by decide, rfl⟩) (x_peek (eT (cc D.int (c1 D.int))) (fun s : y_law.S => s.due) rfl rfl))) (x_fld (eb := D.int) (fun v : (Int × Int) => v.2) (fun v => ⟨by decide, rfl⟩) (x_peek (eT (cc D.int (c1 D.int))) (fun s : y_law.S => s.due) rfl rfl)))) (l_nil eD))))))))))) (q_bl (x_o2F neI_p (x_o2F modI_p (x_o2F mulI_p (x_o2F mulI_p (x_cst ((6) : Int) D.int rfl) (x_peek D.int (fun s : y_law.S => s.k) rfl rfl)) (x_fld (eb := D.int) (fun v : (Int × Int) => v.1) (fun v => ⟨by decide, rfl⟩) (x_peek (eT (cc D.int (c1 D.int))) (fun s : y_law.S => s.due) rfl rfl))) (x_fld (eb := D.int) (fun v : (Int × Int) => v.2) (fun v => ⟨by decide, rfl⟩) (x_peek (eT (cc D.int (c1 D.int))) (fun s : y_law.S => s.due) rfl rfl))) (x_cst ((0) : Int) D.int rfl)))) (n_cons (z_ret (x_cst (false : Bool) D.bl rfl))
    n_nil) n_nil)
    (n_cons (z_if (Φn := [.fz, .ow, .fz, .fz, .any, .fz, .any, .fz, .fz, .any, .any, .any, .any, .any, .any]) (q_bl (x_o2F (neQ_p (good_T (goodm_c good_int (goodm_1 good_int)))) (x_callF h_saw_sum (r_cons (x_o2F subI_p (x_cst ((0) : Int) D.int rfl) (x_peek D.int (fun s : y_law.S => s.h) rfl rfl)) (r_one (x_var D.int (fun s : y_law.S => s.k) rfl rfl)))) (x_tup (m_cons (x_o2F subI_p (x_cst ((0) : Int) D.int rfl) (x_fld (eb := D.int) (fun v : (Int × Int) => v.1) (fun v => ⟨by decide, rfl⟩) (x_peek (eT (cc D.int (c1 D.int))) (fun s : y_law.S => s.due) rfl rfl))) (m_one (x_fld (eb := D.int) (fun v : (Int × Int) => v.2) (fun v => ⟨by decide, rfl⟩) (x_peek (eT (cc D.int (c1 D.int))) (fun s : y_law.S => s.due) rfl rfl)))) (fun _ => Nat.le_of_ble_eq_true rfl)))) (n_cons (z_ret (x_cst (false : Bool) D.bl rfl))
    n_nil) n_nil)
    (n_cons (z_par2 (g := (fun s : y_law.S => s.a)) (g2 := (fun s : y_law.S => s.b)) rfl (fun _ _ => rfl) y_law.k9 rfl (fun _ _ => rfl) y_law.k10 (x_o2F addI_p (x_cst ((1) : Int) D.int rfl) (x_ioF (gp := (fun s : y_law.S => s.pool)) h_law_draw rfl (fun _ _ => rfl) y_law.k1 rfl (r_one (x_o2F powI_p (x_cst ((10) : Int) D.int rfl) (x_cst ((15) : Int) D.int rfl))))) (x_o2F addI_p (x_cst ((1) : Int) D.int rfl) (x_ioF (gp := (fun s : y_law.S => s.pool)) h_law_draw rfl (fun _ _ => rfl) y_law.k1 rfl (r_one (x_o2F powI_p (x_cst ((10) : Int) D.int rfl) (x_cst ((15) : Int) D.int rfl))))))
    (n_cons (z_set (g := (fun s : y_law.S => s.g)) rfl (fun _ _ => rfl) y_law.k7 (x_callF h_law_common (r_cons (x_var D.int (fun s : y_law.S => s.a) rfl rfl) (r_one (x_var D.int (fun s : y_law.S => s.b) rfl rfl)))))
    (n_cons (z_par2 (g := (fun s : y_law.S => s.a)) (g2 := (fun s : y_law.S => s.b)) rfl (fun _ _ => rfl) y_law.k9 rfl (fun _ _ => rfl) y_law.k10 (x_o2F fdivI_p (x_peek D.int (fun s : y_law.S => s.a) rfl rfl) (x_peek D.int (fun s : y_law.S => s.g) rfl rfl)) (x_o2F fdivI_p (x_peek D.int (fun s : y_law.S => s.b) rfl rfl) (x_peek D.int (fun s : y_law.S => s.g) rfl rfl)))
    (n_cons (z_par2 (g := (fun s : y_law.S => s.one)) (g2 := (fun s : y_law.S => s.two)) rfl (fun _ _ => rfl) y_law.k11 rfl (fun _ _ => rfl) y_law.k12 (x_callF h_saw_sum (r_cons (x_var D.int (fun s : y_law.S => s.a) rfl rfl) (r_one (x_var D.int (fun s : y_law.S => s.b) rfl rfl)))) (x_callF h_saw_sum (r_cons (x_var D.int (fun s : y_law.S => s.b) rfl rfl) (r_one (x_var D.int (fun s : y_law.S => s.a) rfl rfl)))))
    (n_cons (z_set (g := (fun s : y_law.S => s.up)) rfl (fun _ _ => rfl) y_law.k13 (x_o2F addI_p (x_o2F mulI_p (x_fld (eb := D.int) (fun v : (Int × Int) => v.1) (fun v => ⟨by decide, rfl⟩) (x_peek (eT (cc D.int (c1 D.int))) (fun s : y_law.S => s.one) rfl rfl)) (x_fld (eb := D.int) (fun v : (Int × Int) => v.2) (fun v => ⟨by decide, rfl⟩) (x_peek (eT (cc D.int (c1 D.int))) (fun s : y_law.S => s.two) rfl rfl))) (x_o2F mulI_p (x_fld (eb := D.int) (fun v : (Int × Int) => v.1) (fun v => ⟨by decide, rfl⟩) (x_peek (eT (cc D.int (c1 D.int))) (fun s : y_law.S => s.two) rfl rfl)) (x_fld (eb := D.int) (fun v : (Int × Int) => v.2) (fun v => ⟨by decide, rfl⟩) (x_peek (eT (cc D.int (c1 D.int))) (fun s : y_law.S => s.one) rfl rfl)))))
    (n_cons (z_set (g := (fun s : y_law.S => s.down)) rfl (fun _ _ => rfl) y_law.k14 (x_o2F mulI_p (x_fld (eb := D.int) (fun v : (Int × Int) => v.2) (fun v => ⟨by decide, rfl⟩) (x_peek (eT (cc D.int (c1 D.int))) (fun s : y_law.S => s.one) rfl rfl)) (x_fld (eb := D.int) (fun v : (Int × Int) => v.2) (fun v => ⟨by decide, rfl⟩) (x_peek (eT (cc D.int (c1 D.int))) (fun s : y_law.S => s.two) rfl rfl))))
    (n_cons (z_ret (x_and (x_o2F eqI_p (x_o2F mulI_p (x_o2F mulI_p (x_o2F mulI_p (x_peek D.int (fun s : y_law.S => s.up) rfl rfl) (x_cst ((12) : Int) D.int rfl)) (x_peek D.int (fun s : y_law.S => s.a) rfl rfl)) (x_peek D.int (fun s : y_law.S => s.b) rfl rfl)) (x_o2F mulI_p (x_peek D.int (fun s : y_law.S => s.down) rfl rfl) (x_o2F subI_p (x_o2F addI_p (x_o2F addI_p (x_o2F mulI_p (x_peek D.int (fun s : y_law.S => s.a) rfl rfl) (x_peek D.int (fun s : y_law.S => s.a) rfl rfl)) (x_o2F mulI_p (x_peek D.int (fun s : y_law.S => s.b) rfl rfl) (x_peek D.int (fun s : y_law.S => s.b) rfl rfl))) (x_cst ((1) : Int) D.int rfl)) (x_o2F mulI_p (x_o2F mulI_p (x_cst ((3) : Int) D.int rfl) (x_peek D.int (fun s : y_law.S => s.a) rfl rfl)) (x_peek D.int (fun s : y_law.S => s.b) rfl rfl))))) (x_o2F eqI_p (x_o2F modI_p (x_o2F mulI_p (x_o2F mulI_p (x_o2F mulI_p (x_cst ((2) : Int) D.int rfl) (x_peek D.int (fun s : y_law.S => s.b) rfl rfl)) (x_fld (eb := D.int) (fun v : (Int × Int) => v.1) (fun v => ⟨by decide, rfl⟩) (x_peek (eT (cc D.int (c1 D.int))) (fun s : y_law.S => s.one) rfl rfl))) (x_cst ((3) : Int) D.int rfl)) (x_fld (eb := D.int) (fun v : (Int × Int) => v.2) (fun v => ⟨by decide, rfl⟩) (x_peek (eT (cc D.int (c1 D.int))) (fun s : y_law.S => s.one) rfl rfl))) (x_cst ((0) : Int) D.int rfl))))
    n_nil)))))))))))))))))
theorem y_law.tc (d : Nat) (hd : 14 ≤ d) : TC (evF LL PP d) 10 (c1 (eL D.int)) D.bl .fz y_law := by
  obtain ⟨n, rfl⟩ : ∃ n, d = n + 1 := ⟨d - 1, by omega⟩
  exact tc_fn rfl rfl (fun _ => rfl) (fun _ => by intros; repeat' (first | exact rfl | exact trivial | apply And.intro)) (y_law.body (y_law_pool.tc _ (by omega)) (y_law_draw.tc _ (by omega)) (y_law_int.tc _ (by omega)) (y_law_common.tc _ (by omega)) (y_law_abs.tc _ (by omega)) (y_law_same.tc 12 _ (by omega)) (y_saw_sum.tc _ (by omega)) (y_whole_saw.tc _ (by omega))) (.inl rfl)
theorem oks : dfs.all (fun d => d.ok gm) = true := by kernel_rfl
namespace Q
def low (n u : Int) : Int × Int := (n / (Nat.gcd n.natAbs u.natAbs : Int), u / (Nat.gcd n.natAbs u.natAbs : Int))
theorem low_facts (n u : Int) (hu : 0 < u) : ∃ g : Int, 0 < g ∧ g ≤ u ∧ g = (Nat.gcd n.natAbs u.natAbs : Int) ∧ n = g * (low n u).1 ∧ u = g * (low n u).2 ∧ 0 < (low n u).2 ∧ Nat.gcd (low n u).1.natAbs (low n u).2.natAbs = 1 := by
  have gp : 0 < Nat.gcd n.natAbs u.natAbs := Nat.gcd_pos_of_pos_right _ (by omega)
  have d1 : (Nat.gcd n.natAbs u.natAbs : Int) ∣ n := Int.ofNat_dvd_left.mpr (Nat.gcd_dvd_left _ _)
  have d2 : (Nat.gcd n.natAbs u.natAbs : Int) ∣ u := Int.ofNat_dvd_left.mpr (Nat.gcd_dvd_right _ _)
  refine ⟨_, by omega, Int.le_of_dvd hu d2, rfl, (Int.mul_ediv_cancel' d1).symm, (Int.mul_ediv_cancel' d2).symm, ?_, ?_⟩
  · have := (Int.mul_ediv_cancel' d2)
    show 0 < u / _
    by_cases h : 0 < u / (Nat.gcd n.natAbs u.natAbs : Int)
    · exact h
    · have h2 : (Nat.gcd n.natAbs u.natAbs : Int) * (u / (Nat.gcd n.natAbs u.natAbs : Int)) ≤ 0 := Int.mul_nonpos_of_nonneg_of_nonpos (by omega) (by omega)
      omega
  · show Nat.gcd (n / _).natAbs (u / _).natAbs = 1
    rw [Int.natAbs_ediv_of_dvd d1, Int.natAbs_ediv_of_dvd d2, Int.natAbs_natCast]
    rw [Nat.gcd_div (Nat.gcd_dvd_left _ _) (Nat.gcd_dvd_right _ _)]; exact Nat.div_self gp
/-- a fraction in lowest terms is told by its value -/
theorem low_cross {n u m v : Int} (hu : 0 < u) (hv : 0 < v) (h : n * v = m * u) : low n u = low m v := by
  obtain ⟨g, g0, _, _, e1, e2, p1, c1⟩ := low_facts n u hu
  obtain ⟨k, k0, _, _, e3, e4, p2, c2⟩ := low_facts m v hv
  generalize low n u = A at *
  generalize low m v = B at *
  obtain ⟨a, b⟩ := A
  obtain ⟨c, d⟩ := B
  simp only at *
  have hx : a * d = c * b := by
    have : (g * k) * (a * d) = (g * k) * (c * b) := by rw [e1, e2, e3, e4] at h; grind
    exact Int.eq_of_mul_eq_mul_left (by have := Int.mul_pos g0 k0; omega) this
  have hb : b ∣ d := by
    have : (b.natAbs : Nat) ∣ d.natAbs := by
      have h1 : b.natAbs ∣ a.natAbs * d.natAbs := by rw [← Int.natAbs_mul, hx, Int.natAbs_mul]; exact Nat.dvd_mul_left _ _
      exact (Nat.Coprime.symm (show Nat.Coprime a.natAbs b.natAbs from c1)).dvd_of_dvd_mul_left h1
    exact Int.natAbs_dvd_natAbs.mp this
  have hd : d ∣ b := by
    have : (d.natAbs : Nat) ∣ b.natAbs := by
      have h1 : d.natAbs ∣ c.natAbs * b.natAbs := by rw [← Int.natAbs_mul, ← hx, Int.natAbs_mul]; exact Nat.dvd_mul_left _ _
      exact (Nat.Coprime.symm (show Nat.Coprime c.natAbs d.natAbs from c2)).dvd_of_dvd_mul_left h1
    exact Int.natAbs_dvd_natAbs.mp this
  have e : b = d := by have := Int.le_of_dvd p2 hb; have := Int.le_of_dvd p1 hd; omega
  subst e
  have : a = c := Int.eq_of_mul_eq_mul_right (by omega) hx
  rw [this]
/-- 6 k s(h, k) -/
def Nf : Nat → Int → Int → Int
  | 0, _, _ => 0
  | f + 1, h, k => if k ≤ 1 then 0 else (h * h + k * k + 1 - 3 * h * k - 2 * k * Nf f (k % h) h) / (2 * h)
def Jf (h k N : Int) : Prop := (k % 2 = 1 → k ∣ 2 * h * N - h * h - 1) ∧ (k % 2 = 0 → 2 * k ∣ 2 * h * N - h * h - 1 - k)
theorem gcd_mod {h k : Int} (h0 : 0 < h) (k0 : 0 ≤ k) : Nat.gcd (k % h).natAbs h.natAbs = Nat.gcd h.natAbs k.natAbs := by
  have e : (k % h).natAbs = k.natAbs % h.natAbs := by
    have : k % h = ((k.natAbs % h.natAbs : Nat) : Int) := by
      rw [Int.natCast_emod]
      congr 1 <;> omega
    omega
  rw [e, Nat.gcd_rec h.natAbs k.natAbs]
theorem even_gcd {h k : Int} (g : Nat.gcd h.natAbs k.natAbs = 1) : h % 2 = 1 ∨ k % 2 = 1 := by
  by_cases a : h % 2 = 1
  · exact .inl a
  · by_cases b : k % 2 = 1
    · exact .inr b
    · have h1 : 2 ∣ h.natAbs := by omega
      have h2 : 2 ∣ k.natAbs := by omega
      have := Nat.dvd_gcd h1 h2
      rw [g] at this
      omega
theorem Nf_ok : ∀ (f : Nat) (h k : Int), 0 ≤ h → h < k → k ≤ f → Nat.gcd h.natAbs k.natAbs = 1 → Jf h k (Nf f h k) ∧ (1 < k → 0 < h ∧ ∃ f', f = f' + 1 ∧ 2 * h * Nf f h k = h * h + k * k + 1 - 3 * h * k - 2 * k * Nf f' (k % h) h)
  | 0, h, k, h0, h1, hk, g => by omega
  | f + 1, h, k, h0, h1, hk, g => by
    rw [show Nf (f + 1) h k = if k ≤ 1 then 0 else (h * h + k * k + 1 - 3 * h * k - 2 * k * Nf f (k % h) h) / (2 * h) from rfl]
    by_cases z : k ≤ 1
    · rw [if_pos z]
      have : k = 1 := by omega
      subst this
      exact ⟨⟨fun _ => ⟨_, (Int.one_mul _).symm⟩, fun q => by omega⟩, fun q => by omega⟩
    · rw [if_neg z]
      have hp : 0 < h := by
        by_cases q : h = 0
        · subst q
          simp at g
          omega
        · omega
      have r0 := Int.emod_nonneg k (show h ≠ 0 by omega)
      have r1 := Int.emod_lt_of_pos k hp
      have ih := (Nf_ok f (k % h) h r0 r1 (by omega) (by rw [gcd_mod hp (by omega)]; exact g)).1
      generalize hM : Nf f (k % h) h = M at *
      have hq := Int.mul_ediv_add_emod k h
      generalize hr : k % h = r at *
      generalize k / h = q at *
      have hdv : 2 * h ∣ h * h + k * k + 1 - 3 * h * k - 2 * k * M := by
        rcases Int.emod_two_eq h with o | o
        · obtain ⟨t, ht⟩ := ih.2 o
          have ko : k % 2 = 1 := by rcases even_gcd g with x | x <;> omega
          obtain ⟨h', eh⟩ : ∃ h', h = 2 * h' := ⟨h / 2, by omega⟩
          obtain ⟨k', ek⟩ : ∃ k', k = 2 * k' + 1 := ⟨k / 2, by omega⟩
          refine ⟨h' - 3 * k' - 2 - t + q * r + h' * q * q - q * M, ?_⟩
          have e1 : 2 * r * M = 2 * h * t + r * r + 1 + h := by omega
          have e2 : r = k - h * q := by omega
          rw [eh] at e1 e2 ⊢
          rw [show 2 * k * M = 2 * (2 * h' * q + r) * M by rw [e2]; grind]
          have e3 : k * k = (2 * h' * q + r) * (2 * h' * q + r) := by rw [e2]; grind
          rw [e3]
          have : 3 * (2 * h') * k = 3 * (2 * h') * (2 * k' + 1) := by rw [ek]
          rw [this]
          grind
        · obtain ⟨t, ht⟩ := ih.1 o
          obtain ⟨h', eh⟩ : ∃ h', h = 2 * h' + 1 := ⟨h / 2, by omega⟩
          have e1 : 2 * r * M = h * t + r * r + 1 := by omega
          have e2 : r = k - h * q := by omega
          have e4 : h * h + k * k + 1 - 3 * h * k - 2 * k * M = h * (h - 3 * k - t + h * q * q + 2 * q * r - 2 * q * M) := by
            have e3 : k * k = (h * q + r) * (h * q + r) := by rw [e2]; grind
            rw [e3, show 2 * k * M = 2 * (h * q + r) * M by rw [e2]; grind]
            grind
          have par : (h - 3 * k - t + h * q * q + 2 * q * r - 2 * q * M) % 2 = 0 := by
            have hE : (h * h + k * k + 1 - 3 * h * k - 2 * k * M) % 2 = 0 := by
              rcases Int.emod_two_eq k with x | x
              · obtain ⟨k', ek⟩ : ∃ k', k = 2 * k' := ⟨k / 2, by omega⟩
                have : h * h + k * k + 1 - 3 * h * k - 2 * k * M = 2 * (2 * h' * h' + 2 * h' + 1 + 2 * k' * k' - 3 * h * k' - k * M) := by rw [ek, eh]; grind
                omega
              · obtain ⟨k', ek⟩ : ∃ k', k = 2 * k' + 1 := ⟨k / 2, by omega⟩
                have : h * h + k * k + 1 - 3 * h * k - 2 * k * M = 2 * (2 * h' * h' + 2 * h' + 2 * k' * k' + 2 * k' - 6 * h' * k' - 3 * h' - 3 * k' - k * M) := by rw [ek, eh]; grind
                omega
            rw [e4, Int.mul_emod, o, Int.one_mul] at hE
            omega
          generalize (h - 3 * k - t + h * q * q + 2 * q * r - 2 * q * M) = w at *
          rw [e4]
          obtain ⟨w', ew⟩ : ∃ w', w = 2 * w' := ⟨w / 2, by omega⟩
          exact ⟨w', by rw [ew]; grind⟩
      have e5 : 2 * h * ((h * h + k * k + 1 - 3 * h * k - 2 * k * M) / (2 * h)) = h * h + k * k + 1 - 3 * h * k - 2 * k * M := Int.mul_ediv_cancel' hdv
      refine ⟨⟨fun o => ?_, fun o => ?_⟩, fun _ => ⟨hp, f, rfl, ?_⟩⟩
      · rw [e5]
        exact ⟨k - 3 * h - 2 * M, by grind⟩
      · rw [e5]
        have ho : h % 2 = 1 := by rcases even_gcd g with x | x <;> omega
        obtain ⟨h', eh⟩ : ∃ h', h = 2 * h' + 1 := ⟨h / 2, by omega⟩
        obtain ⟨k', ek⟩ : ∃ k', k = 2 * k' := ⟨k / 2, by omega⟩
        refine ⟨k' - 3 * h' - 2 - M, ?_⟩
        rw [ek, eh]; grind
      · rw [e5, hM]
theorem Nf_fuel : ∀ (f g : Nat) (h k : Int), 0 ≤ h → h < k → k ≤ f → k ≤ g → Nf f h k = Nf g h k
  | 0, _, _, _, _, _, _, _ => by omega
  | _ + 1, 0, _, _, _, _, _, _ => by omega
  | f + 1, g + 1, h, k, h0, h1, hf, hg => by
    unfold Nf
    by_cases z : k ≤ 1
    · rw [if_pos z, if_pos z]
    · rw [if_neg z, if_neg z]
      by_cases hp : h = 0
      · subst hp; simp
      · rw [Nf_fuel f g (k % h) h (Int.emod_nonneg _ hp) (Int.emod_lt_of_pos _ (by omega)) (by omega) (by omega)]
/-- the law of both -/
theorem recip (F : Nat) (a b : Int) (a0 : 0 < a) (b0 : 0 < b) (ha : a ≤ F) (hb : b ≤ F) (g : Nat.gcd a.natAbs b.natAbs = 1) : 2 * a * Nf F (a % b) b + 2 * b * Nf F (b % a) a = a * a + b * b + 1 - 3 * a * b := by
  have key : ∀ a b : Int, 0 < a → 0 < b → a ≤ F → b ≤ F → Nat.gcd a.natAbs b.natAbs = 1 → a < b → 2 * a * Nf F (a % b) b + 2 * b * Nf F (b % a) a = a * a + b * b + 1 - 3 * a * b := by
    intro a b a0 b0 ha hb g lt
    rw [Int.emod_eq_of_lt (by omega) lt]
    obtain ⟨_, f', ef, e⟩ := (Nf_ok F a b (by omega) lt hb g).2 (by omega)
    rw [e, Nf_fuel f' F (b % a) a (Int.emod_nonneg _ (by omega)) (Int.emod_lt_of_pos _ a0) (by omega) ha]
    omega
  rcases Int.lt_trichotomy a b with h | h | h
  · exact key a b a0 b0 ha hb g h
  · subst h
    rw [Nat.gcd_self] at g
    have : a = 1 := by omega
    subst this
    cases F with
    | zero => omega
    | succ F => simp [Nf]
  · have := key b a b0 a0 hb ha (by rw [Nat.gcd_comm]; exact g) h
    have e : b * a = a * b := Int.mul_comm _ _
    have e2 : 3 * b * a = 3 * a * b := by grind
    omega
/-- the sum -/
def tot (h k : Int) : Nat → Int
  | 0 => 0
  | n + 1 => tot h k n + (2 * ((n : Int) + 1) - k) * (2 * (h * ((n : Int) + 1) % k) - k)
theorem tot_mod (h k : Int) : ∀ n, tot (h % k) k n = tot h k n
  | 0 => rfl
  | n + 1 => by
    unfold tot
    rw [tot_mod h k n, Int.mul_emod (h % k), Int.emod_emod_of_dvd _ (Int.dvd_refl k), ← Int.mul_emod]
/-- for small ones -/
def chk1 (k h : Nat) : Bool := !(Nat.beq (Nat.gcd h k) 1) || (decide (3 * tot h k (k - 1) = 2 * k * Nf 70 h k) && decide (Nf 70 (((k : Int) - h) % k) k = - Nf 70 h k) && decide ((tot h k (k - 1)).natAbs < 1000000))
def chkr (k : Nat) : Nat → Bool
  | 0 => true
  | h + 1 => chk1 k h && chkr k h
def chka : Nat → Bool
  | 0 => true
  | k + 1 => chkr (k + 1) (k + 1) && chka k
theorem chka_ok : chka 60 = true := by decide +kernel

theorem low_ok {n u : Int} (hu : 0 < u) (hb : u < 2 ^ 7000) : y_lowest (n, u) = some (low n u) := by
  obtain ⟨g, g0, gu, hg, _, _, _, _⟩ := low_facts n u hu
  have bg : Bd g 7000 := bd_of (by omega) (by omega)
  have f1 : fdivI n g = some (n / g) := fdivI_ok g0 (by omega)
  have f2 : fdivI u g = some (u / g) := fdivI_ok g0 (by omega)
  have e : gcdI n u = some g := by rw [hg]; rfl
  simp only [y_lowest, y_lowest.den, fnD, fnDio, sq, zn, zex, zset, zsetI, zapp, zpar2, zpar3, zaug, zret, zretN, zif, zfor, zbk, zct, forD, dv, dc, d1, d2, dm, dcons, dlcons, dstar, dnot, dand, dor, dif, dch, dio, dnone, dso, dsl, addI, subI, negI, ltI, leI, gtI, geI, eqI, neI, eqB, neB, ucons, Option.bind_some, Option.bind_none, Bool.not_true, Bool.not_false, id_eq, e, f1, f2]
  rw [hg]; rfl
theorem gcd_em (h k : Int) : Int.gcd (h % k) k = Int.gcd h k := by
  have e := Int.mul_ediv_add_emod h k
  conv => rhs; rw [show h = h % k + h / k * k by rw [Int.mul_comm (h / k)]; omega]
  rw [Int.gcd_add_mul_right_left]
theorem cop_dvd {n u X Y : Int} (c : Nat.gcd n.natAbs u.natAbs = 1) (h : n * X = u * Y) : u ∣ X := by
  have : (u.natAbs : Nat) ∣ X.natAbs := by
    have h1 : u.natAbs ∣ n.natAbs * X.natAbs := by rw [← Int.natAbs_mul, h, Int.natAbs_mul]; exact Nat.dvd_mul_right _ _
    exact (Nat.Coprime.symm (show Nat.Coprime n.natAbs u.natAbs from c)).dvd_of_dvd_mul_left h1
  exact Int.natAbs_dvd_natAbs.mp this
theorem pow_mono2 {x : Nat} {a b : Nat} (h : x < 2 ^ a) (hab : a ≤ b) : x < 2 ^ b := Nat.lt_of_lt_of_le h (Nat.pow_le_pow_right (by omega) hab)
theorem alg1 {g n' u' h k k0 sg M N n u N0 E : Int} (e1 : n * 12 * h * k + sg * u * E = g * n') (e2 : u * 12 * h * k = g * u') (rec : 2 * h * N = E - 2 * k * M) (a8 : (n * (6 * k) + sg * u * N) * (6 * k0) = N0 * u * (6 * k)) : g * ((n' * (6 * h) + -sg * u' * M) * (6 * k0)) = g * (N0 * u' * (6 * h)) := by
  have x0 : g * ((n' * (6 * h) + -sg * u' * M) * (6 * k0)) = ((g * n') * (6 * h) - sg * (g * u') * M) * (6 * k0) := by grind
  have x1 : E = 2 * h * N + 2 * k * M := by omega
  rw [x0, ← e1, ← e2, x1]
  have x2 : ((n * 12 * h * k + sg * u * (2 * h * N + 2 * k * M)) * (6 * h) - sg * (u * 12 * h * k) * M) * (6 * k0) = 12 * h * h * ((n * (6 * k) + sg * u * N) * (6 * k0)) := by grind
  have x3 : g * (N0 * u' * (6 * h)) = N0 * (g * u') * (6 * h) := by grind
  rw [x2, a8, x3, ← e2]
  grind
theorem saw_ok (F : Nat) (h0 k0 : Int) (hF : k0 ≤ F) (hk : 0 < k0) (hk2 : k0 < 2 ^ 50) (g0 : Nat.gcd h0.natAbs k0.natAbs = 1) : y_saw_sum (h0, k0) = some (low (Nf F (h0 % k0) k0) (6 * k0)) ∧ (low (Nf F (h0 % k0) k0) (6 * k0)).1.natAbs < 2 ^ 65000 := by
  have mh : modI h0 k0 = some (h0 % k0) := modI_ok hk
  have r0 := Int.emod_nonneg h0 (show k0 ≠ 0 by omega)
  have r1 := Int.emod_lt_of_pos h0 hk
  have gm : Nat.gcd (h0 % k0).natAbs k0.natAbs = 1 := by
    have : Int.gcd (h0 % k0) k0 = Int.gcd h0 k0 := gcd_em h0 k0
    exact this.trans g0
  generalize hN0 : Nf F (h0 % k0) k0 = N0
  have lp := whl_in (t := y_saw_sum.t0) (b := y_saw_sum.b0) (fun s => 0 ≤ s.h ∧ s.h < s.k ∧ s.k ≤ k0 ∧ Nat.gcd s.h.natAbs s.k.natAbs = 1 ∧ 0 < s.under ∧ Nat.gcd s.number.natAbs s.under.natAbs = 1 ∧ (s.sign = 1 ∨ s.sign = -1) ∧ (s.number * (6 * s.k) + s.sign * s.under * Nf F s.h s.k) * (6 * k0) = N0 * s.under * (6 * s.k) ∧ ∃ m : Nat, s.h * s.k < 2 ^ m ∧ m ≤ 100 ∧ s.number.natAbs < 2 ^ (640 * (101 - m))) (fun s => s.k.toNat) (fun r => match r with | .nx s => 0 < s.under ∧ s.under < 2 ^ 6000 ∧ s.number * (6 * k0) = N0 * s.under ∧ s.number.natAbs < 2 ^ 65000 | _ => False) LL ⟨h0 % k0, k0, 0, 1, 1⟩
    ⟨r0, r1, Int.le_refl _, gm, by show (0 : Int) < 1; omega, (by show Nat.gcd 0 1 = 1; rfl), .inl rfl, by show ((0 : Int) * (6 * k0) + 1 * 1 * Nf F (h0 % k0) k0) * (6 * k0) = N0 * 1 * (6 * k0); rw [hN0]; grind, 100, by
      have : (h0 % k0) * k0 ≤ k0 * k0 := Int.mul_le_mul_of_nonneg_right (by omega) (by omega)
      have : k0 * k0 < 2 ^ 50 * 2 ^ 50 := Int.mul_lt_mul hk2 (by omega) hk (by omega)
      show (h0 % k0) * k0 < 2 ^ 100
      omega, by omega, by show (0 : Int).natAbs < _; exact Nat.pow_pos (by omega)⟩ (by show k0.toNat < LL; have hL : LL = 2 ^ 200 := (by decide +kernel); omega)
  obtain ⟨r, e, hp⟩ := lp (by
    rintro s ⟨a1, a2, a3, a4, a5, a6, a7, a8, m, a9, a10, a11⟩
    have dv : s.under ∣ 6 * k0 * s.k := by
      refine cop_dvd (Y := N0 * s.k - s.sign * Nf F s.h s.k * k0) a6 ?_
      have : 6 * (s.number * (6 * k0 * s.k)) = 6 * (s.under * (N0 * s.k - s.sign * Nf F s.h s.k * k0)) := by grind
      omega
    have kk : s.k * k0 ≤ 2 ^ 50 * 2 ^ 50 := Int.mul_le_mul (by omega) (by omega) (by omega) (by omega)
    have ub : s.under < 2 ^ 110 := by
      have k1 : 0 < s.k * k0 := Int.mul_pos (by omega) hk
      have e1 : 6 * k0 * s.k = 6 * (s.k * k0) := by grind
      have := Int.le_of_dvd (by rw [e1]; omega) dv
      rw [e1] at this
      omega
    by_cases z : 1 < s.k
    · refine .inl ⟨s, by simp only [y_saw_sum.t0, fnD_ap, fnDio_ap, zn_ap, zex_ap, zset_ap, zsetI_ap, zaugI_ap, zapp_ap, zext_ap, zpar2_ap, zpar3_ap, zaug_ap, zret_ap, zretN_ap, zif_ap, zfor_ap, zbk_ap, zct_ap, dv_ap, dc_ap, d1_ap, d2_ap, d2L_ap, dm_ap, dcons_ap, dlcons_ap, dstar_ap, dnot_ap, dand_ap, dor_ap, dif_ap, dch_ap, dio_ap, dnone_ap, dso_ap, dsl_ap, dany_ap, dall_ap, ucons_ap, addI_ap, subI_ap, negI_ap, ltI_ap, leI_ap, gtI_ap, geI_ap, eqI_ap, neI_ap, eqB_ap, neB_ap, eqQ_ap, neQ_ap, lenL_ap, ok_sq, ok_some, cont_nx, cont_rt, cont_bk, cont_ct, Option.bind_some, Option.bind_none, Bool.not_true, Bool.not_false, id_eq, decide_eq_true z], Turn.of ?_⟩
      obtain ⟨hp, f', ef, rec⟩ := (Nf_ok F s.h s.k a1 a2 (by omega) a4).2 z
      have q0 := Int.emod_nonneg s.k (show s.h ≠ 0 by omega)
      have q1 := Int.emod_lt_of_pos s.k hp
      rw [Nf_fuel f' F (s.k % s.h) s.h q0 q1 (by omega) (by omega)] at rec
      have hP : 0 < s.h * s.k := Int.mul_pos hp (by omega)
      cases m with
      | zero => rw [Int.pow_zero] at a9; omega
      | succ m =>
        have half := half_prod hp (show s.h ≤ s.k by omega)
        have b1 : Bd s.number (640 * (101 - (m + 1))) := ⟨a11⟩
        have b2 : Bd s.under 110 := bd_of (by omega) (by omega)
        have b3 : Bd s.h 51 := bd_of (by omega) (by omega)
        have b4 : Bd s.k 51 := bd_of (by omega) (by omega)
        have b12 : Bd (12 : Int) 4 := ⟨by decide⟩
        have b5 : Bd s.sign 1 := by rcases a7 with q | q <;> rw [q] <;> exact ⟨by decide⟩
        have m1 : mulI s.number 12 = some (s.number * 12) := mulI_ok (by omega)
        have m2 : mulI (s.number * 12) s.h = some (s.number * 12 * s.h) := mulI_ok (by omega)
        have m3 : mulI (s.number * 12 * s.h) s.k = some (s.number * 12 * s.h * s.k) := mulI_ok (by omega)
        have m4 : mulI s.sign s.under = some (s.sign * s.under) := mulI_ok (by omega)
        have m5 : mulI s.h s.h = some (s.h * s.h) := mulI_ok (by omega)
        have m6 : mulI s.k s.k = some (s.k * s.k) := mulI_ok (by omega)
        have m7 : mulI 3 s.h = some (3 * s.h) := mulI_ok (by decide)
        have m8 : mulI (3 * s.h) s.k = some (3 * s.h * s.k) := mulI_ok (by decide)
        have m9 : mulI (s.sign * s.under) (s.h * s.h + s.k * s.k + 1 - 3 * s.h * s.k) = some (s.sign * s.under * (s.h * s.h + s.k * s.k + 1 - 3 * s.h * s.k)) := mulI_ok (by decide)
        have m10 : mulI s.under 12 = some (s.under * 12) := mulI_ok (by decide)
        have m11 : mulI (s.under * 12) s.h = some (s.under * 12 * s.h) := mulI_ok (by decide)
        have m12 : mulI (s.under * 12 * s.h) s.k = some (s.under * 12 * s.h * s.k) := mulI_ok (by decide)
        have mm : modI s.k s.h = some (s.k % s.h) := modI_ok hp
        have bN : Bd (s.number * 12 * s.h * s.k + s.sign * s.under * (s.h * s.h + s.k * s.k + 1 - 3 * s.h * s.k)) (640 * (101 - (m + 1)) + 4 + 51 + 51 + (1 + 110 + (51 + 51 + (51 + 51) + 1 + 1 + 1 + (2 + 51 + 51) + 1)) + 1) := inferInstance
        have bU : Bd (s.under * 12 * s.h * s.k) (110 + 4 + 51 + 51) := inferInstance
        have up : 0 < s.under * 12 * s.h * s.k := Int.mul_pos (Int.mul_pos (by omega) hp) (by omega)
        have ul : s.under * 12 * s.h * s.k < 2 ^ 7000 := by
          have := bU.lt
          have : (2 : Nat) ^ (110 + 4 + 51 + 51) ≤ 2 ^ 7000 := Nat.pow_le_pow_right (by omega) (by omega)
          have e2 : ((2 ^ 7000 : Nat) : Int) = (2 : Int) ^ 7000 := by norm_cast
          omega
        have lw := low_ok (n := s.number * 12 * s.h * s.k + s.sign * s.under * (s.h * s.h + s.k * s.k + 1 - 3 * s.h * s.k)) up ul
        obtain ⟨g, g0, gl, _, e1, e2, p1, c1⟩ := low_facts (s.number * 12 * s.h * s.k + s.sign * s.under * (s.h * s.h + s.k * s.k + 1 - 3 * s.h * s.k)) _ up
        simp only [y_saw_sum.b0, sq_ap, fnD_ap, fnDio_ap, zn_ap, zex_ap, zset_ap, zsetI_ap, zaugI_ap, zapp_ap, zext_ap, zpar2_ap, zpar3_ap, zaug_ap, zret_ap, zretN_ap, zif_ap, zfor_ap, zbk_ap, zct_ap, dv_ap, dc_ap, d1_ap, d2_ap, d2L_ap, dm_ap, dcons_ap, dlcons_ap, dstar_ap, dnot_ap, dand_ap, dor_ap, dif_ap, dch_ap, dio_ap, dnone_ap, dso_ap, dsl_ap, dany_ap, dall_ap, ucons_ap, addI_ap, subI_ap, negI_ap, ltI_ap, leI_ap, gtI_ap, geI_ap, eqI_ap, neI_ap, eqB_ap, neB_ap, eqQ_ap, neQ_ap, lenL_ap, ok_sq, ok_some, cont_nx, cont_rt, cont_bk, cont_ct, Option.bind_some, Option.bind_none, Bool.not_true, Bool.not_false, id_eq, m1, m2, m3, m4, m5, m6, m7, m8, m9, m10, m11, m12, lw, mm]
        generalize low (s.number * 12 * s.h * s.k + s.sign * s.under * (s.h * s.h + s.k * s.k + 1 - 3 * s.h * s.k)) (s.under * 12 * s.h * s.k) = W at *
        obtain ⟨n', u'⟩ := W
        simp only at *
        refine ⟨⟨q0, q1, by omega, ?_, p1, c1, by omega, ?_, m, ?_, by omega, ?_⟩, by omega⟩
        · rw [gcd_mod hp (by omega)]; exact a4
        · generalize Nf F (s.k % s.h) s.h = M at *
          generalize Nf F s.h s.k = N at *
          exact Int.eq_of_mul_eq_mul_left (by omega) (alg1 e1 e2 rec a8)
        · have : s.h * (s.k % s.h) = (s.k % s.h) * s.h := Int.mul_comm _ _
          have : s.k * s.h = s.h * s.k := Int.mul_comm _ _
          rw [Int.pow_succ] at a9
          omega
        · have hn : n'.natAbs ≤ (s.number * 12 * s.h * s.k + s.sign * s.under * (s.h * s.h + s.k * s.k + 1 - 3 * s.h * s.k)).natAbs := by
            rw [e1, Int.natAbs_mul]
            exact Nat.le_mul_of_pos_left _ (by omega)
          exact Nat.lt_of_le_of_lt hn (pow_mono2 bN.lt (by omega))
    · refine .inr ⟨s, by simp only [y_saw_sum.t0, fnD_ap, fnDio_ap, zn_ap, zex_ap, zset_ap, zsetI_ap, zaugI_ap, zapp_ap, zext_ap, zpar2_ap, zpar3_ap, zaug_ap, zret_ap, zretN_ap, zif_ap, zfor_ap, zbk_ap, zct_ap, dv_ap, dc_ap, d1_ap, d2_ap, d2L_ap, dm_ap, dcons_ap, dlcons_ap, dstar_ap, dnot_ap, dand_ap, dor_ap, dif_ap, dch_ap, dio_ap, dnone_ap, dso_ap, dsl_ap, dany_ap, dall_ap, ucons_ap, addI_ap, subI_ap, negI_ap, ltI_ap, leI_ap, gtI_ap, geI_ap, eqI_ap, neI_ap, eqB_ap, neB_ap, eqQ_ap, neQ_ap, lenL_ap, ok_sq, ok_some, cont_nx, cont_rt, cont_bk, cont_ct, Option.bind_some, Option.bind_none, Bool.not_true, Bool.not_false, id_eq, decide_eq_false z], a5, ?_, ?_, pow_mono2 a11 (by omega)⟩
      · have : (2 : Int) ^ 110 ≤ 2 ^ 6000 := by decide +kernel
        omega
      · have e1 : s.k = 1 := by omega
        have e2 : Nf F s.h s.k = 0 := by obtain ⟨F', eF⟩ : ∃ F', F = F' + 1 := ⟨F - 1, by omega⟩; rw [e1, eF]; unfold Nf; rw [if_pos (by omega)]
        rw [e2, e1] at a8
        have : 6 * (s.number * (6 * k0)) = 6 * (N0 * s.under) := by grind
        omega)
  cases r with
  | nx s =>
    obtain ⟨p1, p2, p3, p4⟩ := hp
    have : (2 : Int) ^ 6000 ≤ 2 ^ 7000 := by decide +kernel
    rw [← low_cross p1 (by omega) p3]
    refine ⟨fn_ok ?_, ?_⟩
    · simp only [y_saw_sum.den, fnD_ap, fnDio_ap, zn_ap, zex_ap, zset_ap, zsetI_ap, zaugI_ap, zapp_ap, zext_ap, zpar2_ap, zpar3_ap, zaug_ap, zret_ap, zretN_ap, zif_ap, zfor_ap, zbk_ap, zct_ap, dv_ap, dc_ap, d1_ap, d2_ap, d2L_ap, dm_ap, dcons_ap, dlcons_ap, dstar_ap, dnot_ap, dand_ap, dor_ap, dif_ap, dch_ap, dio_ap, dnone_ap, dso_ap, dsl_ap, dany_ap, dall_ap, ucons_ap, addI_ap, subI_ap, negI_ap, ltI_ap, leI_ap, gtI_ap, geI_ap, eqI_ap, neI_ap, eqB_ap, neB_ap, eqQ_ap, neQ_ap, lenL_ap, ok_sq, ok_some, cont_nx, cont_rt, cont_bk, cont_ct, Option.bind_some, Option.bind_none, Bool.not_true, Bool.not_false, id_eq, mh, e, low_ok (n := s.number) p1 (by omega)]
    · obtain ⟨g, g0, _, _, e1, _, _, _⟩ := low_facts s.number s.under p1
      have : (low s.number s.under).1.natAbs ≤ s.number.natAbs := by
        conv => rhs; rw [e1]
        rw [Int.natAbs_mul]
        exact Nat.le_mul_of_pos_left _ (by omega)
      omega
  | rt v s => exact hp.elim
  | bk s => exact hp.elim
  | ct s => exact hp.elim

theorem nat_forall {P : Nat → Prop} {n : Nat} : True := trivial
theorem chkr_get (k : Nat) : ∀ n h : Nat, h < n → chkr k n = true → chk1 k h = true
  | 0, _, h, _ => by omega
  | n + 1, h, hl, e => by
    unfold chkr at e
    rw [Bool.and_eq_true] at e
    by_cases q : h = n
    · subst q; exact e.1
    · exact chkr_get k n h (by omega) e.2
theorem chka_get : ∀ n k : Nat, 1 ≤ k → k ≤ n → chka n = true → chkr k k = true
  | 0, _, h, h2, _ => by omega
  | n + 1, k, h, hl, e => by
    unfold chka at e
    rw [Bool.and_eq_true] at e
    by_cases q : k = n + 1
    · subst q; exact e.1
    · exact chka_get n k h (by omega) e.2
theorem small_ok (h k : Int) (k0 : 1 ≤ k) (k1 : k ≤ 60) (g : Nat.gcd h.natAbs k.natAbs = 1) : 3 * tot h k (k - 1).toNat = 2 * k * Nf 70 (h % k) k ∧ Nf 70 ((0 - h) % k) k = - Nf 70 (h % k) k ∧ (tot h k (k - 1).toNat).natAbs < 1000000 := by
  have r0 := Int.emod_nonneg h (show k ≠ 0 by omega)
  have r1 := Int.emod_lt_of_pos h (show 0 < k by omega)
  have gm : Nat.gcd (h % k).natAbs k.natAbs = 1 := by
    have : Int.gcd (h % k) k = Int.gcd h k := gcd_em h k
    exact this.trans g
  have c := chkr_get k.toNat k.toNat (h % k).toNat (by omega) (chka_get 60 k.toNat (by omega) (by omega) chka_ok)
  unfold chk1 at c
  rw [show (h % k).toNat = (h % k).natAbs by omega, show k.toNat = k.natAbs by omega, gm, show (((h % k).natAbs : Nat) : Int) = h % k by omega, show ((k.natAbs : Nat) : Int) = k by omega, show k.natAbs - 1 = (k - 1).toNat by omega, tot_mod] at c
  simp only [Nat.beq_refl, Bool.not_true, Bool.false_or, Bool.and_eq_true, decide_eq_true_eq] at c
  obtain ⟨⟨c1, c2⟩, c3⟩ := c
  refine ⟨c1, ?_, c3⟩
  rw [← c2]
  congr 1
  have e := Int.mul_ediv_add_emod h k
  rw [show 0 - h = (k - h % k) + (-(h / k) - 1) * k by generalize h / k = q at *; generalize h % k = r at *; grind, Int.add_mul_emod_self_right]
theorem coprime_in (k h : Int) (k0 : 1 ≤ k) (k1 : k ≤ 60) (hn : ∀ j : Int, 0 ≤ j → j < 70 → Nat.gcd (h + j).natAbs k.natAbs ≠ 1) : False := by
  have r0 := Int.emod_nonneg (1 - h) (show k ≠ 0 by omega)
  have r1 := Int.emod_lt_of_pos (1 - h) (show 0 < k by omega)
  refine hn ((1 - h) % k) r0 (by omega) ?_
  have e := Int.mul_ediv_add_emod (1 - h) k
  have : Int.gcd (h + (1 - h) % k) k = Int.gcd 1 k := by
    rw [show h + (1 - h) % k = 1 + (-((1 - h) / k)) * k by generalize (1 - h) / k = q at *; generalize (1 - h) % k = r at *; grind, Int.gcd_add_mul_right_left]
  exact this.trans (by simp)
theorem law_true (ns : List Int) (hl : ns.length ≤ 63) : y_law ns = some true := by
  obtain ⟨q0, e0, P0⟩ := y_pool_ok ns hl
  obtain ⟨k', q1, e1, k0, k1, P1⟩ := y_draw_ok (k := 60) P0 (by omega) (by omega) (by omega)
  obtain ⟨h', q2, e2, h0, h1, P2⟩ := y_int_ok (k := 200) P1 (by omega) (by omega) (by omega)
  have ep : powI 10 15 = some 1000000000000000 := by decide +kernel
  obtain ⟨a', q3, e3, a0, a1, P3⟩ := y_draw_ok (k := 1000000000000000) P2 (by omega) (by omega) (by omega)
  obtain ⟨b', q4, e4, b0, b1, P4⟩ := y_draw_ok (k := 1000000000000000) P3 (by omega) (by omega) (by omega)
  obtain ⟨k, hk⟩ : ∃ k, k = 1 + k' := ⟨_, rfl⟩
  have rg70 : rg1 70 = some (rgI 1 70 0) := by decide +kernel
  have bk : Bd k 6 := bd_of (by omega) (by omega)
  -- the first loop
  have L1 : ∀ s : y_law.S, s.h = h' → s.k = k → ∃ h : Int, Nat.gcd h.natAbs k.natAbs = 1 ∧ -200 ≤ h ∧ h ≤ 300 ∧ ∃ z : Int, forD (fun (v : Int) (s : y_law.S) => { s with step := v }) y_law.b0 (rgI 1 70 0) s = some (.nx { s with h := h, step := z }) := by
    intro s0 hs ks
    have lp := for_rg (u := fun (v : Int) (s : y_law.S) => { s with step := v }) (b := y_law.b0) (fun i s => ∃ h z : Int, s = { s0 with h := h, step := z } ∧ -200 ≤ h ∧ h ≤ 200 + i ∧ (Nat.gcd h.natAbs k.natAbs = 1 ∨ (h = h' + i ∧ ∀ j : Int, 0 ≤ j → j < i → Nat.gcd (h' + j).natAbs k.natAbs ≠ 1))) (fun r => ∃ h z : Int, r = .nx { s0 with h := h, step := z } ∧ -200 ≤ h ∧ h ≤ 300 ∧ Nat.gcd h.natAbs k.natAbs = 1) 70 0 s0
      ⟨h', s0.step, by rw [← hs], by omega, by omega, .inr ⟨by omega, fun j j0 j1 => by omega⟩⟩
    obtain ⟨r, e, h, z, er, c1, c2, c3⟩ := lp (by
      rintro i s i0 i1 ⟨h, z, rfl, c1, c2, c3⟩
      refine Turn.of ?_
      have cm := y_common_ok (h.natAbs : Int) k (by omega) (by omega) (by
        have : (h.natAbs : Int) * k ≤ 300 * 60 := Int.mul_le_mul (by omega) (by omega) (by omega) (by omega)
        have : (2 : Int) ^ 20 ≤ 2 ^ 1900 := by decide +kernel
        omega)
      rw [Int.natAbs_natCast] at cm
      by_cases g : Nat.gcd h.natAbs k.natAbs = 1
      · rw [g] at cm
        simp only [y_law.b0, sq_ap, fnD_ap, fnDio_ap, zn_ap, zex_ap, zset_ap, zsetI_ap, zaugI_ap, zapp_ap, zext_ap, zpar2_ap, zpar3_ap, zaug_ap, zret_ap, zretN_ap, zif_ap, zfor_ap, zbk_ap, zct_ap, dv_ap, dc_ap, d1_ap, d2_ap, d2L_ap, dm_ap, dcons_ap, dlcons_ap, dstar_ap, dnot_ap, dand_ap, dor_ap, dif_ap, dch_ap, dio_ap, dnone_ap, dso_ap, dsl_ap, dany_ap, dall_ap, ucons_ap, addI_ap, subI_ap, negI_ap, ltI_ap, leI_ap, gtI_ap, geI_ap, eqI_ap, neI_ap, eqB_ap, neB_ap, eqQ_ap, neQ_ap, lenL_ap, ok_sq, ok_some, cont_nx, cont_rt, cont_bk, cont_ct, Option.bind_some, Option.bind_none, Bool.not_true, Bool.not_false, id_eq, y_abs_ok, ks, cm, Int.natCast_one, beq_self_eq_true]
        exact ⟨h, i, rfl, c1, by omega, .inl g⟩
      · have cne : (((Nat.gcd h.natAbs k.natAbs : Nat) : Int) == 1) = false := by rw [beq_eq_false_iff_ne]; omega
        simp only [y_law.b0, sq_ap, fnD_ap, fnDio_ap, zn_ap, zex_ap, zset_ap, zsetI_ap, zaugI_ap, zapp_ap, zext_ap, zpar2_ap, zpar3_ap, zaug_ap, zret_ap, zretN_ap, zif_ap, zfor_ap, zbk_ap, zct_ap, dv_ap, dc_ap, d1_ap, d2_ap, d2L_ap, dm_ap, dcons_ap, dlcons_ap, dstar_ap, dnot_ap, dand_ap, dor_ap, dif_ap, dch_ap, dio_ap, dnone_ap, dso_ap, dsl_ap, dany_ap, dall_ap, ucons_ap, addI_ap, subI_ap, negI_ap, ltI_ap, leI_ap, gtI_ap, geI_ap, eqI_ap, neI_ap, eqB_ap, neB_ap, eqQ_ap, neQ_ap, lenL_ap, ok_sq, ok_some, cont_nx, cont_rt, cont_bk, cont_ct, Option.bind_some, Option.bind_none, Bool.not_true, Bool.not_false, id_eq, y_abs_ok, ks, cm, cne]
        refine ⟨h + 1, i, rfl, by omega, by omega, ?_⟩
        rcases c3 with c3 | ⟨c3, c4⟩
        · exact (g c3).elim
        · refine .inr ⟨by omega, fun j j0 j1 => ?_⟩
          by_cases q : j = i
          · rw [q, ← c3]; exact g
          · exact c4 j j0 (by omega)) (by
      rintro s ⟨h, z, rfl, c1, c2, c3⟩
      refine ⟨h, z, rfl, c1, by omega, ?_⟩
      rcases c3 with c3 | ⟨c3, c4⟩
      · exact c3
      · exact (coprime_in k h' (by omega) (by omega) (fun j j0 j1 => c4 j j0 (by omega))).elim)
    exact ⟨h, c3, c1, c2, z, by rw [e, er]⟩
  obtain ⟨h, gh, hh0, hh1, z0, eL1⟩ := L1 ⟨ns, q2, k, h', 0, 0, 0, 0, (0, 0), 0, 0, (0, 0), (0, 0), 0, 0⟩ rfl rfl
  obtain ⟨t1, t2, t3⟩ := small_ok h k (by omega) (by omega) gh
  have bh : Bd h 10 := bd_two (by omega) (by omega)
  -- the sum
  have rgk : rg2 1 k = some (rgI 1 (k - 1).toNat 1) := rg2_ok (by decide) (by omega)
  have L2 : ∀ s0 : y_law.S, s0.total = 0 → s0.h = h → s0.k = k → ∃ z : Int, forD (fun (v : Int) (s : y_law.S) => { s with j := v }) y_law.b1 (rgI 1 (k - 1).toNat 1) s0 = some (.nx { s0 with total := tot h k (k - 1).toNat, j := z }) := by
    intro s0 s1 s2 s3
    have lp := for_rg (u := fun (v : Int) (s : y_law.S) => { s with j := v }) (b := y_law.b1) (fun i s => ∃ z : Int, s = { s0 with total := tot h k (i - 1).toNat, j := z }) (fun r => ∃ z : Int, r = .nx { s0 with total := tot h k (k - 1).toNat, j := z }) (k - 1).toNat 1 s0
      ⟨s0.j, by show s0 = { s0 with total := 0, j := s0.j }; rw [← s1]⟩
    obtain ⟨r, e, z, er⟩ := lp (by
      rintro i s i0 i1 ⟨z, rfl⟩
      refine Turn.of ?_
      have bi : Bd i 6 := bd_of (by omega) (by omega)
      have m1 : mulI 2 i = some (2 * i) := mulI_ok (by decide)
      have m2 : mulI h i = some (h * i) := mulI_ok (by decide)
      have m3 : modI (h * i) k = some (h * i % k) := modI_ok (by omega)
      have m4 : mulI 2 (h * i % k) = some (2 * (h * i % k)) := mulI_ok (by decide)
      have m5 : mulI (2 * i - k) (2 * (h * i % k) - k) = some ((2 * i - k) * (2 * (h * i % k) - k)) := mulI_ok (by decide)
      simp only [y_law.b1, sq_ap, fnD_ap, fnDio_ap, zn_ap, zex_ap, zset_ap, zsetI_ap, zaugI_ap, zapp_ap, zext_ap, zpar2_ap, zpar3_ap, zaug_ap, zret_ap, zretN_ap, zif_ap, zfor_ap, zbk_ap, zct_ap, dv_ap, dc_ap, d1_ap, d2_ap, d2L_ap, dm_ap, dcons_ap, dlcons_ap, dstar_ap, dnot_ap, dand_ap, dor_ap, dif_ap, dch_ap, dio_ap, dnone_ap, dso_ap, dsl_ap, dany_ap, dall_ap, ucons_ap, addI_ap, subI_ap, negI_ap, ltI_ap, leI_ap, gtI_ap, geI_ap, eqI_ap, neI_ap, eqB_ap, neB_ap, eqQ_ap, neQ_ap, lenL_ap, ok_sq, ok_some, cont_nx, cont_rt, cont_bk, cont_ct, Option.bind_some, Option.bind_none, Bool.not_true, Bool.not_false, id_eq, s2, s3, m1, m2, m3, m4, m5]
      refine ⟨i, ?_⟩
      obtain ⟨n, en⟩ : ∃ n : Nat, i = (n : Int) + 1 := ⟨(i - 1).toNat, by omega⟩
      subst en
      rw [show ((n : Int) + 1 - 1).toNat = n by omega, show ((n : Int) + 1 + 1 - 1).toNat = n + 1 by omega]
      rfl) (by
      rintro s ⟨z, rfl⟩
      exact ⟨z, by rw [show 1 + (((k - 1).toNat : Nat) : Int) - 1 = k - 1 by omega]⟩)
    exact ⟨z, by rw [e, er]⟩
  obtain ⟨z1, eL2⟩ := L2 ⟨ns, q2, k, h, z0, 0, 0, 0, (0, 0), 0, 0, (0, 0), (0, 0), 0, 0⟩ rfl rfl rfl
  generalize tot h k (k - 1).toNat = T at *
  have bT : Bd T 20 := ⟨by omega⟩
  have m44 : mulI 4 k = some (4 * k) := mulI_ok (by decide)
  have m4k : mulI (4 * k) k = some (4 * k * k) := mulI_ok (by decide)
  have kk : 0 < 4 * k * k := Int.mul_pos (by omega) (by omega)
  have kl : 4 * k * k ≤ 4 * 60 * 60 := Int.mul_le_mul (by omega) (by omega) (by omega) (by omega)
  obtain ⟨g, g0, gl', hg, f1, f2, p1, cW⟩ := low_facts T (4 * k * k) kk
  have cg : y_law_common ((T.natAbs : Int), 4 * k * k) = some g := by
    rw [y_common_ok _ _ (by omega) (by omega) (by
      have : (T.natAbs : Int) * (4 * k * k) ≤ 1000000 * (4 * 60 * 60) := Int.mul_le_mul (by omega) kl (by omega) (by omega)
      have : (2 : Int) ^ 50 ≤ 2 ^ 1900 := by decide +kernel
      omega), Int.natAbs_natCast, hg]
  have bg : Bd g 20 := bd_of (by omega) (by omega)
  have d1' : fdivI T g = some (low T (4 * k * k)).1 := by rw [fdivI_ok g0 (by decide), hg]; rfl
  have d2' : fdivI (4 * k * k) g = some (low T (4 * k * k)).2 := by rw [fdivI_ok g0 (by decide), hg]; rfl
  have same : low T (4 * k * k) = low (Nf 70 (h % k) k) (6 * k) := low_cross kk (by omega) (by
    generalize Nf 70 (h % k) k = N at *
    have : 6 * (T * (6 * k)) = 6 * (N * (4 * k * k)) := by
      have : 6 * (T * (6 * k)) = 12 * k * (3 * T) := by grind
      rw [this, t1]; grind
    omega)
  obtain ⟨S1, BS1⟩ := saw_ok 70 h k (by omega) (by omega) (by omega) gh
  obtain ⟨S2, BS2⟩ := saw_ok 70 (h + 3 * k) k (by omega) (by omega) (by omega) (by
    have : Int.gcd (h + 3 * k) k = Int.gcd h k := Int.gcd_add_mul_right_left ..
    exact this.trans gh)
  rw [Int.add_mul_emod_self_right] at S2
  obtain ⟨S3, BS3⟩ := saw_ok 70 (0 - h) k (by omega) (by omega) (by omega) (by rw [show (0 - h).natAbs = h.natAbs by omega]; exact gh)
  rw [t2] at S3
  have neg : ∀ n u : Int, low (-n) u = (-(low n u).1, (low n u).2) := by
    intro n u
    have d1 : (Nat.gcd n.natAbs u.natAbs : Int) ∣ n := Int.ofNat_dvd_left.mpr (Nat.gcd_dvd_left _ _)
    unfold low
    rw [Int.natAbs_neg, Int.neg_ediv_of_dvd d1]
  rw [neg] at S3
  rw [← same] at S1 S2 S3
  obtain ⟨g6, g60, _, hg6, f61, f62, p61, _⟩ := low_facts (Nf 70 (h % k) k) (6 * k) (by omega)
  rw [← same] at f61 f62 p61
  have w2l : (low T (4 * k * k)).2 ≤ 14400 := by
    have : 1 * (low T (4 * k * k)).2 ≤ g * (low T (4 * k * k)).2 := Int.mul_le_mul_of_nonneg_right (by omega) (by omega)
    omega
  have w1l : (low T (4 * k * k)).1.natAbs ≤ T.natAbs := by
    conv => rhs; rw [f1]
    rw [Int.natAbs_mul]
    exact Nat.le_mul_of_pos_left _ (by omega)
  generalize low T (4 * k * k) = W at *
  obtain ⟨w1, w2⟩ := W
  simp only at *
  rw [show -w1 = 0 - w1 by omega] at S3
  have bw1 : Bd w1 20 := ⟨by omega⟩
  have bw2 : Bd w2 20 := bd_of (by omega) (by omega)
  have m6k : mulI 6 k = some (6 * k) := mulI_ok (by decide)
  have m6kw : mulI (6 * k) w1 = some (6 * k * w1) := mulI_ok (by decide)
  have dw (x : Int) : fdivI x w2 = some (x / w2) := fdivI_ok p61 (by decide)
  have mw : modI (6 * k * w1) w2 = some 0 := by
    rw [modI_ok p61, f62, show g6 * w2 * w1 = (g6 * w1) * w2 by grind, Int.mul_emod_left]
  have whole : y_whole_saw (h, k) = some (6 * k * w1 / w2) := by
    simp only [y_whole_saw, y_whole_saw.den, fnD, fnDio, sq, zn, zex, zset, zsetI, zapp, zpar2, zpar3, zaug, zret, zretN, zif, zfor, zbk, zct, forD, dv, dc, d1, d2, dm, dcons, dlcons, dstar, dnot, dand, dor, dif, dch, dio, dnone, dso, dsl, addI, subI, negI, ltI, leI, gtI, geI, eqI, neI, eqB, neB, ucons, Option.bind_some, Option.bind_none, Bool.not_true, Bool.not_false, id_eq, S1, m6k, m6kw, dw]
  have m3k : mulI 3 k = some (3 * k) := mulI_ok (by decide)
  have g3 (x y z : D) : gl [x, y, z] = some [x, y, z] := rfl
  have hsame : y_law_same 12 (eL eD [eT (cc D.int (c1 D.int)) (w1, w2), eT (cc D.int (c1 D.int)) (w1, w2), D.int (6 * k * w1 / w2)], eL eD [eT (cc D.int (c1 D.int)) (w1, w2), eT (cc D.int (c1 D.int)) (w1, w2), D.int (6 * k * w1 / w2)]) = some true := y_same_ok 12 _ rfl
  -- the law of both
  obtain ⟨A, hA⟩ : ∃ A, A = 1 + a' := ⟨_, rfl⟩
  obtain ⟨B, hB⟩ : ∃ B, B = 1 + b' := ⟨_, rfl⟩
  have cAB : y_law_common (A, B) = some (Nat.gcd A.natAbs B.natAbs : Int) := y_common_ok A B (by omega) (by omega) (by
    have : A * B ≤ 1000000000000000 * 1000000000000000 := Int.mul_le_mul (by omega) (by omega) (by omega) (by omega)
    have : (2 : Int) ^ 150 ≤ 2 ^ 1900 := by decide +kernel
    omega)
  obtain ⟨G, G0, Gl, hG, fa, fb, pb, cab⟩ := low_facts A B (by omega)
  have bG : Bd G 60 := bd_of (by omega) (by omega)
  have da : fdivI A G = some (low A B).1 := by rw [fdivI_ok G0 (by decide), hG]; rfl
  have db : fdivI B G = some (low A B).2 := by rw [fdivI_ok G0 (by decide), hG]; rfl
  rw [← hG] at cAB
  generalize low A B = P at *
  obtain ⟨a, b⟩ := P
  simp only at *
  have pa : 0 < a := by
    by_cases q : 0 < a
    · exact q
    · have : G * a ≤ 0 := Int.mul_nonpos_of_nonneg_of_nonpos (by omega) (by omega)
      omega
  have la : a ≤ 1000000000000000 := by
    have : 1 * a ≤ G * a := Int.mul_le_mul_of_nonneg_right (by omega) (by omega)
    omega
  have lb : b ≤ 1000000000000000 := by
    have : 1 * b ≤ G * b := Int.mul_le_mul_of_nonneg_right (by omega) (by omega)
    omega
  obtain ⟨F, hF1, hF2⟩ : ∃ F : Nat, a ≤ F ∧ b ≤ F := ⟨(a + b).toNat, by omega, by omega⟩
  obtain ⟨s1, Bs1⟩ := saw_ok F a b hF2 pb (by omega) cab
  obtain ⟨s2, Bs2⟩ := saw_ok F b a hF1 pa (by omega) (by rw [Nat.gcd_comm]; exact cab)
  have rc := recip F a b pa pb hF1 hF2 cab
  generalize Nf F (a % b) b = N1 at *
  generalize Nf F (b % a) a = N2 at *
  obtain ⟨g1, g10, g1l, _, e11, e12, q1, _⟩ := low_facts N1 (6 * b) (by omega)
  obtain ⟨g2, g20, g2l, _, e21, e22, q2, _⟩ := low_facts N2 (6 * a) (by omega)
  have nb1 : Bd (low N1 (6 * b)).1 65000 := ⟨Bs1⟩
  have nb2 : Bd (low N2 (6 * a)).1 65000 := ⟨Bs2⟩
  have l1 : (low N1 (6 * b)).2 ≤ 6 * b := by
    have : 1 * (low N1 (6 * b)).2 ≤ g1 * (low N1 (6 * b)).2 := Int.mul_le_mul_of_nonneg_right (by omega) (by omega)
    omega
  have l2 : (low N2 (6 * a)).2 ≤ 6 * a := by
    have : 1 * (low N2 (6 * a)).2 ≤ g2 * (low N2 (6 * a)).2 := Int.mul_le_mul_of_nonneg_right (by omega) (by omega)
    omega
  generalize low N1 (6 * b) = W1 at *
  generalize low N2 (6 * a) = W2 at *
  obtain ⟨n1, u1⟩ := W1
  obtain ⟨n2, u2⟩ := W2
  simp only at *
  have bu1 : Bd u1 60 := bd_of (by omega) (by omega)
  have bu2 : Bd u2 60 := bd_of (by omega) (by omega)
  have ba : Bd a 60 := bd_of (by omega) (by omega)
  have bb : Bd b 60 := bd_of (by omega) (by omega)
  have x1 : n1 * (6 * b) = N1 * u1 := by
    conv => lhs; rw [e12]
    conv => rhs; rw [e11]
    grind
  have x2 : n2 * (6 * a) = N2 * u2 := by
    conv => lhs; rw [e22]
    conv => rhs; rw [e21]
    grind
  have v1 : mulI n1 u2 = some (n1 * u2) := mulI_ok (by decide)
  have v2 : mulI n2 u1 = some (n2 * u1) := mulI_ok (by decide)
  have v3 : mulI u1 u2 = some (u1 * u2) := mulI_ok (by decide)
  have v4 : mulI (n1 * u2 + n2 * u1) 12 = some ((n1 * u2 + n2 * u1) * 12) := mulI_ok (by decide)
  have v5 : mulI ((n1 * u2 + n2 * u1) * 12) a = some ((n1 * u2 + n2 * u1) * 12 * a) := mulI_ok (by decide)
  have v6 : mulI ((n1 * u2 + n2 * u1) * 12 * a) b = some ((n1 * u2 + n2 * u1) * 12 * a * b) := mulI_ok (by decide)
  have v7 : mulI a a = some (a * a) := mulI_ok (by decide)
  have v8 : mulI b b = some (b * b) := mulI_ok (by decide)
  have v9 : mulI 3 a = some (3 * a) := mulI_ok (by decide)
  have v10 : mulI (3 * a) b = some (3 * a * b) := mulI_ok (by decide)
  have v11 : mulI (u1 * u2) (a * a + b * b + 1 - 3 * a * b) = some (u1 * u2 * (a * a + b * b + 1 - 3 * a * b)) := mulI_ok (by decide)
  have v12 : mulI 2 b = some (2 * b) := mulI_ok (by decide)
  have v13 : mulI (2 * b) n1 = some (2 * b * n1) := mulI_ok (by decide)
  have v14 : mulI (2 * b * n1) 3 = some (2 * b * n1 * 3) := mulI_ok (by decide)
  have v15 : modI (2 * b * n1 * 3) u1 = some 0 := by
    rw [modI_ok q1, show 2 * b * n1 * 3 = (6 * b) * n1 by grind, e12, show g1 * u1 * n1 = (g1 * n1) * u1 by grind, Int.mul_emod_left]
  have fin : (n1 * u2 + n2 * u1) * 12 * a * b = u1 * u2 * (a * a + b * b + 1 - 3 * a * b) := by
    rw [← rc]
    have : (n1 * u2 + n2 * u1) * 12 * a * b = 2 * a * u2 * (n1 * (6 * b)) + 2 * b * u1 * (n2 * (6 * a)) := by grind
    rw [this, x1, x2]; grind
  refine fn_ok ?_
  simp only [y_law.den, sq_ap, fnD_ap, fnDio_ap, zn_ap, zex_ap, zset_ap, zsetI_ap, zaugI_ap, zapp_ap, zext_ap, zpar2_ap, zpar3_ap, zaug_ap, zret_ap, zretN_ap, zif_ap, zfor_ap, zbk_ap, zct_ap, dv_ap, dc_ap, d1_ap, d2_ap, d2L_ap, dm_ap, dcons_ap, dlcons_ap, dstar_ap, dnot_ap, dand_ap, dor_ap, dif_ap, dch_ap, dio_ap, dnone_ap, dso_ap, dsl_ap, dany_ap, dall_ap, ucons_ap, addI_ap, subI_ap, negI_ap, ltI_ap, leI_ap, gtI_ap, geI_ap, eqI_ap, neI_ap, eqB_ap, neB_ap, eqQ_ap, neQ_ap, lenL_ap, ok_sq, ok_some, cont_nx, cont_rt, cont_bk, cont_ct, Option.bind_some, Option.bind_none, Bool.not_true, Bool.not_false, id_eq, e0, e1, ← hk, e2, rg70, eL1, rgk, eL2, y_abs_ok, m44, m4k, cg, d1', d2', S1, S2, S3, whole, m3k, g3, m6k, m6kw, dw, hsame, mw, decide_true, ep, e3, e4, ← hA, ← hB, cAB, da, db, s1, s2, v1, v2, v3, v4, v5, v6, v7, v8, v9, v10, v11, v12, v13, v14, v15, fin, beq_self_eq_true]
end Q
theorem law_pure (ns : List Int) (hl : ns.length ≤ 63) (_ : ∀ z ∈ ns, Builtin.Int.intBits z ≤ 1048576) : evF 1606938044258990275541962092341162602522202993782792835301376 (dfs.map (·.fn)) 24 (dfs.length - 1) none [.lst (ns.map D.int)] = some (false, .bl true, none) := by
  obtain ⟨own, ho, e⟩ := y_law.tc 24 (by omega) ns true (Q.law_true ns hl)
  cases ho
  exact e

abbrev RwR : PySem.W.OpenRow := PySem.W.OpenLaw.row PySem.Challenge.rw_numberwright_k45_whole_saws
abbrev hks : PySem.W.Hook := He.hookX 5 [] (dfs.map Df.he) [] (tfOf dfs) (exB gm dfs)
def obs (s : PySem.W.SharedT) : He.AlX := He.obsX 5 [] (dfs.map Df.he) [] (tfOf dfs) (exB gm dfs) (HandSHeadRun.getT s)
theorem obs_eq (s : PySem.W.SharedT) : obs s = hks.obs s.abs := He.obsX_eq (HandSHeadRun.getT_eq s)
def loose : List Str := (["lowest", "saw_sum", "whole_saw", "_law_same", "_law_pool", "_law_spread", "_law_draw", "_law_common", "_law_int", "_law_abs"] : List Str)
theorem runs (w : World) : HandSHeadRun.RunEqI RwR (PySem.W.view RwR.prog [0, 14]) hks obs 4000 loose w := by
  unfold HandSHeadRun.RunEqI
  kernel_rfl
end NW
open PySem PySem.W PySem.Calls PyProof.Rows
theorem PySem.Challenge.cw_numberwright_k45_whole_saws_holds : PySem.Challenge.rw_numberwright_k45_whole_saws.Holds := by
  w_on; o_law
  refine HandSHeadRun.head_imp (r := NW.RwR) (q := view NW.RwR.prog [0, 14]) (H := NW.hks) (ob := NW.obs) (M := 4000) (loose := NW.loose) (d := HandSHeadRun.topDef NW.RwR.prog 14) (kwd := []) NW.obs_eq
    NW.runs (by kernel_rfl) (by kernel_rfl) (by kernel_rfl) (by rfl) (by first | assumption | decide +kernel) (by decide +kernel) ⟨rfl, rfl, rfl, rfl, rfl, by decide +kernel⟩ ?hw ?hc
  case hw => w_witness2
  case hc =>
    refine LamX.walk_ofTsE (l := PySem.Challenge.rw_numberwright_k45_whole_saws) (n := 63) (k := 6 * 24) (x := "script") (CX := fun _ => L2.CX0) rfl (by decide) (by kernel_rfl) ⟨rfl, by decide, by decide⟩ (fun w mg fa h Y G hmg0 => ?_) (fun _ _ _ _ _ z => z)
    obtain ⟨K, KX, c⟩ := Y
    exact ⟨K, KX, NW.law_at (L := 1606938044258990275541962092341162602522202993782792835301376) (N := 24) (f := 10) KX G c rfl NW.oks rfl rfl (by
      have e : (HandSHeadRun.topDef NW.RwR.prog 14).name = ("law" : PySem.Str) := by kernel_rfl
      rw [e] at hmg0
      exact hmg0) NW.law_pure⟩
