import PyProof.Rows.All
import Wide.All
import OpenK.AllK
import Wide.FinOn
import PySem.Syntax
import HandS.Comp
import HandS.ForMost
import HandS.ForExc
import HandS.TryMany
import HandS.TupAny
import HandS.Zip
import HandS.Wide
import KE.KRevSl
import HandS.IsInst
import HandS.Deep
import KE.DataCmp
import HandS.TupMul
import KE.SortData
import KE.DataMinMax
import KE.DatumOrd
import HandS.ExcOwn
import HandS.HeadHook1
import HandS.ExcField
import HandS.RaiseMore
import HandS.Style
import HandS.HeadHook4
import HandS.Head0
import HandS.Head1
import HandS.Head2
import HandS.HeadEnd
import HandS.EndBits
import PySem.Challenge.RW_friezeroads_k00_whole_integers_and_choic
section
set_option linter.all false
/-! Z0: plain data, what the operations give on data, the combinators. -/
namespace Z
open PySem

inductive Ty where
  | int | bool | str | lst | tup | dic
  deriving DecidableEq

/-- a value as data; o: a list, dict, object that is held at one place alone and may be changed there -/
inductive D where
  | nul | non | bl (b : Bool) | int (i : Int) | str (s : Str)
  | tup (xs : List D) | lst (o : Bool) (xs : List D) | dic (o : Bool) (ks vs : List D)
  | obj (o : Bool) (c : Nat) (fs : List D) | fn (f : Nat) | cls (c : Nat)
  deriving Inhabited

inductive Out (α : Type) where
  | ok (a : α) | exc (c : Nat) (fs : List D) | bad

@[inline] def Out.bind {α β : Type} (x : Out α) (f : α → Out β) : Out β := match x with
  | .ok a => f a
  | .exc c fs => .exc c fs
  | .bad => .bad

abbrev Env := List D
structure Tab where
  meth : Nat → Str → Option Nat
  io : Nat → Bool
structure RT where
  call : Nat → List D → Out (D × D)
  W : Nat
  tab : Tab
/-- an expression that changes nothing | one that may change what names hold alone -/
abbrev PDen := RT → Env → Out D
abbrev Den := RT → Env → Out (D × Env)
/-- an operation on values -/
abbrev OpF := RT → List D → Out D
inductive SOut where
  | next (env : Env) | ret (d : D) (env : Env) | exc (c : Nat) (fs : List D) | bad
abbrev SDen := RT → Env → SOut

/-! ### ownership -/
def isFrz : D → Bool
  | .nul => false
  | .lst o _ => !o
  | .dic o _ _ => !o
  | .obj o _ _ => !o
  | _ => true
mutual
def freeze : D → D
  | .lst true xs => .lst false (freezes xs)
  | .dic true ks vs => .dic false ks (freezes vs)
  | .obj true c fs => .obj false c (freezes fs)
  | d => d
def freezes : List D → List D
  | [] => []
  | x :: xs => freeze x :: freezes xs
end

/-! ### equality, order -/
def b2i : Bool → Int
  | true => 1
  | false => 0
/-- the value at a key, compared -/
def assocEq (fk fv : D → Option Bool) : List D → List D → Option Bool
  | l :: ls, w :: ws => match fk l with
    | some true => fv w
    | some false => assocEq fk fv ls ws
    | none => none
  | _, _ => some false
/-- each key of the first has an equal value in the second -/
def eqvd : List (D → Option Bool) → List (D → Option Bool) → List D → List D → Option Bool
  | k :: ks, v :: vs, ls, ws => match assocEq k v ls ws with
    | some true => eqvd ks vs ls ws
    | o => o
  | _, _, _, _ => some true
mutual
/-- ==; none: not told -/
def eqv : D → D → Option Bool
  | .non, y => match y with
    | .non => some true
    | .nul | .fn _ | .cls _ => none
    | _ => some false
  | .bl a, y => match y with
    | .bl b => some (a == b)
    | .int j => some (decide (b2i a = j))
    | .nul | .fn _ | .cls _ => none
    | _ => some false
  | .int i, y => match y with
    | .int j => some (decide (i = j))
    | .bl b => some (decide (i = b2i b))
    | .nul | .fn _ | .cls _ => none
    | _ => some false
  | .str a, y => match y with
    | .str b => some (decide (a = b))
    | .nul | .fn _ | .cls _ => none
    | _ => some false
  | .tup xs, y => match y with
    | .tup ys => eqvs xs ys
    | .nul | .fn _ | .cls _ => none
    | _ => some false
  | .lst _ xs, y => match y with
    | .lst _ ys => eqvs xs ys
    | .nul | .fn _ | .cls _ => none
    | _ => some false
  | .dic _ ks vs, y => match y with
    | .dic _ ls ws => if ks.length = ls.length then eqvd (eqvF ks) (eqvF vs) ls ws else some false
    | .nul | .fn _ | .cls _ => none
    | _ => some false
  | .obj _ c fs, y => match y with
    | .obj _ e gs => if c = e then eqvs fs gs else some false
    | .nul | .fn _ | .cls _ => none
    | _ => some false
  | .nul, _ => none
  | .fn _, _ => none
  | .cls _, _ => none
def eqvs : List D → List D → Option Bool
  | [], ys => match ys with
    | [] => some true
    | _ => some false
  | x :: xs, ys => match ys with
    | [] => some false
    | y :: ys => match eqv x y with
      | some true => eqvs xs ys
      | o => o
def eqvF : List D → List (D → Option Bool)
  | [] => []
  | x :: xs => eqv x :: eqvF xs
end

/-! ### the order of alike data -/
def strCmp : List Nat → List Nat → Ordering
  | [], [] => .eq
  | [], _ :: _ => .lt
  | _ :: _, [] => .gt
  | x :: xs, y :: ys => if x < y then .lt else if y < x then .gt else strCmp xs ys
def intCmp (i j : Int) : Ordering := if i < j then .lt else if j < i then .gt else .eq
mutual
def cmp : D → D → Ordering
  | .bl a, y => match y with
    | .bl b => intCmp (b2i a) (b2i b)
    | _ => .eq
  | .int i, y => match y with
    | .int j => intCmp i j
    | _ => .eq
  | .str a, y => match y with
    | .str b => strCmp a.cps.toList b.cps.toList
    | _ => .eq
  | .tup xs, y => match y with
    | .tup ys => cmps xs ys
    | _ => .eq
  | .lst _ xs, y => match y with
    | .lst _ ys => cmps xs ys
    | _ => .eq
  | _, _ => .eq
def cmps : List D → List D → Ordering
  | [], ys => match ys with
    | [] => .eq
    | _ => .lt
  | x :: xs, ys => match ys with
    | [] => .gt
    | y :: ys => match cmp x y with
      | .eq => cmps xs ys
      | o => o
end
/-- what data at one place are alike -/
inductive Sh where
  | unk | non | bool | int | str | tup (ss : List Sh) | lst (ss : List Sh)
  deriving Inhabited
def Sh.sub (isT : Bool) : Sh → Option (List Sh)
  | .unk => some []
  | .tup ss => if isT then some ss else none
  | .lst ss => if isT then none else some ss
  | _ => none
mutual
/-- a datum of a shape; the shape grown by it -/
def join : D → Sh → Option Sh
  | .non, s => match s with
    | .unk | .non => some .non
    | _ => none
  | .bl _, s => match s with
    | .unk | .bool => some .bool
    | _ => none
  | .int _, s => match s with
    | .unk | .int => some .int
    | _ => none
  | .str _, s => match s with
    | .unk | .str => some .str
    | _ => none
  | .tup xs, s => match s.sub true with
    | some ss => (joins xs ss).map .tup
    | none => none
  | .lst _ xs, s => match s.sub false with
    | some ss => (joins xs ss).map .lst
    | none => none
  | _, _ => none
def joins : List D → List Sh → Option (List Sh)
  | [], ss => some ss
  | x :: xs, ss => match ss with
    | [] => match join x .unk with
      | some s => (joins xs []).map (s :: ·)
      | none => none
    | s :: ss => match join x s with
      | some s => (joins xs ss).map (s :: ·)
      | none => none
end
def joinAll : Sh → List D → Option Sh
  | s, [] => some s
  | s, x :: xs => match join x s with
    | some s => joinAll s xs
    | none => none
/-- None and the empty tuple, list have no < of their own in a sort, min, max -/
def alikeAll (xs : List D) : Bool := match joinAll .unk xs with
  | some .non => false
  | some _ => true
  | none => false
def alike2 (x y : D) : Bool := alikeAll [x, y]
def ltD (x y : D) : Bool := match cmp x y with
  | .lt => true
  | _ => false
def merge : Nat → List D → List D → List D
  | 0, xs, ys => xs ++ ys
  | n + 1, xs, ys => match xs, ys with
    | [], ys => ys
    | x :: xs, [] => x :: xs
    | x :: xs, y :: ys => if ltD y x then y :: merge n (x :: xs) ys else x :: merge n xs (y :: ys)
def msort : Nat → List D → List D
  | 0, xs => xs
  | n + 1, xs => match xs with
    | [] => []
    | [x] => [x]
    | x :: y :: r => merge (r.length + 2) (msort n ((x :: y :: r).take ((r.length + 3) / 2))) (msort n ((x :: y :: r).drop ((r.length + 3) / 2)))
def sortD (xs : List D) : List D := msort xs.length xs

def allFrz' (xs : List D) : Bool := xs.all isFrz
mutual
/-- plain data of a small depth: None, bools, ints, texts, tuples and lists of these -/
def okD : Nat → D → Bool
  | _, .non => true
  | _, .bl _ => true
  | _, .int _ => true
  | _, .str s => s.cps.all (· < 0x110000)
  | n, .tup xs => match n with
    | 0 => false
    | n + 1 => okDs n xs
  | n, .lst _ xs => match n with
    | 0 => false
    | n + 1 => okDs n xs
  | _, _ => false
def okDs : Nat → List D → Bool
  | _, [] => true
  | n, x :: xs => okD n x && okDs n xs
end
/-! ### what operations give -/
def sizeMax : Nat := 16777216
/-- ints below so many bits -/
def bigMax : Nat := 2 ^ 20
def okInt (i : Int) : Bool := i.natAbs.log2 < 900000
def items : D → Option (List D)
  | .tup xs => some xs
  | .lst _ xs => some xs
  | .dic _ ks _ => some ks
  | .str s => some (s.cps.toList.map fun c => .str ⟨#[c]⟩)
  | _ => none
/-- items that may be taken -/
def itemsF (d : D) : Option (List D) := match items d with
  | some xs => if xs.all isFrz then some xs else none
  | none => none
def seqs : D → Option (List D)
  | .tup xs => some xs
  | .lst _ xs => some xs
  | _ => none
def seqsF (d : D) : Option (List D) := match seqs d with
  | some xs => if xs.all isFrz then some xs else none
  | none => none
def len1 : D → Option D
  | .tup xs => some (.int xs.length)
  | .lst _ xs => some (.int xs.length)
  | .dic _ ks _ => some (.int ks.length)
  | .str s => if s.length ≤ sizeMax then some (.int s.length) else none
  | _ => none
def tuple1 (d : D) : Option D := (seqsF d).map .tup
def list1 (d : D) : Option D := (seqsF d).map (.lst true)
def boolsOf : List D → Option (List Bool)
  | [] => some []
  | .bl b :: xs => (boolsOf xs).map (b :: ·)
  | _ => none
def all1 : D → Option D
  | .lst _ xs => (boolsOf xs).map fun bs => .bl (bs.all id)
  | _ => none
def any1 : D → Option D
  | .lst _ xs => (boolsOf xs).map fun bs => .bl (bs.any id)
  | _ => none
def intsOf : List D → Option (List Int)
  | [] => some []
  | .int i :: xs => (intsOf xs).map (i :: ·)
  | _ => none
def sum1 : D → Option D
  | .lst _ xs => (intsOf xs).map fun is => .int is.sum
  | _ => none
def neTup : D → Bool
  | .tup (_ :: _) => true
  | _ => false
def noTup : D → Bool
  | .tup _ => false
  | _ => true
def sortable (xs : List D) : Bool := xs.length ≤ 1 || (xs.all neTup || xs.all noTup)
def sorted1 : D → Option D
  | .lst _ xs => if allFrz' xs && (alikeAll xs && (okDs 60 xs && sortable xs)) then some (.lst true (sortD xs)) else none
  | _ => none
def minL (x : D) (xs : List D) : D := xs.foldl (fun a y => if ltD y a then y else a) x
def maxL (x : D) (xs : List D) : D := xs.foldl (fun a y => if ltD a y then y else a) x
def best (f : D → List D → D) : List D → Option D
  | x :: xs => if allFrz' (x :: xs) && (alikeAll (x :: xs) && okDs 60 (x :: xs)) then some (f x xs) else none
  | [] => none
def min1 : D → Option D
  | .lst _ xs => best minL xs
  | .tup xs => best minL xs
  | _ => none
def max1 : D → Option D
  | .lst _ xs => best maxL xs
  | .tup xs => best maxL xs
  | _ => none
def min2 : D → D → Option D
  | .int i, .int j => some (.int (if j < i then j else i))
  | _, _ => none
def max2 : D → D → Option D
  | .int i, .int j => some (.int (if j > i then j else i))
  | _, _ => none
def abs1 : D → Option D
  | .int i => some (.int (if i < 0 then -i else i))
  | _ => none
def int1 : D → Option D
  | .int i => some (.int i)
  | .bl b => some (.int (b2i b))
  | _ => none
def str1 : D → Option D
  | .int i => if i.natAbs.log2 < 1920 then some (.str (Str.ofString (toString i))) else none
  | .str s => some (.str s)
  | _ => none
def neg1 : D → Option D
  | .int i => some (.int (-i))
  | _ => none
def not1 : D → Option D
  | .bl b => some (.bl (!b))
  | _ => none
def isNone1 : D → Option D
  | .nul => none
  | .non => some (.bl true)
  | _ => some (.bl false)
def notNone1 : D → Option D
  | .nul => none
  | .non => some (.bl false)
  | _ => some (.bl true)
inductive Cl where
  | ty (t : Ty) | cls (c : Nat)
def isInst : D → Cl → Bool
  | .bl _, .ty .bool => true
  | .bl _, .ty .int => true
  | .int _, .ty .int => true
  | .str _, .ty .str => true
  | .tup _, .ty .tup => true
  | .lst _ _, .ty .lst => true
  | .dic _ _ _, .ty .dic => true
  | .obj _ c _, .cls e => c == e
  | _, _ => false
def isInst1 (cs : List Cl) : D → Option D
  | .nul => none
  | .fn _ => none
  | .cls _ => none
  | d => some (.bl (cs.any (isInst d)))
def strRep (s : Str) (n : Nat) : Str := ⟨(List.replicate n s.cps.toList).flatten.toArray⟩
def add2 : D → D → Option D
  | .int i, .int j => some (.int (i + j))
  | .str a, .str b => if a.length + b.length ≤ sizeMax then some (.str (a ++ b)) else none
  | .tup a, .tup b => if a.length + b.length ≤ sizeMax then some (.tup (a ++ b)) else none
  | .lst _ a, .lst _ b => if a.length + b.length ≤ sizeMax && (a.all isFrz && b.all isFrz) then some (.lst true (a ++ b)) else none
  | _, _ => none
def sub2 : D → D → Option D
  | .int i, .int j => some (.int (i - j))
  | _, _ => none
def mul2 : D → D → Option D
  | .int i, .int j => if i.natAbs.log2 + j.natAbs.log2 < 130000000 then some (.int (i * j)) else none
  | .lst _ a, .int j => if -(2 ^ 63) ≤ j ∧ j < 2 ^ 63 ∧ a.length * j.toNat ≤ sizeMax ∧ a.all isFrz = true then some (.lst true (List.replicate j.toNat a).flatten) else none
  | .tup a, .int j => if a ≠ [] ∧ 2 ≤ j ∧ j ≤ 1000 ∧ a.length ≤ 1000 then some (.tup (List.replicate j.toNat a).flatten) else none
  | _, _ => none
def fdiv2 : D → D → Option D
  | .int i, .int j => if 0 < j ∧ j.natAbs.log2 < 9000 then some (.int (i / j)) else none
  | _, _ => none
def mod2 : D → D → Option D
  | .int i, .int j => if 0 < j then some (.int (i % j)) else none
  | _, _ => none
inductive Op2 where
  | add | sub | mul | fdiv | mod
  deriving DecidableEq
def op2D : Op2 → D → D → Option D
  | .add => add2
  | .sub => sub2
  | .mul => mul2
  | .fdiv => fdiv2
  | .mod => mod2
def dat (d : D) : Bool := okD 60 d
def eq2 (x y : D) : Option D := if dat x && dat y then (eqv x y).map .bl else none
def ne2 (x y : D) : Option D := if dat x && dat y then (eqv x y).map fun b => .bl (!b) else none
def lt2 (x y : D) : Option D := match x, y with
  | .int i, .int j => some (.bl (decide (i < j)))
  | x, y => if alike2 x y && (dat x && dat y) then some (.bl (ltD x y)) else none
def le2 (x y : D) : Option D := match x, y with
  | .int i, .int j => some (.bl (decide (i ≤ j)))
  | x, y => if alike2 x y && (dat x && dat y) then some (.bl (!ltD y x)) else none
def anyEq (x : D) : List D → Option Bool
  | [] => some false
  | y :: ys => match eqv y x with
    | some true => some true
    | some false => anyEq x ys
    | none => none
mutual
/-- a key: an int, a text, a tuple of keys -/
def isKey : D → Bool
  | .int _ => true
  | .str _ => true
  | .tup xs => isKeys xs
  | _ => false
def isKeys : List D → Bool
  | [] => true
  | x :: xs => isKey x && isKeys xs
end
def keq (x y : D) : Bool := match eqv x y with
  | some true => true
  | _ => false
def look (k : D) : List D → List D → Option D
  | l :: ls, w :: ws => if keq l k then some w else look k ls ws
  | _, _ => none
def putV (k v : D) : List D → List D → List D
  | l :: ls, w :: ws => if keq l k then v :: ws else w :: putV k v ls ws
  | _, _ => [v]
def hasK (k : D) : List D → Bool
  | [] => false
  | l :: ls => keq l k || hasK k ls
def putK (k : D) (ks : List D) : List D := if hasK k ks then ks else ks ++ [k]
def dropK (k : D) : List D → List D → List D
  | l :: ls, w :: ws => if keq l k then ws else w :: dropK k ls ws
  | _, ws => ws
def dropKk (k : D) : List D → List D
  | l :: ls => if keq l k then ls else l :: dropKk k ls
  | [] => []
def signs (s : Str) : List Nat := s.cps.toList
def isPre : List Nat → List Nat → Bool
  | [], _ => true
  | x :: xs, y :: ys => x == y && isPre xs ys
  | _, [] => false
def isSubL (x : List Nat) : List Nat → Bool
  | [] => x.isEmpty
  | y :: ys => isPre x (y :: ys) || isSubL x ys
def in2 (x : D) : D → Option D
  | .tup ys => if dat x && okDs 60 ys then (anyEq x ys).map .bl else none
  | .lst _ ys => if dat x && okDs 60 ys then (anyEq x ys).map .bl else none
  | _ => none
def notIn2 (x y : D) : Option D := (in2 x y).bind not1
inductive Cm where
  | eq | ne | lt | le | gt | ge | isin | notin
  deriving DecidableEq
def cmD : Cm → D → D → Option D
  | .eq => eq2
  | .ne => ne2
  | .lt => lt2
  | .le => le2
  | .gt => fun x y => lt2 y x
  | .ge => fun x y => le2 y x
  | .isin => in2
  | .notin => notIn2
/-- a place of a sequence, from its end too -/
def place (n : Nat) (i : Int) : Option Nat := if 0 ≤ i then (if i < n then some i.toNat else none) else if -(n : Int) ≤ i then some (i + n).toNat else none
def at_ (xs : List D) (i : Int) : Option D := (place xs.length i).bind fun j => xs[j]?
def idx2 : D → D → Option D
  | .tup xs, .int i => at_ xs i
  | .lst _ xs, .int i => at_ xs i
  | .str s, .int i => if s.length ≤ sizeMax then (at_ (s.cps.toList.map fun c => .str ⟨#[c]⟩) i) else none
  | .dic _ ks vs, k => if isKey k then look k ks vs else none
  | _, _ => none
def idxF (x k : D) : Option D := match idx2 x k with
  | some d => if isFrz d then some d else none
  | none => none
/-- a slice's bound -/
def bound (n : Nat) (d : Nat) : D → Option Nat
  | .non => some d
  | .int i => some (if i < 0 then (i + n).toNat else if i > n then n else i.toNat)
  | _ => none
def cutL {α : Type} (xs : List α) (lo hi : Nat) : List α := (xs.drop lo).take (hi - lo)
def slice3 : D → D → D → Option D
  | .tup xs, lo, hi => match bound xs.length 0 lo, bound xs.length xs.length hi with
    | some l, some h => some (.tup (cutL xs l h))
    | _, _ => none
  | .lst _ xs, lo, hi => match bound xs.length 0 lo, bound xs.length xs.length hi with
    | some l, some h => if xs.all isFrz then some (.lst true (cutL xs l h)) else none
    | _, _ => none
  | _, _, _ => none
def rev1 : D → Option D
  | .tup xs => some (.tup xs.reverse)
  | .lst _ xs => if xs.all isFrz then some (.lst true xs.reverse) else none
  | .str s => some (.str ⟨s.cps.toList.reverse.toArray⟩)
  | _ => none
def get3 : D → D → D → Option D
  | .dic _ ks vs, k, d => if isKey k then (match look k ks vs with
    | some v => if isFrz v then some v else none
    | none => some d) else none
  | _, _, _ => none
/-- the place of the first equal item -/
def idxOf (x : D) : List D → Nat → Option Nat
  | [], _ => none
  | y :: ys, n => match eqv y x with
    | some true => some n
    | some false => idxOf x ys (n + 1)
    | none => none
def countEq (x : D) : List D → Option Nat
  | [] => some 0
  | y :: ys => match eqv y x with
    | some b => (countEq x ys).map fun n => n + b.toNat
    | none => none
def index2 (d x : D) : Option D := ((seqs d).bind fun xs => idxOf x xs 0).map fun n => .int n
/-- how often a text stands in another one, without overlaps -/
def countSub (x : List Nat) : Nat → List Nat → Nat
  | 0, _ => 0
  | n + 1, ys => match ys with
    | [] => 0
    | y :: r => if isPre x (y :: r) then 1 + countSub x n ((y :: r).drop x.length) else countSub x n r
def count2 : D → D → Option D
  | .str s, .str z => if z.length = 0 then none else some (.int (countSub (signs z) (s.length + 1) (signs s)))
  | d, x => ((seqs d).bind fun xs => countEq x xs).map fun n => .int n
def joinS (sep : Str) : List D → Option Str
  | [] => some ⟨#[]⟩
  | [.str x] => some x
  | .str x :: r => (joinS sep r).map fun y => x ++ sep ++ y
  | _ => none
def join2 : D → D → Option D
  | .str sep, d => ((seqs d).bind (joinS sep)).bind fun x => if x.length ≤ sizeMax then some (.str x) else none
  | _, _ => none
def splitL (x : List Nat) : Nat → List Nat → List Nat → List (List Nat)
  | 0, acc, _ => [acc]
  | n + 1, acc, ys => match ys with
    | [] => [acc]
    | y :: r => if isPre x (y :: r) then acc :: splitL x n [] ((y :: r).drop x.length) else splitL x n (acc ++ [y]) r
def split2 : D → D → Option D
  | .str s, .str z => if z.length = 0 then none else some (.lst true ((splitL (signs z) (s.length + 1) [] (signs s)).map fun x => .str ⟨x.toArray⟩))
  | _, _ => none
def partL (x : List Nat) : List Nat → List Nat → Option (List Nat × List Nat)
  | _, [] => none
  | acc, y :: r => if isPre x (y :: r) then some (acc, (y :: r).drop x.length) else partL x (acc ++ [y]) r
def partition2 : D → D → Option D
  | .str s, .str z => if z.length = 0 then none else (match partL (signs z) [] (signs s) with
    | some (a, b) => some (.tup [.str ⟨a.toArray⟩, .str z, .str ⟨b.toArray⟩])
    | none => some (.tup [.str s, .str ⟨#[]⟩, .str ⟨#[]⟩]))
  | _, _ => none
def removeprefix2 : D → D → Option D
  | .str s, .str z => some (.str (if isPre (signs z) (signs s) then ⟨((signs s).drop z.length).toArray⟩ else s))
  | _, _ => none
def startswith2 : D → D → Option D
  | .str s, .str z => some (.bl (isPre (signs z) (signs s)))
  | _, _ => none
def dropW (p : Nat → Bool) : List Nat → List Nat
  | [] => []
  | x :: xs => if p x then dropW p xs else x :: xs
def strip2 : D → D → Option D
  | .str s, .str z => some (.str ⟨(dropW (fun c => (signs z).contains c) (dropW (fun c => (signs z).contains c) (signs s)).reverse).reverse.toArray⟩)
  | _, _ => none
/-- int of a text of digits, a minus sign ahead -/
def digits : List Nat → Nat → Option Nat
  | [], n => some n
  | c :: r, n => if 48 ≤ c ∧ c ≤ 57 then digits r (10 * n + (c - 48)) else none
def intText1 : D → Option D
  | .str s => if 0 < s.length ∧ s.length ≤ 640 then (match signs s with
    | 45 :: c :: r => (digits (c :: r) 0).map fun n => .int (-(n : Int))
    | r => (digits r 0).map fun n => .int n) else none
  | _ => none
def intAny1 : D → Option D
  | .str s => intText1 (.str s)
  | d => int1 d
def setList : List D → List D → List D
  | [], acc => acc
  | x :: xs, acc => if hasK x acc then setList xs acc else setList xs (acc ++ [x])
/-- sorted(set(d)), len(set(d)) -/
def sortedSet1 (d : D) : Option D := match itemsF d with
  | some xs => if isKeys xs && alikeAll xs then some (.lst true (sortD (setList xs []))) else none
  | none => none
def lenSet1 (d : D) : Option D := match itemsF d with
  | some xs => if isKeys xs then some (.int (setList xs []).length) else none
  | none => none
def dict1 : D → Option D
  | .dic _ ks vs => if vs.all isFrz then some (.dic true ks vs) else none
  | d => match itemsF d with
    | some ps => ps.foldl (fun a p => match a, p with
      | some (.dic o ks vs), .tup [k, v] => if isKey k then some (.dic o (putK k ks) (putV k v ks vs)) else none
      | _, _ => none) (some (.dic true [] []))
    | none => none
def rangeL (a : Int) (n : Nat) : List D := (List.range n).map fun (k : Nat) => .int (a + (k : Int))
def range1 : D → Option (List D)
  | .int n => if -sizeMax ≤ n ∧ n ≤ sizeMax then some (rangeL 0 n.toNat) else none
  | _ => none
def range2 : D → D → Option (List D)
  | .int a, .int b => if -sizeMax ≤ a ∧ a ≤ sizeMax ∧ -sizeMax ≤ b ∧ b ≤ sizeMax then some (rangeL a (b - a).toNat) else none
  | _, _ => none
def rangeN (a b c : Int) : Nat := if 0 < c then (if a < b then ((b - a + c - 1) / c).toNat else 0) else (if b < a then ((a - b - c - 1) / (-c)).toNat else 0)
def range3 : D → D → D → Option (List D)
  | .int a, .int b, .int c => if c ≠ 0 ∧ c.natAbs ≤ 1000000 ∧ a.natAbs ≤ sizeMax ∧ b.natAbs ≤ sizeMax then some ((List.range (rangeN a b c)).map fun (k : Nat) => .int (a + (k : Int) * c)) else none
  | _, _, _ => none
def zipL : List D → List D → List D
  | x :: xs, y :: ys => .tup [x, y] :: zipL xs ys
  | _, _ => []
def enumL : Nat → List D → List D
  | _, [] => []
  | n, x :: xs => .tup [.int n, x] :: enumL (n + 1) xs

/-! ### operations on values -/
def opt (o : Option D) : Out D := match o with
  | some d => .ok d
  | none => .bad
def o1 (f : D → Option D) : OpF := fun _ xs => match xs with
  | [x] => opt (f x)
  | _ => .bad
def o2 (f : D → D → Option D) : OpF := fun _ xs => match xs with
  | [x, y] => opt (f x y)
  | _ => .bad
def o3 (f : D → D → D → Option D) : OpF := fun _ xs => match xs with
  | [x, y, z] => opt (f x y z)
  | _ => .bad
/-- what is handed on is held alone nowhere -/
def allFrz (xs : List D) : Bool := xs.all isFrz
/-- an own class's operator -/
def ownOp (m : Str) (rt : RT) (x : D) (rest : List D) : Out D := match x with
  | .obj false c _ => match rt.tab.meth c m with
    | some f => if allFrz rest then (rt.call f (x :: rest)).bind fun r => .ok r.1 else .bad
    | none => .bad
  | _ => .bad
def oBin (f : D → D → Option D) (m : Str) : OpF := fun rt xs => match xs with
  | [x, y] => (match f x y with
    | some d => .ok d
    | none => ownOp m rt x [y])
  | _ => .bad
def oUn (f : D → Option D) (m : Str) : OpF := fun rt xs => match xs with
  | [x] => (match f x with
    | some d => .ok d
    | none => ownOp m rt x [])
  | _ => .bad
def oTup : OpF := fun _ xs => if allFrz xs && decide (xs.length ≤ sizeMax) then .ok (.tup xs) else .bad
def putAll : List D → List D → List D → List D → Option D
  | k :: ks, v :: vs, ls, ws => if isKey k then putAll ks vs (putK k ls) (putV k v ls ws) else none
  | _, _, ls, ws => some (.dic true ls ws)
def evens : List D → List D × List D
  | k :: v :: r => (k :: (evens r).1, v :: (evens r).2)
  | _ => ([], [])
/-- {k: v, ..}: keys and values in turn -/
def oDic : OpF := fun _ xs => if allFrz xs then opt (putAll (evens xs).1 (evens xs).2 [] []) else .bad
def oCall (f : Nat) : OpF := fun rt xs => if rt.tab.io f then .bad else if allFrz xs then (rt.call f xs).bind fun r => .ok r.1 else .bad
def initS : Str := Str.ofString "__init__"
def oMake (c : Nat) : OpF := fun rt xs => match rt.tab.meth c initS with
  | some f => if allFrz xs then (rt.call f (.obj true c [] :: xs)).bind fun q => .ok (freeze q.2) else .bad
  | none => .bad
def oMeth (m : Str) : OpF := fun rt xs => match xs with
  | x :: r => ownOp m rt x r
  | _ => .bad
def oFstr : OpF := fun _ xs => opt (((xs.mapM str1).bind (joinS ⟨#[]⟩)).map .str)
/-- o.f, f the k-th field of the class c -/
def fld1 (ks : List (Nat × Nat)) : D → Option D
  | .obj _ c fs => match ks.lookup c with
    | some k => (match fs[k]? with
      | some d => if isFrz d then some d else none
      | none => none)
    | none => none
  | _ => none
/-- sorted(xs, key=f) -/
def keysOf (rt : RT) (f : Nat) : List D → Out (List D)
  | [] => .ok []
  | x :: xs => (rt.call f [x]).bind fun r => (keysOf rt f xs).bind fun q => .ok (r.1 :: q)
def insBy (p : D × D) : List (D × D) → List (D × D)
  | [] => [p]
  | q :: r => if ltD p.1 q.1 then p :: q :: r else q :: insBy p r
def sortBy (ks xs : List D) : List D := ((ks.zip xs).foldl (fun acc p => insBy p acc) []).map (·.2)
def oSortKey (f : Nat) : OpF := fun rt xs => match xs with
  | [x] => (match itemsF x with
    | some ys => (keysOf rt f ys).bind fun ks => if alikeAll ks then .ok (.lst true (sortBy ks ys)) else .bad
    | none => .bad)
  | _ => .bad
def fRange : List D → Option (List D)
  | [a] => range1 a
  | [a, b] => range2 a b
  | [a, b, c] => range3 a b c
  | _ => none
def fZip : List D → Option (List D)
  | [.lst _ xs, .lst _ ys] => if allFrz xs && allFrz ys then some (zipL xs ys) else none
  | [.tup xs, .tup ys] => some (zipL xs ys)
  | _ => none
def fZip3 : List D → Option (List D)
  | [a, b, c] => match itemsF a, itemsF b, itemsF c with
    | some xs, some ys, some zs => some ((zipL xs (zipL ys zs)).filterMap fun p => match p with
      | .tup [x, .tup [y, z]] => some (.tup [x, y, z])
      | _ => none)
    | _, _, _ => none
  | _ => none
def fEnum : List D → Option (List D)
  | [.lst _ xs] => if allFrz xs then some (enumL 0 xs) else none
  | _ => none
def fItems : List D → Option (List D)
  | [a] => seqs a
  | _ => none
/-- list(range(..)), tuple(range(..)) -/
def oListR : OpF := fun _ xs => opt ((fRange xs).map (.lst true))
def oTupR : OpF := fun _ xs => opt ((fRange xs).map .tup)

/-! ### combinators: expressions that change nothing -/
def pLit (d : D) : PDen := fun _ _ => .ok d
/-- a name's value to look at -/
def pSee (i : Nat) : PDen := fun _ env => match env.getD i .nul with
  | .nul => .bad
  | d => .ok d
/-- a name's value to hand on -/
def pRd (i : Nat) : PDen := fun _ env => if isFrz (env.getD i .nul) then .ok (env.getD i .nul) else .bad
/-- a new value to look at -/
def pFz (p : PDen) : PDen := fun rt env => (p rt env).bind fun d => .ok (freeze d)
/-- an int's value -/
def pInt (p : PDen) : PDen := fun rt env => (p rt env).bind fun d => match d with
  | .int i => .ok (.int i)
  | _ => .bad
def pAll : List PDen → RT → Env → Out (List D)
  | [], _, _ => .ok []
  | p :: ps, rt, env => (p rt env).bind fun d => (pAll ps rt env).bind fun ds => .ok (d :: ds)
def pN (f : OpF) (ps : List PDen) : PDen := fun rt env => (pAll ps rt env).bind fun ds => f rt ds
/-- act(..), act a name that holds a function -/
def pCallV (i : Nat) (ps : List PDen) : PDen := fun rt env => match env.getD i .nul with
  | .fn j => if rt.tab.io j then .bad else (pAll ps rt env).bind fun ds => oCall j rt ds
  | _ => .bad
/-- [a, b, ..]: new lists go in as they are -/
def pLst (ps : List PDen) : PDen := fun rt env => (pAll ps rt env).bind fun ds => .ok (.lst true ds)
def asB : D → Out Bool
  | .bl b => .ok b
  | _ => .bad
def pIte (t a b : PDen) : PDen := fun rt env => ((t rt env).bind asB).bind fun c => match c with
  | true => a rt env
  | false => b rt env
def pAnd (a b : PDen) : PDen := fun rt env => ((a rt env).bind asB).bind fun c => match c with
  | true => b rt env
  | false => .ok (.bl false)
def pOr (a b : PDen) : PDen := fun rt env => ((a rt env).bind asB).bind fun c => match c with
  | true => .ok (.bl true)
  | false => b rt env
def pNot (a : PDen) : PDen := fun rt env => ((a rt env).bind asB).bind fun c => .ok (.bl (!c))
/-- a < b < c -/
def pChn (f g : D → D → Option D) (a b c : PDen) : PDen := fun rt env => (a rt env).bind fun x => (b rt env).bind fun y => ((opt (f x y)).bind asB).bind fun k => match k with
  | true => (c rt env).bind fun z => opt (g y z)
  | false => .ok (.bl false)
/-- targets of names alone -/
inductive Pat where
  | nm (i : Nat) | tp (ps : List Pat)
mutual
def bindP : Pat → D → Env → Option Env
  | .nm i, v, env => some (env.set i v)
  | .tp ps, v, env => match v with
    | .tup xs => bindPs ps xs env
    | _ => none
def bindPs : List Pat → List D → Env → Option Env
  | [], vs, env => match vs with
    | [] => some env
    | _ => none
  | p :: ps, vs, env => match vs with
    | [] => none
    | v :: vs => match bindP p v env with
      | some e => bindPs ps vs e
      | none => none
end
/-- the names of a comprehension forgotten -/
def wipes : List Nat → Env → Env
  | [], env => env
  | i :: is, env => (wipes is env).set i .nul
def noExc {α : Type} (x : Out α) : Out α := match x with
  | .exc _ _ => .bad
  | x => x
def pTrue : PDen := fun _ _ => .ok (.bl true)
/-- what is walked -/
structure Itr where
  f : List D → Option (List D)
  ps : List PDen
def Itr.run (I : Itr) (rt : RT) (env : Env) : Out (List D) := (pAll I.ps rt env).bind fun ds => match I.f ds with
  | some xs => if xs.length ≤ sizeMax then .ok xs else .bad
  | none => .bad
/-- each item with its test: the new lists' items -/
def lcL (t : Pat) (c e : PDen) (rt : RT) (env : Env) : List D → Out (List D)
  | [] => .ok []
  | x :: xs => match bindP t x env with
    | some en => ((c rt en).bind asB).bind fun b => match b with
      | true => (e rt en).bind fun d => (lcL t c e rt env xs).bind fun ds => .ok (d :: ds)
      | false => lcL t c e rt env xs
    | none => .bad
def pLc (it : Itr) (t : Pat) (c e : PDen) (own : List Nat) : PDen := fun rt env => (it.run rt env).bind fun xs => (noExc (lcL t c e rt (wipes own env) xs)).bind fun ds => .ok (.lst true ds)
/-- [e for .. for ..] -/
def lcL2 (t : Pat) (c : PDen) (it2 : Itr) (t2 : Pat) (c2 e : PDen) (rt : RT) (env : Env) (own2 : List Nat) : List D → Out (List D)
  | [] => .ok []
  | x :: xs => match bindP t x env with
    | some en => ((c rt en).bind asB).bind fun b => match b with
      | true => (it2.run rt en).bind fun ys => (lcL t2 c2 e rt en ys).bind fun ds => (lcL2 t c it2 t2 c2 e rt env own2 xs).bind fun es => .ok (ds ++ es)
      | false => lcL2 t c it2 t2 c2 e rt env own2 xs
    | none => .bad
def pLc2 (it : Itr) (t : Pat) (c : PDen) (it2 : Itr) (t2 : Pat) (c2 e : PDen) (own : List Nat) : PDen := fun rt env => (it.run rt env).bind fun xs => (noExc (lcL2 t c it2 t2 c2 e rt (wipes own env) [] xs)).bind fun ds => .ok (.lst true ds)
/-- {k: v for ..} -/
def dcL (t : Pat) (c k v : PDen) (rt : RT) (env : Env) : List D → List D → List D → Out D
  | [], ks, vs => .ok (.dic true ks vs)
  | x :: xs, ks, vs => match bindP t x env with
    | some en => ((c rt en).bind asB).bind fun b => match b with
      | true => (k rt en).bind fun p => (v rt en).bind fun q => if isKey p then dcL t c k v rt env xs (putK p ks) (putV p (freeze q) ks vs) else .bad
      | false => dcL t c k v rt env xs ks vs
    | none => .bad
def pDc (it : Itr) (t : Pat) (c k v : PDen) (own : List Nat) : PDen := fun rt env => (it.run rt env).bind fun xs => noExc (dcL t c k v rt (wipes own env) xs [] [])

/-! ### combinators: expressions that change what names hold alone -/
def eP (p : PDen) : Den := fun rt env => (p rt env).bind fun d => .ok (d, env)
def eAll : List Den → RT → Env → Out (List D × Env)
  | [], _, env => .ok ([], env)
  | d :: ds, rt, env => (d rt env).bind fun r => (eAll ds rt r.2).bind fun q => .ok (r.1 :: q.1, q.2)
/-- the values held by nobody alone -/
def eAllF (ds : List Den) (rt : RT) (env : Env) : Out (List D × Env) := (eAll ds rt env).bind fun r => .ok (freezes r.1, r.2)
def eN (f : OpF) (ds : List Den) : Den := fun rt env => (eAllF ds rt env).bind fun r => (f rt r.1).bind fun d => .ok (d, r.2)
def eLst (ds : List Den) : Den := fun rt env => (eAllF ds rt env).bind fun r => .ok (.lst true r.1, r.2)
def eIte (t a b : Den) : Den := fun rt env => (t rt env).bind fun r => (asB r.1).bind fun c => match c with
  | true => a rt r.2
  | false => b rt r.2
def eAnd (a b : Den) : Den := fun rt env => (a rt env).bind fun r => (asB r.1).bind fun c => match c with
  | true => b rt r.2
  | false => .ok (.bl false, r.2)
def eOr (a b : Den) : Den := fun rt env => (a rt env).bind fun r => (asB r.1).bind fun c => match c with
  | true => .ok (.bl true, r.2)
  | false => b rt r.2
def eNot (a : Den) : Den := fun rt env => (a rt env).bind fun r => (asB r.1).bind fun c => .ok (.bl (!c), r.2)
def isNul : D → Bool
  | .nul => true
  | _ => false
/-- f(x, ..), x a name whose object f may change -/
def eIO (f i : Nat) (ds : List Den) : Den := fun rt env => if isNul (env.getD i .nul) then .bad else (eAllF ds rt env).bind fun r => match r.2.getD i .nul with
  | .nul => .bad
  | d => if allFrz r.1 then (rt.call f (d :: r.1)).bind fun q => .ok (q.1, r.2.set i q.2) else .bad
/-- x.pop(), x.pop(k) of a name's own list; d.pop(k, x) of a name's own dict -/
def ePop (i : Nat) : Den := fun _ env => match env.getD i .nul with
  | .lst true xs => match xs.getLast? with
    | some x => .ok (x, env.set i (.lst true xs.dropLast))
    | none => .bad
  | _ => .bad
def okWipe (env : Env) (own : List Nat) : Bool := own.all fun i => match env.getD i .nul with
  | .nul => true
  | d => isFrz d
def restore : List Nat → Env → Env → Env
  | [], _, env => env
  | i :: is, old, env => (restore is old env).set i (old.getD i .nul)
/-- a comprehension whose items change what names hold -/
def eLcL (t : Pat) (c e : Den) (rt : RT) : List D → Env → Out (List D × Env)
  | [], env => .ok ([], env)
  | x :: xs, env => match bindP t x env with
    | some en => (c rt en).bind fun r => (asB r.1).bind fun b => match b with
      | true => (e rt r.2).bind fun q => (eLcL t c e rt xs q.2).bind fun p => .ok (freeze q.1 :: p.1, p.2)
      | false => eLcL t c e rt xs r.2
    | none => .bad
/-- the items to walk: of values that nobody holds alone -/
structure EItr where
  f : List D → Option (List D)
  ds : List Den
def EItr.run (I : EItr) (rt : RT) (env : Env) : Out (List D × Env) := (eAllF I.ds rt env).bind fun r => match I.f r.1 with
  | some xs => if xs.length ≤ sizeMax ∧ allFrz xs = true then .ok (xs, r.2) else .bad
  | none => .bad
def eLc (it : EItr) (t : Pat) (c e : Den) (own : List Nat) : Den := fun rt env => (it.run rt env).bind fun r => if okWipe r.2 own then
  (noExc (eLcL t c e rt r.1 (wipes own r.2))).bind fun p => .ok (.lst true p.1, restore own r.2 p.2) else .bad

/-- a comprehension whose walk alone changes something -/
def eLcP (it : EItr) (t : Pat) (c e : PDen) (own : List Nat) : Den := fun rt env => (it.run rt env).bind fun r => (noExc (lcL t c e rt (wipes own r.2) r.1)).bind fun ds => .ok (.lst true ds, r.2)

/-! ### combinators: statements -/
def ownL : D → Bool
  | .lst true _ => true
  | _ => false
inductive Tgt where
  | nm (i : Nat) | tp (ts : List Tgt) | ix (i : Nat) (e : PDen)
def setAt (c k v : D) : Option D := match c, k with
  | .lst true xs, .int j => (place xs.length j).map fun p => .lst true (xs.set p v)
  | _, _ => none
def ofO {α : Type} (o : Option α) : Out α := match o with
  | some a => .ok a
  | none => .bad
mutual
def asg : Tgt → RT → D → Env → Out Env
  | .nm i, _, v, env => .ok (env.set i v)
  | .tp ts, rt, v, env => match v with
    | .tup xs => if xs.length = ts.length then asgs ts rt xs env else .bad
    | _ => .bad
  | .ix i e, rt, v, env => if ownL (env.getD i .nul) then (e rt env).bind fun k => (ofO (setAt (env.getD i .nul) k v)).bind fun c => .ok (env.set i c) else .bad
def asgs : List Tgt → RT → List D → Env → Out Env
  | [], _, vs, env => match vs with
    | [] => .ok env
    | _ => .bad
  | t :: ts, rt, vs, env => match vs with
    | [] => .bad
    | v :: vs => (asg t rt v env).bind fun e => asgs ts rt vs e
end
/-- what names hold alone, let go -/
def fzEnv (is : List Nat) (env : Env) : Env := is.foldl (fun e i => if isFrz (e.getD i .nul) then e else e.set i (freeze (e.getD i .nul))) env
def eFz (is : List Nat) (d : Den) : Den := fun rt env => d rt (fzEnv is env)
def sPass : SDen := fun _ env => .next env
def sSeq (a b : SDen) : SDen := fun rt env => match a rt env with
  | .next e => b rt e
  | o => o
def sOut (x : Out Env) : SOut := match x with
  | .ok e => .next e
  | .exc c fs => .exc c fs
  | .bad => .bad
def sFz (is : List Nat) : SDen := fun _ env => .next (fzEnv is env)
def sExpr (d : Den) : SDen := fun rt env => sOut ((d rt env).bind fun r => .ok r.2)
def sRet (d : Den) : SDen := fun rt env => match d rt env with
  | .ok (x, e) => .ret x e
  | .exc c fs => .exc c fs
  | .bad => .bad
/-- return x, of a name: the object goes -/
def sRetV (i : Nat) : SDen := fun _ env => match env.getD i .nul with
  | .nul => .bad
  | d => .ret d (env.set i .nul)
def sRetN : SDen := fun _ env => .ret .non env
def sIf (t : Den) (a b : SDen) : SDen := fun rt env => match t rt env with
  | .ok (.bl true, e) => a rt e
  | .ok (.bl false, e) => b rt e
  | .exc c fs => .exc c fs
  | _ => .bad
def sAsg (t : Tgt) (d : Den) : SDen := fun rt env => sOut ((d rt env).bind fun r => asg t rt r.1 r.2)
/-- a, b, .. = x, y, ..: names alone -/
def setsE : List Nat → List D → Env → Env
  | i :: is, d :: ds, env => setsE is ds (env.set i d)
  | _, _, env => env
def sPar (is : List Nat) (ds : List Den) : SDen := fun rt env => sOut ((eAll ds rt env).bind fun r => .ok (setsE is r.1 r.2))
/-- x op= e of a name's int -/
def sAug (i : Nat) (f : OpF) (e : PDen) : SDen := fun rt env => sOut ((pAll [pSee i, e] rt env).bind fun xs => (f rt xs).bind fun d => .ok (env.set i d))
/-- x[k] op= e, x[j][k] op= e -/
def sAugIx (t : Tgt) (g e : PDen) (f : OpF) : SDen := fun rt env => sOut ((pAll [g, e] rt env).bind fun xs => (f rt xs).bind fun d => asg t rt d env)
def forL (t : Tgt) (b : SDen) (rt : RT) : List D → Env → SOut
  | [], env => .next env
  | x :: xs, env => match asg t rt x env with
    | .ok e => (match b rt e with
      | .next e => forL t b rt xs e
      | o => o)
    | .exc c fs => .exc c fs
    | .bad => .bad
def sFor (t : Tgt) (it : EItr) (b : SDen) : SDen := fun rt env => match it.run rt env with
  | .ok (xs, env) => forL t b rt xs env
  | .exc c fs => .exc c fs
  | .bad => .bad
def whileL (t : Den) (b : SDen) (rt : RT) : Nat → Env → SOut
  | 0, _ => .bad
  | n + 1, env => match t rt env with
    | .ok (.bl true, e) => (match b rt e with
      | .next e => whileL t b rt n e
      | o => o)
    | .ok (.bl false, e) => .next e
    | .exc c fs => .exc c fs
    | _ => .bad
def sWhile (t : Den) (b : SDen) : SDen := fun rt env => whileL t b rt rt.W env
def sAppend (i : Nat) (d : Den) : SDen := fun rt env => if ownL (env.getD i .nul) then sOut ((d rt env).bind fun r => match r.2.getD i .nul with
  | .lst true xs => if xs.length < sizeMax then .ok (r.2.set i (.lst true (xs ++ [r.1]))) else .bad
  | _ => .bad) else .bad
def sExtend (i : Nat) (d : Den) : SDen := fun rt env => if ownL (env.getD i .nul) then sOut ((d rt env).bind fun r => match r.2.getD i .nul, r.1 with
  | .lst true xs, .lst true ys => if xs.length + ys.length ≤ sizeMax then .ok (r.2.set i (.lst true (xs ++ ys))) else .bad
  | _, _ => .bad) else .bad
def eraseEq (x : D) : List D → Option (List D)
  | [] => none
  | y :: ys => match eqv y x with
    | some true => some ys
    | some false => (eraseEq x ys).map (y :: ·)
    | none => none
def sRemove (i : Nat) (d : PDen) : SDen := fun rt env => sOut ((d rt env).bind fun r => match env.getD i .nul with
  | .lst true xs => (match eraseEq r xs with
    | some ys => .ok (env.set i (.lst true ys))
    | none => .bad)
  | _ => .bad)
def sRaise (c : Nat) (ps : List PDen) : SDen := fun rt env => match pAll ps rt env with
  | .ok xs => .exc c (freezes xs)
  | .exc c fs => .exc c fs
  | .bad => .bad
/-- a suite that returns: its value, of the error's fields -/
abbrev Suite := List D → Option D
/-- suites' values -/
def suK (d : D) : Suite := fun _ => some d
def suF : Suite := fun fs => match fs with
  | [d] => some d
  | _ => none
def suT (g : List D → Option (List D)) : Suite := fun fs => (g fs).bind fun xs => if xs.length ≤ sizeMax then some (.tup xs) else none
def suNil : List D → Option (List D) := fun _ => some []
def suCons (f : Suite) (g : List D → Option (List D)) : List D → Option (List D) := fun fs => match f fs, g fs with
  | some x, some xs => some (x :: xs)
  | _, _ => none
/-- an except clause: its class, the slot of its name, its value of the error's fields -/
structure Hd where
  c : Nat
  i : Option Nat
  f : Suite
def hFind (c : Nat) : List Hd → Option Suite
  | [] => none
  | h :: r => if c = h.c then some h.f else hFind c r
/-- kn: the classes that are told apart -/
def sTry (kn : List Nat) (b : SDen) (hs : List Hd) : SDen := fun rt env => match b rt env with
  | .exc c fs => if kn.contains c then (match hFind c hs with
    | some f => (match f fs with
      | some d => .ret d []
      | none => .bad)
    | none => .exc c fs) else .bad
  | o => o

/-! ### functions -/
def ioOut (io : Bool) (d : D) (e : Env) : Out (D × D) := match io with
  | true => (match e.getD 0 .nul with
    | .nul => .bad
    | x => .ok (d, x))
  | false => .ok (d, .non)
def runF (b : SDen) (n : Nat) (io : Bool) (rt : RT) (as : List D) : Out (D × D) := match b rt (as ++ List.replicate (n - as.length) .nul) with
  | .next e => ioOut io .non e
  | .ret d e => ioOut io d e
  | .exc c fs => .exc c fs
  | .bad => .bad
structure Fn where
  body : SDen
  size : Nat
  pars : Nat
  io : Bool
  dfl : List D := []
structure Prog where
  fns : List Fn
  tab : Tab
  W : Nat
def callF (P : Prog) : Nat → Nat → List D → Out (D × D)
  | 0, _, _ => .bad
  | n + 1, f, as => match P.fns[f]? with
    | some F => if as.length ≤ F.pars && (as.length + F.dfl.length ≥ F.pars) then runF F.body F.size F.io ⟨callF P n, P.W, P.tab⟩ (as ++ F.dfl.drop (F.dfl.length - (F.pars - as.length))) else .bad
    | none => .bad
end Z
end

section
set_option linter.all false
/-! Z1: from the text to combinators. -/
namespace Z
open PySem

inductive Gv where
  | fn (i : Nat) | cls (i : Nat) | con (d : D) | exc (c : Nat) (init : Bool) | unk
structure CC where
  sc : Scope
  N : List Str
  raw : Option Scope
  gl : Str → Option Gv
  io : Bool
  iof : Nat → Bool
  flds : Str → List (Nat × Nat)
  meths : List Str
  own : List Nat := []
  kn : List Nat := []
  xf : Nat → Str := fun _ => Str.ofString ""

def ixOf (x : Str) : List Str → Nat → Option Nat
  | [], _ => none
  | y :: ys, n => if x = y then some n else ixOf x ys (n + 1)
/-- no name of the compiler's own -/
def okN (x : Str) : Bool := !(x == ("__debug__" : Str)) && (!(x == ("__classdict__" : Str)) && !(x == ("__name__" : Str)))
/-- the slot of a name that is read -/
def CC.slot (C : CC) (x : Str) : Option Nat := if !okN x then none else match C.sc.names.lookup x with
  | some .local => ixOf x C.N 0
  | some .cell => ixOf x C.N 0
  | some .free => ixOf x C.N 0
  | _ => none
/-- the slot of a name that is stored -/
def CC.fnb (C : CC) (x : Str) : Bool := match C.raw with
  | none => true
  | some sc => sc.names.lookup x == some .cell
def CC.slotS (C : CC) (x : Str) : Option Nat := if !okN x then none else match C.sc.names.lookup x with
  | some .local => ixOf x C.N 0
  | some .cell => if C.fnb x then ixOf x C.N 0 else none
  | _ => none
def CC.glob (C : CC) (x : Str) : Option Gv := if !okN x then none else match C.sc.names.lookup x with
  | some .globalImplicit => C.gl x
  | _ => none
def CC.isB (C : CC) (x : Str) : Bool := okN x && match C.sc.names.lookup x with
  | some .globalImplicit => (C.gl x).isNone
  | _ => false
abbrev S (s : String) : Str := Str.ofString s
def tyOf (x : Str) : Option Ty :=
  if x = S "int" then some .int else if x = S "bool" then some .bool else if x = S "str" then some .str
  else if x = S "list" then some .lst else if x = S "tuple" then some .tup else if x = S "dict" then some .dic else none
def CC.clOf (C : CC) : Expr → Option Cl
  | .Name x _ => match C.glob x with
    | some (.cls c) => some (.cls c)
    | some _ => none
    | none => if C.isB x then (tyOf x).map .ty else none
  | _ => none
def CC.clsOf (C : CC) : Expr → Option (List Cl)
  | .Tuple es _ _ => es.mapM C.clOf
  | e => (C.clOf e).map fun c => [c]
def cmOf : CmpOp → Option Cm
  | .Eq => some .eq
  | .NotEq => some .ne
  | .Lt => some .lt
  | .LtE => some .le
  | .Gt => some .gt
  | .GtE => some .ge
  | .In => some .isin
  | .NotIn => some .notin
  | _ => none
def opOf : Operator → Option (Op2 × Str)
  | .Add => some (.add, S "__add__")
  | .Sub => some (.sub, S "__sub__")
  | .Mult => some (.mul, S "__mul__")
  | .FloorDiv => some (.fdiv, S "__floordiv__")
  | .Mod => some (.mod, S "__mod__")
  | _ => none
/-- built-in functions: a type's name or a function's -/
inductive Bf where
  | len | all | any | sum | sorted | abs | tuple | list | int | min2 | max2
  deriving DecidableEq
def bf1 (x : Str) : Option Bf :=
  if x = S "len" then some .len else if x = S "all" then some .all else if x = S "any" then some .any else if x = S "sum" then some .sum
  else if x = S "sorted" then some .sorted else if x = S "abs" then some .abs else if x = S "tuple" then some .tuple else if x = S "list" then some .list
  else if x = S "int" then some .int else none
def bf2 (x : Str) : Option Bf := if x = S "min" then some .min2 else if x = S "max" then some .max2 else none
def bfN : Bf → Nat → Bool
  | .min2, n => n == 2
  | .max2, n => n == 2
  | _, n => n == 1
def bfO : Bf → OpF
  | .len => o1 len1
  | .all => o1 all1
  | .any => o1 any1
  | .sum => o1 sum1
  | .sorted => o1 sorted1
  | .abs => o1 abs1
  | .tuple => o1 tuple1
  | .list => o1 list1
  | .int => o1 int1
  | .min2 => o2 min2
  | .max2 => o2 max2
def mt1 (x : Str) : Option (D → D → Option D) :=
  if x = S "index" then some index2 else if x = S "count" then some count2 else if x = S "join" then some join2
  else if x = S "split" then some split2 else if x = S "strip" then some strip2 else if x = S "partition" then some partition2
  else if x = S "removeprefix" then some removeprefix2 else if x = S "startswith" then some startswith2 else none
def isNegOne : Expr → Bool
  | .UnaryOp .USub (.Constant (.int 1) _ _) _ => true
  | _ => false
def fvals : List Expr → Option (List Expr)
  | [] => some []
  | .Constant (.str s) k p :: r => (fvals r).map (.Constant (.str s) k p :: ·)
  | .FormattedValue v c none _ :: r => if c = -1 then (fvals r).map (v :: ·) else none
  | _ => none
def pairUp : List (Option Expr) → List Expr → Option (List Expr)
  | [], [] => some []
  | some k :: ks, v :: vs => (pairUp ks vs).map fun r => k :: v :: r
  | _, _ => none
/-- a call of a name: what it is, on values -/
inductive Kind where
  | op (f : OpF) | io (k : Nat) | no
def bltF (x : Str) (n : Nat) : Option Bf := match n with
  | 1 => bf1 x
  | 2 => bf2 x
  | _ => none
/-- a built-in function of so many arguments -/
def blt (x : Str) (n : Nat) : Option OpF := (bltF x n).map bfO
def CC.kind (C : CC) (f : Str) (n : Nat) : Kind := match C.glob f with
  | some (.fn k) => if C.iof k then .io k else .op (oCall k)
  | some _ => .no
  | none => if C.isB f then (match blt f n with
    | some h => .op h
    | none => .no) else .no
/-- a method of data, of own objects -/
def CC.mkind (C : CC) (m : Str) (n : Nat) : Option OpF := if C.meths.contains m then some (oMeth m) else match n with
  | 1 => (mt1 m).map o2
  | 2 => if m = S "get" then some (o3 get3) else none
  | _ => none
/-- something in it changes what a name holds -/
def impE : Nat → CC → Expr → Bool
  | 0, _, _ => true
  | n + 1, C, e => match e with
    | .BoolOp _ es _ => es.any (impE n C)
    | .BinOp a _ b _ => impE n C a || impE n C b
    | .UnaryOp _ a _ => impE n C a
    | .IfExp a b c _ => impE n C a || (impE n C b || impE n C c)
    | .Dict ks vs _ => (ks.filterMap id).any (impE n C) || vs.any (impE n C)
    | .ListComp el gs _ _ => impE n C el || gs.any fun g => impE n C g.iter || g.ifs.any (impE n C)
    | .DictComp k v gs _ _ => (impE n C k || impE n C v) || gs.any fun g => impE n C g.iter || g.ifs.any (impE n C)
    | .Compare a _ bs _ => impE n C a || bs.any (impE n C)
    | .Call (.Name f _) as _ _ => (match C.gl f with
      | some (.fn k) => C.iof k
      | _ => false) || as.any (impE n C)
    | .Call (.Attribute o m _) as _ _ => decide (m = S "pop") || (impE n C o || as.any (impE n C))
    | .Call f as _ _ => impE n C f || as.any (impE n C)
    | .FormattedValue v _ _ _ => impE n C v
    | .JoinedStr vs _ => vs.any (impE n C)
    | .Attribute v _ _ => impE n C v
    | .Subscript a b _ => impE n C a || impE n C b
    | .List es _ => es.any (impE n C)
    | .Tuple es _ _ => es.any (impE n C)
    | .Slice a b c _ => ((a.toList ++ b.toList) ++ c.toList).any (impE n C)
    | _ => false
def imp (C : CC) (e : Expr) : Bool := impE 60 C e
def CC.ownOf (C : CC) (sc : Scope) : List (Str × Nat) := sc.names.filterMap fun y => match y.2 with
  | .local => (ixOf y.1 C.N 0).map fun i => (y.1, i)
  | .cell => (ixOf y.1 C.N 0).map fun i => (y.1, i)
  | _ => none
def CC.blk (C : CC) (sc : Scope) : CC := { C with sc := L2.relS sc C.sc, raw := some sc }
mutual
def Pat.slots : Pat → List Nat
  | .nm i => [i]
  | .tp ps => Pat.slotss ps
def Pat.slotss : List Pat → List Nat
  | [] => []
  | p :: ps => p.slots ++ Pat.slotss ps
end
mutual
def cPat : Nat → CC → Expr → Option Pat
  | 0, _, _ => none
  | n + 1, C, e => match e with
    | .Name x _ => match C.slotS x with
      | some i => if C.io && i == 0 then none else some (.nm i)
      | none => none
    | .Tuple es _ _ => (cPats n C es).map .tp
    | _ => none
def cPats : Nat → CC → List Expr → Option (List Pat)
  | 0, _, _ => none
  | n + 1, C, es => match es with
    | [] => some []
    | e :: es => match cPat n C e, cPats n C es with
      | some p, some ps => some (p :: ps)
      | _, _ => none
end
def CC.tys (C : CC) : List Expr → Option (List Ty)
  | [] => some []
  | .Name x _ :: es => if C.isB x then (match tyOf x, C.tys es with
    | some t, some ts => some (t :: ts)
    | _, _ => none) else none
  | _ => none
/-- isinstance's classes: built-in types -/
def CC.tysOf (C : CC) : Expr → Option (List Ty × Bool)
  | .Name x _ => if C.isB x then (tyOf x).map fun t => ([t], false) else none
  | .Tuple es _ _ => if es.length ≤ 100 then (C.tys es).map fun ts => (ts, true) else none
  | _ => none
def isTupE : Expr → Bool
  | .Tuple _ _ _ => true
  | _ => false
mutual
/-- to hand on -/
def cP : Nat → CC → Expr → Option PDen
  | 0, _, _ => none
  | n + 1, C, e => match e with
    | .Constant c _ _ => match c with
      | .int i => some (pLit (.int i))
      | .bool b => some (pLit (.bl b))
      | .none => some (pLit .non)
      | .str s => some (pLit (.str s))
      | _ => none
    | .Name x _ => match C.slot x with
      | some i => some (pRd i)
      | none => match C.glob x with
        | some (.fn i) => some (pLit (.fn i))
        | some (.con d) => some (pLit d)
        | _ => none
    | .BinOp a o b _ => match opOf o, cV n C a, cV n C b with
      | some (o, m), some x, some y => some (pN (oBin (op2D o) m) [x, y])
      | _, _, _ => none
    | .UnaryOp o a _ => match o, cV n C a with
      | .Not, some x => some (pNot x)
      | .USub, some x => some (pN (oUn neg1 (S "__neg__")) [x])
      | _, _ => none
    | .BoolOp o es _ => cPB n C o es
    | .Compare a os bs _ => match os, bs with
      | [o], [b] => match o, b with
        | .Is, .Constant .none _ _ => (cV n C a).map fun x => pN (o1 isNone1) [x]
        | .IsNot, .Constant .none _ _ => (cV n C a).map fun x => pN (o1 notNone1) [x]
        | _, _ => match cmOf o, cV n C a, cV n C b with
          | some c, some x, some y => some (pN (o2 (cmD c)) [x, y])
          | _, _, _ => none
      | [o, o'], [b, b'] => match cmOf o, cmOf o', cV n C a, cV n C b, cV n C b' with
        | some c, some c', some x, some y, some y' => some (pChn (cmD c) (cmD c') x y y')
        | _, _, _, _, _ => none
      | _, _ => none
    | .IfExp t a b _ => match cV n C t, cP n C a, cP n C b with
      | some t, some x, some y => some (pIte t x y)
      | _, _, _ => none
    | .Tuple es _ _ => (cAs n C es).map (pN oTup)
    | .List es _ => if es.length ≤ 1000 then (cPs n C es).map pLst else none
    | .Subscript o i _ => match i with
      | .Slice lo hi none _ => match cV n C o, cVo n C lo, cVo n C hi with
        | some x, some l, some h => some (pN (o3 slice3) [x, l, h])
        | _, _, _ => none
      | .Slice _ _ (some _) _ => none
      | b => match cV n C o, cV n C b with
        | some x, some y => some (pN (o2 idxF) [x, y])
        | _, _ => none
    | .ListComp el gs sc _ => match gs with
      | [⟨t, it, ifs, 0⟩] => if L2.blkC C.N C.sc sc (C.ownOf sc) then
          match cI n C (isTupE t) it, cPat n (C.blk sc) t, cIfs n (C.blk sc) ifs, cP n (C.blk sc) el with
          | some i, some p, some c, some e => if p.slots.all fun k => ((C.ownOf sc).map (·.2)).contains k then some (pLc i p c e ((C.ownOf sc).map (·.2))) else none
          | _, _, _, _ => none
        else none
      | _ => none
    | .Call f as ks _ => match f, ks with
      | .Name f _, [] => match C.slot f with
        | some i => if as.isEmpty then none else (cAs n C as).map (pCallV i)
        | none => cPC n C f as
      | _, _ => none
    | _ => none
/-- a call of a global name -/
def cPC : Nat → CC → Str → List Expr → Option PDen
  | 0, _, _, _ => none
  | n + 1, C, f, as => match C.glob f with
    | some g => (match g with
      | .fn k => if C.iof k then none else (cAs n C as).map fun ds => pN (oCall k) ds
      | _ => none)
    | none => if !C.isB f then none else if f = S "isinstance" then (match as with
      | [a, b] => (match cV n C a, C.tysOf b with
        | some x, some ts => some (pN (o1 (isInst1 (ts.1.map .ty))) [x])
        | _, _ => none)
      | _ => none) else (match bltF f as.length, cVs n C as with
        | some h, some ds => some (pN (bfO h) ds)
        | _, _ => none)
/-- to look at -/
def cV : Nat → CC → Expr → Option PDen
  | 0, _, _ => none
  | n + 1, C, e => match e with
    | .Name x p => match C.slot x with
      | some i => some (pSee i)
      | none => cP n C (.Name x p)
    | .Constant c k p => cP n C (.Constant c k p)
    | .Subscript o i p => match i with
      | .Slice lo hi st q => (cP n C (.Subscript o (.Slice lo hi st q) p)).map pFz
      | b => match cV n C o, cV n C b with
        | some x, some y => some (pN (o2 idx2) [x, y])
        | _, _ => none
    | e => (cP n C e).map pFz
def cVo : Nat → CC → Option Expr → Option PDen
  | 0, _, _ => none
  | n + 1, C, e => match e with
    | some e => (cV n C e).map pInt
    | none => some (pLit .non)
def cVs : Nat → CC → List Expr → Option (List PDen)
  | 0, _, _ => none
  | n + 1, C, es => match es with
    | [] => some []
    | e :: es => match cV n C e, cVs n C es with
      | some x, some xs => some (x :: xs)
      | _, _ => none
/-- to hand on, held by nobody alone -/
def cAs : Nat → CC → List Expr → Option (List PDen)
  | 0, _, _ => none
  | n + 1, C, es => match es with
    | [] => some []
    | e :: es => match cP n C e, cAs n C es with
      | some x, some xs => some (pFz x :: xs)
      | _, _ => none
def cPs : Nat → CC → List Expr → Option (List PDen)
  | 0, _, _ => none
  | n + 1, C, es => match es with
    | [] => some []
    | e :: es => match cP n C e, cPs n C es with
      | some x, some xs => some (x :: xs)
      | _, _ => none
/-- and, or as a value -/
def cPB : Nat → CC → BoolOp → List Expr → Option PDen
  | 0, _, _, _ => none
  | n + 1, C, o, es => match es with
    | [] => none
    | [e] => cP n C e
    | e :: e' :: es => match cV n C e, cPB n C o (e' :: es) with
      | some x, some y => some (match o with
        | .And => pAnd x y
        | .Or => pOr x y)
      | _, _ => none
def cIfs : Nat → CC → List Expr → Option PDen
  | 0, _, _ => none
  | n + 1, C, es => match es with
    | [] => some pTrue
    | [e] => cV n C e
    | _ => none
/-- what is walked; tp: the target is a tuple -/
def cI : Nat → CC → Bool → Expr → Option Itr
  | 0, _, _, _ => none
  | n + 1, C, tp, e => match e with
    | .Call (.Name f p) as [] q => if C.isB f && f = S "range" then (if as.length = 1 ∨ as.length = 2 then (cVs n C as).map fun ds => ⟨fRange, ds⟩ else none)
      else if C.isB f && f = S "zip" then (if as.length = 2 ∧ tp = true then (cVs n C as).map fun ds => ⟨fZip, ds⟩ else none)
      else if C.isB f && f = S "enumerate" then (if as.length = 1 ∧ tp = true then (cVs n C as).map fun ds => ⟨fEnum, ds⟩ else none)
      else (cV n C (.Call (.Name f p) as [] q)).map fun d => ⟨fItems, [d]⟩
    | e => (cV n C e).map fun d => ⟨fItems, [d]⟩
end
end Z
end

section
set_option linter.all false
/-! Z1i: from the text to combinators: what changes something. -/
namespace Z
open PySem
mutual
def cTg : Nat → CC → Expr → Option Tgt
  | 0, _, _ => none
  | n + 1, C, e => match e with
    | .Name x _ => match C.slotS x with
      | some i => if C.io && i == 0 then none else some (.nm i)
      | none => none
    | .Tuple es _ _ => (cTgs n C es).map .tp
    | .Subscript o a _ => match o with
      | .Name x _ => match C.slot x, cP 100 C a with
        | some i, some u => some (.ix i u)
        | _, _ => none
      | _ => none
    | _ => none
def cTgs : Nat → CC → List Expr → Option (List Tgt)
  | 0, _, _ => none
  | n + 1, C, es => match es with
    | [] => some []
    | e :: es => match cTg n C e, cTgs n C es with
      | some p, some ps => some (p :: ps)
      | _, _ => none
end
def isSl : Expr → Bool
  | .Slice _ _ _ _ => true
  | _ => false
mutual
/-- an expression that may change what names hold alone -/
def cE : Nat → CC → Expr → Option Den
  | 0, _, _ => none
  | n + 1, C, e => if !imp C e then (cP 100 C e).map eP else match e with
    | .BinOp a o b _ => match opOf o, cE n C a, cE n C b with
      | some (o, m), some x, some y => some (eN (oBin (op2D o) m) [x, y])
      | _, _, _ => none
    | .UnaryOp o a _ => match o, cE n C a with
      | .Not, some x => some (eNot x)
      | .USub, some x => some (eN (oUn neg1 (S "__neg__")) [x])
      | _, _ => none
    | .BoolOp o es _ => cEB n C o es
    | .Compare a os bs _ => match os, bs with
      | [o], [b] => match cmOf o, cE n C a, cE n C b with
        | some c, some x, some y => some (eN (o2 (cmD c)) [x, y])
        | _, _, _ => none
      | _, _ => none
    | .IfExp t a b _ => match cE n C t, cE n C a, cE n C b with
      | some t, some x, some y => some (eIte t x y)
      | _, _, _ => none
    | .Tuple es _ _ => (cEs n C es).map (eN oTup)
    | .List es _ => if es.length ≤ 1000 then (cEs n C es).map eLst else none
    | .ListComp el gs sc _ => match gs with
      | [⟨t, it, ifs, 0⟩] => if L2.blkC C.N C.sc sc (C.ownOf sc) then
          match cEI n C (isTupE t) it, cPat 100 (C.blk sc) t, cIfs 100 (C.blk sc) ifs, cP 100 (C.blk sc) el with
          | some i, some p, some c, some e => if p.slots.all fun k => ((C.ownOf sc).map (·.2)).contains k then some (eLcP i p c e ((C.ownOf sc).map (·.2))) else none
          | _, _, _, _ => none
        else none
      | _ => none
    | .Subscript o i _ => if isSl i then none else match cE n C o, cE n C i with
      | some x, some y => some (eN (o2 idxF) [x, y])
      | _, _ => none
    | .Call f as ks p => match f, ks with
      | .Name f _, [] => (match C.slot f with
        | some _ => none
        | none => cEC n C f as)
      | .Attribute (.Name x _) m q, [] => if m = S "pop" ∧ (q.endLine == p.line) = true then (match as, C.slot x with
        | [], some i => some (ePop i)
        | _, _ => none) else none
      | _, _ => none
    | _ => none
/-- a call of a global name -/
def cEC : Nat → CC → Str → List Expr → Option Den
  | 0, _, _, _ => none
  | n + 1, C, f, as => match C.glob f with
    | some g => (match g with
      | .fn k => if C.iof k then (match as with
          | .Name x _ :: r => (match C.slot x, cEs n C r with
            | some i, some ds => some (eIO k i ds)
            | _, _ => none)
          | _ => none) else (cEs n C as).map (eN (oCall k))
      | _ => none)
    | none => if !C.isB f then none else match bltF f as.length, cEs n C as with
      | some h, some ds => some (eN (bfO h) ds)
      | _, _ => none
def cEs : Nat → CC → List Expr → Option (List Den)
  | 0, _, _ => none
  | n + 1, C, es => match es with
    | [] => some []
    | e :: es => match cE n C e, cEs n C es with
      | some x, some xs => some (x :: xs)
      | _, _ => none
def cEB : Nat → CC → BoolOp → List Expr → Option Den
  | 0, _, _, _ => none
  | n + 1, C, o, es => match es with
    | [] => none
    | [e] => cE n C e
    | e :: e' :: es => match cE n C e, cEB n C o (e' :: es) with
      | some x, some y => some (match o with
        | .And => eAnd x y
        | .Or => eOr x y)
      | _, _ => none
/-- what is walked; tp: the target is a tuple -/
def cEI : Nat → CC → Bool → Expr → Option EItr
  | 0, _, _, _ => none
  | n + 1, C, tp, e => match e with
    | .Call (.Name f p) as [] q => if C.isB f && f = S "range" then (if as.length = 1 ∨ as.length = 2 then (cEs n C as).map fun ds => ⟨fRange, ds⟩ else none)
      else if C.isB f && f = S "zip" then (if as.length = 2 ∧ tp = true then (cEs n C as).map fun ds => ⟨fZip, ds⟩ else none)
      else if C.isB f && f = S "enumerate" then (if as.length = 1 ∧ tp = true then (cEs n C as).map fun ds => ⟨fEnum, ds⟩ else none)
      else (cE n C (.Call (.Name f p) as [] q)).map fun d => ⟨fItems, [d]⟩
    | e => (cE n C e).map fun d => ⟨fItems, [d]⟩
end
end Z
end

section
set_option linter.all false
/-! Z1s: from the text to combinators: statements (unfinished: Assign, AugAssign, Raise, Try are left). -/
namespace Z
open PySem
mutual
/-- the names that are handed on in it -/
def hn : Nat → CC → Expr → List Nat
  | 0, _, _ => []
  | n + 1, C, e => match e with
    | .Name x _ => (C.slot x).toList
    | .BinOp a _ b _ => if imp C e then hn n C a ++ hn n C b else hv n C a ++ hv n C b
    | .UnaryOp _ a _ => if imp C e then hn n C a else hv n C a
    | .BoolOp _ es _ => es.flatMap (hn n C)
    | .Compare a _ bs _ => if imp C e then hn n C a ++ bs.flatMap (hn n C) else hv n C a ++ bs.flatMap (hv n C)
    | .IfExp t a b _ => hn n C t ++ (hn n C a ++ hn n C b)
    | .Tuple es _ _ => es.flatMap (hn n C)
    | .List es _ => es.flatMap (hn n C)
    | .Dict ks vs _ => (ks.filterMap id).flatMap (hn n C) ++ vs.flatMap (hn n C)
    | .JoinedStr vs _ => vs.flatMap (hv n C)
    | .FormattedValue v _ _ _ => hv n C v
    | .Attribute o _ _ => hv n C o
    | .Subscript a b _ => if imp C e then hn n C a ++ hn n C b else hv n C a ++ hv n C b
    | .Slice a b c _ => ((a.toList ++ b.toList) ++ c.toList).flatMap (hv n C)
    | .ListComp el gs sc _ => (hn n (C.blk sc) el ++ gs.flatMap fun g => (if imp C e then hn n C g.iter else hv n C g.iter) ++ g.ifs.flatMap (hn n (C.blk sc))).filter fun i => !((C.ownOf sc).map (·.2)).contains i
    | .DictComp k v gs sc _ => (hn n (C.blk sc) k ++ (hn n (C.blk sc) v ++ gs.flatMap fun g => hv n C g.iter ++ g.ifs.flatMap (hn n (C.blk sc)))).filter fun i => !((C.ownOf sc).map (·.2)).contains i
    | .Call (.Name f _) as _ _ => (C.slot f).toList ++ (match C.glob f with
      | some (.fn k) => if C.iof k then as.tail.flatMap (hn n C) else as.flatMap (hn n C)
      | some _ => as.flatMap (hn n C)
      | none => if (C.slot f).isSome || imp C e then as.flatMap (hn n C) else as.flatMap (hv n C))
    | .Call (.Attribute o m _) as _ _ => if C.meths.contains m then hv n C o ++ as.flatMap (hn n C) else if imp C e && decide (m ≠ S "pop") then hn n C o ++ as.flatMap (hn n C) else hv n C o ++ as.flatMap (hv n C)
    | _ => []
/-- .. where a name alone is looked at -/
def hv : Nat → CC → Expr → List Nat
  | 0, _, _ => []
  | n + 1, C, e => match e with
    | .Name _ _ => []
    | _ => hn n C e
end
/-- the names to let go ahead of it -/
def CC.fz (C : CC) (es : List Expr) : List Nat := ((es.flatMap (hn 60 C)).filter fun i => C.own.contains i).eraseDups

def intsOnly (f : D → D → Option D) : D → D → Option D
  | .int i, .int j => f (.int i) (.int j)
  | _, _ => none
def tgEs : Nat → Expr → List Expr
  | 0, _ => []
  | n + 1, e => match e with
    | .Tuple es _ _ => es.flatMap (tgEs n)
    | .Subscript (.Name _ _) a _ => [a]
    | _ => []
def pre (is : List Nat) (d : SDen) : SDen := if is.isEmpty then d else sSeq (sFz is) d
def preE (is : List Nat) (d : Den) : Den := if is.isEmpty then d else eFz is d
/-- the arguments of what is walked by a built-in function -/
def itEs (C : CC) (it : Expr) : List Expr := match it with
  | .Call (.Name f _) as [] _ => if C.isB f then it :: as else [it]
  | _ => [it]
def isLc : Expr → Bool
  | .ListComp _ _ _ _ => true
  | .SetComp _ _ _ _ => true
  | .DictComp _ _ _ _ _ => true
  | _ => false
def isStar : Expr → Bool
  | .Starred _ _ => true
  | _ => false
/-- the names that a, b = x, y stores from the right; none: it is not told -/
def swC (C : CC) (ts vs : List Expr) : Option (Option (List Str)) :=
  if (!(ts.length == 2 || ts.length == 3) || vs.length != ts.length || C.sc.kind != .function) = true then some none else
  if vs.any (fun | .Starred .. => true | _ => false) = true then some none else
  let names := ts.filterMap fun
    | .Name id pos => if (C.sc.names.lookup id == some .local && pos.line == (ts.head?.map (·.pos.line)).getD 0) = true then some id else none
    | _ => none
  if (names.length != ts.length || names.eraseDups.length != names.length) = true then some none else
  if vs.all (foldedForSure 8) = true then some none else
  if vs.all (constantsAlone 8) = true then none else some (some names)
/-- names' slots -/
def cNms (C : CC) : List Expr → Option (List Nat)
  | [] => some []
  | .Name x _ :: r => match C.slotS x, cNms C r with
    | some i, some is => if C.io && i == 0 then none else some (i :: is)
    | _, _ => none
  | _ => none
mutual
/-- an except suite's value; nm: the clause's name and its class's field -/
def cSu : Nat → Option (Str × Str) → Expr → Option Suite
  | 0, _, _ => none
  | n + 1, nm, e => match e with
    | .Constant c _ _ => match c with
      | .int i => some (suK (.int i))
      | .bool b => some (suK (.bl b))
      | .none => some (suK .non)
      | .str s => some (suK (.str s))
      | _ => none
    | .Attribute (.Name x _) f _ => match nm with
      | some (y, g) => if x = y ∧ f = g ∧ okN x = true then some suF else none
      | none => none
    | .Tuple es _ _ => (cSus n nm es).map fun (g : List D → Option (List D)) => suT g
    | _ => none
def cSus : Nat → Option (Str × Str) → List Expr → Option (List D → Option (List D))
  | 0, _, _ => none
  | n + 1, nm, es => match es with
    | [] => some suNil
    | e :: es => match cSu n nm e, cSus n nm es with
      | some f, some g => some (suCons f g)
      | _, _ => none
end
def cHs (C : CC) : List ExceptHandler → Option (List Hd)
  | [] => some []
  | .ExceptHandler (some (.Name x _)) nm [.Return (some e) _] _ :: r => match C.glob x, cHs C r with
    | some (.exc c b), some l => if C.kn.contains c = true then (match nm with
      | none => (cSu 20 none e).map fun f => ⟨c, none, f⟩ :: l
      | some n => match C.slotS n, cSu 20 (some (n, C.xf c)) e with
        | some i, some f => if b = true ∧ C.sc.names.lookup n = some .local then some (⟨c, some i, f⟩ :: l) else none
        | _, _ => none) else none
    | _, _ => none
  | _ => none
def tryB : Stmt → Option (List Stmt × List ExceptHandler)
  | .Try b (h :: hs) [] [] _ => some (b, h :: hs)
  | _ => none
mutual
def cS : Nat → CC → Stmt → Option SDen
  | 0, _, _ => none
  | n + 1, C, s => match s with
    | .Pass _ => some sPass
    | .Expr e _ => match e with
      | .Constant (.str _) _ _ => some sPass
      | .Call f as ks r => match f, as, ks with
        | .Attribute (.Name x p) m q, [a], [] => if (q.endLine == r.line) = true then (match C.slot x, cE 100 C a with
          | some i, some d => if m = S "append" then some (pre (C.fz [a]) (sAppend i d)) else if m = S "extend" then some (pre (C.fz [a]) (sExtend i d)) else none
          | _, _ => none) else none
        | _, _, _ => (cE 100 C (.Call f as ks r)).map fun d => pre (C.fz [.Call f as ks r]) (sExpr d)
      | _ => none
    | .Return none _ => some sRetN
    | .Return (some e) _ => match e with
      | .Name x p => match C.slot x with
        | some i => if C.io && i == 0 then none else some (sRetV i)
        | none => (cE 100 C (.Name x p)).map sRet
      | e => (cE 100 C e).map fun d => pre (C.fz [e]) (sRet d)
    | .If t a b _ => match cE 100 C t, cSs n C a, cSs n C b with
      | some d, some x, some y => some (pre (C.fz [t]) (sIf d x y))
      | _, _, _ => none
    | .Assign ts e _ => match ts with
      | [t] => cAs1 n C t e
      | _ => none
    | .AugAssign t o e _ => match t with
      | .Name x _ => match C.slotS x, opOf o, cV 100 C e with
        | some i, some (o', _), some y => if C.io && i == 0 then none else if o' = .add then some (sAug i (o2 (intsOnly add2)) y) else if o' = .sub then some (sAug i (o2 (intsOnly sub2)) y) else none
        | _, _, _ => none
      | _ => none
    | .Raise (some e) none _ => match e with
      | .Call (.Name x _) [.Constant (.str _) _ _] [] _ => match C.glob x with
        | some (.exc c false) => some (sRaise c [])
        | _ => none
      | _ => none
    | .Try b hs [] [] _ => match hs with
      | [] => none
      | h :: hs => if C.io = true then none else match cSs n C b, cHs C (h :: hs) with
        | some b, some hs => some (sTry C.kn b hs)
        | _, _ => none
    | .For t it b [] _ => match cTg 20 C t, cEI 100 C (isTupE t) it, cSs n C b with
      | some t', some i, some b => some (pre (C.fz (itEs C it)) (sFor t' i b))
      | _, _, _ => none
    | .While t b [] _ => match cE 100 C t, cSs n C b with
      | some d, some b => some (sWhile (preE (C.fz [t]) d) b)
      | _, _ => none
    | _ => none
def cAs1 : Nat → CC → Expr → Expr → Option SDen
  | 0, _, _, _ => none
  | _ + 1, C, t, e =>
    if isTupE t && isTupE e then (match t, e with
      | .Tuple ts _ _, .Tuple vs _ _ => match swC C ts vs with
        | none => none
        | some none => (match cTg 20 C t, cE 100 C e with
          | some t', some d => some (pre (C.fz (e :: tgEs 20 t)) (sAsg t' d))
          | _, _ => none)
        | some (some ns) => (match cNms C ts, cEs 100 C vs with
          | some is, some ds => if ns.length = ts.length ∧ is.length = ts.length ∧ is.Nodup then some (pre (C.fz vs) (sPar is ds)) else none
          | _, _ => none)
      | _, _ => none)
    else if isLc e then (match t, e with
      | .Name y p, .ListComp el gs sc q => match cTg 20 C (.Name y p), cP 100 C (.ListComp el gs sc q) with
        | some (.nm i), some d => some (pre (C.fz [e]) (sAsg (.nm i) (eP d)))
        | _, _ => none
      | _, _ => none)
    else match cTg 20 C t, cE 100 C e with
      | some t', some d => some (pre (C.fz (e :: tgEs 20 t)) (sAsg t' d))
      | _, _ => none
def cSs : Nat → CC → List Stmt → Option SDen
  | 0, _, _ => none
  | n + 1, C, ss => match ss with
    | [] => some sPass
    | [s] => cS n C s
    | s :: s' :: ss => match cS n C s, cSs n C (s' :: ss) with
      | some a, some b => some (sSeq a b)
      | _, _ => none
end
end Z
end

section
set_option Elab.async false
set_option linter.all false
set_option maxRecDepth 100000
set_option maxHeartbeats 4000000
/-! Z3: what it is that a value is a datum; readings; operations. -/
namespace Z
open PySem L2

structure Gb where
  K : PySem.W.Frag
  fa : Nat → Addr
  ca : Nat → Addr

/-- the value v is the datum d; fp: the objects that are held alone in it. F: what may be shared, H: all -/
inductive DR (g : Gb) (F H : Hp) : V → D → List Addr → Prop
  | non : DR g F H .non .non []
  | bl (b) : DR g F H (.bl b) (.bl b) []
  | int (i) : DR g F H (.int i) (.int i) []
  | str (s) : DR g F H (.str s) (.str s) []
  | fn (f) : DR g F H (.ref (g.fa f)) (.fn f) []
  | cls (c) : DR g F H (.ref (g.ca c)) (.cls c) []
  | tup {a vs ds} (h : SqT g.K F a vs) (n : vs.length = ds.length) (r : ∀ (i : Nat) v d, vs[i]? = some v → ds[i]? = some d → DR g F H v d []) : DR g F H (.ref a) (.tup ds) []
  | lst {a vs ds} (h : Rd F a (.lst vs)) (n : vs.length = ds.length) (r : ∀ (i : Nat) v d, vs[i]? = some v → ds[i]? = some d → DR g F H v d []) : DR g F H (.ref a) (.lst false ds) []
  | olst {a vs ds} {fps : List (List Addr)} (h : H a = some (.lst vs)) (n : vs.length = ds.length) (m : fps.length = ds.length) (r : ∀ (i : Nat) v d f, vs[i]? = some v → ds[i]? = some d → fps[i]? = some f → DR g F H v d f) : DR g F H (.ref a) (.lst true ds) (a :: fps.flatten)

/-- item by item -/
def DRs (g : Gb) (F H : Hp) (vs : List V) (ds : List D) (fps : List (List Addr)) : Prop :=
  vs.length = ds.length ∧ fps.length = ds.length ∧ ∀ (i : Nat) v d f, vs[i]? = some v → ds[i]? = some d → fps[i]? = some f → DR g F H v d f

section
variable {g : Gb} {F H F' H' : Hp} {v : V} {d : D} {vs : List V} {ds : List D} {fp : List Addr} {fps : List (List Addr)}

theorem sqT_mono {K : PySem.W.Frag} {F F' : Hp} {a : Addr} {xs : List V} (h : ∀ a o, F a = some o → F' a = some o) (q : SqT K F a xs) : SqT K F' a xs := by
  rcases q with (q | ⟨o, q⟩) | q
  · exact .inl (.inl (h _ _ q))
  · exact .inl (.inr ⟨o, h _ _ q⟩)
  · exact .inr q
theorem sqL_mono {K : PySem.W.Frag} {F F' : Hp} {a : Addr} {xs : List V} (h : ∀ a o, F a = some o → F' a = some o) (q : SqL K F a xs) : SqL K F' a xs := by
  rcases q with (q | ⟨o, q⟩) | q
  · exact .inl (.inl (h _ _ q))
  · exact .inl (.inr ⟨o, h _ _ q⟩)
  · exact .inr q

theorem rd_mono {F F' : Hp} {a : Addr} {u : HO} (h : ∀ a o, F a = some o → F' a = some o) (q : Rd F a u) : Rd F' a u := by
  rcases q with q | ⟨o, q⟩
  · exact .inl (h _ _ q)
  · exact .inr ⟨o, h _ _ q⟩
/-- what is shared stays, what is held alone is as it was -/
theorem DR.mono (r : DR g F H v d fp) (h : ∀ a o, F a = some o → F' a = some o) : (∀ a, a ∈ fp → H' a = H a) → DR g F' H' v d fp := by
  induction r with
  | non => intro _; exact .non
  | bl b => intro _; exact .bl b
  | int i => intro _; exact .int i
  | str s => intro _; exact .str s
  | fn f => intro _; exact .fn f
  | cls c => intro _; exact .cls c
  | tup q n _ ih => intro _; exact .tup (sqT_mono h q) n fun i v d e1 e2 => ih i v d e1 e2 fun a ha => nomatch ha
  | lst q n _ ih => intro _; exact .lst (rd_mono h q) n fun i v d e1 e2 => ih i v d e1 e2 fun a ha => nomatch ha
  | olst q n m _ ih =>
    intro k
    exact .olst ((k _ List.mem_cons_self).trans q) n m fun i v d f e1 e2 e3 => ih i v d f e1 e2 e3 fun a ha =>
      k a (List.mem_cons_of_mem _ (List.mem_flatten.mpr ⟨f, List.mem_of_getElem? e3, ha⟩))
/-- without what is held alone -/
theorem DR.frz (r : DR g F H v d fp) (h : ∀ a o, F a = some o → F' a = some o) : isFrz d = true → DR g F' H' v d [] := by
  intro z
  cases r with
  | non => exact .non
  | bl b => exact .bl b
  | int i => exact .int i
  | str s => exact .str s
  | fn f => exact .fn f
  | cls c => exact .cls c
  | tup q n r => exact .tup (sqT_mono h q) n fun i v d e1 e2 => (r i v d e1 e2).mono h fun a ha => nomatch ha
  | lst q n r => exact .lst (rd_mono h q) n fun i v d e1 e2 => (r i v d e1 e2).mono h fun a ha => nomatch ha
  | olst q n m r => exact absurd z (by simp [isFrz])
theorem DR.nofp (r : DR g F H v d fp) (z : isFrz d = true) : fp = [] := by
  cases r <;> first | rfl | exact absurd z (by simp [isFrz])
theorem freezes_get : ∀ (ds : List D) (i : Nat), (freezes ds)[i]? = (ds[i]?).map freeze
  | [], i => by simp [freezes]
  | d :: ds, 0 => by simp [freezes]
  | d :: ds, i + 1 => by simp [freezes, freezes_get ds i]
theorem freezes_length : ∀ ds : List D, (freezes ds).length = ds.length
  | [] => rfl
  | d :: ds => by simp [freezes, freezes_length ds]
theorem freeze_id {d : D} (z : isFrz d = true) : freeze d = d := by
  cases d with
  | lst o xs => cases o with
    | true => exact absurd z (by simp [isFrz])
    | false => simp [freeze]
  | dic o ks vs => cases o with
    | true => exact absurd z (by simp [isFrz])
    | false => simp [freeze]
  | obj o c fs => cases o with
    | true => exact absurd z (by simp [isFrz])
    | false => simp [freeze]
  | nul => exact absurd z (by simp [isFrz])
  | _ => simp [freeze]
/-- let go: what was held alone is shared from now on -/
theorem DR.freeze (r : DR g F H v d fp) (h : ∀ a o, F a = some o → F' a = some o) : (∀ a, a ∈ fp → F' a = H a) → DR g F' H' v (freeze d) [] := by
  induction r with
  | non => intro _; exact .non
  | bl b => intro _; exact .bl b
  | int i => intro _; exact .int i
  | str s => intro _; exact .str s
  | fn f => intro _; exact .fn f
  | cls c => intro _; exact .cls c
  | tup q n r ih =>
    intro _
    rw [freeze_id (by rfl)]
    exact .tup (sqT_mono h q) n fun i v d e1 e2 => (r i v d e1 e2).mono h fun a ha => nomatch ha
  | lst q n r ih =>
    intro _
    rw [freeze_id (by rfl)]
    exact .lst (rd_mono h q) n fun i v d e1 e2 => (r i v d e1 e2).mono h fun a ha => nomatch ha
  | @olst a vs ds fps q n m r ih =>
    intro k
    have e : Z.freeze (.lst true ds) = .lst false (freezes ds) := by simp [Z.freeze]
    rw [e]
    refine .lst (.inl ((k _ List.mem_cons_self).trans q)) (by rw [freezes_length]; exact n) fun i v d e1 e2 => ?_
    rw [freezes_get] at e2
    obtain ⟨d0, e3, rfl⟩ := Option.map_eq_some_iff.mp e2
    have hi : i < fps.length := by rw [m]; exact (List.getElem?_eq_some_iff.mp e3).1
    exact ih i v d0 _ e1 e3 (List.getElem?_eq_getElem hi) fun b hb => k b (List.mem_cons_of_mem _ (List.mem_flatten.mpr ⟨_, List.getElem_mem hi, hb⟩))
theorem isFrz_freeze {d : D} (h : d ≠ .nul) : isFrz (freeze d) = true := by
  cases d with
  | lst o xs => cases o <;> simp [freeze, isFrz]
  | dic o ks vs => cases o <;> simp [freeze, isFrz]
  | obj o c fs => cases o <;> simp [freeze, isFrz]
  | nul => exact absurd rfl h
  | _ => simp [freeze, isFrz]
theorem DR.ne_nul (r : DR g F H v d fp) : d ≠ .nul := by
  cases r <;> exact fun e => by cases e
end

/-! ### what a pure expression leaves -/
/-- new objects alone: F', H' beside F, H -/
structure Nw (F H F' H' : Hp) : Prop where
  ext : ∀ a o, H a = some o → H' a = some o
  fl : ∀ a o, F a = some o → F' a = some o
  sub : ∀ a o, F' a = some o → H' a = some o
  old : ∀ a o, H a = some o → F' a ≠ none → F a ≠ none
theorem Nw.refl {F H : Hp} (s : ∀ a o, F a = some o → H a = some o) : Nw F H F H := ⟨fun _ _ h => h, fun _ _ h => h, s, fun _ _ _ h => h⟩
theorem Nw.trans {F H F1 H1 F2 H2 : Hp} (a : Nw F H F1 H1) (b : Nw F1 H1 F2 H2) : Nw F H F2 H2 :=
  ⟨fun x o h => b.ext x o (a.ext x o h), fun x o h => b.fl x o (a.fl x o h), b.sub, fun x o h n => a.old x o h (b.old x o (a.ext x o h) n)⟩
/-- a new value, fp held alone in it -/
structure NewV (g : Gb) (F H F' H' : Hp) (v : V) (d : D) (fp : List Addr) : Prop where
  nw : Nw F H F' H'
  dr : DR g F' H' v d fp
  fresh : ∀ a ∈ fp, H a = none
  hid : ∀ a ∈ fp, F' a = none
  nd : fp.Nodup
/-- a value to look at -/
structure SeeV (g : Gb) (F H F' H' : Hp) (v : V) (d : D) (fp : List Addr) : Prop where
  nw : Nw F H F' H'
  dr : DR g F' H' v d fp

section
variable {g : Gb} {F H F1 H1 F' H' : Hp} {v : V} {d : D} {fp : List Addr}
theorem NewV.see (n : NewV g F H F' H' v d fp) : SeeV g F H F' H' v d fp := ⟨n.nw, n.dr⟩
theorem NewV.after (a : Nw F H F1 H1) (n : NewV g F1 H1 F' H' v d fp) : NewV g F H F' H' v d fp := by
  refine ⟨a.trans n.nw, n.dr, fun x hx => ?_, n.hid, n.nd⟩
  cases e : H x with
  | none => rfl
  | some o => have := a.ext x o e; rw [n.fresh x hx] at this; cases this
theorem SeeV.after (a : Nw F H F1 H1) (n : SeeV g F1 H1 F' H' v d fp) : SeeV g F H F' H' v d fp := ⟨a.trans n.nw, n.dr⟩
/-- later it is still so -/
theorem DR.later (r : DR g F H v d fp) (n : Nw F H F' H') : DR g F' H' v d fp := by
  refine r.mono n.fl fun a ha => ?_
  have : ∃ o, H a = some o := by
    clear n
    induction r with
    | @olst a' vs ds fps q n m r ih =>
      rcases List.mem_cons.mp ha with e | ha
      · exact ⟨_, e ▸ q⟩
      · obtain ⟨f, hf, hb⟩ := List.mem_flatten.mp ha
        obtain ⟨i, hi, e⟩ := List.getElem_of_mem hf
        have h1 : i < ds.length := by rw [← m]; exact hi
        have h2 : i < vs.length := by rw [n]; exact h1
        exact ih i _ _ f (List.getElem?_eq_getElem h2) (List.getElem?_eq_getElem h1) (by rw [List.getElem?_eq_getElem hi, e]) hb
    | _ => exact absurd ha (by simp)
  obtain ⟨o, e⟩ := this
  rw [e, n.ext a o e]
/-- a value without objects of its own -/
theorem NewV.plain (s : ∀ a o, F a = some o → H a = some o) (r : DR g F H v d []) : NewV g F H F H v d [] := ⟨Nw.refl s, r, fun _ h => (nomatch h), fun _ h => (nomatch h), List.nodup_nil⟩
/-- let go -/
theorem NewV.freeze (n : NewV g F H F' H' v d fp) : ∃ F2, NewV g F H F2 H' v (freeze d) [] := by
  refine ⟨fun a => if a ∈ fp then H' a else F' a, ⟨n.nw.ext, fun a o e => ?_, fun a o e => ?_, fun a o e q => ?_⟩, ?_, fun _ h => (nomatch h), fun _ h => (nomatch h), List.nodup_nil⟩
  · have h1 := n.nw.fl a o e
    by_cases h : a ∈ fp
    · rw [n.hid a h] at h1; cases h1
    · simpa [h] using h1
  · by_cases h : a ∈ fp
    · simpa [h] using e
    · simp only [h, if_false] at e; exact n.nw.sub a o e
  · by_cases h : a ∈ fp
    · rw [n.fresh a h] at e; cases e
    · simp only [h, if_false] at q; exact n.nw.old a o e q
  · refine n.dr.freeze (fun a o e => ?_) fun a ha => by simp [ha]
    by_cases h : a ∈ fp
    · rw [n.hid a h] at e; cases e
    · simpa [h] using e
end

/-- the names hold these data (to look at) -/
structure VR (g : Gb) (F H : Hp) (σ : St) (env : Env) : Prop where
  sub : ∀ a o, F a = some o → H a = some o
  at_ : ∀ i, env.getD i .nul ≠ .nul → ∃ v fp, σ[i]? = some (some v) ∧ DR g F H v (env.getD i .nul) fp
  len : env.length ≤ σ.length
theorem VR.later {g : Gb} {F H F' H' : Hp} {σ : St} {env : Env} (r : VR g F H σ env) (n : Nw F H F' H') : VR g F' H' σ env := ⟨n.sub, fun i h =>
  let ⟨v, fp, e, q⟩ := r.at_ i h
  ⟨v, fp, e, q.later n⟩, r.len⟩

/-- an exception of the class c (ea: where it stands, its field's name), its fields fs -/
def ExR (g : Gb) (ea : Nat → Addr × Str) (F H : Hp) (c : Nat) (fs : List D) (cls : Value) (dd : Option Addr) : Prop :=
  cls = .ref (ea c).1 ∧ (fs = [] ∨ ∃ a xs v d, fs = [d] ∧ dd = some a ∧ H a = some (.xd xs) ∧ xs.lookup (ea c).2 = some v ∧ DR g F H v d [])
end Z
end

section
set_option Elab.async false
set_option linter.all false
set_option maxRecDepth 100000
set_option maxHeartbeats 4000000
/-! Z4: readings of what changes nothing. -/
namespace Z
open PySem L2

structure Ct where
  g : Gb
  ea : Nat → Addr × Str
  rt : RT
  W : WX

theorem PE.imp {X : Cx} {e : Expr} {t t' : TE} (h : PE X e t) (i : ∀ σ H Q, t' σ H Q → t σ H Q) : PE X e t' := ⟨fun pins s σ H Q I q => h.run pins s σ H Q I (i σ H Q q)⟩
theorem PT.imp {X : Cx} {e : Expr} {t t' : TT} (h : PT X e t) (i : ∀ σ H Q, t' σ H Q → t σ H Q) : PT X e t' := ⟨fun pins s σ H Q I q => h.run pins s σ H Q I (i σ H Q q)⟩
theorem PA.imp {X : Cx} {e : List Expr} {t t' : TA} (h : PA X e t) (i : ∀ σ H Q, t' σ H Q → t σ H Q) : PA X e t' := ⟨fun p pins s σ H Q I q => h.run p pins s σ H Q I (i σ H Q q)⟩
theorem PS.imp {X : Cx} {e : Stmt} {t t' : TS} (h : PS X e t) (i : ∀ D σ H, t' D σ H → t D σ H) : PS X e t' := ⟨fun pins s σ H D I q => h.run pins s σ H D I (i D σ H q)⟩
theorem PSs.imp {X : Cx} {e : List Stmt} {t t' : TS} (h : PSs X e t) (i : ∀ D σ H, t' D σ H → t D σ H) : PSs X e t' := ⟨fun pins s σ H D I q => h.run pins s σ H D I (i D σ H q)⟩

/-- what an outcome asks: of a value, of an exception -/
def Oc {α : Type} (C : Ct) (F H : Hp) (σ : St) (x : Out α) (q : α → Prop) : Prop := match x with
  | .ok a => q a
  | .exc c fs => ∀ cls dd F' H', Nw F H F' H' → ExR C.g C.ea F' H' c fs cls dd → C.W cls dd σ H'
  | .bad => False
theorem Oc.bind {α β : Type} {C : Ct} {F H : Hp} {σ : St} {x : Out α} {f : α → Out β} {q : β → Prop} (h : Oc C F H σ (x.bind f) q) : Oc C F H σ x fun a => Oc C F H σ (f a) q := by
  cases x <;> exact h
theorem Oc.unbind {α β : Type} {C : Ct} {F H : Hp} {σ : St} {x : Out α} {f : α → Out β} {q : β → Prop} (h : Oc C F H σ x fun a => Oc C F H σ (f a) q) : Oc C F H σ (x.bind f) q := by
  cases x <;> exact h
theorem Oc.mono {α : Type} {C : Ct} {F H : Hp} {σ : St} {x : Out α} {q q' : α → Prop} (h : Oc C F H σ x q) (i : ∀ a, q a → q' a) : Oc C F H σ x q' := by
  cases x with
  | ok a => exact i a h
  | exc c fs => exact h
  | bad => exact h
/-- later -/
theorem Oc.later {α : Type} {C : Ct} {F H F' H' : Hp} {σ : St} {x : Out α} {q q' : α → Prop} (n : Nw F H F' H') (h : Oc C F H σ x q) (i : ∀ a, q a → q' a) : Oc C F' H' σ x q' := by
  cases x with
  | ok a => exact i a h
  | exc c fs => exact fun cls dd F2 H2 n2 e => h cls dd F2 H2 (n.trans n2) e
  | bad => exact h

/-- a new value; a value to look at; several -/
def tP (C : Ct) (p : PDen) : TE := fun σ H Q => ∃ env F, VR C.g F H σ env ∧ Oc C F H σ (p C.rt env) fun d => ∀ v F' H' fp, NewV C.g F H F' H' v d fp → Q v H'
def tV (C : Ct) (p : PDen) : TE := fun σ H Q => ∃ env F, VR C.g F H σ env ∧ Oc C F H σ (p C.rt env) fun d => ∀ v F' H' fp, SeeV C.g F H F' H' v d fp → Q v H'
def tA (C : Ct) (ps : List PDen) : TA := fun σ H Q => ∃ env F, VR C.g F H σ env ∧
  Oc C F H σ (pAll ps C.rt env) fun ds => ∀ vs F' H' fps, Nw F H F' H' → DRs C.g F' H' vs ds fps → Q vs H'
def tB (C : Ct) (p : PDen) : TT := fun σ H Q => ∃ env F, VR C.g F H σ env ∧ Oc C F H σ ((p C.rt env).bind asB) fun b => ∀ F' H', Nw F H F' H' → Q b H'

section
variable {C : Ct} {p q : PDen} {ps : List PDen} {σ : St} {H : Hp}
theorem DRs.nil {g : Gb} {F H : Hp} : DRs g F H [] [] [] := ⟨rfl, rfl, fun i v d f h => by simp at h⟩
theorem DRs.cons {g : Gb} {F H : Hp} {v : V} {d : D} {f : List Addr} {vs : List V} {ds : List D} {fps : List (List Addr)} (h : DR g F H v d f) (r : DRs g F H vs ds fps) : DRs g F H (v :: vs) (d :: ds) (f :: fps) := by
  refine ⟨by simp [r.1], by simp [r.2.1], fun i v' d' f' h1 h2 h3 => ?_⟩
  cases i with
  | zero => simp at h1 h2 h3; subst h1 h2 h3; exact h
  | succ i => exact r.2.2 i v' d' f' (by simpa using h1) (by simpa using h2) (by simpa using h3)
theorem DRs.uncons {g : Gb} {F H : Hp} {vs : List V} {d : D} {ds : List D} {fps : List (List Addr)} (r : DRs g F H vs (d :: ds) fps) : ∃ v vs' f fps', vs = v :: vs' ∧ fps = f :: fps' ∧ DR g F H v d f ∧ DRs g F H vs' ds fps' := by
  obtain ⟨h1, h2, h3⟩ := r
  cases vs with
  | nil => simp at h1
  | cons v vs =>
    cases fps with
    | nil => simp at h2
    | cons f fps => exact ⟨v, vs, f, fps, rfl, rfl, h3 0 v d f rfl rfl rfl, by simpa using h1, by simpa using h2, fun i v' d' f' e1 e2 e3 => h3 (i + 1) v' d' f' (by simpa using e1) (by simpa using e2) (by simpa using e3)⟩
theorem DRs.unnil {g : Gb} {F H : Hp} {vs : List V} {fps : List (List Addr)} (r : DRs g F H vs [] fps) : vs = [] ∧ fps = [] := by
  obtain ⟨h1, h2, _⟩ := r
  exact ⟨by simpa using h1, by simpa using h2⟩
theorem DRs.later {g : Gb} {F H F' H' : Hp} {vs : List V} {ds : List D} {fps : List (List Addr)} (r : DRs g F H vs ds fps) (n : Nw F H F' H') : DRs g F' H' vs ds fps :=
  ⟨r.1, r.2.1, fun i v d f h1 h2 h3 => (r.2.2 i v d f h1 h2 h3).later n⟩

theorem tV_lit {d : D} {v : V} (r : ∀ F H, DR C.g F H v d []) {Q : VK} (h : tV C (pLit d) σ H Q) : tC v σ H Q := by
  obtain ⟨env, F, vr, oc⟩ := h
  exact oc v F H [] ⟨Nw.refl vr.sub, r F H⟩
theorem tP_lit {d : D} {v : V} (r : ∀ F H, DR C.g F H v d []) {Q : VK} (h : tP C (pLit d) σ H Q) : tC v σ H Q := by
  obtain ⟨env, F, vr, oc⟩ := h
  exact oc v F H [] (NewV.plain vr.sub (r F H))
theorem tV_see {i : Nat} {Q : VK} (h : tV C (pSee i) σ H Q) : tVar i σ H Q := by
  obtain ⟨env, F, vr, oc⟩ := h
  unfold pSee at oc
  by_cases hn : env.getD i .nul = .nul
  · rw [hn] at oc; exact oc.elim
  · obtain ⟨v, fp, e, r⟩ := vr.at_ i hn
    refine ⟨v, e, ?_⟩
    have oc' : Oc C F H σ (.ok (env.getD i .nul)) fun d => ∀ v F' H' fp, SeeV C.g F H F' H' v d fp → Q v H' := by
      revert oc hn
      generalize env.getD i .nul = d
      intro oc hn
      cases d <;> first | exact absurd rfl hn | exact oc
    exact oc' v F H fp ⟨Nw.refl vr.sub, r⟩
theorem tP_rd {i : Nat} {Q : VK} (h : tP C (pRd i) σ H Q) : tVar i σ H Q := by
  obtain ⟨env, F, vr, oc⟩ := h
  unfold pRd at oc
  by_cases hf : isFrz (env.getD i .nul) = true
  · rw [if_pos hf] at oc
    obtain ⟨v, fp, e, r⟩ := vr.at_ i (fun z => by rw [z] at hf; exact absurd hf (by simp [isFrz]))
    have : fp = [] := r.nofp hf
    subst this
    exact ⟨v, e, oc v F H [] (NewV.plain vr.sub r)⟩
  · rw [if_neg hf] at oc; exact oc.elim
/-- a new value may be looked at -/
theorem tV_fz {Q : VK} (h : tV C (pFz p) σ H Q) : tP C p σ H Q := by
  obtain ⟨env, F, vr, oc⟩ := h
  refine ⟨env, F, vr, Oc.mono (Oc.bind oc) fun d q v F' H' fp n => ?_⟩
  obtain ⟨F2, n2⟩ := n.freeze
  exact q v F2 H' [] n2.see
theorem tP_fz {Q : VK} (h : tP C (pFz p) σ H Q) : tP C p σ H Q := by
  obtain ⟨env, F, vr, oc⟩ := h
  refine ⟨env, F, vr, Oc.mono (Oc.bind oc) fun d q v F' H' fp n => ?_⟩
  obtain ⟨F2, n2⟩ := n.freeze
  exact q v F2 H' [] n2
theorem tP_of_tV_any {Q : VK} (h : tV C p σ H Q) : tP C p σ H Q := by
  obtain ⟨env, F, vr, oc⟩ := h
  exact ⟨env, F, vr, oc.mono fun d q v F' H' fp n => q v F' H' fp n.see⟩

/-- operands, one by one -/
theorem tA_nil {Q : List V → Hp → Prop} (h : tA C [] σ H Q) : tNil σ H Q := by
  obtain ⟨env, F, vr, oc⟩ := h
  exact oc [] F H [] (Nw.refl vr.sub) DRs.nil
theorem tA_cons {Q : List V → Hp → Prop} (h : tA C (p :: ps) σ H Q) : tCons (tV C p) (tA C ps) σ H Q := by
  obtain ⟨env, F, vr, oc⟩ := h
  refine ⟨env, F, vr, Oc.mono (Oc.bind oc) fun d oc v F1 H1 fp n => ⟨env, F1, vr.later n.nw, ?_⟩⟩
  refine Oc.later n.nw (Oc.bind oc) fun ds q vs F' H' fps nw r => ?_
  exact q (v :: vs) F' H' (fp :: fps) (n.nw.trans nw) (DRs.cons (n.dr.later nw) r)
theorem tA1 {Q : List V → Hp → Prop} (h : tA C [p] σ H Q) : tV C p σ H fun x H1 => Q [x] H1 := by
  obtain ⟨env, F, vr, oc⟩ := tA_cons h
  exact ⟨env, F, vr, oc.mono fun d q v F' H' fp n => tA_nil (q v F' H' fp n)⟩
theorem tA2 {Q : List V → Hp → Prop} (h : tA C [p, q] σ H Q) : tV C p σ H fun x H1 => tV C q σ H1 fun y H2 => Q [x, y] H2 := by
  obtain ⟨env, F, vr, oc⟩ := tA_cons h
  exact ⟨env, F, vr, oc.mono fun d q v F' H' fp n => tA1 (q v F' H' fp n)⟩
theorem tA3 {r : PDen} {Q : List V → Hp → Prop} (h : tA C [p, q, r] σ H Q) : tV C p σ H fun x H1 => tV C q σ H1 fun y H2 => tV C r σ H2 fun z H3 => Q [x, y, z] H3 := by
  obtain ⟨env, F, vr, oc⟩ := tA_cons h
  exact ⟨env, F, vr, oc.mono fun d q v F' H' fp n => tA2 (q v F' H' fp n)⟩
/-- an operation: by its rule on values -/
def OpOk (C : Ct) (f : OpF) (r : St → List V → Hp → VK → Prop) : Prop := ∀ (F H : Hp) (σ : St) (vs : List V) (ds : List D) (fps : List (List Addr)) (Q : VK), (∀ a o, F a = some o → H a = some o) → DRs C.g F H vs ds fps →
  (Oc C F H σ (f C.rt ds) fun d => ∀ v F' H' fp, NewV C.g F H F' H' v d fp → Q v H') → r σ vs H Q
theorem OpOk.tP {f : OpF} {r : St → List V → Hp → VK → Prop} (o : OpOk C f r) {Q : VK} (h : tP C (pN f ps) σ H Q) : tA C ps σ H fun vs H2 => r σ vs H2 Q := by
  obtain ⟨env, F, vr, oc⟩ := h
  refine ⟨env, F, vr, Oc.mono (Oc.bind oc) fun ds oc vs F' H' fps nw d => o F' H' σ vs ds fps Q nw.sub d ?_⟩
  exact Oc.later nw oc fun d q v F2 H2 fp n => q v F2 H2 fp (n.after nw)
/-- as a test -/
theorem tB_val {Q : Bool → Hp → Prop} (h : tB C p σ H Q) : tTest (tP C p) σ H Q := by
  obtain ⟨env, F, vr, oc⟩ := h
  refine ⟨env, F, vr, Oc.mono (Oc.bind oc) fun d oc v F' H' fp n => ?_⟩
  cases d <;> first | exact oc.elim | skip
  rename_i b
  cases n.dr
  exact ⟨b, rfl, oc F' H' n.nw⟩
theorem tB_see {Q : Bool → Hp → Prop} (h : tB C p σ H Q) : tTest (tV C p) σ H Q := by
  obtain ⟨env, F, vr, oc⟩ := h
  refine ⟨env, F, vr, Oc.mono (Oc.bind oc) fun d oc v F' H' fp n => ?_⟩
  cases d <;> first | exact oc.elim | skip
  rename_i b
  cases n.dr
  exact ⟨b, rfl, oc F' H' n.nw⟩
theorem tB_not {Q : Bool → Hp → Prop} (h : tB C (pNot p) σ H Q) : tNot (tB C p) σ H Q := by
  obtain ⟨env, F, vr, oc⟩ := h
  refine ⟨env, F, vr, Oc.mono (Oc.bind (Oc.bind oc)) fun b oc F' H' n => ?_⟩
  exact (show ∀ F' H', Nw F H F' H' → Q (!b) H' from oc) F' H' n
theorem tB_fz {Q : Bool → Hp → Prop} (h : tB C (pFz p) σ H Q) : tB C p σ H Q := by
  obtain ⟨env, F, vr, oc⟩ := h
  refine ⟨env, F, vr, ?_⟩
  have oc := Oc.bind (Oc.bind oc)
  revert oc
  unfold Out.bind
  cases p C.rt env with
  | ok d =>
    intro oc
    show Oc C F H σ (asB d) _
    have oc : Oc C F H σ (asB (freeze d)) _ := oc
    cases d with
    | bl b => exact oc
    | lst o xs => cases o <;> exact oc.elim
    | dic o ks vs => cases o <;> exact oc.elim
    | obj o c fs => cases o <;> exact oc.elim
    | _ => exact oc.elim
  | exc c fs => exact fun oc => oc
  | bad => exact fun oc => oc
theorem tB_and {Q : Bool → Hp → Prop} (h : tB C (pAnd p q) σ H Q) : tAnd (tB C p) (tB C q) σ H Q := by
  obtain ⟨env, F, vr, oc⟩ := h
  refine ⟨env, F, vr, Oc.mono (Oc.bind (Oc.bind oc)) fun b oc F' H' n => ?_⟩
  cases b with
  | true =>
    rw [if_pos rfl]
    have oc : Oc C F H σ (q C.rt env) fun d => Oc C F H σ (asB d) fun b => ∀ F' H', Nw F H F' H' → Q b H' := oc
    exact ⟨env, F', vr.later n, Oc.later n (Oc.unbind oc) fun b k F2 H2 n2 => k F2 H2 (n.trans n2)⟩
  | false =>
    rw [if_neg (by decide)]
    exact (show ∀ F' H', Nw F H F' H' → Q false H' from oc) F' H' n
theorem tB_or {Q : Bool → Hp → Prop} (h : tB C (pOr p q) σ H Q) : tOr (tB C p) (tB C q) σ H Q := by
  obtain ⟨env, F, vr, oc⟩ := h
  refine ⟨env, F, vr, Oc.mono (Oc.bind (Oc.bind oc)) fun b oc F' H' n => ?_⟩
  cases b with
  | false =>
    rw [if_neg (by decide)]
    have oc : Oc C F H σ (q C.rt env) fun d => Oc C F H σ (asB d) fun b => ∀ F' H', Nw F H F' H' → Q b H' := oc
    exact ⟨env, F', vr.later n, Oc.later n (Oc.unbind oc) fun b k F2 H2 n2 => k F2 H2 (n.trans n2)⟩
  | true =>
    rw [if_pos rfl]
    exact (show ∀ F' H', Nw F H F' H' → Q true H' from oc) F' H' n
theorem tP_ite {t : PDen} {Q : VK} (h : tP C (pIte t p q) σ H Q) : tIf (tB C t) (tP C p) (tP C q) σ H Q := by
  obtain ⟨env, F, vr, oc⟩ := h
  refine ⟨env, F, vr, Oc.mono (Oc.bind oc) fun b oc F' H' n => ?_⟩
  cases b with
  | true =>
    rw [if_pos rfl]
    exact ⟨env, F', vr.later n, Oc.later n oc fun d k v F2 H2 fp m => k v F2 H2 fp (m.after n)⟩
  | false =>
    rw [if_neg (by decide)]
    exact ⟨env, F', vr.later n, Oc.later n oc fun d k v F2 H2 fp m => k v F2 H2 fp (m.after n)⟩
theorem tP_not {Q : VK} (h : tP C (pNot p) σ H Q) : tNotV (tV C p) σ H Q := by
  obtain ⟨env, F, vr, oc⟩ := h
  have oc := Oc.bind (Oc.bind oc)
  refine ⟨env, F, vr, Oc.mono oc fun d oc v F' H' fp n => ?_⟩
  cases d <;> first | exact oc.elim | skip
  rename_i b
  cases n.dr
  exact ⟨b, rfl, (show ∀ v F' H' fp, NewV C.g F H F' H' v (.bl (!b)) fp → Q v H' from oc) _ F' H' [] ((NewV.plain n.nw.sub (.bl _)).after n.nw)⟩
theorem tP_and {Q : VK} (h : tP C (pAnd p q) σ H Q) : tAndV (tV C p) (tP C q) σ H Q := by
  obtain ⟨env, F, vr, oc⟩ := h
  refine ⟨env, F, vr, Oc.mono (Oc.bind (Oc.bind oc)) fun d oc v F' H' fp n => ?_⟩
  cases d <;> first | exact oc.elim | skip
  rename_i b
  cases n.dr
  refine ⟨b, rfl, ?_⟩
  cases b with
  | true =>
    rw [if_pos rfl]
    exact ⟨env, F', vr.later n.nw, Oc.later n.nw (show Oc C F H σ (q C.rt env) _ from oc) fun d k v F2 H2 fp m => k v F2 H2 fp (m.after n.nw)⟩
  | false =>
    rw [if_neg (by decide)]
    exact (show ∀ v F' H' fp, NewV C.g F H F' H' v (.bl false) fp → Q v H' from oc) _ F' H' [] ((NewV.plain n.nw.sub (.bl _)).after n.nw)
theorem tP_or {Q : VK} (h : tP C (pOr p q) σ H Q) : tOrV (tV C p) (tP C q) σ H Q := by
  obtain ⟨env, F, vr, oc⟩ := h
  refine ⟨env, F, vr, Oc.mono (Oc.bind (Oc.bind oc)) fun d oc v F' H' fp n => ?_⟩
  cases d <;> first | exact oc.elim | skip
  rename_i b
  cases n.dr
  refine ⟨b, rfl, ?_⟩
  cases b with
  | false =>
    rw [if_neg (by decide)]
    exact ⟨env, F', vr.later n.nw, Oc.later n.nw (show Oc C F H σ (q C.rt env) _ from oc) fun d k v F2 H2 fp m => k v F2 H2 fp (m.after n.nw)⟩
  | true =>
    rw [if_pos rfl]
    exact (show ∀ v F' H' fp, NewV C.g F H F' H' v (.bl true) fp → Q v H' from oc) _ F' H' [] ((NewV.plain n.nw.sub (.bl _)).after n.nw)
end

/-! ### rules for operations -/
section
variable {C : Ct} {F H : Hp} {v w : V} {fp : List Addr}
/-- a rule for one, two, three operands -/
def r1 (r : V → Hp → VK → Prop) : St → List V → Hp → VK → Prop := fun _ vs H Q => ∃ x, vs = [x] ∧ r x H Q
def r2 (r : R2) : St → List V → Hp → VK → Prop := fun _ vs H Q => ∃ x y, vs = [x, y] ∧ r x y H Q
def r3 (r : V → V → V → Hp → VK → Prop) : St → List V → Hp → VK → Prop := fun _ vs H Q => ∃ x y z, vs = [x, y, z] ∧ r x y z H Q
/-- what a new value does with the wish -/
abbrev Wish (C : Ct) (F H : Hp) (Q : VK) (d : D) : Prop := ∀ v F' H' fp, NewV C.g F H F' H' v d fp → Q v H'
theorem op1_ok {f : D → Option D} {r : V → Hp → VK → Prop} (h : ∀ F H x d fp e Q, (∀ a o, F a = some o → H a = some o) → DR C.g F H x d fp → f d = some e → Wish C F H Q e → r x H Q) : OpOk C (o1 f) (r1 r) := by
  intro F H σ vs ds fps Q sub dr oc
  match ds, dr with
  | [], dr => exact oc.elim
  | [d], dr =>
    obtain ⟨x, vs', fx, fps', rfl, rfl, hx, dr⟩ := dr.uncons
    obtain ⟨rfl, rfl⟩ := dr.unnil
    have oc : Oc C F H σ (opt (f d)) _ := oc
    refine ⟨x, rfl, ?_⟩
    cases e : f d with
    | none => rw [e] at oc; exact oc.elim
    | some e' => rw [e] at oc; exact h F H x d fx e' Q sub hx e oc
  | _ :: _ :: _, dr => exact oc.elim
theorem op2_ok {f : D → D → Option D} {r : R2} (h : ∀ F H x y d e fx fy c Q, (∀ a o, F a = some o → H a = some o) → DR C.g F H x d fx → DR C.g F H y e fy → f d e = some c → Wish C F H Q c → r x y H Q) : OpOk C (o2 f) (r2 r) := by
  intro F H σ vs ds fps Q sub dr oc
  match ds, dr with
  | [], dr => exact oc.elim
  | [_], dr => exact oc.elim
  | [d, e], dr =>
    obtain ⟨x, vs', fx, fps', rfl, rfl, hx, dr⟩ := dr.uncons
    obtain ⟨y, vs', fy, fps', rfl, rfl, hy, dr⟩ := dr.uncons
    obtain ⟨rfl, rfl⟩ := dr.unnil
    have oc : Oc C F H σ (opt (f d e)) _ := oc
    refine ⟨x, y, rfl, ?_⟩
    cases q : f d e with
    | none => rw [q] at oc; exact oc.elim
    | some e' => rw [q] at oc; exact h F H x y d e fx fy e' Q sub hx hy q oc
  | _ :: _ :: _ :: _, dr => exact oc.elim
theorem Wish.int {C : Ct} {F H : Hp} {Q : VK} {i : Int} (s : ∀ a o, F a = some o → H a = some o) (w : Wish C F H Q (.int i)) : Q (.int i) H := w _ F H [] (NewV.plain s (.int i))
theorem Wish.bl {C : Ct} {F H : Hp} {Q : VK} {b : Bool} (s : ∀ a o, F a = some o → H a = some o) (w : Wish C F H Q (.bl b)) : Q (.bl b) H := w _ F H [] (NewV.plain s (.bl b))
theorem Wish.str {C : Ct} {F H : Hp} {Q : VK} {x : Str} (s : ∀ a o, F a = some o → H a = some o) (w : Wish C F H Q (.str x)) : Q (.str x) H := w _ F H [] (NewV.plain s (.str x))
end
end Z
end

section
set_option Elab.async false
set_option linter.all false
set_option maxRecDepth 100000
set_option maxHeartbeats 4000000
/-! Z5: operations by their rules. -/
namespace Z
open PySem L2

/-! ### data -/
mutual
def pd : D → PyData
  | .non => .none
  | .bl b => .bool b
  | .int i => .int i
  | .str s => .str s
  | .tup xs => .tuple (pds xs)
  | .lst _ xs => .list (pds xs)
  | _ => .none
def pds : List D → List PyData
  | [] => []
  | x :: xs => pd x :: pds xs
end
theorem sizeMax_eq : sizeMax = sizeLine := by rw [sizeLine_eq]; rfl
mutual
theorem okD_lay : ∀ (d : D) (n : Nat), okD n d = true → (pd d).canLay0 = true ∧ (pd d).depth ≤ n
  | .non, n, h => ⟨by simp [pd, PyData.canLay0], by simp [pd, PyData.depth]⟩
  | .bl b, n, h => ⟨by simp [pd, PyData.canLay0], by simp [pd, PyData.depth]⟩
  | .int b, n, h => ⟨by simp [pd, PyData.canLay0], by simp [pd, PyData.depth]⟩
  | .str s, n, h => by
    refine ⟨?_, by simp [pd, PyData.depth]⟩
    simp only [pd, PyData.canLay0]
    simp only [okD] at h
    exact h
  | .tup xs, 0, h => by simp [okD] at h
  | .tup xs, n + 1, h => by
    have := okDs_lay xs n (by simpa [okD] using h)
    refine ⟨by simp only [pd, PyData.canLay0]; exact this.1, by simp only [pd, PyData.depth]; omega⟩
  | .lst o xs, 0, h => by simp [okD] at h
  | .lst o xs, n + 1, h => by
    have := okDs_lay xs n (by simpa [okD] using h)
    refine ⟨by simp only [pd, PyData.canLay0]; exact this.1, by simp only [pd, PyData.depth]; omega⟩
  | .nul, n, h => by simp [okD] at h
  | .dic _ _ _, n, h => by simp [okD] at h
  | .obj _ _ _, n, h => by simp [okD] at h
  | .fn _, n, h => by simp [okD] at h
  | .cls _, n, h => by simp [okD] at h
theorem okDs_lay : ∀ (ds : List D) (n : Nat), okDs n ds = true → PyData.canLayAll0 (pds ds) = true ∧ PyData.depthAll (pds ds) ≤ n
  | [], n, h => ⟨by simp [pds, PyData.canLayAll0], by simp [pds, PyData.depthAll]⟩
  | d :: ds, n, h => by
    have h : okD n d = true ∧ okDs n ds = true := by simpa [okDs] using h
    have h1 := okD_lay d n h.1
    have h2 := okDs_lay ds n h.2
    refine ⟨by simp [pds, PyData.canLayAll0, h1.1, h2.1], by simp only [pds, PyData.depthAll]; omega⟩
end
mutual
theorem eqv_pd : ∀ (d e : D) (n m : Nat), okD n d = true → okD m e = true → eqv d e = some (PyData.eqv (pd d) (pd e))
  | .non, e, n, m, h, k => by cases e <;> first | (simp [okD] at k; done) | simp [eqv, pd, PyData.eqv]
  | .bl a, e, n, m, h, k => by
    cases e <;> first | (simp [okD] at k; done) | (simp [eqv, pd, PyData.eqv]; done) | skip
    simp only [eqv, pd, PyData.eqv, b2i]
    cases a <;> (simp; rw [Bool.eq_iff_iff]; simp; exact ⟨of_decide_eq_true, decide_eq_true⟩)
  | .int a, e, n, m, h, k => by
    cases e <;> first | (simp [okD] at k; done) | (simp [eqv, pd, PyData.eqv]; done) | skip
    · rename_i b
      simp only [eqv, pd, PyData.eqv, b2i]
      cases b <;> (simp; rw [Bool.eq_iff_iff]; simp; exact ⟨of_decide_eq_true, decide_eq_true⟩)
    · simp only [eqv, pd, PyData.eqv]
      rw [Option.some.injEq, Bool.eq_iff_iff]; simp
  | .str a, e, n, m, h, k => by
    cases e <;> first | (simp [okD] at k; done) | (simp [eqv, pd, PyData.eqv]; done) | skip
    simp only [eqv, pd, PyData.eqv]
    rw [Option.some.injEq, Bool.eq_iff_iff]; simp
  | .tup xs, e, n, m, h, k => by
    cases e with
    | tup ys =>
      cases n <;> cases m <;> first | (simp [okD] at h; done) | (simp [okD] at k; done) | skip
      simp only [eqv, pd, PyData.eqv]
      exact eqvs_pd xs ys _ _ (by simpa [okD] using h) (by simpa [okD] using k)
    | _ => first | (simp [okD] at k; done) | simp [eqv, pd, PyData.eqv]
  | .lst o xs, e, n, m, h, k => by
    cases e with
    | lst o2 ys =>
      cases n <;> cases m <;> first | (simp [okD] at h; done) | (simp [okD] at k; done) | skip
      simp only [eqv, pd, PyData.eqv]
      exact eqvs_pd xs ys _ _ (by simpa [okD] using h) (by simpa [okD] using k)
    | _ => first | (simp [okD] at k; done) | simp [eqv, pd, PyData.eqv]
  | .nul, e, n, m, h, k => by simp [okD] at h
  | .dic _ _ _, e, n, m, h, k => by simp [okD] at h
  | .obj _ _ _, e, n, m, h, k => by simp [okD] at h
  | .fn _, e, n, m, h, k => by simp [okD] at h
  | .cls _, e, n, m, h, k => by simp [okD] at h
theorem eqvs_pd : ∀ (ds es : List D) (n m : Nat), okDs n ds = true → okDs m es = true → eqvs ds es = some (PyData.eqvAll (pds ds) (pds es))
  | [], es, n, m, h, k => by cases es <;> simp [eqvs, pds, PyData.eqvAll]
  | d :: ds, [], n, m, h, k => by simp [eqvs, pds, PyData.eqvAll]
  | d :: ds, e :: es, n, m, h, k => by
    have h : okD n d = true ∧ okDs n ds = true := by simpa [okDs] using h
    have k : okD m e = true ∧ okDs m es = true := by simpa [okDs] using k
    have i1 := eqv_pd d e n m h.1 k.1
    have i2 := eqvs_pd ds es n m h.2 k.2
    simp only [eqvs, pds, PyData.eqvAll, i1]
    cases PyData.eqv (pd d) (pd e) with
    | true => simpa using i2
    | false => rfl
end
theorem dpAll_of {K : PySem.W.Frag} {H : Hp} : ∀ {vs : List V} {ds : List D}, vs.length = ds.length → (∀ (i : Nat) v d, vs[i]? = some v → ds[i]? = some d → Dp K H v (pd d)) → DpAll K H vs (pds ds)
  | [], [], _, _ => .nil
  | _ :: _, [], h, _ => by simp at h
  | [], _ :: _, h, _ => by simp at h
  | v :: vs, d :: ds, h, r => .cons (r 0 v d rfl rfl) (dpAll_of (by simpa using h) fun i v' d' e1 e2 => r (i + 1) v' d' (by simpa using e1) (by simpa using e2))
theorem okDs_at : ∀ {n : Nat} {ds : List D} {i : Nat} {d : D}, okDs n ds = true → ds[i]? = some d → okD n d = true
  | n, [], i, d, h, e => by simp at e
  | n, x :: xs, 0, d, h, e => by
    have h : okD n x = true ∧ okDs n xs = true := by simpa [okDs] using h
    simp at e; subst e; exact h.1
  | n, x :: xs, i + 1, d, h, e => by
    have h : okD n x = true ∧ okDs n xs = true := by simpa [okDs] using h
    exact okDs_at h.2 (by simpa using e)
/-- data, as the layer's == reads them -/
theorem DR.dp {g : Gb} {F H : Hp} {v : V} {d : D} {fp : List Addr} (sub : ∀ a o, F a = some o → H a = some o) (r : DR g F H v d fp) : ∀ n, okD n d = true → Dp g.K H v (pd d) := by
  induction r with
  | non => intro n _; exact .non
  | bl b => intro n _; exact .bl b
  | int i => intro n _; exact .int i
  | str s => intro n _; exact .str s
  | fn f => intro n h; simp [okD] at h
  | cls c => intro n h; simp [okD] at h
  | @tup a vs ds q l r ih =>
    intro n h
    cases n with
    | zero => simp [okD] at h
    | succ n =>
      have h : okDs n ds = true := by simpa [okD] using h
      simp only [pd]
      exact .tup (sqT_mono sub q) (dpAll_of l fun i v d e1 e2 => ih i v d e1 e2 n (okDs_at h e2))
  | @lst a vs ds q l r ih =>
    intro n h
    cases n with
    | zero => simp [okD] at h
    | succ n =>
      have h : okDs n ds = true := by simpa [okD] using h
      simp only [pd]
      exact .lst (.inl (rd_mono sub q)) (dpAll_of l fun i v d e1 e2 => ih i v d e1 e2 n (okDs_at h e2))
  | @olst a vs ds fps q l m r ih =>
    intro n h
    cases n with
    | zero => simp [okD] at h
    | succ n =>
      have h : okDs n ds = true := by simpa [okD] using h
      simp only [pd]
      refine .lst (.inl (.inl q)) (dpAll_of l fun i v d e1 e2 => ?_)
      have hi : i < fps.length := by rw [m]; exact (List.getElem?_eq_some_iff.mp e2).1
      exact ih i v d _ e1 e2 (List.getElem?_eq_getElem hi) n (okDs_at h e2)
theorem shaped_of {d : D} (h : dat d = true) : SeqAt.shaped (pd d) = true := by
  have := okD_lay d 60 h
  unfold SeqAt.shaped
  rw [this.1, Bool.true_and]
  exact decide_eq_true (by omega)
theorem eq2_ok {C : Ct} : OpOk C (o2 eq2) (r2 (rEqD C.g.K)) := by
  refine op2_ok fun F H x y d e fx fy c Q sub hx hy h w => ?_
  unfold eq2 at h
  by_cases hd : (dat d && dat e) = true
  · rw [if_pos hd] at h
    have hd := Bool.and_eq_true_iff.mp hd
    rw [eqv_pd d e 60 60 hd.1 hd.2] at h
    cases h
    exact ⟨pd d, pd e, hx.dp sub 60 hd.1, hy.dp sub 60 hd.2, shaped_of hd.1, shaped_of hd.2, w.bl sub⟩
  · rw [if_neg hd] at h; cases h
theorem ne2_ok {C : Ct} : OpOk C (o2 ne2) (r2 (rNeD C.g.K)) := by
  refine op2_ok fun F H x y d e fx fy c Q sub hx hy h w => ?_
  unfold ne2 at h
  by_cases hd : (dat d && dat e) = true
  · rw [if_pos hd] at h
    have hd := Bool.and_eq_true_iff.mp hd
    rw [eqv_pd d e 60 60 hd.1 hd.2] at h
    cases h
    exact ⟨pd d, pd e, hx.dp sub 60 hd.1, hy.dp sub 60 hd.2, shaped_of hd.1, shaped_of hd.2, w.bl sub⟩
  · rw [if_neg hd] at h; cases h
end Z
end

section
set_option Elab.async false
set_option linter.all false
set_option maxRecDepth 100000
set_option maxHeartbeats 4000000
/-! Z6: operations of the language on data. -/
namespace Z
open PySem L2 PyProof.Rows

/-! ### what stands behind a datum -/
section
variable {g : Gb} {F H : Hp} {v : V} {fp : List Addr} {ds : List D} {o : Bool}
theorem DR.tup_inv (r : DR g F H v (.tup ds) fp) : ∃ a vs, v = .ref a ∧ SqT g.K F a vs ∧ vs.length = ds.length ∧ (∀ (i : Nat) v d, vs[i]? = some v → ds[i]? = some d → DR g F H v d []) ∧ fp = [] := by
  cases r with
  | tup h n r => exact ⟨_, _, rfl, h, n, r, rfl⟩
theorem DR.lst_rd (sub : ∀ a o, F a = some o → H a = some o) (r : DR g F H v (.lst o ds) fp) : ∃ a vs, v = .ref a ∧ Rd H a (.lst vs) ∧ vs.length = ds.length ∧ (∀ (i : Nat) v d, vs[i]? = some v → ds[i]? = some d → ∃ f, DR g F H v d f) := by
  cases r with
  | lst h n r => exact ⟨_, _, rfl, rd_mono sub h, n, fun i v d e1 e2 => ⟨[], r i v d e1 e2⟩⟩
  | @olst a vs ds fps h n m r => exact ⟨_, _, rfl, .inl h, n, fun i v d e1 e2 => by
      have hi : i < fps.length := by rw [m]; exact (List.getElem?_eq_some_iff.mp e2).1
      exact ⟨_, r i v d _ e1 e2 (List.getElem?_eq_getElem hi)⟩⟩
theorem DR.lst_inv (sub : ∀ a o, F a = some o → H a = some o) (r : DR g F H v (.lst o ds) fp) : ∃ a vs, v = .ref a ∧ SqL g.K H a vs ∧ vs.length = ds.length ∧ (∀ (i : Nat) v d, vs[i]? = some v → ds[i]? = some d → ∃ f, DR g F H v d f) := by
  obtain ⟨a, vs, e, h, r⟩ := r.lst_rd sub
  exact ⟨a, vs, e, .inl h, r⟩
theorem all_frz {i : Nat} {d : D} (h : ds.all isFrz = true) (e : ds[i]? = some d) : isFrz d = true := List.all_eq_true.mp h d (List.mem_of_getElem? e)
theorem DR.is_int {i : Int} (r : DR g F H v (.int i) fp) : v = .int i := by cases r; rfl
theorem DR.is_bl {i : Bool} (r : DR g F H v (.bl i) fp) : v = .bl i := by cases r; rfl
theorem DR.is_str {i : Str} (r : DR g F H v (.str i) fp) : v = .str i := by cases r; rfl
theorem seqsF_some {d : D} {xs : List D} (h : seqsF d = some xs) : xs.all isFrz = true ∧ (d = .tup xs ∨ ∃ o, d = .lst o xs) := by
  cases d with
  | tup ys =>
    simp only [seqsF, seqs] at h
    by_cases q : ys.all isFrz = true
    · rw [if_pos q] at h; cases h; exact ⟨q, .inl rfl⟩
    · rw [if_neg q] at h; cases h
  | lst o ys =>
    simp only [seqsF, seqs] at h
    by_cases q : ys.all isFrz = true
    · rw [if_pos q] at h; cases h; exact ⟨q, .inr ⟨o, rfl⟩⟩
    · rw [if_neg q] at h; cases h
  | _ => simp [seqsF, seqs] at h
/-- a sequence whose items are shared -/
theorem DR.seq_inv (sub : ∀ a o, F a = some o → H a = some o) {d : D} (r : DR g F H v d fp) (h : seqsF d = some ds) : ∃ a vs, v = .ref a ∧ (SqL g.K H a vs ∨ SqT g.K F a vs) ∧ (d = .tup ds → SqT g.K F a vs) ∧ vs.length = ds.length ∧ (∀ (i : Nat) v d, vs[i]? = some v → ds[i]? = some d → DR g F H v d []) := by
  obtain ⟨q, e | ⟨o, e⟩⟩ := seqsF_some h
  · subst e
    obtain ⟨a, vs, rfl, h1, h2, h3, _⟩ := r.tup_inv
    exact ⟨a, vs, rfl, .inr h1, fun _ => h1, h2, h3⟩
  · subst e
    obtain ⟨a, vs, rfl, h1, h2, h3⟩ := r.lst_inv sub
    refine ⟨a, vs, rfl, .inl h1, (fun z => by cases z), h2, fun i v d e1 e2 => ?_⟩
    obtain ⟨f, r⟩ := h3 i v d e1 e2
    exact r.frz (fun _ _ e => e) (all_frz q e2)
end

/-! ### new objects -/
section
variable {C : Ct} {F H : Hp} {Q : VK} {vs : List V} {ds : List D}
theorem Nw.new {F H : Hp} {p : Addr} {o : HO} (sub : ∀ a o, F a = some o → H a = some o) (np : H p = none) : Nw F H F (upd H p o) := by
  have hF : F p = none := by
    cases e : F p with
    | none => rfl
    | some u => rw [sub p u e] at np; cases np
  exact ⟨fun a u e => by rw [upd_ne (ne_of_none e np)]; exact e, fun _ _ e => e, fun a u e => by rw [upd_ne (ne_of_none (sub a u e) np)]; exact sub a u e, fun _ _ _ e => e⟩
/-- shared at once -/
theorem Nw.newS {F H : Hp} {p : Addr} {o : HO} (sub : ∀ a o, F a = some o → H a = some o) (np : H p = none) : Nw F H (upd F p o) (upd H p o) := by
  refine ⟨fun a u e => by rw [upd_ne (ne_of_none e np)]; exact e, fun a u e => ?_, fun a u e => ?_, fun a u e q => ?_⟩
  · have h := sub a u e
    rw [upd_ne (ne_of_none h np)]; exact e
  · by_cases h : a = p
    · subst h; rw [upd_same] at e ⊢; exact e
    · rw [upd_ne h] at e ⊢; exact sub a u e
  · rw [upd_ne (ne_of_none e np)] at q; exact q
theorem Wish.newL (sub : ∀ a o, F a = some o → H a = some o) (n : vs.length = ds.length) (r : ∀ (i : Nat) v d, vs[i]? = some v → ds[i]? = some d → DR C.g F H v d []) (w : Wish C F H Q (.lst true ds)) : ∀ p, H p = none → Q (.ref p) (upd H p (.lst vs)) := fun p np => by
  have nw := Nw.new (o := .lst vs) sub np
  refine w _ F _ [p] ⟨nw, ?_, fun a ha => ?_, fun a ha => ?_, by simp⟩
  · have e : ([p] : List Addr) = p :: (List.replicate ds.length ([] : List Addr)).flatten := by simp
    rw [e]
    refine .olst upd_same n (by simp) fun i v d f e1 e2 e3 => ?_
    have : f = [] := by
      rw [List.getElem?_replicate] at e3
      split at e3 <;> simp_all
    subst this
    exact (r i v d e1 e2).later nw
  · have : a = p := by simpa using ha
    subst this; exact np
  · have : a = p := by simpa using ha
    subst this
    cases e : F a with
    | none => rfl
    | some u => rw [sub a u e] at np; cases np
theorem Wish.newT (sub : ∀ a o, F a = some o → H a = some o) (n : vs.length = ds.length) (r : ∀ (i : Nat) v d, vs[i]? = some v → ds[i]? = some d → DR C.g F H v d []) (w : Wish C F H Q (.tup ds)) : ∀ p, H p = none → Q (.ref p) (upd H p (.tup vs)) := fun p np => by
  have nw := Nw.newS (o := .tup vs) sub np
  exact w _ (upd F p (.tup vs)) _ [] ⟨nw, .tup (.inl (.inl upd_same)) n fun i v d e1 e2 => (r i v d e1 e2).later nw, fun _ h => (nomatch h), fun _ h => (nomatch h), List.nodup_nil⟩
theorem Wish.old {v : V} {d : D} (sub : ∀ a o, F a = some o → H a = some o) (r : DR C.g F H v d []) (w : Wish C F H Q d) : Q v H := w _ F H [] (NewV.plain sub r)
theorem DRs.all {g : Gb} {xs : List D} {us : List V} {fps : List (List Addr)} (r : DRs g F H us xs fps) (h : allFrz xs = true) : ∀ (i : Nat) v d, us[i]? = some v → xs[i]? = some d → DR g F H v d [] := fun i v d e1 e2 => by
  have hi : i < fps.length := by rw [r.2.1]; exact (List.getElem?_eq_some_iff.mp e2).1
  exact (r.2.2 i v d _ e1 e2 (List.getElem?_eq_getElem hi)).frz (fun _ _ e => e) (all_frz h e2)
end

/-! ### an operation's rule on values, by what it gives on data -/
def rOp (C : Ct) (f : OpF) : List V → Hp → VK → Prop := fun vs H Q => ∃ F ds fps d, (∀ a o, F a = some o → H a = some o) ∧ DRs C.g F H vs ds fps ∧ f C.rt ds = .ok d ∧ Wish C F H Q d
/-- it raises nothing -/
def NoX (f : OpF) : Prop := ∀ rt ds c fs, f rt ds ≠ .exc c fs
theorem rOp_ok {C : Ct} {f : OpF} (n : NoX f) : OpOk C f (fun _ => rOp C f) := by
  intro F H σ vs ds fps Q sub dr oc
  cases e : f C.rt ds with
  | ok d => rw [e] at oc; exact ⟨F, ds, fps, d, sub, dr, e, oc⟩
  | exc c fs => exact absurd e (n _ _ _ _)
  | bad => rw [e] at oc; exact oc.elim
theorem nox1 {f : D → Option D} : NoX (o1 f) := fun rt ds c fs h => by
  match ds, h with
  | [], h => cases h
  | [x], h => simp only [o1, opt] at h; cases e : f x <;> rw [e] at h <;> cases h
  | _ :: _ :: _, h => cases h
theorem nox2 {f : D → D → Option D} : NoX (o2 f) := fun rt ds c fs h => by
  match ds, h with
  | [], h => cases h
  | [_], h => cases h
  | [x, y], h => simp only [o2, opt] at h; cases e : f x y <;> rw [e] at h <;> cases h
  | _ :: _ :: _ :: _, h => cases h
theorem nox3 {f : D → D → D → Option D} : NoX (o3 f) := fun rt ds c fs h => by
  match ds, h with
  | [], h => cases h
  | [_], h => cases h
  | [_, _], h => cases h
  | [x, y, z], h => simp only [o3, opt] at h; cases e : f x y z <;> rw [e] at h <;> cases h
  | _ :: _ :: _ :: _ :: _, h => cases h
section
variable {C : Ct} {vs : List V} {H : Hp} {Q : VK}
theorem rOp1 {f : D → Option D} (h : rOp C (o1 f) vs H Q) : ∃ F x d fp e, vs = [x] ∧ (∀ a o, F a = some o → H a = some o) ∧ DR C.g F H x d fp ∧ f d = some e ∧ Wish C F H Q e := by
  obtain ⟨F, ds, fps, d, sub, dr, e, w⟩ := h
  match ds, dr, e with
  | [], _, e => cases e
  | [d1], dr, e =>
    obtain ⟨x, vs', fx, fps', rfl, rfl, hx, dr⟩ := dr.uncons
    obtain ⟨rfl, rfl⟩ := dr.unnil
    simp only [o1, opt] at e
    cases q : f d1 with
    | none => rw [q] at e; cases e
    | some e' => rw [q] at e; cases e; exact ⟨F, x, d1, fx, _, rfl, sub, hx, q, w⟩
  | _ :: _ :: _, _, e => cases e
theorem rOp2 {f : D → D → Option D} (h : rOp C (o2 f) vs H Q) : ∃ F x y d1 d2 fx fy e, vs = [x, y] ∧ (∀ a o, F a = some o → H a = some o) ∧ DR C.g F H x d1 fx ∧ DR C.g F H y d2 fy ∧ f d1 d2 = some e ∧ Wish C F H Q e := by
  obtain ⟨F, ds, fps, d, sub, dr, e, w⟩ := h
  match ds, dr, e with
  | [], _, e => cases e
  | [_], _, e => cases e
  | [d1, d2], dr, e =>
    obtain ⟨x, vs', fx, fps', rfl, rfl, hx, dr⟩ := dr.uncons
    obtain ⟨y, vs', fy, fps', rfl, rfl, hy, dr⟩ := dr.uncons
    obtain ⟨rfl, rfl⟩ := dr.unnil
    simp only [o2, opt] at e
    cases q : f d1 d2 with
    | none => rw [q] at e; cases e
    | some e' => rw [q] at e; cases e; exact ⟨F, x, y, d1, d2, fx, fy, _, rfl, sub, hx, hy, q, w⟩
  | _ :: _ :: _ :: _, _, e => cases e
end
theorem CallR.imp {X : Cx} {f : Value} {r r' : List V → Hp → VK → Prop} (h : CallR X f r) (i : ∀ vs H Q, r' vs H Q → r vs H Q) : CallR X f r' := fun pins s σ H xs us Q I rs q => h pins s σ H xs us Q I rs (i _ _ _ q)
theorem OpR.imp {X : Cx} {f : Value → Value → Sem Value} {r r' : R2} (h : OpR X f r) (i : ∀ x y H Q, r' x y H Q → r x y H Q) : OpR X f r' := fun pins s σ H x y v u Q I rx ry q => h pins s σ H x y v u Q I rx ry (i _ _ _ _ q)

section
variable {C : Ct} {X : Cx} (K : C.g.K = X.K)
include K
theorem len_ok : CallR X (.builtin "len") (rOp C (o1 len1)) := by
  refine CallR.imp (CallR.or call_len_seq call_len) fun vs H Q h => ?_
  obtain ⟨F, x, d, fp, e, rfl, sub, dr, q, w⟩ := rOp1 h
  cases d with
  | tup ys =>
    obtain ⟨a, us, rfl, h1, h2, h3, _⟩ := dr.tup_inv
    cases q
    rw [K] at h1
    refine .inl ⟨a, us, rfl, .inr (sqT_mono sub h1), ?_⟩
    rw [h2]; exact w.int sub
  | lst o ys =>
    obtain ⟨a, us, rfl, h1, h2, h3⟩ := dr.lst_inv sub
    cases q
    rw [K] at h1
    refine .inl ⟨a, us, rfl, .inl h1, ?_⟩
    rw [h2]; exact w.int sub
  | str s =>
    cases dr.is_str
    simp only [len1] at q
    by_cases hs : s.length ≤ sizeMax
    · rw [if_pos hs] at q; cases q
      rw [sizeMax_eq] at hs
      exact .inr ⟨.str s, s.length, rfl, ⟨hs, rfl⟩, w.int sub⟩
    · rw [if_neg hs] at q; cases q
  | dic o ks ws => cases dr
  | _ => cases q
theorem tuple_ok : CallR X (.type "tuple") (rOp C (o1 tuple1)) := by
  refine CallR.imp call_tuple_of fun vs H Q h => ?_
  obtain ⟨F, x, d, fp, e, rfl, sub, dr, q, w⟩ := rOp1 h
  obtain ⟨ys, q1, rfl⟩ := Option.map_eq_some_iff.mp q
  obtain ⟨z, e | ⟨o, e⟩⟩ := seqsF_some q1
  · subst e
    obtain ⟨a, us, rfl, h1, h2, h3, rfl⟩ := dr.tup_inv
    rw [K] at h1
    exact ⟨a, us, rfl, .inr ⟨sqT_mono sub h1, w.old sub dr⟩⟩
  · subst e
    obtain ⟨a, us, rfl, h1, _, h2, h3⟩ := dr.seq_inv sub q1
    obtain ⟨a', us', e, h1', h2', h3'⟩ := dr.lst_inv sub
    cases e
    rw [K] at h1'
    refine ⟨a, us', rfl, .inl ⟨h1', w.newT sub h2' fun i v d e1 e2 => ?_⟩⟩
    obtain ⟨f, r⟩ := h3' i v d e1 e2
    exact r.frz (fun _ _ e => e) (all_frz z e2)
theorem list_ok : CallR X (.type "list") (rOp C (o1 list1)) := by
  refine CallR.imp call_list_of fun vs H Q h => ?_
  obtain ⟨F, x, d, fp, e, rfl, sub, dr, q, w⟩ := rOp1 h
  obtain ⟨ys, q1, rfl⟩ := Option.map_eq_some_iff.mp q
  obtain ⟨a, us, rfl, h1, _, h2, h3⟩ := dr.seq_inv sub q1
  rw [K] at h1
  exact ⟨a, us, rfl, h1.imp_right (sqT_mono sub), w.newL sub h2 h3⟩
theorem abs_ok : CallR X (.builtin "abs") (rOp C (o1 abs1)) := by
  refine CallR.imp call_abs fun vs H Q h => ?_
  obtain ⟨F, x, d, fp, e, rfl, sub, dr, q, w⟩ := rOp1 h
  cases d <;> first | (cases q; done) | skip
  cases dr.is_int
  cases q
  exact ⟨_, rfl, w.int sub⟩
theorem max2_ok (hc : X.calm = true) : CallR X (.builtin "max") (rOp C (o2 max2)) := by
  refine CallR.imp (call_max2 hc) fun vs H Q h => ?_
  obtain ⟨F, x, y, d1, d2, fx, fy, e, rfl, sub, r1, r2, q, w⟩ := rOp2 h
  cases d1 <;> cases d2 <;> first | (cases q; done) | skip
  cases r1.is_int
  cases r2.is_int
  cases q
  exact ⟨_, _, rfl, w.int sub⟩
theorem min2_ok (hc : X.calm = true) : CallR X (.builtin "min") (rOp C (o2 min2)) := by
  refine CallR.imp (call_min2 hc) fun vs H Q h => ?_
  obtain ⟨F, x, y, d1, d2, fx, fy, e, rfl, sub, r1, r2, q, w⟩ := rOp2 h
  cases d1 <;> cases d2 <;> first | (cases q; done) | skip
  cases r1.is_int
  cases r2.is_int
  cases q
  exact ⟨_, _, rfl, w.int sub⟩
theorem vs_bools {F H : Hp} : ∀ {vs : List V} {ds : List D} {bs : List Bool}, boolsOf ds = some bs → vs.length = ds.length → (∀ (i : Nat) v d, vs[i]? = some v → ds[i]? = some d → ∃ f, DR C.g F H v d f) → vs = bs.map V.bl
  | [], [], bs, h, _, _ => by cases h; rfl
  | v :: vs, [], bs, h, l, _ => by simp at l
  | [], d :: ds, bs, h, l, _ => by simp at l
  | v :: vs, d :: ds, bs, h, l, r => by
    cases d <;> first | (cases h; done) | skip
    rename_i b
    simp only [boolsOf] at h
    obtain ⟨cs, h1, rfl⟩ := Option.map_eq_some_iff.mp h
    obtain ⟨f, r0⟩ := r 0 v _ rfl rfl
    cases r0.is_bl
    rw [vs_bools (vs := vs) h1 (by simpa using l) fun i v d e1 e2 => r (i + 1) v d (by simpa using e1) (by simpa using e2)]
    rfl
theorem vs_ints {F H : Hp} : ∀ {vs : List V} {ds : List D} {bs : List Int}, intsOf ds = some bs → vs.length = ds.length → (∀ (i : Nat) v d, vs[i]? = some v → ds[i]? = some d → ∃ f, DR C.g F H v d f) → vs = bs.map V.int
  | [], [], bs, h, _, _ => by cases h; rfl
  | v :: vs, [], bs, h, l, _ => by simp at l
  | [], d :: ds, bs, h, l, _ => by simp at l
  | v :: vs, d :: ds, bs, h, l, r => by
    cases d <;> first | (cases h; done) | skip
    rename_i b
    simp only [intsOf] at h
    obtain ⟨cs, h1, rfl⟩ := Option.map_eq_some_iff.mp h
    obtain ⟨f, r0⟩ := r 0 v _ rfl rfl
    cases r0.is_int
    rw [vs_ints (vs := vs) h1 (by simpa using l) fun i v d e1 e2 => r (i + 1) v d (by simpa using e1) (by simpa using e2)]
    rfl
theorem all_ok (hc : X.calm = true) : CallR X (.builtin "all") (rOp C (o1 all1)) := by
  refine CallR.imp (cr_all hc) fun vs H Q h => ?_
  obtain ⟨F, x, d, fp, e, rfl, sub, dr, q, w⟩ := rOp1 h
  cases d <;> first | (cases q; done) | skip
  obtain ⟨a, us, rfl, h1, h2, h3⟩ := dr.lst_inv sub
  obtain ⟨bs, h4, rfl⟩ := Option.map_eq_some_iff.mp q
  rw [vs_bools K h4 h2 h3, K] at h1
  exact ⟨a, bs, rfl, h1, w.bl sub⟩
theorem any_ok (hc : X.calm = true) : CallR X (.builtin "any") (rOp C (o1 any1)) := by
  refine CallR.imp (cr_any hc) fun vs H Q h => ?_
  obtain ⟨F, x, d, fp, e, rfl, sub, dr, q, w⟩ := rOp1 h
  cases d <;> first | (cases q; done) | skip
  obtain ⟨a, us, rfl, h1, h2, h3⟩ := dr.lst_inv sub
  obtain ⟨bs, h4, rfl⟩ := Option.map_eq_some_iff.mp q
  rw [vs_bools K h4 h2 h3, K] at h1
  exact ⟨a, bs, rfl, h1, w.bl sub⟩
theorem sum_ok (hc : X.calm = true) : CallR X (.builtin "sum") (rOp C (o1 sum1)) := by
  refine CallR.imp (cr_sum hc) fun vs H Q h => ?_
  obtain ⟨F, x, d, fp, e, rfl, sub, dr, q, w⟩ := rOp1 h
  cases d <;> first | (cases q; done) | skip
  obtain ⟨a, us, rfl, h1, h2, h3⟩ := dr.lst_inv sub
  obtain ⟨bs, h4, rfl⟩ := Option.map_eq_some_iff.mp q
  rw [vs_ints K h4 h2 h3, K] at h1
  exact ⟨a, bs, rfl, h1, w.int sub⟩
end
end Z
end

section
set_option Elab.async false
set_option linter.all false
set_option maxRecDepth 100000
set_option maxHeartbeats 4000000
/-! Z7: operators. -/
namespace Z
open PySem L2 PyProof.Rows

/-- a binary operator's rule, by what it gives on data -/
def rB (C : Ct) (f : OpF) : R2 := fun x y H Q => rOp C f [x, y] H Q
theorem rB2 {C : Ct} {f : D → D → Option D} {x y : V} {H : Hp} {Q : VK} (h : rB C (o2 f) x y H Q) : ∃ F d1 d2 fx fy e, (∀ a o, F a = some o → H a = some o) ∧ DR C.g F H x d1 fx ∧ DR C.g F H y d2 fy ∧ f d1 d2 = some e ∧ Wish C F H Q e := by
  obtain ⟨F, x', y', d1, d2, fx, fy, e, q, r⟩ := rOp2 h
  simp only [List.cons.injEq, and_true] at q
  obtain ⟨rfl, rfl⟩ := q
  exact ⟨F, d1, d2, fx, fy, e, r⟩
/-- no own operators so far: an object is no datum that stands -/
theorem rBin {C : Ct} {f : D → D → Option D} {m : Str} {x y : V} {H : Hp} {Q : VK} (h : rB C (oBin f m) x y H Q) : ∃ F d1 d2 fx fy e, (∀ a o, F a = some o → H a = some o) ∧ DR C.g F H x d1 fx ∧ DR C.g F H y d2 fy ∧ f d1 d2 = some e ∧ Wish C F H Q e := by
  obtain ⟨F, ds, fps, d, sub, dr, e, w⟩ := h
  match ds, dr, e with
  | [], dr, _ => exact absurd dr.1 (by simp)
  | [_], dr, _ => exact absurd dr.1 (by simp)
  | [d1, d2], dr, e =>
    obtain ⟨x', vs', fx, fps', q, rfl, hx, dr⟩ := dr.uncons
    cases q
    obtain ⟨y', vs', fy, fps', q, rfl, hy, dr⟩ := dr.uncons
    cases q
    simp only [oBin] at e
    cases q : f d1 d2 with
    | some c => rw [q] at e; cases e; exact ⟨F, d1, d2, fx, fy, _, sub, hx, hy, q, w⟩
    | none =>
      rw [q] at e
      cases d1 <;> first | (cases e; done) | (cases hx; done)
  | _ :: _ :: _ :: _, dr, _ => exact absurd dr.1 (by simp)
theorem rUn {C : Ct} {f : D → Option D} {m : Str} {x : V} {H : Hp} {Q : VK} (h : rOp C (oUn f m) [x] H Q) : ∃ F d1 fx e, (∀ a o, F a = some o → H a = some o) ∧ DR C.g F H x d1 fx ∧ f d1 = some e ∧ Wish C F H Q e := by
  obtain ⟨F, ds, fps, d, sub, dr, e, w⟩ := h
  match ds, dr, e with
  | [], dr, _ => exact absurd dr.1 (by simp)
  | [d1], dr, e =>
    obtain ⟨x', vs', fx, fps', q, rfl, hx, dr⟩ := dr.uncons
    cases q
    simp only [oUn] at e
    cases q : f d1 with
    | some c => rw [q] at e; cases e; exact ⟨F, d1, fx, _, sub, hx, q, w⟩
    | none =>
      rw [q] at e
      cases d1 <;> first | (cases e; done) | (cases hx; done)
  | _ :: _ :: _, dr, _ => exact absurd dr.1 (by simp)

/-- list + list, any that are read -/
def rCatLL (K : PySem.W.Frag) : R2 := fun x y H Q => ∃ l b xs zs, x = .ref l ∧ y = .ref b ∧ SqL K H l xs ∧ SqL K H b zs ∧ xs.length + zs.length ≤ sizeLine ∧ ∀ p, H p = none → Q (.ref p) (upd H p (.lst (xs ++ zs)))
theorem op_catLL {X : Cx} : OpR X (binaryOp .Add) (rCatLL X.K) := by
  intro pins s σ H x y v u Q I rx ry h
  obtain ⟨l, b, xs, zs, rfl, rfl, hH, hB, hz, q⟩ := h
  cases rx
  cases ry
  obtain ⟨its, r, ⟨⟨cls, dd, data, sl⟩, n, ho, hc, _, hd⟩, _⟩ := I.list hH
  obtain ⟨its2, r2, ⟨⟨cls2, dd2, data2, sl2⟩, n2, ho2, hc2, _, hd2⟩, _⟩ := I.list hB
  simp only at hc hd hc2 hd2
  subst hc hd hc2 hd2
  have e1 := r.length
  have e2 := r2.length
  have e : its.toArray ++ its2.toArray = (its ++ its2).toArray := by simp
  refine concat_meets ⟨_, ho, rfl⟩ ⟨_, ho2, rfl⟩ noFill_list_add seq_list_add PySem.F.slot_list_add PySem.F.entry_list_add (PySem.F.args_list_add_2 _ _) (list_addW l b its.toArray its2.toArray n n2 dd dd2 sl sl2 (by simp; omega)) ⟨ho, ho2, ?_⟩
  rw [e]
  exact ⟨.ref _, _, I.lnew (t' := s.toks) (r.append r2) (by rw [List.length_append]; omega), rfl, q _ I.fresh⟩

/-- list * int, any list that is read -/
def rRepL : R2 := fun x y H Q => ∃ l k xs, x = .ref l ∧ y = .int k ∧ Rd H l (.lst xs) ∧ -(2 ^ 63) ≤ k ∧ k < 2 ^ 63 ∧ xs.length * k.toNat ≤ sizeLine ∧ ∀ p, H p = none → Q (.ref p) (upd H p (.lst (List.replicate k.toNat xs).flatten))
theorem op_repL {X : Cx} : OpR X (binaryOp .Mult) rRepL := by
  intro pins s σ H x y v u Q I rx ry h
  obtain ⟨l, k, xs, rfl, rfl, hH, h1, h2, hz, q⟩ := h
  cases rx
  obtain ⟨t, rfl⟩ := ry
  obtain ⟨z, its, n, r, e⟩ := hH.ok I.hok
  have hl := r.length
  have hlen : its.toArray.size * k.toNat ≤ sizeLine := by rw [List.size_toArray, ← hl]; exact hz
  have hcap : ¬ its.toArray.size * k.toNat > (2 ^ 63 - 1) / 8 := by
    have : (sizeLine : Nat) ≤ (2 ^ 63 - 1) / 8 := by decide
    omega
  have hfit : ¬ (!Builtin.List.listFitsIndex k) = true := by
    rw [fitsIndex_both h1 h2]
    exact Bool.false_ne_true
  have hlong : ¬ Builtin.List.listTooLong (its.toArray.size * k.toNat) = true := by
    rw [notLongL hlen]
    exact Bool.false_ne_true
  have hnew : List.foldl (fun x1 x2 => x1 ++ x2) #[] (List.replicate (if its.toArray.isEmpty = true then 0 else k.toNat) its.toArray) = (List.replicate k.toNat its).flatten.toArray := by
    have f0 : ∀ m : Nat, List.foldl (fun x1 x2 => x1 ++ x2) #[] (List.replicate m its.toArray) = (List.replicate m its).flatten.toArray := fun m => by
      have := foldl_rep its m []
      rw [List.nil_append] at this
      exact this
    rw [f0]
    cases its with
    | nil => simp
    | cons a r' => rw [if_neg (by simp)]
  refine wpAny_binaryOp_repeat_ref (T := "list") (U := "int") (by decide) ⟨_, e, rfl⟩ (fun s' => typeIs_int s' k t) noFill_list_mul F.fills_int_mul F.slot_int_rmul repeat_list F.slot_int_index.lookup
    (call_meets F.slot_int_rmul (typeIs_int s k t) F.entry_int_rmul (F.args_int_rmul_2 _ _) (int___rmul___int_list k t l its.toArray n)
      ⟨e, rfl, ⟨_, e, rfl⟩, call_meets F.slot_list_mul ⟨_, e, rfl⟩ F.entry_list_mul (F.args_list_mul_2 _ _) (AutoListH.list___mul___list_int_3 l its.toArray n k t hfit hcap hlong) ⟨e, ?_⟩⟩)
  rw [hnew]
  exact ⟨.ref _, _, I.lnew (t' := s.toks) (r.rep k.toNat) (by rw [PyProof.Rows.lm_len_rep_flat, Nat.mul_comm]; exact hz), rfl, q _ I.fresh⟩

section
variable {C : Ct} {X : Cx} (K : C.g.K = X.K)
include K
theorem get_append {α β : Type} {R : Nat → α → β → Prop} {xs us : List α} {ys ws : List β} (h1 : xs.length = ys.length) (h2 : us.length = ws.length) {P : α → β → Prop} (p1 : ∀ (i : Nat) a b, xs[i]? = some a → ys[i]? = some b → P a b) (p2 : ∀ (i : Nat) a b, us[i]? = some a → ws[i]? = some b → P a b) :
    ∀ (i : Nat) a b, (xs ++ us)[i]? = some a → (ys ++ ws)[i]? = some b → P a b := fun i a b e1 e2 => by
  by_cases hi : i < xs.length
  · rw [List.getElem?_append_left hi] at e1
    rw [List.getElem?_append_left (by omega)] at e2
    exact p1 i a b e1 e2
  · rw [List.getElem?_append_right (by omega)] at e1
    rw [List.getElem?_append_right (by omega)] at e2
    rw [← h1] at e2
    exact p2 _ a b e1 e2
theorem add_ok {m : Str} : OpR X (binaryOp .Add) (rB C (oBin add2 m)) := by
  refine OpR.imp (OpR.or op_add (OpR.or op_add_str (OpR.or op_catA op_catLL))) fun x y H Q h => ?_
  obtain ⟨F, d1, d2, fx, fy, e, sub, r1, r2, q, w⟩ := rBin h
  cases d1 with
  | int i =>
    cases d2 <;> first | (cases q; done) | skip
    cases r1.is_int; cases r2.is_int; cases q
    exact .inl ⟨_, _, rfl, rfl, w.int sub⟩
  | str a =>
    cases d2 <;> first | (cases q; done) | skip
    rename_i b
    cases r1.is_str; cases r2.is_str
    simp only [add2] at q
    by_cases z : a.length + b.length ≤ sizeMax
    · rw [if_pos z] at q; cases q
      rw [sizeMax_eq] at z
      exact .inr (.inl ⟨_, _, rfl, rfl, z, w.str sub⟩)
    · rw [if_neg z] at q; cases q
  | tup a =>
    cases d2 <;> first | (cases q; done) | skip
    rename_i b
    simp only [add2] at q
    by_cases z : a.length + b.length ≤ sizeMax
    · rw [if_pos z] at q; cases q
      rw [sizeMax_eq] at z
      obtain ⟨p1, us1, rfl, h1, l1, i1, rfl⟩ := r1.tup_inv
      obtain ⟨p2, us2, rfl, h2, l2, i2, rfl⟩ := r2.tup_inv
      have w1 := w
      refine .inr (.inr (.inl ⟨p1, p2, us1, us2, rfl, rfl, by rw [← K]; exact sqT_mono sub h1, by rw [← K]; exact sqT_mono sub h2, by omega, fun e => ?_, fun e1 e => ?_, fun e1 e2 => ?_⟩))
      · subst e
        have : a = [] := by simpa using l1.symm
        subst this
        exact w.old sub r2
      · subst e
        have : b = [] := by simpa using l2.symm
        subst this
        rw [List.append_nil] at w
        exact w.old sub r1
      · exact w.newT sub (by simp [l1, l2]) (get_append K (R := fun _ _ _ => True) l1 l2 i1 i2)
    · rw [if_neg z] at q; cases q
  | lst o a =>
    cases d2 <;> first | (cases q; done) | skip
    rename_i o2 b
    simp only [add2] at q
    by_cases z : (decide (a.length + b.length ≤ sizeMax) && (a.all isFrz && b.all isFrz)) = true
    · rw [if_pos z] at q; cases q
      simp only [Bool.and_eq_true, decide_eq_true_eq] at z
      obtain ⟨z, z1, z2⟩ := z
      rw [sizeMax_eq] at z
      obtain ⟨p1, us1, rfl, h1, l1, i1⟩ := r1.lst_inv sub
      obtain ⟨p2, us2, rfl, h2, l2, i2⟩ := r2.lst_inv sub
      refine .inr (.inr (.inr ⟨p1, p2, us1, us2, rfl, rfl, by rw [← K]; exact h1, by rw [← K]; exact h2, by omega, ?_⟩))
      refine w.newL sub (by simp [l1, l2]) (get_append K (R := fun _ _ _ => True) l1 l2 (fun i v d e1 e2 => ?_) fun i v d e1 e2 => ?_)
      · obtain ⟨f, r⟩ := i1 i v d e1 e2
        exact r.frz (fun _ _ e => e) (all_frz z1 e2)
      · obtain ⟨f, r⟩ := i2 i v d e1 e2
        exact r.frz (fun _ _ e => e) (all_frz z2 e2)
    · rw [if_neg z] at q; cases q
  | _ => cases q
theorem sub_ok {m : Str} : OpR X (binaryOp .Sub) (rB C (oBin sub2 m)) := by
  refine OpR.imp op_sub fun x y H Q h => ?_
  obtain ⟨F, d1, d2, fx, fy, e, sub, r1, r2, q, w⟩ := rBin h
  cases d1 <;> cases d2 <;> first | (cases q; done) | skip
  cases r1.is_int; cases r2.is_int; cases q
  exact ⟨_, _, rfl, rfl, w.int sub⟩
theorem fdiv_ok {m : Str} : OpR X (binaryOp .FloorDiv) (rB C (oBin fdiv2 m)) := by
  refine OpR.imp op_fdivW fun x y H Q h => ?_
  obtain ⟨F, d1, d2, fx, fy, e, sub, r1, r2, q, w⟩ := rBin h
  cases d1 <;> cases d2 <;> first | (cases q; done) | skip
  rename_i i j
  cases r1.is_int; cases r2.is_int
  simp only [fdiv2] at q
  by_cases z : 0 < j ∧ j.natAbs.log2 < 9000
  · rw [if_pos z] at q; cases q
    exact ⟨_, _, rfl, rfl, z, w.int sub⟩
  · rw [if_neg z] at q; cases q
theorem mod_ok {m : Str} : OpR X (binaryOp .Mod) (rB C (oBin mod2 m)) := by
  refine OpR.imp op_mod fun x y H Q h => ?_
  obtain ⟨F, d1, d2, fx, fy, e, sub, r1, r2, q, w⟩ := rBin h
  cases d1 <;> cases d2 <;> first | (cases q; done) | skip
  rename_i i j
  cases r1.is_int; cases r2.is_int
  simp only [mod2] at q
  by_cases z : 0 < j
  · rw [if_pos z] at q; cases q
    exact ⟨_, _, rfl, rfl, z, w.int sub⟩
  · rw [if_neg z] at q; cases q
omit K in
theorem flat_get {α : Type} {xs : List α} : ∀ (m i : Nat) (a : α), (List.replicate m xs).flatten[i]? = some a → xs[i % xs.length]? = some a
  | 0, i, a, h => by simp at h
  | m + 1, i, a, h => by
    rw [List.replicate_succ, List.flatten_cons] at h
    by_cases hi : i < xs.length
    · rw [List.getElem?_append_left hi] at h
      rw [Nat.mod_eq_of_lt hi]; exact h
    · rw [List.getElem?_append_right (by omega)] at h
      have := flat_get m (i - xs.length) a h
      rw [Nat.mod_eq_sub_mod (by omega)]; exact this
omit K in
theorem flat_len {α : Type} {xs : List α} : ∀ m : Nat, (List.replicate m xs).flatten.length = m * xs.length := fun m => by simp
omit K in
theorem mulBig {i j : Int} (h : i.natAbs.log2 + j.natAbs.log2 < 130000000) : IntMulOk i j := by
  have b : ∀ x : Int, Builtin.Int.intBits x ≤ x.natAbs.log2 + 1 := fun x => by
    unfold Builtin.Int.intBits
    split <;> omega
  have h1 := b i
  have h2 := b j
  have e : bitsLine = 134217728 := by decide
  intro z
  have z3 := of_decide_eq_true (Bool.and_eq_true_iff.mp z).2
  rw [e] at z3
  omega
omit K in
theorem op_mulB : OpR X (binaryOp .Mult) (rI (fun i j => i.natAbs.log2 + j.natAbs.log2 < 130000000) fun i j => .int (i * j)) := opI fun _ _ _ _ _ _ _ hc q => mul_int q (mulBig hc)
theorem mul_ok {m : Str} : OpR X (binaryOp .Mult) (rB C (oBin mul2 m)) := by
  refine OpR.imp (OpR.or op_mulB (OpR.or op_repL op_repT)) fun x y H Q h => ?_
  obtain ⟨F, d1, d2, fx, fy, e, sub, r1, r2, q, w⟩ := rBin h
  cases d1 with
  | int i =>
    cases d2 <;> first | (cases q; done) | skip
    rename_i j
    cases r1.is_int; cases r2.is_int
    simp only [mul2] at q
    by_cases z : i.natAbs.log2 + j.natAbs.log2 < 130000000
    · rw [if_pos z] at q; cases q
      exact .inl ⟨_, _, rfl, rfl, z, w.int sub⟩
    · rw [if_neg z] at q; cases q
  | lst o a =>
    cases d2 <;> first | (cases q; done) | skip
    rename_i j
    cases r2.is_int
    simp only [mul2] at q
    by_cases z : -(2 ^ 63) ≤ j ∧ j < 2 ^ 63 ∧ a.length * j.toNat ≤ sizeMax ∧ a.all isFrz = true
    · rw [if_pos z] at q; cases q
      obtain ⟨p, us, rfl, h1, l1, i1⟩ := r1.lst_rd sub
      obtain ⟨z1, z2, z3, z4⟩ := z
      rw [sizeMax_eq] at z3
      refine .inr (.inl ⟨p, j, us, rfl, rfl, h1, z1, z2, by rw [l1]; exact z3, ?_⟩)
      refine w.newL sub (by rw [flat_len, flat_len, l1]) fun i v d e1 e2 => ?_
      have e1 := flat_get _ _ _ e1
      have e2 := flat_get _ _ _ e2
      rw [l1] at e1
      obtain ⟨f, r⟩ := i1 _ v d e1 e2
      exact r.frz (fun _ _ e => e) (all_frz z4 e2)
    · rw [if_neg z] at q; cases q
  | tup a =>
    cases d2 <;> first | (cases q; done) | skip
    rename_i j
    cases r2.is_int
    simp only [mul2] at q
    by_cases z : a ≠ [] ∧ 2 ≤ j ∧ j ≤ 1000 ∧ a.length ≤ 1000
    · rw [if_pos z] at q; cases q
      obtain ⟨p, us, rfl, h1, l1, i1, rfl⟩ := r1.tup_inv
      obtain ⟨z1, z2, z3, z4⟩ := z
      refine .inr (.inr ⟨p, j, us, rfl, rfl, by rw [← K]; exact sqT_mono sub h1, fun e => z1 (by subst e; simpa using l1.symm), z2, z3, by omega, ?_⟩)
      refine w.newT sub (by rw [flat_len, flat_len, l1]) fun i v d e1 e2 => ?_
      have e1 := flat_get _ _ _ e1
      have e2 := flat_get _ _ _ e2
      rw [l1] at e1
      exact i1 _ v d e1 e2
    · rw [if_neg z] at q; cases q
  | _ => cases d2 <;> cases q
theorem neg_ok {m : Str} : UnR X (unaryOp .USub) (fun x H Q => rOp C (oUn neg1 m) [x] H Q) := by
  intro pins s σ H x v Q I rx h
  refine un_neg pins s σ H x v Q I rx ?_
  obtain ⟨F, d1, fx, e, sub, r1, q, w⟩ := rUn h
  cases d1 <;> first | (cases q; done) | skip
  cases r1.is_int; cases q
  exact ⟨_, rfl, w.int sub⟩
theorem eq_ok (hu : X.A.units + 64 < cLine) : OpR X (compareOp .Eq) (rB C (o2 eq2)) := by
  refine OpR.imp (op_eqD hu) fun x y H Q h => ?_
  obtain ⟨F, d1, d2, fx, fy, e, sub, r1, r2, q, w⟩ := rB2 h
  unfold eq2 at q
  by_cases hd : (dat d1 && dat d2) = true
  · rw [if_pos hd] at q
    have hd := Bool.and_eq_true_iff.mp hd
    rw [eqv_pd d1 d2 60 60 hd.1 hd.2] at q
    cases q
    rw [← K]
    exact ⟨pd d1, pd d2, r1.dp sub 60 hd.1, r2.dp sub 60 hd.2, shaped_of hd.1, shaped_of hd.2, w.bl sub⟩
  · rw [if_neg hd] at q; cases q
theorem ne_ok (hu : X.A.units + 64 < cLine) : OpR X (compareOp .NotEq) (rB C (o2 ne2)) := by
  refine OpR.imp (op_neD hu) fun x y H Q h => ?_
  obtain ⟨F, d1, d2, fx, fy, e, sub, r1, r2, q, w⟩ := rB2 h
  unfold ne2 at q
  by_cases hd : (dat d1 && dat d2) = true
  · rw [if_pos hd] at q
    have hd := Bool.and_eq_true_iff.mp hd
    rw [eqv_pd d1 d2 60 60 hd.1 hd.2] at q
    cases q
    rw [← K]
    exact ⟨pd d1, pd d2, r1.dp sub 60 hd.1, r2.dp sub 60 hd.2, shaped_of hd.1, shaped_of hd.2, w.bl sub⟩
  · rw [if_neg hd] at q; cases q
end
end Z
end

section
set_option Elab.async false
set_option linter.all false
set_option maxRecDepth 100000
set_option maxHeartbeats 4000000
/-! Z8: the order of data; comparisons, min, max, sorted. -/
namespace Z
open PySem L2 PyProof.Rows

/-! ### shapes -/
def Fit : D → Sh → Prop := fun d s => join d s = some s
mutual
/-- a datum is of the shape that it has grown; an elder one stays of it -/
theorem join_fit : ∀ (x : D) (s t : Sh), join x s = some t → join x t = some t
  | .non, s, t, h => by cases s <;> simp [join] at h <;> subst h <;> simp [join]
  | .bl _, s, t, h => by cases s <;> simp [join] at h <;> subst h <;> simp [join]
  | .int _, s, t, h => by cases s <;> simp [join] at h <;> subst h <;> simp [join]
  | .str _, s, t, h => by cases s <;> simp [join] at h <;> subst h <;> simp [join]
  | .tup xs, s, t, h => by
    simp only [join] at h
    cases e : s.sub true with
    | none => rw [e] at h; cases h
    | some ss =>
      rw [e] at h
      obtain ⟨ts, h1, rfl⟩ := Option.map_eq_some_iff.mp h
      simp only [join, Sh.sub, if_true]
      rw [joins_fit xs ss ts h1]
      rfl
  | .lst _ xs, s, t, h => by
    simp only [join] at h
    cases e : s.sub false with
    | none => rw [e] at h; cases h
    | some ss =>
      rw [e] at h
      obtain ⟨ts, h1, rfl⟩ := Option.map_eq_some_iff.mp h
      simp only [join, Sh.sub, Bool.false_eq_true, if_false]
      rw [joins_fit xs ss ts h1]
      rfl
  | .nul, _, _, h => by simp [join] at h
  | .dic _ _ _, _, _, h => by simp [join] at h
  | .obj _ _ _, _, _, h => by simp [join] at h
  | .fn _, _, _, h => by simp [join] at h
  | .cls _, _, _, h => by simp [join] at h
theorem joins_fit : ∀ (xs : List D) (ss ts : List Sh), joins xs ss = some ts → joins xs ts = some ts
  | [], ss, ts, h => by simp [joins]
  | x :: xs, [], ts, h => by
    simp only [joins] at h
    cases e : join x .unk with
    | none => rw [e] at h; cases h
    | some s =>
      rw [e] at h
      obtain ⟨us, h1, rfl⟩ := Option.map_eq_some_iff.mp h
      simp only [joins]
      rw [join_fit x _ _ e, joins_fit xs _ _ h1]
      rfl
  | x :: xs, s :: ss, ts, h => by
    simp only [joins] at h
    cases e : join x s with
    | none => rw [e] at h; cases h
    | some s' =>
      rw [e] at h
      obtain ⟨us, h1, rfl⟩ := Option.map_eq_some_iff.mp h
      simp only [joins]
      rw [join_fit x _ _ e, joins_fit xs _ _ h1]
      rfl
end
mutual
theorem join_keep : ∀ (x y : D) (s t : Sh), join y s = some s → join x s = some t → join y t = some t
  | .non, y, s, t, k, h => by cases s <;> simp [join] at h <;> subst h <;> cases y <;> simp_all [join, Sh.sub]
  | .bl _, y, s, t, k, h => by cases s <;> simp [join] at h <;> subst h <;> cases y <;> simp_all [join, Sh.sub]
  | .int _, y, s, t, k, h => by cases s <;> simp [join] at h <;> subst h <;> cases y <;> simp_all [join, Sh.sub]
  | .str _, y, s, t, k, h => by cases s <;> simp [join] at h <;> subst h <;> cases y <;> simp_all [join, Sh.sub]
  | .tup xs, y, s, t, k, h => by
    simp only [join] at h
    cases e : s.sub true with
    | none => rw [e] at h; cases h
    | some ss =>
      rw [e] at h
      obtain ⟨ts, h1, rfl⟩ := Option.map_eq_some_iff.mp h
      cases s with
      | unk => cases y <;> simp [join, Sh.sub] at k
      | tup ss' =>
        simp only [Sh.sub, if_true, Option.some.injEq] at e
        subst e
        cases y with
        | tup ys =>
          simp only [join, Sh.sub, if_true] at k ⊢
          obtain ⟨us, k1, k2⟩ := Option.map_eq_some_iff.mp k
          cases k2
          rw [joins_keep xs ys _ _ k1 h1]
          rfl
        | _ => simp [join, Sh.sub] at k
      | _ => simp [Sh.sub] at e
  | .lst _ xs, y, s, t, k, h => by
    simp only [join] at h
    cases e : s.sub false with
    | none => rw [e] at h; cases h
    | some ss =>
      rw [e] at h
      obtain ⟨ts, h1, rfl⟩ := Option.map_eq_some_iff.mp h
      cases s with
      | unk => cases y <;> simp [join, Sh.sub] at k
      | lst ss' =>
        simp only [Sh.sub, Bool.false_eq_true, if_false, Option.some.injEq] at e
        subst e
        cases y with
        | lst o ys =>
          simp only [join, Sh.sub, Bool.false_eq_true, if_false] at k ⊢
          obtain ⟨us, k1, k2⟩ := Option.map_eq_some_iff.mp k
          cases k2
          rw [joins_keep xs ys _ _ k1 h1]
          rfl
        | _ => simp [join, Sh.sub] at k
      | _ => simp [Sh.sub] at e
  | .nul, _, _, _, _, h => by simp [join] at h
  | .dic _ _ _, _, _, _, _, h => by simp [join] at h
  | .obj _ _ _, _, _, _, _, h => by simp [join] at h
  | .fn _, _, _, _, _, h => by simp [join] at h
  | .cls _, _, _, _, _, h => by simp [join] at h
theorem joins_keep : ∀ (xs ys : List D) (ss ts : List Sh), joins ys ss = some ss → joins xs ss = some ts → joins ys ts = some ts
  | [], ys, ss, ts, k, h => by simp [joins] at h; subst h; exact k
  | x :: xs, [], ss, ts, k, h => by simp [joins]
  | x :: xs, y :: ys, [], ts, k, h => by
    simp only [joins] at k
    cases e : join y .unk with
    | none => rw [e] at k; cases k
    | some s =>
      rw [e] at k
      obtain ⟨us, _, k2⟩ := Option.map_eq_some_iff.mp k
      cases k2
  | x :: xs, y :: ys, s :: ss, ts, k, h => by
    simp only [joins] at k h
    cases e : join y s with
    | none => rw [e] at k; cases k
    | some s1 =>
      rw [e] at k
      obtain ⟨us, k1, k2⟩ := Option.map_eq_some_iff.mp k
      simp only [List.cons.injEq] at k2
      obtain ⟨rfl, rfl⟩ := k2
      cases e2 : join x s1 with
      | none => rw [e2] at h; cases h
      | some s2 =>
        rw [e2] at h
        obtain ⟨vs, h1, rfl⟩ := Option.map_eq_some_iff.mp h
        simp only [joins]
        rw [join_keep x y _ _ e e2, joins_keep xs ys _ _ k1 h1]
        rfl
end
mutual
theorem fit_alike : ∀ (x y : D) (s : Sh), join x s = some s → join y s = some s → PySem.W.alike (pd x) (pd y) = true
  | .non, y, s, h, k => by cases s <;> cases y <;> simp_all [join, Sh.sub, pd, PySem.W.alike]
  | .bl _, y, s, h, k => by cases s <;> cases y <;> simp_all [join, Sh.sub, pd, PySem.W.alike]
  | .int _, y, s, h, k => by cases s <;> cases y <;> simp_all [join, Sh.sub, pd, PySem.W.alike]
  | .str _, y, s, h, k => by cases s <;> cases y <;> simp_all [join, Sh.sub, pd, PySem.W.alike]
  | .tup xs, y, s, h, k => by
    cases s with
    | tup ss =>
      cases y with
      | tup ys =>
        simp only [join, Sh.sub, if_true] at h k
        obtain ⟨us, h1, h2⟩ := Option.map_eq_some_iff.mp h
        obtain ⟨ws, k1, k2⟩ := Option.map_eq_some_iff.mp k
        cases h2; cases k2
        simp only [pd, PySem.W.alike]
        exact fits_alike xs ys _ h1 k1
      | _ => simp [join, Sh.sub] at k
    | _ => simp [join, Sh.sub] at h
  | .lst _ xs, y, s, h, k => by
    cases s with
    | lst ss =>
      cases y with
      | lst o ys =>
        simp only [join, Sh.sub, Bool.false_eq_true, if_false] at h k
        obtain ⟨us, h1, h2⟩ := Option.map_eq_some_iff.mp h
        obtain ⟨ws, k1, k2⟩ := Option.map_eq_some_iff.mp k
        cases h2; cases k2
        simp only [pd, PySem.W.alike]
        exact fits_alike xs ys _ h1 k1
      | _ => simp [join, Sh.sub] at k
    | _ => simp [join, Sh.sub] at h
  | .nul, _, _, h, _ => by simp [join] at h
  | .dic _ _ _, _, _, h, _ => by simp [join] at h
  | .obj _ _ _, _, _, h, _ => by simp [join] at h
  | .fn _, _, _, h, _ => by simp [join] at h
  | .cls _, _, _, h, _ => by simp [join] at h
theorem fits_alike : ∀ (xs ys : List D) (ss : List Sh), joins xs ss = some ss → joins ys ss = some ss → PySem.W.alikeAll (pds xs) (pds ys) = true
  | [], ys, ss, h, k => by simp [pds, PySem.W.alikeAll]
  | x :: xs, [], ss, h, k => by simp [pds, PySem.W.alikeAll]
  | x :: xs, y :: ys, [], h, k => by
    simp only [joins] at k
    cases e : join y .unk with
    | none => rw [e] at k; cases k
    | some s =>
      rw [e] at k
      obtain ⟨us, _, k2⟩ := Option.map_eq_some_iff.mp k
      cases k2
  | x :: xs, y :: ys, s :: ss, h, k => by
    simp only [joins] at k h
    cases e : join y s with
    | none => rw [e] at k; cases k
    | some s1 =>
      rw [e] at k
      obtain ⟨us, k1, k2⟩ := Option.map_eq_some_iff.mp k
      simp only [List.cons.injEq] at k2
      obtain ⟨rfl, rfl⟩ := k2
      cases e2 : join x s1 with
      | none => rw [e2] at h; cases h
      | some s2 =>
        rw [e2] at h
        obtain ⟨vs, h1, h2⟩ := Option.map_eq_some_iff.mp h
        simp only [List.cons.injEq] at h2
        obtain ⟨rfl, rfl⟩ := h2
        simp only [pds, PySem.W.alikeAll, Bool.and_eq_true]
        exact ⟨fit_alike x y _ e2 e, fits_alike xs ys _ h1 k1⟩
end
theorem joinAll_fit : ∀ (xs : List D) (s t : Sh), joinAll s xs = some t → (∀ y, join y s = some s → join y t = some t) ∧ ∀ x ∈ xs, join x t = some t
  | [], s, t, h => by simp [joinAll] at h; subst h; exact ⟨fun _ h => h, fun _ h => nomatch h⟩
  | x :: xs, s, t, h => by
    simp only [joinAll] at h
    cases e : join x s with
    | none => rw [e] at h; cases h
    | some s1 =>
      rw [e] at h
      obtain ⟨k1, k2⟩ := joinAll_fit xs s1 t h
      refine ⟨fun y hy => k1 y (join_keep x y _ _ hy e), fun y hy => ?_⟩
      rcases List.mem_cons.mp hy with rfl | hy
      · exact k1 _ (join_fit _ _ _ e)
      · exact k2 y hy
theorem alikeAll_ok {xs : List D} (h : alikeAll xs = true) : (∀ x ∈ xs, ∀ y ∈ xs, PySem.W.alike (pd x) (pd y) = true) ∧ ∀ x ∈ xs, pd x ≠ .none := by
  unfold alikeAll at h
  cases e : joinAll .unk xs with
  | none => rw [e] at h; cases h
  | some t =>
    rw [e] at h
    have k := (joinAll_fit xs _ t e).2
    refine ⟨fun x hx y hy => fit_alike x y t (k x hx) (k y hy), fun x hx z => ?_⟩
    have q := k x hx
    cases x <;> first | (simp [join] at q; done) | (simp [pd] at z; done) | skip
    cases t <;> first | (simp [join] at q; done) | (cases h; done)

/-! ### the order -/
theorem cmp_ok_non0 {x y : D} (hx : cmp x y = .eq) (h1 : pd x = .none) (h : PySem.W.alike (pd x) (pd y) = true) : (cmp x y = .eq ↔ PyData.eqv (pd x) (pd y) = true) ∧ (cmp x y = .lt ↔ PySem.W.dataLt (pd x) (pd y) = true) := by
  rw [h1] at h ⊢
  cases e : pd y <;> rw [e] at h <;> first | (simp [PySem.W.alike] at h; done) | skip
  simp [hx, PyData.eqv, PySem.W.dataLt_self]
theorem cmp_ok_non (x y : D) (h1 : pd x = .none) (h : PySem.W.alike (pd x) (pd y) = true) : (cmp x y = .eq ↔ PyData.eqv (pd x) (pd y) = true) ∧ (cmp x y = .lt ↔ PySem.W.dataLt (pd x) (pd y) = true) := by
  refine cmp_ok_non0 ?_ h1 h
  cases x <;> first | (simp [pd] at h1; done) | simp [cmp]
theorem intCmp_lt (i j : Int) : intCmp i j = .lt ↔ i < j := by
  unfold intCmp; split <;> (try split) <;> simp_all
theorem intCmp_eq (i j : Int) : intCmp i j = .eq ↔ i = j := by
  unfold intCmp; split <;> (try split) <;> simp_all <;> omega
theorem strCmp_lt : ∀ (x y : List Nat), (strCmp x y = .lt ↔ x < y) ∧ (strCmp x y = .eq ↔ x = y)
  | [], [] => by simp [strCmp]
  | [], y :: ys => by simp [strCmp]
  | x :: xs, [] => by simp [strCmp]
  | x :: xs, y :: ys => by
    have ih := strCmp_lt xs ys
    unfold strCmp
    rw [List.cons_lt_cons_iff]
    by_cases h1 : x < y
    · simp [h1]; omega
    · by_cases h2 : y < x
      · simp [h1, h2]; omega
      · have : x = y := by omega
        subst this
        simp [ih.1, ih.2]
theorem cmp_none {x y : D} (hx : pd x = .none) : cmp x y = .eq := by
  cases x <;> first | (simp [pd] at hx; done) | simp [cmp]
theorem pd_bool {y : D} {b : Bool} (h : pd y = .bool b) : y = .bl b := by
  cases y <;> simp_all [pd]
theorem pd_int {y : D} {b : Int} (h : pd y = .int b) : y = .int b := by
  cases y <;> simp_all [pd]
theorem pd_str {y : D} {b : Str} (h : pd y = .str b) : y = .str b := by
  cases y <;> simp_all [pd]
theorem pd_tup {y : D} {b : List PyData} (h : pd y = .tuple b) : ∃ ys, y = .tup ys ∧ b = pds ys := by
  cases y <;> simp_all [pd]
theorem pd_lst {y : D} {b : List PyData} (h : pd y = .list b) : ∃ o ys, y = .lst o ys ∧ b = pds ys := by
  cases y with
  | lst o ys => simp only [pd, PyData.list.injEq] at h; exact ⟨o, ys, rfl, h.symm⟩
  | _ => simp [pd] at h
mutual
theorem cmp_ok : ∀ (x y : D), PySem.W.alike (pd x) (pd y) = true → (cmp x y = .eq ↔ PyData.eqv (pd x) (pd y) = true) ∧ (cmp x y = .lt ↔ PySem.W.dataLt (pd x) (pd y) = true)
  | .bl a, y, h => by
    cases e : pd y <;> rw [e] at h <;> first | (simp [pd, PySem.W.alike] at h; done) | skip
    cases pd_bool e
    rename_i b
    cases a <;> cases b <;> simp [pd, cmp, intCmp_eq, intCmp_lt, PySem.W.dataLt_bool, PyData.eqv, Z.b2i, PyProof.Rows.b2i]
  | .int a, y, h => by
    cases e : pd y <;> rw [e] at h <;> first | (simp [pd, PySem.W.alike] at h; done) | skip
    cases pd_int e
    simp [pd, cmp, intCmp_eq, intCmp_lt, PySem.W.dataLt_int, PyData.eqv]
  | .str a, y, h => by
    cases e : pd y <;> rw [e] at h <;> first | (simp [pd, PySem.W.alike] at h; done) | skip
    cases pd_str e
    rename_i b
    have k := strCmp_lt a.cps.toList b.cps.toList
    simp only [pd, cmp, PySem.W.dataLt_str, PyData.eqv]
    refine ⟨k.2.trans ⟨fun e => by rw [PySem.W.str_of_cps e]; exact beq_self_eq_true _, fun e => by rw [eq_of_beq e]⟩, k.1.trans ⟨decide_eq_true, of_decide_eq_true⟩⟩
  | .tup xs, y, h => by
    cases e : pd y <;> rw [e] at h <;> first | (simp [pd, PySem.W.alike] at h; done) | skip
    obtain ⟨ys, rfl, rfl⟩ := pd_tup e
    simp only [pd, PySem.W.alike] at h
    simp only [pd, cmp, PySem.W.dataLt_tuple, PyData.eqv]
    exact cmps_ok xs ys h
  | .lst o xs, y, h => by
    cases e : pd y <;> rw [e] at h <;> first | (simp [pd, PySem.W.alike] at h; done) | skip
    obtain ⟨o2, ys, rfl, rfl⟩ := pd_lst e
    simp only [pd, PySem.W.alike] at h
    simp only [pd, cmp, PySem.W.dataLt_list, PyData.eqv]
    exact cmps_ok xs ys h
  | .nul, y, h => cmp_ok_non _ y rfl h
  | .non, y, h => cmp_ok_non _ y rfl h
  | .dic _ _ _, y, h => cmp_ok_non _ y rfl h
  | .obj _ _ _, y, h => cmp_ok_non _ y rfl h
  | .fn _, y, h => cmp_ok_non _ y rfl h
  | .cls _, y, h => cmp_ok_non _ y rfl h
theorem cmps_ok : ∀ (xs ys : List D), PySem.W.alikeAll (pds xs) (pds ys) = true → (cmps xs ys = .eq ↔ PyData.eqvAll (pds xs) (pds ys) = true) ∧ (cmps xs ys = .lt ↔ PyProof.Rows.lexLt itemOrd (PySem.W.keyToksAll (pds xs)) (PySem.W.keyToksAll (pds ys)) = true)
  | [], [], _ => by simp [cmps, pds, PyData.eqvAll, PySem.W.keyToksAll, PyProof.Rows.lex_irrefl]
  | [], y :: ys, _ => by
    refine ⟨by simp [cmps, pds, PyData.eqvAll], ?_⟩
    simp only [cmps, pds, PySem.W.keyToksAll, true_iff]
    rw [PyProof.Rows.lex_cons]
    rfl
  | x :: xs, [], _ => by
    refine ⟨by simp [cmps, pds, PyData.eqvAll], ?_⟩
    simp only [cmps, pds, PySem.W.keyToksAll]
    rw [PyProof.Rows.lex_cons]
    constructor
    · intro h; cases h
    · intro h; exact absurd h (by simp [PyProof.Rows.itemLt])
  | x :: xs, y :: ys, h => by
    simp only [pds] at h
    have h := PySem.W.alike_all_cons h
    have i1 := cmp_ok x y h.1
    have i2 := cmps_ok xs ys h.2
    simp only [pds, PySem.W.dataLt_cons h.1, PyData.eqvAll]
    cases e : cmp x y with
    | eq =>
      have e1 := i1.1.mp e
      simp only [cmps, e, e1, Bool.true_and, if_true]
      exact i2
    | lt =>
      have n1 : PyData.eqv (pd x) (pd y) = false := by
        cases q : PyData.eqv (pd x) (pd y) with
        | false => rfl
        | true => rw [i1.1.mpr q] at e; cases e
      have e1 := i1.2.mp e
      simp [cmps, e, n1, e1]
    | gt =>
      have n1 : PyData.eqv (pd x) (pd y) = false := by
        cases q : PyData.eqv (pd x) (pd y) with
        | false => rfl
        | true => rw [i1.1.mpr q] at e; cases e
      have e1 : PySem.W.dataLt (pd x) (pd y) = false := by
        cases q : PySem.W.dataLt (pd x) (pd y) with
        | false => rfl
        | true => rw [i1.2.mpr q] at e; cases e
      simp [cmps, e, n1, e1]
end
end Z
end

section
set_option Elab.async false
set_option linter.all false
set_option maxRecDepth 100000
set_option maxHeartbeats 4000000
/-! Z9: comparisons, sorted, min, max of alike data. -/
namespace Z
open PySem L2 PyProof.Rows

/-! ### the order on two alike data -/
theorem ltD_ok {x y : D} (h : PySem.W.alike (pd x) (pd y) = true) : ltD x y = PySem.W.dataLt (pd x) (pd y) := by
  have k := (cmp_ok x y h).2
  unfold ltD
  cases e : cmp x y <;> rw [e] at k <;> cases q : PySem.W.dataLt (pd x) (pd y) <;> simp_all
/-! ### the sort -/
theorem merge_eq : ∀ (n : Nat) (xs ys : List D), xs.length + ys.length ≤ n → Z.merge n xs ys = List.merge xs ys (fun a b => !ltD b a)
  | 0, xs, ys, h => by
    have h1 : xs = [] := List.length_eq_zero_iff.mp (by omega)
    have h2 : ys = [] := List.length_eq_zero_iff.mp (by omega)
    subst h1 h2
    simp [Z.merge]
  | n + 1, [], ys, h => by simp [Z.merge]
  | n + 1, x :: xs, [], h => by simp [Z.merge]
  | n + 1, x :: xs, y :: ys, h => by
    simp only [Z.merge, List.cons_merge_cons]
    cases e : ltD y x with
    | true => simp [merge_eq n (x :: xs) ys (by simp at h ⊢; omega)]
    | false => simp [merge_eq n xs (y :: ys) (by simp at h ⊢; omega)]
theorem msort_eq : ∀ (n : Nat) (xs : List D), xs.length ≤ n → msort n xs = xs.mergeSort (fun a b => !ltD b a)
  | 0, xs, h => by
    have h1 : xs = [] := List.length_eq_zero_iff.mp (by omega)
    subst h1
    simp [msort]
  | n + 1, [], h => by simp [msort]
  | n + 1, [x], h => by simp [msort]
  | n + 1, x :: y :: r, h => by
    rw [List.mergeSort]
    simp only [msort, List.MergeSort.Internal.splitInTwo_fst, List.MergeSort.Internal.splitInTwo_snd]
    have e : (x :: y :: r).length = r.length + 2 := by simp
    have e2 : ((x :: y :: r).length + 1) / 2 = (r.length + 3) / 2 := by rw [e]
    have l1 : ((x :: y :: r).take ((r.length + 3) / 2)).length ≤ n := by rw [List.length_take, e]; rw [e] at h; omega
    have l2 : ((x :: y :: r).drop ((r.length + 3) / 2)).length ≤ n := by rw [List.length_drop, e]; rw [e] at h; omega
    rw [msort_eq n _ l1, msort_eq n _ l2, merge_eq _ _ _ (by simp only [List.length_mergeSort, List.length_take, List.length_drop, e]; omega)]
    simp only [e]
theorem sortD_eq (xs : List D) : sortD xs = xs.mergeSort (fun a b => !ltD b a) := msort_eq _ _ (Nat.le_refl _)
theorem keyLt'_general (x y : Value) : keyLt' general' x y = oneLt' false x y := rfl
/-- one value can be sorted -/
theorem sortsAt_one {prog : Program} {w : World} {A : Around} {s : Shared} {v : Value} {d : PyData} (r : ∃ as, Reads s.heap v d as) (ha : PySem.W.alike d d = true) (hn : d ≠ .none) (hu : A.units + d.depth < cLine) :
    PySem.W.SortsAt prog w A s (PySem.W.dataKind s.heap [d]) [v] := by
  have hal : PySem.W.AllAlike [d] := fun a h b h' => by
    rw [List.mem_singleton] at h h'; subst h h'; exact ha
  refine ⟨fun u hu => ?_, general', fun E x y a b Q hx hy hq => ?_, fun h2 => absurd h2 (by simp)⟩
  · rw [List.mem_singleton] at hu; subst hu
    obtain ⟨as, r⟩ := r
    exact ⟨_, PySem.W.dataKind_some hal (List.mem_singleton.mpr rfl) r⟩
  · obtain ⟨d1, as1, hd1, r1, rfl⟩ := PySem.W.dataKind_inv hx
    obtain ⟨d2, as2, hd2, r2, rfl⟩ := PySem.W.dataKind_inv hy
    rw [List.mem_singleton] at hd1 hd2; subst hd1 hd2
    rw [keyLt'_general, oneLt'_eq]
    simp only [Bool.false_eq_true, if_false]
    refine wpAny_bind (PySem.W.lt_data r1 r2 ha hn (by rw [Nat.min_self]; exact hu) ?_)
    exact wpAny_truthy_bool hq
end Z
namespace Z
open PySem L2 PyProof.Rows
theorem okDs_mem {n : Nat} : ∀ {ds : List D} {d : D}, okDs n ds = true → d ∈ ds → okD n d = true
  | x :: xs, d, h, m => by
    have h : okD n x = true ∧ okDs n xs = true := by simpa [okDs] using h
    rcases List.mem_cons.mp m with rfl | m
    · exact h.1
    · exact okDs_mem h.2 m
theorem zip_map_fst {α β : Type} : ∀ {xs : List α} {ys : List β}, xs.length = ys.length → (xs.zip ys).map (·.1) = xs
  | [], [], _ => rfl
  | x :: xs, y :: ys, h => by simp [zip_map_fst (xs := xs) (ys := ys) (by simpa using h)]
  | [], _ :: _, h => by simp at h
  | _ :: _, [], h => by simp at h
theorem zip_map_snd {α β : Type} : ∀ {xs : List α} {ys : List β}, xs.length = ys.length → (xs.zip ys).map (·.2) = ys
  | [], [], _ => rfl
  | x :: xs, y :: ys, h => by simp [zip_map_snd (xs := xs) (ys := ys) (by simpa using h)]
  | [], _ :: _, h => by simp at h
  | _ :: _, [], h => by simp at h
theorem each_vals : ∀ {bs : List (V × D)} {us : List Value}, Vals (bs.map (·.1)) us → PySem.W.EachIs (fun u (b : V × D) => RelV b.1 u) us bs
  | [], _, h => by cases h; exact .nil
  | b :: bs, _, h => by
    cases h with
    | cons r h => exact .cons r (each_vals h)
theorem vals_each : ∀ {bs : List (V × D)} {us : List Value}, PySem.W.EachIs (fun u (b : V × D) => RelV b.1 u) us bs → Vals (bs.map (·.1)) us
  | [], _, h => by cases h; exact .nil
  | b :: bs, _, h => by
    cases h with
    | cons r h => exact .cons r (vals_each h)
theorem each_mono2 {α β : Type} {R S : α → β → Prop} : ∀ {as : List α} {bs : List β}, PySem.W.EachIs R as bs → (∀ a b, b ∈ bs → R a b → S a b) → PySem.W.EachIs S as bs
  | _, _, .nil, _ => .nil
  | _, _, .cons r h, f => .cons (f _ _ List.mem_cons_self r) (each_mono2 h fun a b m => f a b (List.mem_cons_of_mem _ m))
theorem each_len {α β : Type} {R : α → β → Prop} : ∀ {as : List α} {bs : List β}, PySem.W.EachIs R as bs → as.length = bs.length
  | _, _, .nil => rfl
  | _, _, .cons r h => by simp [each_len h]
/-- sorted of a list of alike data -/
def rSrt (K : PySem.W.Frag) : List V → Hp → VK → Prop := fun vs H Q => ∃ (a : Addr) (bs : List (V × D)), vs = [.ref a] ∧ SqL K H a (bs.map (·.1)) ∧ (∀ b ∈ bs, Dp K H b.1 (pd b.2)) ∧ alikeAll (bs.map (·.2)) = true ∧ okDs 60 (bs.map (·.2)) = true ∧ sortable (bs.map (·.2)) = true ∧
  ∀ p, H p = none → Q (.ref p) (upd H p (.lst ((bs.mergeSort fun a b => !ltD b.2 a.2).map (·.1))))
theorem sortable_pd {xs : List D} (h : sortable xs = true) (h1 : 2 ≤ xs.length) (hn : ∀ x ∈ xs, pd x ≠ .none) : PySem.W.Sortable (pds xs) := by
  have mem : ∀ d ∈ pds xs, ∃ x ∈ xs, pd x = d := by
    clear h h1 hn
    induction xs with
    | nil => intro d hd; simp [pds] at hd
    | cons x xs ih =>
      intro d hd
      rcases List.mem_cons.mp (by simpa [pds] using hd : d ∈ pd x :: pds xs) with rfl | hd
      · exact ⟨x, List.mem_cons_self, rfl⟩
      · obtain ⟨y, hy, e⟩ := ih d hd
        exact ⟨y, List.mem_cons_of_mem _ hy, e⟩
  unfold sortable at h
  simp only [Bool.or_eq_true, decide_eq_true_eq, List.all_eq_true] at h
  rcases h with h | h | h
  · omega
  · refine .inl fun d hd => ?_
    obtain ⟨x, hx, rfl⟩ := mem d hd
    have := h x hx
    cases x <;> first | (simp [neTup] at this; done) | skip
    rename_i ys
    cases ys with
    | nil => simp [neTup] at this
    | cons y ys => exact ⟨pd y, pds ys, by simp [pd, pds]⟩
  · refine .inr fun d hd => ?_
    obtain ⟨x, hx, rfl⟩ := mem d hd
    refine ⟨hn x hx, fun zs e => ?_⟩
    obtain ⟨ys, rfl, _⟩ := pd_tup e
    exact absurd (h _ hx) (by simp [noTup])
theorem pds_map (xs : List D) : pds xs = xs.map pd := by
  induction xs with
  | nil => simp [pds]
  | cons x xs ih => simp [pds, ih]
theorem sortsAt_small {prog : Program} {w : World} {A : Around} {s : Shared} {its : List Value} {bs : List (V × D)} (er : PySem.W.EachIs (fun u (b : V × D) => ∃ as, Reads s.heap u (pd b.2) as) its bs) (h1 : bs.length ≤ 1)
    (h : ∀ b ∈ bs, PySem.W.alike (pd b.2) (pd b.2) = true ∧ pd b.2 ≠ .none ∧ A.units + (pd b.2).depth < cLine) : PySem.W.SortsAt prog w A s (PySem.W.dataKind s.heap (bs.map fun b => pd b.2)) its := by
  cases er with
  | nil => exact PySem.W.SortsAt.data (by exact .nil) (fun d hd => absurd hd (by simp)) (.inl fun d hd => absurd hd (by simp)) (fun d hd => absurd hd (by simp))
  | @cons u b us bs r0 r1 =>
    cases r1 with
    | nil =>
      obtain ⟨k1, k2, k3⟩ := h b List.mem_cons_self
      exact sortsAt_one r0 k1 k2 k3
    | cons _ _ => simp at h1
theorem call_srt {X : Cx} (hu : X.A.units + 64 < cLine) : CallR X (.builtin "sorted") (rSrt X.K) := by
  intro pins s σ H vs us Q I r h
  obtain ⟨a, bs, rfl, hs, hd, hal, hok, hso, q⟩ := h
  obtain ⟨its, rv, hl, hlen⟩ := I.list hs
  rw [Vals.ref1 r]
  obtain ⟨a1, a2⟩ := alikeAll_ok hal
  have each := each_vals rv
  have hl2 : its.length = bs.length := each_len each
  have hZ : its.length ≤ sizeLine := by rw [hl2]; simpa using hlen
  have er : ∀ (h' : Heap), (∀ b o, s.heap.get? b = some o → h'.get? b = some o) → PySem.W.EachIs (fun u (b : V × D) => ∃ as, Reads h' u (pd b.2) as) its bs := fun h' k =>
    each_mono2 each fun u b m r => by
      obtain ⟨as, z⟩ := Dp.reads I _ _ _ (hd b m) r
      exact ⟨as, Reads.keeps k z⟩
  have hal' : PySem.W.AllAlike (bs.map fun b => pd b.2) := fun d hd d' hd' => by
    obtain ⟨b, hb, rfl⟩ := List.mem_map.mp hd
    obtain ⟨b', hb', rfl⟩ := List.mem_map.mp hd'
    exact a1 _ (List.mem_map.mpr ⟨b, hb, rfl⟩) _ (List.mem_map.mpr ⟨b', hb', rfl⟩)
  have dep : ∀ b ∈ bs, (pd b.2).depth ≤ 60 := fun b hb => (okD_lay _ 60 (okDs_mem hok (List.mem_map.mpr ⟨b, hb, rfl⟩))).2
  have hle : (fun (a b : V × D) => PySem.W.dataLe false (fun b : V × D => pd b.2) a b) = PySem.W.dataLe false (fun b : V × D => pd b.2) := rfl
  have eqs : bs.mergeSort (PySem.W.dataLe false fun b : V × D => pd b.2) = bs.mergeSort fun a b => !ltD b.2 a.2 := by
    have := List.map_mergeSort (r := PySem.W.dataLe false fun b : V × D => pd b.2) (s := fun a b => !ltD b.2 a.2) (f := id) (l := bs) fun x hx y hy => by
      rw [PySem.W.dataLe_eq]
      show (!_) = (!_)
      exact congrArg (!·) (ltD_ok (a1 _ (List.mem_map.mpr ⟨y, hy, rfl⟩) _ (List.mem_map.mpr ⟨x, hx, rfl⟩))).symm
    simpa using this
  refine PySem.W.sorted_vals (κ := PySem.W.dataKind (PySem.W.sortingHeap (PySem.W.copyHeap s.heap its) (s.heap.objs.size + 1) its) (bs.map fun b => pd b.2)) hl.isList ?_ hZ ?_
  · have er' := er (PySem.W.sortingHeap (PySem.W.copyHeap s.heap its) (s.heap.objs.size + 1) its) fun b o e => PySem.W.sorting_copy_old e
    by_cases h1 : bs.length ≤ 1
    · exact sortsAt_small er' h1 fun b hb => ⟨a1 _ (List.mem_map.mpr ⟨b, hb, rfl⟩) _ (List.mem_map.mpr ⟨b, hb, rfl⟩), a2 _ (List.mem_map.mpr ⟨b, hb, rfl⟩), by have := dep b hb; show X.A.units + 1 + 1 + _ < _; omega⟩
    · refine PySem.W.SortsAt.data (PySem.W.each_map (R := fun v d => ∃ as, Reads _ v d as) (fun b : V × D => pd b.2) er') hal' ?_ fun d hd => ?_
      · have := sortable_pd hso (by simp; omega) a2
        rw [pds_map, List.map_map] at this
        exact this
      · obtain ⟨b, hb, rfl⟩ := List.mem_map.mp hd
        have := dep b hb
        show X.A.units + 1 + 1 + _ < _
        omega
  · have eo := PySem.W.sortVals_data (h' := PySem.W.sortingHeap (PySem.W.copyHeap s.heap its) (s.heap.objs.size + 1) its) false each (er _ fun b o e => PySem.W.sorting_copy_old e) hal'
    rw [eqs] at eo
    obtain ⟨ep, he'⟩ := PyProof.Rows.sortedAll_at s.heap its (PySem.W.sortVals (PySem.W.dataKind (PySem.W.sortingHeap (PySem.W.copyHeap s.heap its) (s.heap.objs.size + 1) its) (bs.map fun b => pd b.2)) false its its).toArray
    have ll : ((bs.mergeSort fun a b => !ltD b.2 a.2).map (·.1)).length ≤ sizeLine := by
      rw [List.length_map, List.length_mergeSort]; simpa using hlen
    exact ⟨.ref _, upd H (s.heap.objs.size + 1) (.lst _), I.laid (t' := s.toks) (fun _ _ => PyProof.Rows.sortedAll_old) (Nat.le_succ _) ⟨ll, _, ep, vals_each eo, he'⟩, rfl, q _ (I.hok.fresh (Nat.le_succ _))⟩
section
variable {C : Ct} {X : Cx} (K : C.g.K = X.K)
include K
theorem zip_dp {F H : Hp} {vs : List V} {ds : List D} (sub : ∀ a o, F a = some o → H a = some o) (ok : okDs 60 ds = true) (r : ∀ (i : Nat) v d, vs[i]? = some v → ds[i]? = some d → ∃ f, DR C.g F H v d f) : ∀ b ∈ vs.zip ds, Dp X.K H b.1 (pd b.2) := fun b hb => by
  obtain ⟨i, hi, e⟩ := List.getElem_of_mem hb
  have hi' : i < vs.length ∧ i < ds.length := by simpa [List.length_zip, Nat.lt_min] using hi
  subst e
  rw [List.getElem_zip]
  obtain ⟨f, d⟩ := r i _ _ (List.getElem?_eq_getElem hi'.1) (List.getElem?_eq_getElem hi'.2)
  rw [← K]
  exact d.dp sub 60 (okDs_mem ok (List.getElem_mem _))
theorem sorted_ok (hu : X.A.units + 64 < cLine) : CallR X (.builtin "sorted") (rOp C (o1 sorted1)) := by
  refine CallR.imp (call_srt hu) fun vs H Q h => ?_
  obtain ⟨F, x, d, fp, e, rfl, sub, dr, q, w⟩ := rOp1 h
  cases d <;> first | (cases q; done) | skip
  rename_i o ds
  simp only [sorted1] at q
  by_cases z : (allFrz' ds && (alikeAll ds && (okDs 60 ds && sortable ds))) = true
  · rw [if_pos z] at q; cases q
    simp only [Bool.and_eq_true] at z
    obtain ⟨z1, z2, z3, z4⟩ := z
    obtain ⟨a, us, rfl, h1, h2, h3⟩ := dr.lst_inv sub
    have f1 : ∀ (i : Nat) v d, us[i]? = some v → ds[i]? = some d → DR C.g F H v d [] := fun i v d e1 e2 => by
      obtain ⟨f, r⟩ := h3 i v d e1 e2
      exact r.frz (fun _ _ e => e) (all_frz z1 e2)
    refine ⟨a, us.zip ds, rfl, by rw [zip_map_fst h2, ← K]; exact h1, zip_dp K sub z3 h3, by rw [zip_map_snd h2]; exact z2, by rw [zip_map_snd h2]; exact z3, by rw [zip_map_snd h2]; exact z4, ?_⟩
    have es : sortD ds = ((us.zip ds).mergeSort fun a b => !ltD b.2 a.2).map (·.2) := by
      rw [sortD_eq, List.map_mergeSort (s := fun a b => !ltD b a) (f := fun b : V × D => b.2) fun x hx y hy => rfl, zip_map_snd h2]
    rw [es] at w
    refine w.newL sub (by simp) fun i v d e1 e2 => ?_
    rw [List.getElem?_map] at e1 e2
    obtain ⟨b, e3, rfl⟩ := Option.map_eq_some_iff.mp e1
    rw [e3] at e2
    cases e2
    have hm : b ∈ us.zip ds := List.mem_mergeSort.mp (List.mem_of_getElem? e3)
    obtain ⟨j, hj, e⟩ := List.getElem_of_mem hm
    have hj' : j < us.length ∧ j < ds.length := by simpa [List.length_zip, Nat.lt_min] using hj
    subst e
    rw [List.getElem_zip]
    exact f1 j _ _ (List.getElem?_eq_getElem hj'.1) (List.getElem?_eq_getElem hj'.2)
  · rw [if_neg z] at q; cases q
end
end Z
end

section
set_option Elab.async false
set_option linter.all false
set_option maxRecDepth 100000
set_option maxHeartbeats 4000000
/-! ZA: comparisons, in, places, slices, isinstance. -/
namespace Z
open PySem L2 PyProof.Rows

/-- < of alike data -/
def rCmpD (K : PySem.W.Frag) (f : PyData → PyData → Bool) : R2 := fun x y H Q => ∃ d e, Dp K H x d ∧ Dp K H y e ∧ PySem.W.alike d e = true ∧ d ≠ .none ∧ d.depth ≤ 60 ∧ Q (.bl (f d e)) H
section
variable {X : Cx}
theorem op_ltA (hu : X.A.units + 64 < cLine) : OpR X (compareOp .Lt) (rCmpD X.K PySem.W.dataLt) := by
  intro pins s σ H x y v u Q I rx ry h
  obtain ⟨d, e, hd, he, ha, hn, hz, q⟩ := h
  obtain ⟨as, r1⟩ := Dp.reads I d x v hd rx
  obtain ⟨bs, r2⟩ := Dp.reads I e y u he ry
  exact PySem.W.lt_data r1 r2 ha hn (by have := Nat.min_le_left d.depth e.depth; omega) ⟨.bl _, H, I, rfl, q⟩
theorem op_gtA (hu : X.A.units + 64 < cLine) : OpR X (compareOp .Gt) (rCmpD X.K fun d e => PySem.W.dataLt e d) := by
  intro pins s σ H x y v u Q I rx ry h
  obtain ⟨d, e, hd, he, ha, hn, hz, q⟩ := h
  obtain ⟨as, r1⟩ := Dp.reads I d x v hd rx
  obtain ⟨bs, r2⟩ := Dp.reads I e y u he ry
  exact PySem.W.gt_data r1 r2 ha hn (by have := Nat.min_le_left d.depth e.depth; omega) ⟨.bl _, H, I, rfl, q⟩
theorem op_leA (hu : X.A.units + 64 < cLine) : OpR X (compareOp .LtE) (rCmpD X.K fun d e => !PySem.W.dataLt e d) := by
  intro pins s σ H x y v u Q I rx ry h
  obtain ⟨d, e, hd, he, ha, hn, hz, q⟩ := h
  obtain ⟨as, r1⟩ := Dp.reads I d x v hd rx
  obtain ⟨bs, r2⟩ := Dp.reads I e y u he ry
  exact PySem.W.le_data r1 r2 ha hn (by have := Nat.min_le_left d.depth e.depth; omega) ⟨.bl _, H, I, rfl, q⟩
theorem op_geA (hu : X.A.units + 64 < cLine) : OpR X (compareOp .GtE) (rCmpD X.K fun d e => !PySem.W.dataLt d e) := by
  intro pins s σ H x y v u Q I rx ry h
  obtain ⟨d, e, hd, he, ha, hn, hz, q⟩ := h
  obtain ⟨as, r1⟩ := Dp.reads I d x v hd rx
  obtain ⟨bs, r2⟩ := Dp.reads I e y u he ry
  exact PySem.W.ge_data r1 r2 ha hn (by have := Nat.min_le_left d.depth e.depth; omega) ⟨.bl _, H, I, rfl, q⟩
theorem op_inT (hu : X.A.units + 65 < cLine) : OpR X (compareOp .In) (fun x y H Q => ∃ d ds, Dp X.K H x d ∧ Dp X.K H y (.tuple ds) ∧ SeqAt.shaped d = true ∧ SeqAt.shaped (.tuple ds) = true ∧ Q (.bl (ds.any fun z => PyData.eqv z d)) H) := by
  intro pins s σ H x y v u Q I rx ry h
  obtain ⟨d, ds, hd, he, sd, se, q⟩ := h
  obtain ⟨as, r1⟩ := Dp.reads I d x v hd rx
  obtain ⟨bs, r2⟩ := Dp.reads I (.tuple ds) y u he ry
  exact SeqAt.in_tuple_reads r2 r1 (SeqAt.canLay_of_shaped se) (SeqAt.canLay_of_shaped sd) (room_in_shaped sd hu) ⟨.bl _, H, I, rfl, q⟩
theorem op_ninT (hu : X.A.units + 65 < cLine) : OpR X (compareOp .NotIn) (fun x y H Q => ∃ d ds, Dp X.K H x d ∧ Dp X.K H y (.tuple ds) ∧ SeqAt.shaped d = true ∧ SeqAt.shaped (.tuple ds) = true ∧ Q (.bl (!ds.any fun z => PyData.eqv z d)) H) := by
  intro pins s σ H x y v u Q I rx ry h
  obtain ⟨d, ds, hd, he, sd, se, q⟩ := h
  obtain ⟨as, r1⟩ := Dp.reads I d x v hd rx
  obtain ⟨bs, r2⟩ := Dp.reads I (.tuple ds) y u he ry
  exact SeqAt.notIn_tuple_reads r2 r1 (SeqAt.canLay_of_shaped se) (SeqAt.canLay_of_shaped sd) (room_in_shaped sd hu) ⟨.bl _, H, I, rfl, q⟩
end
section
variable {C : Ct} {X : Cx} (K : C.g.K = X.K)
include K
omit K in
theorem alike2_ok {x y : D} (h : alike2 x y = true) : PySem.W.alike (pd x) (pd y) = true ∧ PySem.W.alike (pd y) (pd x) = true ∧ pd x ≠ .none ∧ pd y ≠ .none := by
  obtain ⟨h1, h2⟩ := alikeAll_ok h
  exact ⟨h1 _ (by simp) _ (by simp), h1 _ (by simp) _ (by simp), h2 _ (by simp), h2 _ (by simp)⟩
omit K in
theorem alike2_swap {x y : D} (h : alike2 y x = true) : PySem.W.alike (pd x) (pd y) = true ∧ pd x ≠ .none := ⟨(alike2_ok h).2.1, (alike2_ok h).2.2.2⟩
theorem dp_of {F H : Hp} {v : V} {d : D} {fp : List Addr} (sub : ∀ a o, F a = some o → H a = some o) (r : DR C.g F H v d fp) (h : dat d = true) : Dp X.K H v (pd d) := by rw [← K]; exact r.dp sub 60 h
omit K in
theorem dat_dep {d : D} (h : dat d = true) : (pd d).depth ≤ 60 := (okD_lay d 60 h).2
omit K in
theorem lt2_some {x y c : D} (h : lt2 x y = some c) : (∃ i j, x = .int i ∧ y = .int j ∧ c = .bl (decide (i < j))) ∨ (alike2 x y = true ∧ dat x = true ∧ dat y = true ∧ c = .bl (ltD x y)) := by
  by_cases hh : (∃ i j, x = .int i ∧ y = .int j)
  · obtain ⟨i, j, rfl, rfl⟩ := hh
    cases h
    exact .inl ⟨i, j, rfl, rfl, rfl⟩
  · have h' : (if (alike2 x y && (dat x && dat y)) = true then some (D.bl (ltD x y)) else none) = some c := by
      rw [← h]
      cases x <;> cases y <;> first | rfl | exact absurd ⟨_, _, rfl, rfl⟩ hh
    by_cases z : (alike2 x y && (dat x && dat y)) = true
    · rw [if_pos z] at h'; cases h'
      simp only [Bool.and_eq_true] at z
      exact .inr ⟨z.1, z.2.1, z.2.2, rfl⟩
    · rw [if_neg z] at h'; cases h'
omit K in
theorem le2_some {x y c : D} (h : le2 x y = some c) : (∃ i j, x = .int i ∧ y = .int j ∧ c = .bl (decide (i ≤ j))) ∨ (alike2 x y = true ∧ dat x = true ∧ dat y = true ∧ c = .bl (!ltD y x)) := by
  by_cases hh : (∃ i j, x = .int i ∧ y = .int j)
  · obtain ⟨i, j, rfl, rfl⟩ := hh
    cases h
    exact .inl ⟨i, j, rfl, rfl, rfl⟩
  · have h' : (if (alike2 x y && (dat x && dat y)) = true then some (D.bl (!ltD y x)) else none) = some c := by
      rw [← h]
      cases x <;> cases y <;> first | rfl | exact absurd ⟨_, _, rfl, rfl⟩ hh
    by_cases z : (alike2 x y && (dat x && dat y)) = true
    · rw [if_pos z] at h'; cases h'
      simp only [Bool.and_eq_true] at z
      exact .inr ⟨z.1, z.2.1, z.2.2, rfl⟩
    · rw [if_neg z] at h'; cases h'
theorem lt_ok (hu : X.A.units + 65 < cLine) : OpR X (compareOp .Lt) (rB C (o2 lt2)) := by
  refine OpR.imp (OpR.or op_lt (op_ltA (by omega))) fun x y H Q h => ?_
  obtain ⟨F, d1, d2, fx, fy, e, sub, r1, r2, q, w⟩ := rB2 h
  rcases lt2_some q with ⟨i, j, rfl, rfl, rfl⟩ | ⟨h1, h2, h3, rfl⟩
  · cases r1.is_int; cases r2.is_int
    exact .inl ⟨_, _, rfl, rfl, w.bl sub⟩
  · obtain ⟨a1, a2, a3, a4⟩ := alike2_ok h1
    rw [ltD_ok a1] at w
    exact .inr ⟨_, _, dp_of K sub r1 h2, dp_of K sub r2 h3, a1, a3, dat_dep h2, w.bl sub⟩
theorem gt_ok (hu : X.A.units + 65 < cLine) : OpR X (compareOp .Gt) (rB C (o2 fun x y => lt2 y x)) := by
  refine OpR.imp (OpR.or op_gt (op_gtA (by omega))) fun x y H Q h => ?_
  obtain ⟨F, d1, d2, fx, fy, e, sub, r1, r2, q, w⟩ := rB2 h
  rcases lt2_some q with ⟨i, j, rfl, rfl, rfl⟩ | ⟨h1, h2, h3, rfl⟩
  · cases r1.is_int; cases r2.is_int
    exact .inl ⟨_, _, rfl, rfl, w.bl sub⟩
  · obtain ⟨a1, a2, a3, a4⟩ := alike2_ok h1
    rw [ltD_ok a1] at w
    exact .inr ⟨_, _, dp_of K sub r1 h3, dp_of K sub r2 h2, a2, a4, dat_dep h3, w.bl sub⟩
theorem le_ok (hu : X.A.units + 65 < cLine) : OpR X (compareOp .LtE) (rB C (o2 le2)) := by
  refine OpR.imp (OpR.or op_le (op_leA (by omega))) fun x y H Q h => ?_
  obtain ⟨F, d1, d2, fx, fy, e, sub, r1, r2, q, w⟩ := rB2 h
  rcases le2_some q with ⟨i, j, rfl, rfl, rfl⟩ | ⟨h1, h2, h3, rfl⟩
  · cases r1.is_int; cases r2.is_int
    exact .inl ⟨_, _, rfl, rfl, w.bl sub⟩
  · obtain ⟨a1, a2, a3, a4⟩ := alike2_ok h1
    rw [ltD_ok a2] at w
    exact .inr ⟨_, _, dp_of K sub r1 h2, dp_of K sub r2 h3, a1, a3, dat_dep h2, w.bl sub⟩
theorem ge_ok (hu : X.A.units + 65 < cLine) : OpR X (compareOp .GtE) (rB C (o2 fun x y => le2 y x)) := by
  refine OpR.imp (OpR.or op_ge (op_geA (by omega))) fun x y H Q h => ?_
  obtain ⟨F, d1, d2, fx, fy, e, sub, r1, r2, q, w⟩ := rB2 h
  rcases le2_some q with ⟨i, j, rfl, rfl, rfl⟩ | ⟨h1, h2, h3, rfl⟩
  · cases r1.is_int; cases r2.is_int
    exact .inl ⟨_, _, rfl, rfl, w.bl sub⟩
  · obtain ⟨a1, a2, a3, a4⟩ := alike2_ok h1
    rw [ltD_ok a2] at w
    exact .inr ⟨_, _, dp_of K sub r1 h3, dp_of K sub r2 h2, a2, a4, dat_dep h3, w.bl sub⟩
omit K in
theorem anyEq_ok {x : D} (hx : dat x = true) : ∀ {ys : List D}, okDs 60 ys = true → anyEq x ys = some ((pds ys).any fun z => PyData.eqv z (pd x))
  | [], _ => by simp [anyEq, pds]
  | y :: ys, h => by
    have h : okD 60 y = true ∧ okDs 60 ys = true := by simpa [okDs] using h
    simp only [anyEq, pds, List.any_cons, eqv_pd y x 60 60 h.1 hx]
    cases PyData.eqv (pd y) (pd x) with
    | true => simp
    | false => simpa using anyEq_ok hx h.2
omit K in
theorem shaped_lst {ys : List D} (h : okDs 60 ys = true) : SeqAt.shaped (.list (pds ys)) = true := by
  have := okDs_lay ys 60 h
  show ((PyData.list (pds ys)).canLay0 && decide ((PyData.list (pds ys)).depth ≤ 64)) = true
  rw [Bool.and_eq_true]
  refine ⟨by simp only [PyData.canLay0]; exact this.1, decide_eq_true ?_⟩
  simp only [PyData.depth]; omega
omit K in
theorem shaped_tup {ys : List D} (h : okDs 60 ys = true) : SeqAt.shaped (.tuple (pds ys)) = true := by
  have := okDs_lay ys 60 h
  show ((PyData.tuple (pds ys)).canLay0 && decide ((PyData.tuple (pds ys)).depth ≤ 64)) = true
  rw [Bool.and_eq_true]
  refine ⟨by simp only [PyData.canLay0]; exact this.1, decide_eq_true ?_⟩
  simp only [PyData.depth]; omega
theorem dp_seq {F H : Hp} {v : V} {ds : List D} {fp : List Addr} {o : Bool} (sub : ∀ a o, F a = some o → H a = some o) (h : okDs 60 ds = true) : (DR C.g F H v (.lst o ds) fp → Dp X.K H v (.list (pds ds))) ∧ (DR C.g F H v (.tup ds) fp → Dp X.K H v (.tuple (pds ds))) := by
  refine ⟨fun r => ?_, fun r => ?_⟩
  · have := r.dp sub 61 (by simpa [okD] using h)
    rw [← K]; simpa [pd] using this
  · have := r.dp sub 61 (by simpa [okD] using h)
    rw [← K]; simpa [pd] using this
theorem in_ok (hu : X.A.units + 65 < cLine) : OpR X (compareOp .In) (rB C (o2 in2)) := by
  refine OpR.imp (OpR.or (op_inD hu) (op_inT hu)) fun x y H Q h => ?_
  obtain ⟨F, d1, d2, fx, fy, e, sub, r1, r2, q, w⟩ := rB2 h
  cases d2 with
  | tup ys =>
    simp only [in2] at q
    by_cases z : (dat d1 && okDs 60 ys) = true
    · rw [if_pos z] at q
      have z := Bool.and_eq_true_iff.mp z
      rw [anyEq_ok z.1 z.2] at q
      cases q
      exact .inr ⟨_, _, dp_of K sub r1 z.1, (dp_seq K (o := true) sub z.2).2 r2, shaped_of z.1, shaped_tup z.2, w.bl sub⟩
    · rw [if_neg z] at q; cases q
  | lst o ys =>
    simp only [in2] at q
    by_cases z : (dat d1 && okDs 60 ys) = true
    · rw [if_pos z] at q
      have z := Bool.and_eq_true_iff.mp z
      rw [anyEq_ok z.1 z.2] at q
      cases q
      exact .inl ⟨_, _, dp_of K sub r1 z.1, (dp_seq K sub z.2).1 r2, shaped_of z.1, shaped_lst z.2, w.bl sub⟩
    · rw [if_neg z] at q; cases q
  | _ => cases q
omit K in
theorem notIn_some {x y c : D} (h : notIn2 x y = some c) : ∃ b, in2 x y = some (.bl b) ∧ c = .bl (!b) := by
  unfold notIn2 at h
  cases e : in2 x y with
  | none => rw [e] at h; cases h
  | some d =>
    rw [e] at h
    cases d <;> first | (cases h; done) | (cases h; exact ⟨_, rfl, rfl⟩)
theorem nin_ok (hu : X.A.units + 65 < cLine) : OpR X (compareOp .NotIn) (rB C (o2 notIn2)) := by
  refine OpR.imp (OpR.or (op_notInD hu) (op_ninT hu)) fun x y H Q h => ?_
  obtain ⟨F, d1, d2, fx, fy, e, sub, r1, r2, q0, w⟩ := rB2 h
  obtain ⟨b, q, rfl⟩ := notIn_some q0
  cases d2 with
  | tup ys =>
    simp only [in2] at q
    by_cases z : (dat d1 && okDs 60 ys) = true
    · rw [if_pos z] at q
      have z := Bool.and_eq_true_iff.mp z
      rw [anyEq_ok z.1 z.2] at q
      cases q
      exact .inr ⟨_, _, dp_of K sub r1 z.1, (dp_seq K (o := true) sub z.2).2 r2, shaped_of z.1, shaped_tup z.2, w.bl sub⟩
    · rw [if_neg z] at q; cases q
  | lst o ys =>
    simp only [in2] at q
    by_cases z : (dat d1 && okDs 60 ys) = true
    · rw [if_pos z] at q
      have z := Bool.and_eq_true_iff.mp z
      rw [anyEq_ok z.1 z.2] at q
      cases q
      exact .inl ⟨_, _, dp_of K sub r1 z.1, (dp_seq K sub z.2).1 r2, shaped_of z.1, shaped_lst z.2, w.bl sub⟩
    · rw [if_neg z] at q; cases q
  | _ => cases q
end
end Z
end

section
set_option Elab.async false
set_option linter.all false
set_option maxRecDepth 100000
set_option maxHeartbeats 4000000
/-! ZB: places, slices, isinstance, is None. -/
namespace Z
open PySem L2 PyProof.Rows

theorem plainIx_of {b : Expr} (h : ∀ lo hi st p, b ≠ .Slice lo hi st p) : PlainIx b := by
  intro o i
  cases b with
  | Slice lo hi st p => exact absurd rfl (h lo hi st p)
  | _ => rfl
theorem IxR.imp {X : Cx} {r r' : R2} (h : IxR X r) (i : ∀ x y H Q, r' x y H Q → r x y H Q) : IxR X r' := fun value slice pins s σ H x y v u Q I rx ry q hs => h value slice pins s σ H x y v u Q I rx ry (i _ _ _ _ q) hs
theorem SlR.imp {X : Cx} {r r' : V → Option Int → Option Int → Hp → VK → Prop} (h : SlR X r) (i : ∀ x lo hi H Q, r' x lo hi H Q → r x lo hi H Q) : SlR X r' := fun pins s σ H x v vl vu lo hi sl Q I rx hs pl pu q => h pins s σ H x v vl vu lo hi sl Q I rx hs pl pu (i _ _ _ _ _ q)
theorem place_ixN {n : Nat} {i : Int} : place n i = ixN n i := by
  unfold place ixN
  by_cases h : 0 ≤ i
  · rw [if_pos h]
  · rw [if_neg h]
theorem at_atI (xs : List D) (i : Int) : at_ xs i = atI xs i := by
  unfold at_ atI
  rw [place_ixN]
/-- the value at the same place -/
theorem at_get {vs : List V} {ds : List D} {i : Int} {d : D} (l : vs.length = ds.length) (h : at_ ds i = some d) : ∃ (v : V) (j : Nat), atI vs i = some v ∧ vs[j]? = some v ∧ ds[j]? = some d := by
  unfold at_ at h
  cases e : place ds.length i with
  | none => rw [e] at h; cases h
  | some j =>
    rw [e] at h
    have h : ds[j]? = some d := h
    have hj : j < vs.length := by rw [l]; exact (List.getElem?_eq_some_iff.mp h).1
    refine ⟨vs[j], j, ?_, List.getElem?_eq_getElem hj, h⟩
    unfold atI
    rw [← place_ixN, l, e]
    exact List.getElem?_eq_getElem hj
section
variable {C : Ct} {X : Cx} (K : C.g.K = X.K)
include K
/-- a place, to look at -/
def rSee (C : Ct) (f : D → D → Option D) : R2 := fun x y H Q => ∃ F d1 d2 fx fy e, (∀ a o, F a = some o → H a = some o) ∧ DR C.g F H x d1 fx ∧ DR C.g F H y d2 fy ∧ f d1 d2 = some e ∧ ∀ v F' H' fp, SeeV C.g F H F' H' v e fp → Q v H'
theorem idx_rule {x y : V} {F H : Hp} {d1 d2 e : D} {fx fy : List Addr} (sub : ∀ a o, F a = some o → H a = some o) (r1 : DR C.g F H x d1 fx) (r2 : DR C.g F H y d2 fy) (q : idx2 d1 d2 = some e) : ∃ v fp, DR C.g F H v e fp ∧ ∀ Q : VK, Q v H → rIx X.K x y H Q := by
  cases d1 with
  | tup ys =>
    cases d2 <;> first | (cases q; done) | skip
    rename_i i
    cases r2.is_int
    obtain ⟨a, us, rfl, h1, l1, i1, _⟩ := r1.tup_inv
    obtain ⟨v, j, e1, e2, e3⟩ := at_get l1 (show at_ ys i = some e from q)
    exact ⟨v, [], i1 j v e e2 e3, fun Q z => .inr (.inl ⟨a, us, i, v, rfl, rfl, by rw [← K]; exact sqT_mono sub h1, e1, z⟩)⟩
  | lst o ys =>
    cases d2 <;> first | (cases q; done) | skip
    rename_i i
    cases r2.is_int
    obtain ⟨a, us, rfl, h1, l1, i1⟩ := r1.lst_inv sub
    obtain ⟨v, j, e1, e2, e3⟩ := at_get l1 (show at_ ys i = some e from q)
    obtain ⟨f, r⟩ := i1 j v e e2 e3
    exact ⟨v, f, r, fun Q z => .inl ⟨a, us, i, v, rfl, rfl, by rw [← K]; exact h1, e1, z⟩⟩
  | str s =>
    cases d2 <;> first | (cases q; done) | skip
    rename_i i
    cases r2.is_int; cases r1.is_str
    simp only [idx2] at q
    by_cases z : s.length ≤ sizeMax
    · rw [if_pos z, at_atI] at q
      rw [sizeMax_eq] at z
      unfold atI at q
      rw [List.length_map] at q
      cases e1 : ixN s.cps.toList.length i with
      | none => rw [e1] at q; cases q
      | some j =>
        rw [e1] at q
        have q : (s.cps.toList.map fun c => D.str ⟨#[c]⟩)[j]? = some e := q
        rw [List.getElem?_map] at q
        obtain ⟨c, e2, rfl⟩ := Option.map_eq_some_iff.mp q
        refine ⟨.str ⟨#[c]⟩, [], .str _, fun Q k => .inr (.inr ⟨s, i, c, rfl, rfl, z, ?_, k⟩)⟩
        unfold atI
        rw [e1]; exact e2
    · rw [if_neg z] at q; cases q
  | dic o ks vs => cases r1
  | _ => cases q
theorem ixF_ok : IxR X (rB C (o2 idxF)) := by
  refine IxR.imp ix_seq fun x y H Q h => ?_
  obtain ⟨F, d1, d2, fx, fy, e, sub, r1, r2, q, w⟩ := rB2 h
  unfold idxF at q
  cases e1 : idx2 d1 d2 with
  | none => rw [e1] at q; cases q
  | some d =>
    rw [e1] at q
    by_cases z : isFrz d = true
    · simp only [z, if_true, Option.some.injEq] at q
      subst q
      obtain ⟨v, fp, r, k⟩ := idx_rule K sub r1 r2 e1
      exact k Q (w.old sub (r.frz (fun _ _ e => e) z))
    · simp [z] at q
theorem ixS_ok : IxR X (rSee C idx2) := by
  refine IxR.imp ix_seq fun x y H Q h => ?_
  obtain ⟨F, d1, d2, fx, fy, e, sub, r1, r2, q, w⟩ := h
  obtain ⟨v, fp, r, k⟩ := idx_rule K sub r1 r2 q
  exact k Q (w v F H fp ⟨Nw.refl sub, r⟩)

/-! ### slices -/
def pt? : D → Option (Option Int)
  | .non => some none
  | .int i => some (some i)
  | _ => none
omit K in
theorem bound_some {n d m : Nat} {x : D} (h : bound n d x = some m) : ∃ o, pt? x = some o ∧ HT.sIx n d o = m := by
  cases x <;> first | (cases h; done) | skip
  · cases h; exact ⟨none, rfl, rfl⟩
  · rename_i i
    refine ⟨some i, rfl, ?_⟩
    simp only [bound, Option.some.injEq] at h
    rw [← h]
    show (if i < 0 then (i + (n : Int)).toNat else min i.toNat n) = _
    by_cases h1 : i < 0
    · rw [if_pos h1, if_pos h1]
    · rw [if_neg h1, if_neg h1]
      by_cases h2 : i > n
      · rw [if_pos h2]; omega
      · rw [if_neg h2]; omega
omit K in
theorem cutL_get {α β : Type} {xs : List α} {ys : List β} (P : α → β → Prop) (p : ∀ (i : Nat) a b, xs[i]? = some a → ys[i]? = some b → P a b) (l h : Nat) : ∀ (i : Nat) a b, (cutL xs l h)[i]? = some a → (cutL ys l h)[i]? = some b → P a b := fun i a b e1 e2 => by
  unfold cutL at e1 e2
  rw [List.getElem?_take] at e1 e2
  by_cases z : i < h - l
  · rw [if_pos z, List.getElem?_drop] at e1 e2
    exact p _ a b e1 e2
  · rw [if_neg z] at e1; cases e1
omit K in
theorem cutL_len {α β : Type} {xs : List α} {ys : List β} (e : xs.length = ys.length) (l h : Nat) : (cutL xs l h).length = (cutL ys l h).length := by
  unfold cutL
  rw [List.length_take, List.length_take, List.length_drop, List.length_drop, e]
omit K in
theorem cutL_all {α : Type} (xs : List α) : cutL xs 0 xs.length = xs := by simp [cutL]
/-- a slice by values -/
def rSl (C : Ct) : V → Option Int → Option Int → Hp → VK → Prop := fun x lo hi H Q => ∃ F d1 l h fx e, (∀ a o, F a = some o → H a = some o) ∧ DR C.g F H x d1 fx ∧ pt? l = some lo ∧ pt? h = some hi ∧ slice3 d1 l h = some e ∧ Wish C F H Q e
theorem sl_ok : SlR X (rSl C) := by
  refine SlR.imp (SlR.or sl_tupA sl_list) fun x lo hi H Q h => ?_
  obtain ⟨F, d1, l, h, fx, e, sub, r1, hl, hh, q, w⟩ := h
  cases d1 with
  | tup ys =>
    simp only [slice3] at q
    cases e1 : bound ys.length 0 l with
    | none => rw [e1] at q; cases q
    | some m =>
      cases e2 : bound ys.length ys.length h with
      | none => rw [e1, e2] at q; cases q
      | some n =>
        rw [e1, e2] at q; cases q
        obtain ⟨o1, k1, k2⟩ := bound_some e1
        obtain ⟨o2, k3, k4⟩ := bound_some e2
        rw [hl] at k1; cases k1
        rw [hh] at k3; cases k3
        obtain ⟨a, us, rfl, h1, l1, i1, rfl⟩ := r1.tup_inv
        rw [← l1] at k2 k4
        refine .inl ⟨a, us, rfl, by rw [← K]; exact sqT_mono sub h1, fun z => ?_, fun z p np => ?_⟩
        · have w : Wish C F H Q (.tup (cutL ys m n)) := w
          rw [← k2, ← k4, z.1, z.2, l1, cutL_all] at w
          exact w.old sub r1
        · have := w.newT sub (vs := cutL us m n) (cutL_len l1 m n) (cutL_get _ i1 m n) p np
          unfold cutV
          rw [k2, k4]
          exact this
  | lst o ys =>
    simp only [slice3] at q
    cases e1 : bound ys.length 0 l with
    | none => rw [e1] at q; cases q
    | some m =>
      cases e2 : bound ys.length ys.length h with
      | none => rw [e1, e2] at q; cases q
      | some n =>
        rw [e1, e2] at q
        simp only at q
        by_cases zz : ys.all isFrz = true
        · rw [if_pos zz] at q; cases q
          obtain ⟨o1, k1, k2⟩ := bound_some e1
          obtain ⟨o2, k3, k4⟩ := bound_some e2
          rw [hl] at k1; cases k1
          rw [hh] at k3; cases k3
          obtain ⟨a, us, rfl, h1, l1, i1⟩ := r1.lst_inv sub
          rw [← l1] at k2 k4
          refine .inr ⟨a, us, rfl, by rw [← K]; exact h1, fun p np => ?_⟩
          have := w.newL sub (vs := cutL us m n) (cutL_len l1 m n) (cutL_get (fun v d => DR C.g F H v d []) (fun i v d e1 e2 => by
            obtain ⟨f, r⟩ := i1 i v d e1 e2
            exact r.frz (fun _ _ e => e) (all_frz zz e2)) m n) p np
          unfold cutV
          rw [k2, k4]
          exact this
        · rw [if_neg zz] at q; cases q
  | _ => cases q

/-! ### isinstance -/
def tyN : Ty → String
  | .int => "int" | .bool => "bool" | .str => "str" | .lst => "list" | .tup => "tuple" | .dic => "dict"
/-- the built-in types alone -/
def clTy : Cl → Option Ty
  | .ty t => some t
  | .cls _ => none
def dTy : D → Option String
  | .non => some "NoneType"
  | .bl _ => some "bool"
  | .int _ => some "int"
  | .str _ => some "str"
  | .tup _ => some "tuple"
  | .lst _ _ => some "list"
  | _ => none
theorem ty_of {F H : Hp} {x : V} {d : D} {fp : List Addr} {n : String} (sub : ∀ a o, F a = some o → H a = some o) (r : DR C.g F H x d fp) (h : dTy d = some n) : TyX X.K H x (.type n) := by
  cases r with
  | non => cases h; exact .base .non
  | bl b => cases h; exact .base (.bl b)
  | int i => cases h; exact .base (.int i)
  | str s => cases h; exact .base (.str s)
  | fn f => cases h
  | cls c => cases h
  | tup q n r =>
    cases h
    rcases sqT_mono sub q with (q | ⟨o, q⟩) | ⟨o, its, n, hk, hc, _⟩
    · exact .base (.tup q)
    · exact .fTuple q
    · rw [K] at hk; exact .kTuple hk hc
  | lst q n r =>
    cases h
    rcases rd_mono sub q with q | ⟨o, q⟩
    · exact .base (.lst q)
    · exact .base (.frz q)
  | olst q n m r => cases h; exact .base (.lst q)
omit K in
theorem kit_one {d : D} {n : String} {t : Ty} (h : dTy d = some n) : PySem.W.kitOne X.K (.type n) (.type (tyN t)) = some (isInst d (.ty t)) := by
  cases d <;> first | (cases h; done) | skip
  all_goals (cases h; cases t <;> first | exact kit_ty (show kitB _ _ = some true by decide +kernel) | exact kit_ty (show kitB _ _ = some false by decide +kernel))
omit K in
theorem kit_any {d : D} {n : String} (h : dTy d = some n) : ∀ ts : List Ty, PySem.W.kitAny X.K (.type n) (ts.map fun t => .type (tyN t)) = some ((ts.map Cl.ty).any (isInst d))
  | [] => rfl
  | t :: ts => by
    simp only [List.map_cons, List.any_cons]
    refine kitAny_cons (kit_one h) (fun e => ?_) (fun e => by rw [e]; rfl)
    rw [e, Bool.false_or]; exact kit_any h ts
omit K in
theorem isInst1_some {cs : List Cl} {d e : D} (dr : ∃ g F H v fp, DR g F H v d fp) (h : isInst1 cs d = some e) : ∃ n, dTy d = some n ∧ e = .bl (cs.any (isInst d)) := by
  obtain ⟨g, F, H, v, fp, r⟩ := dr
  cases r <;> first | (cases h; done) | exact ⟨_, rfl, (Option.some.inj h).symm⟩
/-- isinstance(x, T) -/
theorem isi_one {x : V} {H : Hp} {Q : VK} {t : Ty} (h : rOp C (o1 (isInst1 [.ty t])) [x] H Q) : rIsi X.K [x, .ty (tyN t)] H Q := by
  obtain ⟨F, x', d, fp, e, q, sub, dr, q1, w⟩ := rOp1 h
  cases q
  obtain ⟨n, hn, rfl⟩ := isInst1_some ⟨_, _, _, _, _, dr⟩ q1
  have k := kit_one (X := X) (t := t) hn
  refine ⟨x, _, _, _, _, rfl, .ty _, ty_of K sub dr hn, k, ?_⟩
  have : [Cl.ty t].any (isInst d) = isInst d (.ty t) := by simp
  rw [this] at w
  exact w.bl sub
theorem isi_many {x : V} {H : Hp} {Q : VK} {ts : List Ty} {p : Addr} (np : H p = none) (h : rOp C (o1 (isInst1 (ts.map .ty))) [x] H fun v H' => ∀ H2, Nw H' H' H2 H2 → Q v H2) : rIsiT X.K [x, .ref p] (upd H p (.tup (ts.map fun t => .ty (tyN t)))) Q := by
  obtain ⟨F, x', d, fp, e, q, sub, dr, q1, w⟩ := rOp1 h
  cases q
  obtain ⟨n, hn, rfl⟩ := isInst1_some ⟨_, _, _, _, _, dr⟩ q1
  have nw := Nw.newS (o := .tup (ts.map fun t => .ty (tyN t))) sub np
  have nw2 := Nw.newS (o := .tup (ts.map fun t => .ty (tyN t))) (fun (_ : Addr) (_ : HO) e => e) np
  have k := kit_any (X := X) hn ts
  refine ⟨x, p, _, _, ts.map fun t => .type (tyN t), _, rfl, upd_same, ?_, ty_of K nw.sub (dr.later nw) hn, k, w.bl sub _ nw2⟩
  clear k nw nw2 w q1 h
  induction ts with
  | nil => exact .nil
  | cons t ts ih => exact .cons (.ty _) ih
/-! ### is None -/
omit K in
theorem DR.non_iff {g : Gb} {F H : Hp} {v : V} {d : D} {fp : List Addr} (r : DR g F H v d fp) : decide (v = .non) = (match d with | .non => true | _ => false) := by
  cases r <;> simp
end
end Z
end

section
set_option Elab.async false
set_option linter.all false
set_option maxRecDepth 100000
set_option maxHeartbeats 4000000
/-! ZC: readings of calls, displays, comprehensions. -/
namespace Z
open PySem L2 PyProof.Rows

/-! ### what the text is not -/
def okE : Expr → Bool
  | .Starred _ _ => false
  | .Set _ _ _ => false
  | .Slice _ _ _ _ => false
  | _ => true
theorem nostar {e : Expr} (h : okE e = true) (es : List Expr) (env : PySem.Env) : starEach (e :: es) env = (false, eval e env) :: starEach es env := by
  cases e <;> first | (simp [okE] at h; done) | rfl
theorem nomarkE {b : Expr} (h : okE b = true) (op : CmpOp) : behindInMarks op b = false := by
  cases b <;> first | (simp [okE] at h; done) | rfl
theorem noset {e : Expr} (h : okE e = true) (env : PySem.Env) (x : Value) : foldedSetIterable e env x = pure x := by
  cases e <;> first | (simp [okE] at h; done) | rfl
theorem plainIx_ok {b : Expr} (h : okE b = true) : PlainIx b := plainIx_of fun lo hi st p e => by subst e; simp [okE] at h
def noStars (es : List Expr) : Bool := es.all okE
theorem anyStar {es : List Expr} (h : noStars es = true) (pos : Pos) (env : PySem.Env) : (backTo pos (starEach es env)).any (·.1) = false := by
  induction es with
  | nil => rfl
  | cons e es ih =>
    have h : okE e = true ∧ noStars es = true := by simpa [noStars] using h
    rw [nostar h.1]
    show (false || (backTo pos (starEach es env)).any (·.1)) = false
    rw [Bool.false_or]; exact ih h.2

/-! ### calls -/
/-- what a function that changes nothing promises -/
def spP (Z : Ct) (i : Nat) : Sp := fun vs H Q E => ∃ F ds, (∀ a o, F a = some o → H a = some o) ∧ vs.length = ds.length ∧ (∀ (i : Nat) v d, vs[i]? = some v → ds[i]? = some d → DR Z.g F H v d []) ∧ allFrz ds = true ∧
  match Z.rt.call i ds with
  | .ok r => ∀ v F' H' fp, NewV Z.g F H F' H' v r.1 fp → Q v H'
  | .exc c fs => ∀ cls dd F' H', Nw F H F' H' → ExR Z.g Z.ea F' H' c fs cls dd → E cls dd H'
  | .bad => False
theorem oCall_ok {Z : Ct} {i : Nat} : OpOk Z (oCall i) (fun σ vs H Q => spP Z i vs H Q (WE Z.W σ)) := by
  intro F H σ vs ds fps Q sub dr oc
  unfold oCall at oc
  by_cases hi : Z.rt.tab.io i = true
  · rw [if_pos hi] at oc; exact oc.elim
  · rw [if_neg hi] at oc
    by_cases ha : allFrz ds = true
    · rw [if_pos ha] at oc
      refine ⟨F, ds, sub, dr.1, dr.all ha, ha, ?_⟩
      cases e : Z.rt.call i ds with
      | ok r => rw [e] at oc; exact oc
      | exc c fs => rw [e] at oc; exact oc
      | bad => rw [e] at oc; exact oc.elim
    · rw [if_neg ha] at oc; exact oc.elim
theorem oBin_ok {Z : Ct} {f : D → D → Option D} {m : Str} : OpOk Z (oBin f m) (fun _ => rOp Z (oBin f m)) := by
  intro F H σ vs ds fps Q sub dr oc
  cases e : oBin f m Z.rt ds with
  | ok d => rw [e] at oc; exact ⟨F, ds, fps, d, sub, dr, e, oc⟩
  | exc c fs =>
    exfalso
    match ds, dr, e with
    | [], _, e => cases e
    | [_], _, e => cases e
    | [d1, d2], dr, e =>
      obtain ⟨x', vs', fx, fps', q, rfl, hx, dr⟩ := dr.uncons
      simp only [oBin] at e
      cases q : f d1 d2 with
      | some c => rw [q] at e; cases e
      | none =>
        rw [q] at e
        cases d1 <;> first | (cases e; done) | (cases hx; done)
    | _ :: _ :: _ :: _, _, e => cases e
  | bad => rw [e] at oc; exact oc.elim
theorem oUn_ok {Z : Ct} {f : D → Option D} {m : Str} : OpOk Z (oUn f m) (fun _ => rOp Z (oUn f m)) := by
  intro F H σ vs ds fps Q sub dr oc
  cases e : oUn f m Z.rt ds with
  | ok d => rw [e] at oc; exact ⟨F, ds, fps, d, sub, dr, e, oc⟩
  | exc c fs =>
    exfalso
    match ds, dr, e with
    | [], _, e => cases e
    | [d1], dr, e =>
      obtain ⟨x', vs', fx, fps', q, rfl, hx, dr⟩ := dr.uncons
      simp only [oUn] at e
      cases q : f d1 with
      | some c => rw [q] at e; cases e
      | none =>
        rw [q] at e
        cases d1 <;> first | (cases e; done) | (cases hx; done)
    | _ :: _ :: _, _, e => cases e
  | bad => rw [e] at oc; exact oc.elim
section
variable {X : Cx} {CX : CXT} {k i : Nat} {f : Addr} {fd : FuncData} {ps : List Str} {sp : Sp} {E : L2.St → XK} {x : Str} {p pos : Pos} {es : List Expr} {t : TA}
theorem pe_callS0 (F : FnOk X.prog X.w X.K X.mg X.base CX k f fd ps sp) (hr : Room k X.A) (hg : Gl X x) (hm : X.mg x = some (.ref f)) (hk : PySem.W.keepIn X.K (.ref f) = true) (hb : Binds X.K fd ps []) (hx : ∀ σ, PassesAt CX X σ (E σ))
    (hdb : (x == ("__debug__" : Str)) = false) : PE X (.Call (.Name x p) [] [] pos) (tCallS sp E tNil) := by
  refine ⟨fun pins s σ H Q I h => ?_⟩
  refine wpAny_Call_Name_kw (ld_glob I hg hm ?_ hdb)
  exact PySem.W.callWith_K0 I.kIn hk (run_fnS (us := []) F hr hb (hx σ) I .nil h)
/-- any number of arguments -/
theorem pe_callSN (F : FnOk X.prog X.w X.K X.mg X.base CX k f fd ps sp) (hr : Room k X.A) (hg : Gl X x) (hm : X.mg x = some (.ref f)) (hk : PySem.W.keepIn X.K (.ref f) = true) (hb : Binds X.K fd ps []) (hx : ∀ σ, PassesAt CX X σ (E σ))
    (hdb : (x == ("__debug__" : Str)) = false) (ha : PA X es t) (hn : noStars es = true) (h0 : es = [] → ∀ σ H Q, t σ H Q → tNil σ H Q) : PE X (.Call (.Name x p) es [] pos) (tCallS sp E t) := by
  cases es with
  | nil => exact PE.imp (pe_callS0 F hr hg hm hk hb hx hdb) fun σ H Q h => h0 rfl _ _ _ h
  | cons e es =>
    have hn : okE e = true ∧ noStars es = true := by simpa [noStars] using hn
    exact pe_callS F hr hg hm hk hb hx ha hdb (nostar hn.1 es _) (anyStar hn.2 _ _)
/-- a function that a name holds -/
def tCallV (i : Nat) (S : Addr → Sp → Prop) (E : L2.St → XK) (t : TA) : TE := fun σ H Q => ∃ f sp, σ[i]? = some (some (.ref f)) ∧ S f sp ∧ t σ H fun vs H1 => sp vs H1 Q (E σ)
theorem pe_callV {S : Addr → Sp → Prop} (A : ∀ f sp, S f sp → ∃ fd ps, FnOk X.prog X.w X.K X.mg X.base CX k f fd ps sp ∧ PySem.W.keepIn X.K (.ref f) = true ∧ Binds X.K fd ps []) (hr : Room k X.A) (hx : ∀ σ, PassesAt CX X σ (E σ)) (hN : X.N[i]? = some x) (hv : Vis X.env.scope x)
    (ha : PA X es t) (hn : noStars es = true) (hne : es ≠ []) (hdb : (x == ("__debug__" : Str)) = false) (hcd : (x == ("__classdict__" : Str)) = false) : PE X (.Call (.Name x p) es [] pos) (tCallV i S E t) := by
  cases es with
  | nil => exact absurd rfl hne
  | cons e es =>
  have hn : okE e = true ∧ noStars es = true := by simpa [noStars] using hn
  constructor
  intro pins s σ H Q I h
  obtain ⟨f, sp, hs, hS, ht⟩ := h
  obtain ⟨fd, ps, F, hk, hb⟩ := A f sp hS
  apply wpAny_Call_Name_kw
  apply thn ((pe_var (pos := p) hN hv hdb hcd).run pins s σ H (fun v H1 => v = .ref f ∧ H1 = H) I ⟨.ref f, hs, rfl, rfl⟩)
  rintro u s1 ⟨v, H1, I1, r1, rfl, rfl⟩
  cases r1
  refine PySem.W.callWith_K (h₀ := X.base) I.ok.mod.kin hk ?_ (nostar hn.1 es _) (anyStar hn.2 _ _)
  exact thn (ha.run pos pins s1 σ _ _ I1 ht) fun us s2 ⟨vs, H2, I2, r, q⟩ => ⟨I2.kIn, run_fnS F hr hb (hx σ) I2 r q⟩
end
section
variable {Z : Ct} {σ : L2.St} {H : Hp} {ps : List PDen}
theorem tP_call {i : Nat} {Q : VK} (h : tP Z (pN (oCall i) ps) σ H Q) : tCallS (spP Z i) (WE Z.W) (tA Z ps) σ H Q := oCall_ok.tP h
theorem tA_nil0 {Q : List V → Hp → Prop} (h : tA Z ps σ H Q) (e : ps = []) : tNil σ H Q := by subst e; exact tA_nil h

/-! ### displays -/
/-- new values, one by one, each with what it holds alone -/
structure NewVs (g : Gb) (F H F' H' : Hp) (vs : List V) (ds : List D) (fps : List (List Addr)) : Prop where
  nw : Nw F H F' H'
  dr : DRs g F' H' vs ds fps
  fresh : ∀ a ∈ fps.flatten, H a = none
  hid : ∀ a ∈ fps.flatten, F' a = none
  nd : fps.flatten.Nodup
def tN (Z : Ct) (ps : List PDen) : TA := fun σ H Q => ∃ env F, VR Z.g F H σ env ∧ Oc Z F H σ (pAll ps Z.rt env) fun ds => ∀ vs F' H' fps, NewVs Z.g F H F' H' vs ds fps → Q vs H'
theorem tN_nil {Q : List V → Hp → Prop} (h : tN Z [] σ H Q) : tNil σ H Q := by
  obtain ⟨env, F, vr, oc⟩ := h
  exact oc [] F H [] ⟨Nw.refl vr.sub, DRs.nil, fun _ h => (nomatch h), fun _ h => (nomatch h), List.nodup_nil⟩
/-- what is held alone stands in the heap -/
theorem DR.there {g : Gb} {F H : Hp} {v : V} {d : D} {fp : List Addr} (r : DR g F H v d fp) : ∀ a ∈ fp, ∃ o, H a = some o := by
  induction r with
  | @olst a' vs ds fps q n m r ih =>
    intro a ha
    rcases List.mem_cons.mp ha with e | ha
    · exact ⟨_, e ▸ q⟩
    · obtain ⟨f, hf, hb⟩ := List.mem_flatten.mp ha
      obtain ⟨i, hi, e⟩ := List.getElem_of_mem hf
      have h1 : i < ds.length := by rw [← m]; exact hi
      have h2 : i < vs.length := by rw [n]; exact h1
      exact ih i _ _ f (List.getElem?_eq_getElem h2) (List.getElem?_eq_getElem h1) (by rw [List.getElem?_eq_getElem hi, e]) a hb
  | _ => intro a ha; exact absurd ha (by simp)
theorem Nw.hidden {F H F' H' : Hp} (n : Nw F H F' H') {a : Addr} (h : F a = none) (t : ∃ o, H a = some o) : F' a = none := by
  obtain ⟨o, e⟩ := t
  cases q : F' a with
  | none => rfl
  | some u => exact absurd h (n.old a o e (by rw [q]; exact fun z => nomatch z))
theorem tN_cons {p : PDen} {Q : List V → Hp → Prop} (h : tN Z (p :: ps) σ H Q) : tCons (tP Z p) (tN Z ps) σ H Q := by
  obtain ⟨env, F, vr, oc⟩ := h
  refine ⟨env, F, vr, Oc.mono (Oc.bind oc) fun d oc v F1 H1 fp n => ⟨env, F1, vr.later n.nw, ?_⟩⟩
  refine Oc.later n.nw (Oc.bind oc) fun ds q vs F' H' fps m => ?_
  have fr1 : ∀ a ∈ fps.flatten, H a = none := fun a ha => by
    cases e : H a with
    | none => rfl
    | some o => have := n.nw.ext a o e; rw [m.fresh a ha] at this; cases this
  refine q (v :: vs) F' H' (fp :: fps) ⟨n.nw.trans m.nw, DRs.cons (n.dr.later m.nw) m.dr, fun a ha => ?_, fun a ha => ?_, ?_⟩
  · rw [List.flatten_cons, List.mem_append] at ha
    rcases ha with ha | ha
    · exact n.fresh a ha
    · exact fr1 a ha
  · rw [List.flatten_cons, List.mem_append] at ha
    rcases ha with ha | ha
    · exact m.nw.hidden (n.hid a ha) (n.dr.there a ha)
    · exact m.hid a ha
  · rw [List.flatten_cons, List.nodup_append]
    refine ⟨n.nd, m.nd, fun a h1 b h2 e => ?_⟩
    subst e
    obtain ⟨o, e⟩ := n.dr.there a h1
    rw [m.fresh a h2] at e; cases e
/-- a list of new values -/
theorem newL_of {g : Gb} {F H F' H' : Hp} {vs : List V} {ds : List D} {fps : List (List Addr)} (n : NewVs g F H F' H' vs ds fps) {p : Addr} (np : H' p = none) : NewV g F H F' (upd H' p (.lst vs)) (.ref p) (.lst true ds) (p :: fps.flatten) := by
  have nw := Nw.new (o := .lst vs) n.nw.sub np
  have hp : H p = none := by
    cases e : H p with
    | none => rfl
    | some o => rw [n.nw.ext p o e] at np; cases np
  have hF : F' p = none := by
    cases e : F' p with
    | none => rfl
    | some o => rw [n.nw.sub p o e] at np; cases np
  have npp : p ∉ fps.flatten := fun hm => by
    obtain ⟨f, hf, hb⟩ := List.mem_flatten.mp hm
    obtain ⟨i, hi, e⟩ := List.getElem_of_mem hf
    have h1 : i < ds.length := by rw [← n.dr.2.1]; exact hi
    have h2 : i < vs.length := by rw [n.dr.1]; exact h1
    obtain ⟨o, q⟩ := (n.dr.2.2 i _ _ f (List.getElem?_eq_getElem h2) (List.getElem?_eq_getElem h1) (by rw [List.getElem?_eq_getElem hi, e])).there p hb
    rw [np] at q; cases q
  refine ⟨n.nw.trans nw, .olst upd_same n.dr.1 n.dr.2.1 fun i v d f e1 e2 e3 => (n.dr.2.2 i v d f e1 e2 e3).later nw, fun a ha => ?_, fun a ha => ?_, List.nodup_cons.mpr ⟨npp, n.nd⟩⟩
  · rcases List.mem_cons.mp ha with rfl | ha
    · exact hp
    · exact n.fresh a ha
  · rcases List.mem_cons.mp ha with rfl | ha
    · exact hF
    · exact n.hid a ha
theorem pAll_len : ∀ {ps : List PDen} {rt : RT} {env : List D} {ds : List D}, pAll ps rt env = .ok ds → ds.length = ps.length
  | [], rt, env, ds, h => by cases h; rfl
  | p :: ps, rt, env, ds, h => by
    simp only [pAll, Out.bind] at h
    cases e : p rt env with
    | ok d =>
      rw [e] at h
      cases e2 : pAll ps rt env with
      | ok es => simp only [e2] at h; cases h; simp [pAll_len e2]
      | exc c fs => simp only [e2] at h; cases h
      | bad => simp only [e2] at h; cases h
    | exc c fs => rw [e] at h; cases h
    | bad => rw [e] at h; cases h
theorem tP_lst {Q : VK} (hl : ps.length ≤ 1000) (h : tP Z (pLst ps) σ H Q) : tLst (tN Z ps) σ H Q := by
  obtain ⟨env, F, vr, oc⟩ := h
  have oc := Oc.bind oc
  have hlen : ∀ ds, pAll ps Z.rt env = .ok ds → ds.length ≤ 1000 := fun ds e => by rw [pAll_len e]; exact hl
  refine ⟨env, F, vr, ?_⟩
  cases e : pAll ps Z.rt env with
  | ok ds =>
    rw [e] at oc
    intro vs F' H' fps n
    refine ⟨by rw [n.dr.1]; exact Nat.le_trans (hlen ds e) (by decide), fun p np => ?_⟩
    exact (show ∀ v F' H' fp, NewV Z.g F H F' H' v (.lst true ds) fp → Q v H' from oc) _ _ _ _ (newL_of n np)
  | exc c fs => rw [e] at oc; exact oc
  | bad => rw [e] at oc; exact oc.elim
theorem tP_tup {Q : VK} (h : tP Z (pN oTup ps) σ H Q) : tTup (tA Z ps) σ H Q := by
  obtain ⟨env, F, vr, oc⟩ := h
  refine ⟨env, F, vr, Oc.mono (Oc.bind oc) fun ds oc vs F' H' fps nw r => ?_⟩
  unfold oTup at oc
  by_cases z : (allFrz ds && decide (ds.length ≤ sizeMax)) = true
  · rw [if_pos z] at oc
    simp only [Bool.and_eq_true, decide_eq_true_eq] at z
    refine ⟨by rw [r.1, ← sizeMax_eq]; exact z.2, ?_⟩
    have w : Wish Z F' H' Q (.tup ds) := fun v F2 H2 fp n => (show ∀ v F' H' fp, NewV Z.g F H F' H' v (.tup ds) fp → Q v H' from oc) v F2 H2 fp (n.after nw)
    exact w.newT nw.sub r.1 (r.all z.1)
  · rw [if_neg z] at oc; exact oc.elim
end
end Z
end

section
set_option Elab.async false
set_option linter.all false
set_option maxRecDepth 100000
set_option maxHeartbeats 4000000
/-! ZD: contexts, patterns, what is walked, comprehensions. -/
namespace Z
open PySem L2 PyProof.Rows

/-- the def behind a function that changes nothing -/
def PF (X : Cx) (Z : Ct) (k i : Nat) : Prop := ∃ fd ps, FnOk X.prog X.w X.K X.mg X.base (L2.CX X.prog X.w) k (Z.g.fa i) fd ps (spP Z i) ∧ PySem.W.keepIn X.K (.ref (Z.g.fa i)) = true ∧ Binds X.K fd ps []
/-- the context is as the compiler takes it to be -/
structure GX (X : Cx) (C : CC) (Z : Ct) (k : Nat) : Prop where
  K : Z.g.K = X.K
  sc : X.env.scope = C.sc
  N : X.N = C.N
  nd : X.N.Nodup
  calm : X.calm = true
  room : Room k X.A
  fn : ∀ x, C.fnb x = true → X.fn x = true
  gfn : ∀ x i, C.gl x = some (.fn i) → X.mg x = some (.ref (Z.g.fa i))
  gcon : ∀ x d, C.gl x = some (.con d) → ∃ v u, X.mg x = some u ∧ RelV v u ∧ ∀ F H, DR Z.g F H v d []
  gno : ∀ x, C.gl x = none → X.mg x = none
  iof : ∀ i, C.iof i = false → Z.rt.tab.io i = false
  ioT : ∀ i, C.iof i = true → Z.rt.tab.io i = true
  pf : ∀ i, Z.rt.tab.io i = false → PF X Z k i
  tk : Takes X Z.W
section
variable {X : Cx} {C : CC} {Z : Ct} {k : Nat}
theorem GX.units (G : GX X C Z k) : X.A.units + 65 < cLine := by have := G.room.un; omega
theorem ixOf_get : ∀ {N : List Str} {x : Str} {n i : Nat}, ixOf x N n = some i → n ≤ i ∧ N[i - n]? = some x
  | [], x, n, i, h => by cases h
  | y :: ys, x, n, i, h => by
    unfold ixOf at h
    by_cases e : x = y
    · rw [if_pos e] at h; cases h
      exact ⟨Nat.le_refl _, by simp [e]⟩
    · rw [if_neg e] at h
      obtain ⟨h1, h2⟩ := ixOf_get h
      refine ⟨by omega, ?_⟩
      have : i - n = (i - (n + 1)) + 1 := by omega
      rw [this, List.getElem?_cons_succ]; exact h2
theorem ixOf_get0 {N : List Str} {x : Str} {i : Nat} (h : ixOf x N 0 = some i) : N[i]? = some x := (ixOf_get h).2
theorem okN_some {x : Str} (h : okN x = true) : (x == ("__debug__" : Str)) = false ∧ (x == ("__classdict__" : Str)) = false ∧ x ≠ ("__name__" : Str) := by
  unfold okN at h
  simp only [Bool.and_eq_true, Bool.not_eq_true'] at h
  exact ⟨h.1, h.2.1, fun e => by rw [e] at h; simp at h⟩
theorem slot_some {x : Str} {i : Nat} (h : C.slot x = some i) : okN x = true ∧ C.N[i]? = some x ∧ (C.sc.names.lookup x = some .local ∨ C.sc.names.lookup x = some .cell ∨ C.sc.names.lookup x = some .free) := by
  unfold CC.slot at h
  by_cases ok : okN x = true
  · rw [ok] at h
    simp only [Bool.not_true, Bool.false_eq_true, if_false] at h
    split at h
    · rename_i e; exact ⟨ok, ixOf_get0 h, .inl e⟩
    · rename_i e; exact ⟨ok, ixOf_get0 h, .inr (.inl e)⟩
    · rename_i e; exact ⟨ok, ixOf_get0 h, .inr (.inr e)⟩
    · cases h
  · rw [Bool.eq_false_iff.mpr ok] at h; simp at h
theorem slotS_some {x : Str} {i : Nat} (h : C.slotS x = some i) : okN x = true ∧ C.N[i]? = some x ∧ (C.sc.names.lookup x = some .local ∨ (C.sc.names.lookup x = some .cell ∧ C.fnb x = true)) := by
  unfold CC.slotS at h
  by_cases ok : okN x = true
  · rw [ok] at h
    simp only [Bool.not_true, Bool.false_eq_true, if_false] at h
    split at h
    · rename_i e; exact ⟨ok, ixOf_get0 h, .inl e⟩
    · rename_i e
      by_cases b : C.fnb x = true
      · rw [if_pos b] at h; exact ⟨ok, ixOf_get0 h, .inr ⟨e, b⟩⟩
      · rw [if_neg b] at h; cases h
    · cases h
  · rw [Bool.eq_false_iff.mpr ok] at h; simp at h
theorem glob_some {x : Str} {g : Gv} (h : C.glob x = some g) : okN x = true ∧ C.sc.names.lookup x = some .globalImplicit ∧ C.gl x = some g := by
  unfold CC.glob at h
  by_cases ok : okN x = true
  · rw [ok] at h
    simp only [Bool.not_true, Bool.false_eq_true, if_false] at h
    split at h
    · rename_i e; exact ⟨ok, e, h⟩
    · cases h
  · rw [Bool.eq_false_iff.mpr ok] at h; simp at h
theorem isB_some {x : Str} (h : C.isB x = true) : okN x = true ∧ C.sc.names.lookup x = some .globalImplicit ∧ C.gl x = none := by
  unfold CC.isB at h
  obtain ⟨h1, h2⟩ := Bool.and_eq_true_iff.mp h
  split at h2
  · rename_i e; exact ⟨h1, e, by simpa using h2⟩
  · cases h2
theorem GX.gl (G : GX X C Z k) {x : Str} (h : C.sc.names.lookup x = some .globalImplicit) : Gl X x := by
  show X.env.scope.names.lookup x = _
  rw [G.sc]; exact h
theorem GX.vis (G : GX X C Z k) {x : Str} {i : Nat} (h : C.slot x = some i) : X.N[i]? = some x ∧ Vis X.env.scope x := by
  obtain ⟨_, h1, h2⟩ := slot_some h
  rw [G.N]
  refine ⟨h1, ?_⟩
  unfold Vis
  rw [G.sc]; exact h2
theorem GX.pass (G : GX X C Z k) : ∀ σ, PassesAt (L2.CX X.prog X.w) X σ (WE Z.W σ) := fun σ => passAt G.tk σ

/-! ### patterns -/
theorem wipe_set {σ : L2.St} {i : Nat} {x : Option V} : ∀ {vs : List Nat}, i ∈ vs → wipe (σ.set i x) vs = wipe σ vs
  | v :: vs, h => by
    unfold wipe
    by_cases hi : i ∈ vs
    · rw [wipe_set hi]
    · have : i = v := by
        rcases List.mem_cons.mp h with e | e
        · exact e
        · exact absurd e hi
      subst this
      have : ∀ {ws : List Nat}, i ∉ ws → wipe (σ.set i x) ws = (wipe σ ws).set i x := by
        intro ws
        induction ws with
        | nil => intro _; rfl
        | cons w ws ih =>
          intro hw
          unfold wipe
          rw [ih fun m => hw (List.mem_cons_of_mem _ m), List.set_comm _ _ (fun e => hw (by rw [e]; exact List.mem_cons_self))]
      rw [this hi, List.set_set]
theorem VR.set {g : Gb} {F H : Hp} {σ : L2.St} {env : Env} {i : Nat} {v : V} {d : D} {fp : List Addr} (r : VR g F H σ env) (h : DR g F H v d fp) : VR g F H (σ.set i (some v)) (env.set i d) := by
  refine ⟨r.sub, fun j hj => ?_, by simpa using r.len⟩
  by_cases e : j = i
  · subst e
    by_cases hl : j < env.length
    · have e1 : (env.set j d).getD j .nul = d := by simp [List.getD, hl]
      rw [e1]
      have := r.len
      exact ⟨v, fp, by simp [show j < σ.length by omega], h⟩
    · exfalso; apply hj
      simp [List.getD, List.getElem?_set, hl]
  · have e1 : (env.set i d).getD j .nul = env.getD j .nul := by
      simp [List.getD, List.getElem?_set, Ne.symm e]
    rw [e1] at hj ⊢
    obtain ⟨w, f, q, z⟩ := r.at_ j hj
    exact ⟨w, f, by rw [List.getElem?_set_ne (Ne.symm e)]; exact q, z⟩
def gPat (Z : Ct) (p : Pat) : TG := fun v σ H Q => ∃ env F d fp, VR Z.g F H σ env ∧ DR Z.g F H v d fp ∧ ∃ env', bindP p d env = some env' ∧
  ∀ σ', VR Z.g F H σ' env' → (∀ vs, (∀ i ∈ p.slots, i ∈ vs) → wipe σ' vs = wipe σ vs) → Q σ' H
def gPats (Z : Ct) (ps : List Pat) : TGs := fun vs σ H Q => ∃ env F ds, VR Z.g F H σ env ∧ vs.length = ds.length ∧ (∀ (i : Nat) v d, vs[i]? = some v → ds[i]? = some d → DR Z.g F H v d []) ∧ ∃ env', bindPs ps ds env = some env' ∧
  ∀ σ', VR Z.g F H σ' env' → (∀ vs, (∀ i ∈ Pat.slotss ps, i ∈ vs) → wipe σ' vs = wipe σ vs) → Q σ' H
theorem bindPs_len : ∀ {ps : List Pat} {ds : List D} {env e : Env}, bindPs ps ds env = some e → ds.length = ps.length
  | [], ds, env, e, h => by cases ds <;> simp_all [bindPs]
  | p :: ps, [], env, e, h => by simp [bindPs] at h
  | p :: ps, d :: ds, env, e, h => by
    simp only [bindPs] at h
    cases q : bindP p d env with
    | none => rw [q] at h; cases h
    | some e1 => rw [q] at h; simp [bindPs_len h]
theorem PG.imp {e : Expr} {t t' : TG} (h : PG X e t) (i : ∀ v σ H Q, t' v σ H Q → t v σ H Q) : PG X e t' := ⟨fun pins s σ H v u Q I r q => h.run pins s σ H v u Q I r (i _ _ _ _ q)⟩
theorem PGs.imp {e : List Expr} {t t' : TGs} (h : PGs X e t) (i : ∀ v σ H Q, t' v σ H Q → t v σ H Q) : PGs X e t' := ⟨fun pins s σ H v u Q I r q => h.run pins s σ H v u Q I r (i _ _ _ _ q)⟩
def okT : Expr → Bool
  | .Starred _ _ => false
  | _ => true
theorem pat_ok : ∀ n, (∀ e p, cPat n C e = some p → okT e = true) ∧ ∀ es ps, cPats n C es = some ps → es.length = ps.length ∧ es.all okT = true
  | 0 => ⟨fun e p h => (nomatch h), fun es ps h => (nomatch h)⟩
  | n + 1 => by
    obtain ⟨i1, i2⟩ := pat_ok n
    refine ⟨fun e p h => ?_, fun es ps h => ?_⟩
    · cases e <;> first | rfl | (cases h)
    · cases es with
      | nil => cases h; exact ⟨rfl, rfl⟩
      | cons e es =>
        simp only [cPats] at h
        cases e1 : cPat n C e with
        | none => rw [e1] at h; cases h
        | some p =>
          cases e2 : cPats n C es with
          | none => rw [e1, e2] at h; cases h
          | some ps' =>
            rw [e1, e2] at h; cases h
            obtain ⟨k1, k2⟩ := i2 es ps' e2
            refine ⟨by simp [k1], ?_⟩
            rw [List.all_cons, i1 e p e1, k2]; rfl
theorem asgE_len {es : List Expr} (env : PySem.Env) : (assignEach es env).length = es.length := by
  induction es with
  | nil => rfl
  | cons e es ih => cases e <;> simp [assignEach, ih]
theorem asgE_cons {e : Expr} (h : okT e = true) (es : List Expr) (env : PySem.Env) : assignEach (e :: es) env = (false, assign e env) :: assignEach es env := by
  cases e <;> first | (simp [okT] at h; done) | rfl
theorem asgE_no {es : List Expr} (h : es.all okT = true) (env : PySem.Env) : (assignEach es env).findIdx? (·.1) = none := by
  induction es with
  | nil => rfl
  | cons e es ih =>
    rw [List.all_cons, Bool.and_eq_true] at h
    rw [asgE_cons h.1, List.findIdx?_cons]
    simp [ih h.2]
theorem pg_pat (G : GX X C Z k) : ∀ n, (∀ e p, cPat n C e = some p → PG X e (gPat Z p)) ∧ ∀ es ps, cPats n C es = some ps → PGs X es (gPats Z ps)
  | 0 => ⟨fun e p h => (nomatch h), fun es ps h => (nomatch h)⟩
  | n + 1 => by
    obtain ⟨i1, i2⟩ := pg_pat G n
    refine ⟨fun e p h => ?_, fun es ps h => ?_⟩
    · cases e with
      | Name x pos =>
        simp only [cPat] at h
        cases e1 : C.slotS x with
        | none => rw [e1] at h; cases h
        | some i =>
          rw [e1] at h
          simp only at h
          by_cases z : (C.io && i == 0) = true
          · rw [if_pos z] at h; cases h
          · rw [if_neg z] at h; cases h
            obtain ⟨_, hN, hl⟩ := slotS_some e1
            have hx : L2.Loc X.env.scope x := by
              unfold L2.Loc; rw [G.sc]
              rcases hl with q | q
              · exact .inl q
              · exact .inr q.1
            have hf : X.fn x = true ∨ X.env.scope.names.lookup x = some .local := by
              rcases hl with q | q
              · exact .inr (by rw [G.sc]; exact q)
              · exact .inl (G.fn x q.2)
            refine PG.imp (pg_name G.nd (by rw [G.N]; exact hN) hx hf) fun v σ H Q h => ?_
            obtain ⟨env, F, d, fp, vr, dr, env', hb, q⟩ := h
            cases hb
            exact q _ (vr.set dr) fun vs hv => wipe_set (hv i (by simp [Pat.slots]))
      | Tuple es kk pos =>
        simp only [cPat] at h
        obtain ⟨ps, e1, rfl⟩ := Option.map_eq_some_iff.mp h
        obtain ⟨l1, l2⟩ := (pat_ok n).2 es ps e1
        refine PG.imp (pg_tup G.calm (i2 es ps e1) (asgE_len _) (asgE_no l2 _)) fun v σ H Q h => ?_
        obtain ⟨env, F, d, fp, vr, dr, env', hb, q⟩ := h
        cases d <;> first | (cases hb; done) | skip
        rename_i ds
        obtain ⟨a, vs, rfl, h1, l3, h3, _⟩ := dr.tup_inv
        have hb : bindPs ps ds env = some env' := hb
        refine ⟨a, vs, rfl, by rw [← G.K]; exact sqT_mono vr.sub h1, by rw [l3, bindPs_len hb, l1], env, F, ds, vr, l3, h3, env', hb, fun σ' r hw => q σ' r fun ws hs => hw ws fun i hi => hs i (by simpa [Pat.slots] using hi)⟩
      | _ => cases h
    · cases es with
      | nil =>
        cases h
        refine PGs.imp pgs_nil fun vs σ H Q h => ?_
        obtain ⟨env, F, ds, vr, l, dr, env', hb, q⟩ := h
        cases ds with
        | nil =>
          cases hb
          exact ⟨List.length_eq_zero_iff.mp (by simpa using l), q σ vr fun _ _ => rfl⟩
        | cons d ds => cases hb
      | cons e es =>
        simp only [cPats] at h
        cases e1 : cPat n C e with
        | none => rw [e1] at h; cases h
        | some p =>
          cases e2 : cPats n C es with
          | none => rw [e1, e2] at h; cases h
          | some ps' =>
            rw [e1, e2] at h; cases h
            have ok := (pat_ok n).1 e p e1
            refine PGs.imp (pgs_cons (i1 e p e1) (i2 es ps' e2) (by rw [asgE_cons ok]; rfl)) fun vs σ H Q h => ?_
            obtain ⟨env, F, ds, vr, l, dr, env', hb, q⟩ := h
            cases ds with
            | nil => cases hb
            | cons d ds =>
              cases vs with
              | nil => simp at l
              | cons v vs =>
                simp only [bindPs] at hb
                cases q1 : bindP p d env with
                | none => rw [q1] at hb; cases hb
                | some en =>
                  rw [q1] at hb
                  refine ⟨v, vs, rfl, env, F, d, [], vr, dr 0 v d rfl rfl, en, q1, fun σ' r hw => ⟨en, F, ds, r, by simpa using l, fun i v d a b => dr (i + 1) v d (by simpa using a) (by simpa using b), env', hb, fun σ2 r2 hw2 => q σ2 r2 fun ws hs => ?_⟩⟩
                  rw [hw2 ws fun i hi => hs i (by simp [Pat.slotss, hi]), hw ws fun i hi => hs i (by simp [Pat.slotss, hi])]
end
end Z
end

section
set_option Elab.async false
set_option linter.all false
set_option maxRecDepth 100000
set_option maxHeartbeats 4000000
/-! ZE: what is walked, comprehensions. -/
namespace Z
open PySem L2 PyProof.Rows

/-- an iterator yields these data; P: what may have come about by then -/
def Wk (g : Gb) (P : Hp → Hp → Prop) (J : It) (xs : List D) : Prop := ∀ F2 H2, P F2 H2 → ∀ i,
  (∀ d, xs[i]? = some d → J.go i H2 ∧ ∀ x H3, J.yld i H2 x H3 → ∃ F3 fp, Nw F2 H2 F3 H3 ∧ DR g F3 H3 x d fp) ∧ (xs.length ≤ i → J.stop i H2)
section
variable {g : Gb} {F H : Hp} {fp : List Addr} {ds : List D}
theorem wk_lst {a : Addr} {o : Bool} {P : Hp → Hp → Prop} (r : ∀ F2 H2, P F2 H2 → (∀ a o, F2 a = some o → H2 a = some o) ∧ ∃ f, DR g F2 H2 (.ref a) (.lst o ds) f) : Wk g P (Itl g.K a) ds := fun F2 H2 p i => by
  obtain ⟨sub, f, r⟩ := r F2 H2 p
  obtain ⟨a', vs, e, h1, l1, i1⟩ := r.lst_inv sub
  cases e
  refine ⟨fun d hd => ?_, fun hi => ⟨vs, h1, by omega⟩⟩
  have hi : i < vs.length := by rw [l1]; exact (List.getElem?_eq_some_iff.mp hd).1
  refine ⟨⟨vs, vs[i], h1, List.getElem?_eq_getElem hi⟩, fun x H3 ⟨e, q⟩ => ?_⟩
  subst e
  obtain ⟨f, r⟩ := i1 i x d (q vs h1) hd
  exact ⟨F2, f, Nw.refl sub, r⟩
theorem wk_tup {a : Addr} {P : Hp → Hp → Prop} (r : ∀ F2 H2, P F2 H2 → (∀ a o, F2 a = some o → H2 a = some o) ∧ DR g F2 H2 (.ref a) (.tup ds) []) : Wk g P (Itt g.K a) ds := fun F2 H2 p i => by
  obtain ⟨sub, r⟩ := r F2 H2 p
  obtain ⟨a', vs, e, h1, l1, i1, _⟩ := r.tup_inv
  cases e
  have h1 := sqT_mono sub h1
  refine ⟨fun d hd => ?_, fun hi => ⟨vs, h1, by omega⟩⟩
  have hi : i < vs.length := by rw [l1]; exact (List.getElem?_eq_some_iff.mp hd).1
  refine ⟨⟨vs, vs[i], h1, List.getElem?_eq_getElem hi⟩, fun x H3 ⟨e, q⟩ => ?_⟩
  subst e
  exact ⟨F2, [], Nw.refl sub, i1 i x d (q vs h1) hd⟩
theorem wk_range {lo : Int} {n : Nat} {P : Hp → Hp → Prop} (r : ∀ F2 H2, P F2 H2 → ∀ a o, F2 a = some o → H2 a = some o) : Wk g P (L2.Itr lo n) (rangeL lo n) := fun F2 H2 p i => by
  have sub := r F2 H2 p
  refine ⟨fun d hd => ?_, fun hi => (show n ≤ i by simpa [rangeL] using hi)⟩
  unfold rangeL at hd
  rw [List.getElem?_map] at hd
  obtain ⟨j, hj, rfl⟩ := Option.map_eq_some_iff.mp hd
  have hi : i < n := by simpa using (List.getElem?_eq_some_iff.mp hj).1
  have : j = i := by simpa [List.getElem?_range hi] using hj.symm
  subst this
  refine ⟨hi, fun x H3 ⟨e, q⟩ => ?_⟩
  subst e q
  exact ⟨F2, [], Nw.refl sub, .int _⟩
theorem zipL_get : ∀ {xs ys : List D} {i : Nat} {d : D}, (zipL xs ys)[i]? = some d → ∃ x y, xs[i]? = some x ∧ ys[i]? = some y ∧ d = .tup [x, y]
  | [], ys, i, d, h => by simp [zipL] at h
  | x :: xs, [], i, d, h => by simp [zipL] at h
  | x :: xs, y :: ys, 0, d, h => by simp [zipL] at h; exact ⟨x, y, rfl, rfl, h.symm⟩
  | x :: xs, y :: ys, i + 1, d, h => by
    simp [zipL] at h
    obtain ⟨a, b, h1, h2, h3⟩ := zipL_get h
    exact ⟨a, b, by simpa using h1, by simpa using h2, h3⟩
theorem zipL_len : ∀ {xs ys : List D}, (zipL xs ys).length = min xs.length ys.length
  | [], ys => by simp [zipL]
  | x :: xs, [] => by simp [zipL]
  | x :: xs, y :: ys => by simp [zipL, zipL_len]
theorem enumL_get : ∀ {xs : List D} {n i : Nat} {d : D}, (enumL n xs)[i]? = some d → ∃ x, xs[i]? = some x ∧ d = .tup [.int ((n + i : Nat) : Int), x]
  | [], n, i, d, h => by simp [enumL] at h
  | x :: xs, n, 0, d, h => by simp [enumL] at h; exact ⟨x, rfl, by rw [← h]; simp⟩
  | x :: xs, n, i + 1, d, h => by
    simp [enumL] at h
    obtain ⟨a, h1, h2⟩ := enumL_get h
    refine ⟨a, by simpa using h1, ?_⟩
    rw [h2]
    have : n + 1 + i = n + (i + 1) := by omega
    rw [this]
theorem enumL_len : ∀ {xs : List D} {n : Nat}, (enumL n xs).length = xs.length
  | [], n => rfl
  | x :: xs, n => by simp [enumL, enumL_len]
/-- a new pair -/
theorem pair_new {F2 H2 H3 : Hp} {x y : V} {d e : D} {T : Addr} (sub : ∀ a o, F2 a = some o → H2 a = some o) (nT : H2 T = none) (e3 : H3 = upd H2 T (.tup [x, y])) (r1 : DR g F2 H2 x d []) (r2 : DR g F2 H2 y e []) : ∃ F3 fp, Nw F2 H2 F3 H3 ∧ DR g F3 H3 (.ref T) (.tup [d, e]) fp := by
  subst e3
  have nw := Nw.newS (o := .tup [x, y]) sub nT
  refine ⟨upd F2 T (.tup [x, y]), [], nw, .tup (.inl (.inl upd_same)) rfl fun i v u h1 h2 => ?_⟩
  match i with
  | 0 => simp at h1 h2; subst h1 h2; exact r1.later nw
  | 1 => simp at h1 h2; subst h1 h2; exact r2.later nw
  | i + 2 => simp at h1
theorem wk_zip {a b : Addr} {o o' : Bool} {es : List D} {P : Hp → Hp → Prop} (h1 : allFrz ds = true) (h2 : allFrz es = true)
    (r : ∀ F2 H2, P F2 H2 → (∀ a o, F2 a = some o → H2 a = some o) ∧ (∃ f, DR g F2 H2 (.ref a) (.lst o ds) f) ∧ ∃ f, DR g F2 H2 (.ref b) (.lst o' es) f) : Wk g P (Itz g.K a b) (zipL ds es) := fun F2 H2 p i => by
  obtain ⟨sub, ⟨f, r1⟩, f', r2⟩ := r F2 H2 p
  obtain ⟨_, vs, e, k1, l1, i1⟩ := r1.lst_inv sub
  cases e
  obtain ⟨_, us, e, k2, l2, i2⟩ := r2.lst_inv sub
  cases e
  refine ⟨fun d hd => ?_, fun hi => ⟨vs, us, k1, k2, by rw [zipL_len] at hi; omega⟩⟩
  obtain ⟨x, y, e1, e2, rfl⟩ := zipL_get hd
  have hi1 : i < vs.length := by rw [l1]; exact (List.getElem?_eq_some_iff.mp e1).1
  have hi2 : i < us.length := by rw [l2]; exact (List.getElem?_eq_some_iff.mp e2).1
  refine ⟨⟨vs, us, vs[i], us[i], k1, k2, List.getElem?_eq_getElem hi1, List.getElem?_eq_getElem hi2⟩, fun v H3 ⟨T, x', y', e, nT, e3, q1, q2⟩ => ?_⟩
  subst e
  obtain ⟨f1, z1⟩ := i1 i x' x (q1 vs k1) e1
  obtain ⟨f2, z2⟩ := i2 i y' y (q2 us k2) e2
  exact pair_new sub nT e3 (z1.frz (fun _ _ e => e) (all_frz h1 e1)) (z2.frz (fun _ _ e => e) (all_frz h2 e2))
theorem wk_zipT {a b : Addr} {es : List D} {P : Hp → Hp → Prop}
    (r : ∀ F2 H2, P F2 H2 → (∀ a o, F2 a = some o → H2 a = some o) ∧ DR g F2 H2 (.ref a) (.tup ds) [] ∧ DR g F2 H2 (.ref b) (.tup es) []) : Wk g P (RZ.ItzT g.K a b) (zipL ds es) := fun F2 H2 p i => by
  obtain ⟨sub, r1, r2⟩ := r F2 H2 p
  obtain ⟨_, vs, e, k1, l1, i1, _⟩ := r1.tup_inv
  cases e
  obtain ⟨_, us, e, k2, l2, i2, _⟩ := r2.tup_inv
  cases e
  have k1 := sqT_mono sub k1
  have k2 := sqT_mono sub k2
  refine ⟨fun d hd => ?_, fun hi => ⟨vs, us, k1, k2, by rw [zipL_len] at hi; omega⟩⟩
  obtain ⟨x, y, e1, e2, rfl⟩ := zipL_get hd
  have hi1 : i < vs.length := by rw [l1]; exact (List.getElem?_eq_some_iff.mp e1).1
  have hi2 : i < us.length := by rw [l2]; exact (List.getElem?_eq_some_iff.mp e2).1
  refine ⟨⟨vs, us, vs[i], us[i], k1, k2, List.getElem?_eq_getElem hi1, List.getElem?_eq_getElem hi2⟩, fun v H3 ⟨T, x', y', e, nT, e3, q1, q2⟩ => ?_⟩
  subst e
  exact pair_new sub nT e3 (i1 i x' x (q1 vs k1) e1) (i2 i y' y (q2 us k2) e2)
theorem wk_enum {a : Addr} {o : Bool} {P : Hp → Hp → Prop} (h1 : allFrz ds = true) (r : ∀ F2 H2, P F2 H2 → (∀ a o, F2 a = some o → H2 a = some o) ∧ ∃ f, DR g F2 H2 (.ref a) (.lst o ds) f) : Wk g P (Ite g.K a) (enumL 0 ds) := fun F2 H2 p i => by
  obtain ⟨sub, f, r1⟩ := r F2 H2 p
  obtain ⟨_, vs, e, k1, l1, i1⟩ := r1.lst_inv sub
  cases e
  refine ⟨fun d hd => ?_, fun hi => ⟨vs, k1, by rw [enumL_len] at hi; omega⟩⟩
  obtain ⟨x, e1, rfl⟩ := enumL_get hd
  have hi1 : i < vs.length := by rw [l1]; exact (List.getElem?_eq_some_iff.mp e1).1
  refine ⟨⟨vs, vs[i], k1, List.getElem?_eq_getElem hi1⟩, fun v H3 ⟨T, x', e, nT, e3, q1⟩ => ?_⟩
  subst e
  obtain ⟨f1, z1⟩ := i1 i x' x (q1 vs k1) e1
  rw [Nat.zero_add]
  exact pair_new sub nT e3 (.int _) (z1.frz (fun _ _ e => e) (all_frz h1 e1))
end
/-- what is walked, as data -/
def tI (Z : Ct) (I : Itr) : TI := fun σ H R => ∃ env F, VR Z.g F H σ env ∧ Oc Z F H σ (I.run Z.rt env) fun xs => ∀ J F' H', Nw F H F' H' → Wk Z.g (Nw F' H') J xs → R J H'
theorem PI.imp {X : Cx} {tg e : Expr} {t t' : TI} (h : PI X tg e t) (i : ∀ σ H R, t' σ H R → t σ H R) : PI X tg e t' := ⟨fun pins s σ H R I q => h.run pins s σ H R I (i _ _ _ q)⟩
/-- a list or a tuple -/
def iSeq (K : PySem.W.Frag) (tl : TE) : TI := fun σ H R => tl σ H fun x H1 => ∃ a, x = .ref a ∧ (((∃ xs, SqL K H1 a xs) ∧ R (Itl K a) H1) ∨ ((∃ xs, SqT K H1 a xs) ∧ R (Itt K a) H1))
theorem pi_seq {X : Cx} {tg l : Expr} {tl : TE} (hl : PE X l tl) : PI X tg l (iSeq X.K tl) := by
  constructor
  intro pins s σ H R I h
  apply thn (hl.run pins s σ H _ I h)
  rintro v s1 ⟨x, H1, I1, r1, a, rfl, q⟩
  have fp1 : ∀ b ∈ [s1.heap.objs.size], FpOk X pins H1 b := by
    intro b hb
    obtain rfl : b = s1.heap.objs.size := List.mem_singleton.mp hb
    exact I1.fpOk (Nat.le_refl _) (I1.hok.fresh (Nat.le_refl _))
  cases r1
  rcases q with ⟨⟨xs, hq⟩, q⟩ | ⟨⟨xs, hq⟩, q⟩
  · obtain ⟨its, _, p, _⟩ := I1.list hq
    apply wpAny_pyIter_list p.isList
    exact ⟨_, _, _, _, H1, rfl, I1.kept (t' := s1.toks) fun b o e => Heap.get?_push_of_some _ e, turn_list a _, ⟨_, Heap.get?_push_size _ rfl, rfl, rfl⟩, fp1, q⟩
  · obtain ⟨its, _, p, _⟩ := I1.tuple hq
    apply wpAny_pyIter_tuple (show s1.heap.IsTuple a its.toArray from p)
    exact ⟨_, _, _, _, H1, rfl, I1.kept (t' := s1.toks) fun b o e => Heap.get?_push_of_some _ e, turn_tuple a _, ⟨_, Heap.get?_push_size _ rfl, rfl, rfl⟩, fp1, q⟩
section
variable {Z : Ct} {σ : L2.St} {H : Hp} {R : It → Hp → Prop} {K : PySem.W.Frag} (hK : Z.g.K = K)
include hK
theorem tI_seq {p : PDen} (h : tI Z ⟨fItems, [p]⟩ σ H R) : iSeq K (tV Z p) σ H R := by
  obtain ⟨env, F, vr, oc⟩ := h
  unfold Itr.run at oc
  refine ⟨env, F, vr, ?_⟩
  have oc := Oc.bind oc
  simp only [pAll] at oc
  refine Oc.mono (Oc.bind oc) fun d oc v F' H' fp n => ?_
  have oc : Oc Z F H σ (match fItems [d] with
    | some xs => if xs.length ≤ sizeMax then Out.ok xs else .bad
    | none => .bad) _ := oc
  cases d with
  | tup ds =>
    simp only [fItems, seqs] at oc
    by_cases z : ds.length ≤ sizeMax
    · rw [if_pos z] at oc
      obtain ⟨a, vs, rfl, h1, l1, i1, rfl⟩ := n.dr.tup_inv
      refine ⟨a, rfl, .inr ⟨⟨vs, by rw [← hK]; exact sqT_mono n.nw.sub h1⟩, ?_⟩⟩
      have := oc (Itt Z.g.K a) F' H' n.nw (wk_tup fun F2 H2 p => ⟨p.sub, n.dr.later p⟩)
      rw [hK] at this; exact this
    · rw [if_neg z] at oc; exact oc.elim
  | lst o ds =>
    simp only [fItems, seqs] at oc
    by_cases z : ds.length ≤ sizeMax
    · rw [if_pos z] at oc
      obtain ⟨a, vs, rfl, h1, l1, i1⟩ := n.dr.lst_inv n.nw.sub
      refine ⟨a, rfl, .inl ⟨⟨vs, by rw [← hK]; exact h1⟩, ?_⟩⟩
      have := oc (Itl Z.g.K a) F' H' n.nw (wk_lst fun F2 H2 p => ⟨p.sub, fp, n.dr.later p⟩)
      rw [hK] at this; exact this
    · rw [if_neg z] at oc; exact oc.elim
  | _ => exact oc.elim
omit hK in
theorem tI_at {f : List D → Option (List D)} {ps : List PDen} (h : tI Z ⟨f, ps⟩ σ H R) : tA Z ps σ H fun vs H' => ∃ F F' ds fps xs, Nw F H F' H' ∧ DRs Z.g F' H' vs ds fps ∧ f ds = some xs ∧ xs.length ≤ sizeMax ∧ ∀ J, Wk Z.g (Nw F' H') J xs → R J H' := by
  obtain ⟨env, F, vr, oc⟩ := h
  unfold Itr.run at oc
  refine ⟨env, F, vr, Oc.mono (Oc.bind oc) fun ds oc vs F' H' fps nw r => ?_⟩
  cases e : f ds with
  | none => simp only [e] at oc; exact oc.elim
  | some xs =>
    simp only [e] at oc
    by_cases z : xs.length ≤ sizeMax
    · rw [if_pos z] at oc
      exact ⟨F, F', ds, fps, xs, nw, r, e, z, fun J w => oc J F' H' nw w⟩
    · rw [if_neg z] at oc; exact oc.elim
end
section
variable {Z : Ct} {σ : L2.St} {H : Hp} {R : It → Hp → Prop} {ps : List PDen}
theorem DRs.one {g : Gb} {F H : Hp} {vs : List V} {d : D} {fps : List (List Addr)} (r : DRs g F H vs [d] fps) : ∃ v f, vs = [v] ∧ DR g F H v d f := by
  obtain ⟨v, vs', f, fps', rfl, rfl, h, r⟩ := r.uncons
  obtain ⟨rfl, rfl⟩ := r.unnil
  exact ⟨v, f, rfl, h⟩
theorem DRs.two {g : Gb} {F H : Hp} {vs : List V} {d e : D} {fps : List (List Addr)} (r : DRs g F H vs [d, e] fps) : ∃ v w f f', vs = [v, w] ∧ DR g F H v d f ∧ DR g F H w e f' := by
  obtain ⟨v, vs', f, fps', rfl, rfl, h, r⟩ := r.uncons
  obtain ⟨w, f', rfl, h'⟩ := r.one
  exact ⟨v, w, f, f', rfl, h, h'⟩
theorem sz62 : (sizeMax : Int) < 2 ^ 62 := by decide
theorem tI_range1 {p : PDen} (h : tI Z ⟨fRange, [p]⟩ σ H R) : iRng1 (tA Z [p]) σ H R := by
  obtain ⟨env, F0, vr, oc⟩ := tI_at h
  have oc := oc
  refine ⟨env, F0, vr, ?_⟩
  have hl : ∀ ds, pAll [p] Z.rt env = .ok ds → ds.length = 1 := fun ds e => pAll_len e
  cases e : pAll [p] Z.rt env with
  | ok ds =>
    rw [e] at oc
    have l1 := hl ds e
    intro vs F1 H1 fps nw r
    obtain ⟨F, F', ds', fps', xs, nw', r', q, z, k⟩ := oc vs F1 H1 fps nw r
    match ds', q with
    | [d], q =>
      obtain ⟨v, f, rfl, dr⟩ := r'.one
      cases d <;> first | (cases q; done) | skip
      rename_i n
      have q : range1 (.int n) = some xs := q
      simp only [range1] at q
      by_cases hz : -(sizeMax : Int) ≤ n ∧ n ≤ sizeMax
      · rw [if_pos hz] at q; cases q
        cases dr.is_int
        have := sz62
        exact ⟨n, rfl, by omega, by omega, k _ (wk_range fun F2 H2 p => p.sub)⟩
      · rw [if_neg hz] at q; cases q
    | [a, b], q =>
      exfalso
      have := r'.1; have := r.1; simp_all
    | [a, b, c], q =>
      exfalso
      have := r'.1; have := r.1; simp_all
  | exc c fs => rw [e] at oc; exact oc
  | bad => rw [e] at oc; exact oc.elim
theorem tI_range2 {p p' : PDen} (h : tI Z ⟨fRange, [p, p']⟩ σ H R) : iRng2 (tA Z [p, p']) σ H R := by
  obtain ⟨env, F0, vr, oc⟩ := tI_at h
  refine ⟨env, F0, vr, ?_⟩
  have hl : ∀ ds, pAll [p, p'] Z.rt env = .ok ds → ds.length = 2 := fun ds e => pAll_len e
  cases e : pAll [p, p'] Z.rt env with
  | ok ds =>
    rw [e] at oc
    have l1 := hl ds e
    intro vs F1 H1 fps nw r
    obtain ⟨F, F', ds', fps', xs, nw', r', q, z, k⟩ := oc vs F1 H1 fps nw r
    match ds', q with
    | [d], q =>
      exfalso
      have := r'.1; have := r.1; simp_all
    | [a, b], q =>
      obtain ⟨v, w, f, f', rfl, d1, d2⟩ := r'.two
      cases a <;> cases b <;> first | (cases q; done) | skip
      rename_i i j
      have q : range2 (.int i) (.int j) = some xs := q
      simp only [range2] at q
      by_cases hz : -(sizeMax : Int) ≤ i ∧ i ≤ sizeMax ∧ -(sizeMax : Int) ≤ j ∧ j ≤ sizeMax
      · rw [if_pos hz] at q; cases q
        cases d1.is_int; cases d2.is_int
        have := sz62
        exact ⟨i, j, rfl, ⟨by omega, by omega, by omega, by omega⟩, k _ (wk_range fun F2 H2 p => p.sub)⟩
      · rw [if_neg hz] at q; cases q
    | [a, b, c], q =>
      exfalso
      have := r'.1; have := r.1; simp_all
  | exc c fs => rw [e] at oc; exact oc
  | bad => rw [e] at oc; exact oc.elim
theorem tI_zip {K : PySem.W.Frag} (hK : Z.g.K = K) (h : tI Z ⟨fZip, ps⟩ σ H R) : RZ.iZipA K (tA Z ps) σ H R := by
  obtain ⟨env, F0, vr, oc⟩ := tI_at h
  refine ⟨env, F0, vr, oc.mono fun ds oc vs F1 H1 fps nw r => ?_⟩
  obtain ⟨F, F', ds', fps', xs, nw', r', q, z, k⟩ := oc vs F1 H1 fps nw r
  unfold fZip at q
  split at q
  · rename_i o ys o' zs
    by_cases hz : (allFrz ys && allFrz zs) = true
    · rw [if_pos hz] at q; cases q
      have hz := Bool.and_eq_true_iff.mp hz
      obtain ⟨v, w, f, f', rfl, d1, d2⟩ := r'.two
      obtain ⟨a, us, rfl, k1, l1, i1⟩ := d1.lst_inv nw'.sub
      obtain ⟨b, ws, rfl, k2, l2, i2⟩ := d2.lst_inv nw'.sub
      rw [← hK]
      exact ⟨a, b, us, ws, rfl, .inl ⟨k1, k2, k _ (wk_zip hz.1 hz.2 fun F2 H2 p => ⟨p.sub, ⟨f, d1.later p⟩, ⟨f', d2.later p⟩⟩)⟩⟩
    · rw [if_neg hz] at q; cases q
  · cases q
    obtain ⟨v, w, f, f', rfl, d1, d2⟩ := r'.two
    obtain ⟨a, us, rfl, k1, l1, i1, rfl⟩ := d1.tup_inv
    obtain ⟨b, ws, rfl, k2, l2, i2, rfl⟩ := d2.tup_inv
    rw [← hK]
    exact ⟨a, b, us, ws, rfl, .inr ⟨sqT_mono nw'.sub k1, sqT_mono nw'.sub k2, k _ (wk_zipT fun F2 H2 p => ⟨p.sub, d1.later p, d2.later p⟩)⟩⟩
  · cases q
theorem tI_enum {K : PySem.W.Frag} (hK : Z.g.K = K) (h : tI Z ⟨fEnum, ps⟩ σ H R) : iEnum K (tA Z ps) σ H R := by
  obtain ⟨env, F0, vr, oc⟩ := tI_at h
  refine ⟨env, F0, vr, oc.mono fun ds oc vs F1 H1 fps nw r => ?_⟩
  obtain ⟨F, F', ds', fps', xs, nw', r', q, z, k⟩ := oc vs F1 H1 fps nw r
  unfold fEnum at q
  split at q
  · rename_i o ys
    by_cases hz : allFrz ys = true
    · rw [if_pos hz] at q; cases q
      obtain ⟨v, f, rfl, d1⟩ := r'.one
      obtain ⟨a, us, rfl, k1, l1, i1⟩ := d1.lst_inv nw'.sub
      rw [← hK]
      exact ⟨a, us, rfl, k1, k _ (wk_enum hz fun F2 H2 p => ⟨p.sub, ⟨f, d1.later p⟩⟩)⟩
    · rw [if_neg hz] at q; cases q
  · cases q
end
end Z
end

section
set_option Elab.async false
set_option linter.all false
set_option maxRecDepth 100000
set_option maxHeartbeats 4000000
/-! ZF: list comprehensions. -/
namespace Z
open PySem L2 PyProof.Rows

/-- without the object at p -/
def woD (H : Hp) (p : Addr) : Hp := fun a => if a = p then none else H a
theorem wo_ne {H : Hp} {p a : Addr} (h : a ≠ p) : woD H p a = H a := by unfold woD; rw [if_neg h]
theorem wo_upd {H : Hp} {p : Addr} {o : HO} : woD (upd H p o) p = woD H p := by
  funext a
  unfold woD
  by_cases h : a = p
  · rw [if_pos h, if_pos h]
  · rw [if_neg h, if_neg h, upd_ne h]
theorem upd_wo {H : Hp} {p : Addr} {o : HO} (h : H p = some o) : upd (woD H p) p o = H := by
  funext a
  by_cases e : a = p
  · subst e; rw [upd_same, h]
  · rw [upd_ne e, wo_ne e]
theorem Nw.woX {F H F' H' : Hp} {p : Addr} (n : Nw F H F' H') (hF : F p = none) (hH : ∃ o, H p = some o) : Nw F (woD H p) F' (woD H' p) := by
  have hF' : F' p = none := n.hidden hF hH
  refine ⟨fun a o e => ?_, n.fl, fun a o e => ?_, fun a o e q => ?_⟩
  · by_cases h : a = p
    · subst h; unfold woD at e; rw [if_pos rfl] at e; cases e
    · rw [wo_ne h] at e ⊢; exact n.ext a o e
  · by_cases h : a = p
    · subst h; rw [hF'] at e; cases e
    · rw [wo_ne h]; exact n.sub a o e
  · by_cases h : a = p
    · subst h; exact absurd hF' q
    · rw [wo_ne h] at e; exact n.old a o e q
theorem wipes_get : ∀ (is : List Nat) (env : Env) (i : Nat), (wipes is env).getD i .nul = if i ∈ is then .nul else env.getD i .nul
  | [], env, i => by simp [wipes]
  | j :: is, env, i => by
    unfold wipes
    by_cases h : i = j
    · subst h
      by_cases hl : i < (wipes is env).length
      · simp [List.getD, hl]
      · simp [List.getD, List.getElem?_set, hl]
    · have := wipes_get is env i
      simp only [List.getD, List.getElem?_set, Ne.symm h, if_false] at this ⊢
      rw [this]
      simp [h]
theorem wipes_len : ∀ (is : List Nat) (env : Env), (wipes is env).length = env.length
  | [], env => rfl
  | j :: is, env => by simp [wipes, wipes_len is env]
theorem VR.wipe {g : Gb} {F H : Hp} {σ : L2.St} {env : Env} (r : VR g F H σ env) (is : List Nat) : VR g F H (L2.wipe σ is) (wipes is env) := by
  refine ⟨r.sub, fun i hi => ?_, by rw [wipes_len, wipe_length]; exact r.len⟩
  rw [wipes_get] at hi ⊢
  by_cases h : i ∈ is
  · rw [if_pos h] at hi; exact absurd rfl hi
  · rw [if_neg h] at hi ⊢
    obtain ⟨v, fp, e, q⟩ := r.at_ i hi
    exact ⟨v, fp, by rw [wipe_out h]; exact e, q⟩
theorem set_none_id : ∀ {l : L2.St} {w : Nat}, (∀ v, l[w]? ≠ some (some v)) → l.set w none = l
  | [], w, h => rfl
  | x :: l, 0, h => by
    cases x with
    | none => rfl
    | some v => exact absurd rfl (h v)
  | x :: l, w + 1, h => by
    rw [List.set_cons_succ, set_none_id fun v e => h v (by simpa using e)]
theorem wipe_again {σ : L2.St} {own : List Nat} : ∀ ws : List Nat, (∀ w ∈ ws, w ∈ own) → L2.wipe (L2.wipe σ own) ws = L2.wipe σ own
  | [], _ => rfl
  | w :: ws, h => by
    show (L2.wipe (L2.wipe σ own) ws).set w none = _
    rw [wipe_again ws fun u hu => h u (List.mem_cons_of_mem _ hu)]
    exact set_none_id fun v e => (wipe_some e).2 (h w List.mem_cons_self)
/-- in a comprehension's block nothing is raised -/
abbrev Ct.quiet (Z : Ct) : Ct := { Z with W := fun _ _ _ _ => False }
theorem noExc_ok {α : Type} {x : Out α} {a : α} (h : noExc x = .ok a) : x = .ok a := by
  cases x <;> simp_all [noExc]
theorem Out.bind_ok {α β : Type} {x : Out α} {f : α → Out β} {b : β} (h : x.bind f = .ok b) : ∃ a, x = .ok a ∧ f a = .ok b := by
  cases x with
  | ok a => exact ⟨a, rfl, h⟩
  | exc c fs => cases h
  | bad => cases h
theorem NewVs.snoc {g : Gb} {F H F1 H1 F2 H2 : Hp} {vs : List V} {ds : List D} {fps : List (List Addr)} {v : V} {d : D} {fp : List Addr} (n : NewVs g F H F1 H1 vs ds fps) (nw : Nw F1 H1 F2 H2) (dr : DR g F2 H2 v d fp) (fr : ∀ a ∈ fp, H1 a = none) (hid : ∀ a ∈ fp, F2 a = none) (nd : fp.Nodup) :
    NewVs g F H F2 H2 (vs ++ [v]) (ds ++ [d]) (fps ++ [fp]) := by
  have thr : ∀ a ∈ fps.flatten, ∃ o, H1 a = some o := fun a ha => by
    obtain ⟨f, hf, hb⟩ := List.mem_flatten.mp ha
    obtain ⟨i, hi, e⟩ := List.getElem_of_mem hf
    have h1 : i < ds.length := by rw [← n.dr.2.1]; exact hi
    have h2 : i < vs.length := by rw [n.dr.1]; exact h1
    exact (n.dr.2.2 i _ _ f (List.getElem?_eq_getElem h2) (List.getElem?_eq_getElem h1) (by rw [List.getElem?_eq_getElem hi, e])).there a hb
  have ef : (fps ++ [fp]).flatten = fps.flatten ++ fp := by simp
  refine ⟨n.nw.trans nw, ⟨by simp [n.dr.1], by simp [n.dr.2.1], fun i v' d' f' e1 e2 e3 => ?_⟩, fun a ha => ?_, fun a ha => ?_, ?_⟩
  · have l1 := n.dr.1
    have l2 := n.dr.2.1
    by_cases hi : i < ds.length
    · rw [List.getElem?_append_left (by omega)] at e1 e2 e3
      exact (n.dr.2.2 i v' d' f' e1 e2 e3).later nw
    · have : i = ds.length := by
        have := (List.getElem?_eq_some_iff.mp e2).1
        simp at this; omega
      subst this
      rw [List.getElem?_append_right (by omega)] at e1 e2 e3
      simp [l1, l2] at e1 e2 e3
      subst e1 e2 e3
      exact dr
  · rw [ef, List.mem_append] at ha
    rcases ha with ha | ha
    · exact n.fresh a ha
    · cases e : H a with
      | none => rfl
      | some o => have := n.nw.ext a o e; rw [fr a ha] at this; cases this
  · rw [ef, List.mem_append] at ha
    rcases ha with ha | ha
    · exact nw.hidden (n.hid a ha) (thr a ha)
    · exact hid a ha
  · rw [ef, List.nodup_append]
    refine ⟨n.nd, nd, fun a h1 b h2 e => ?_⟩
    subst e
    obtain ⟨o, e⟩ := thr a h1
    rw [fr a h2] at e; cases e
section
variable {Z : Ct} {σ : L2.St} {H : Hp} {Q : VK}
/-- the walk of a comprehension -/
theorem lc_run {env : Env} {F1 H1 : Hp} {J : It} {xs all : List D} {t : Pat} {c e : PDen} {own : List Nat} (hs : ∀ i ∈ t.slots, i ∈ own) (vr : VR Z.g F1 H1 σ env) (hxs : xs.length ≤ sizeMax) (wk : Wk Z.g (Nw F1 H1) J xs) (el : lcL t c e Z.rt (wipes own env) xs = .ok all)
    (fin : ∀ v F' H' fp, NewV Z.g F1 H1 F' H' v (.lst true all) fp → Q v H') (D : Addr) (hD : H1 D = none) : ∃ W : Nat → Nat → Hp → Prop, (∃ m, W 0 m (upd H1 D (.lst []))) ∧ ∀ i m H, W i m H →
      (J.stop i H ∧ Q (.ref D) H) ∨ (J.go i H ∧ ∃ Nx : Hp → Prop, (∀ H', Nx H' → ∃ m', m' < m ∧ W (i + 1) m' H') ∧ ∀ x H', J.yld i H x H' → gPat Z.quiet t x (wipe σ own) H' fun σ2 H2 => wipe σ2 own = wipe σ own ∧ tB Z.quiet c σ2 H2 fun b H3 =>
        if b = true then tP Z.quiet e σ2 H3 fun y H4 => ∃ acc, H4 D = some (.lst acc) ∧ acc.length < sizeLine ∧ Nx (upd H4 D (.lst (acc ++ [y]))) else Nx H3) := by
  have hDF : F1 D = none := by
    cases q : F1 D with
    | none => rfl
    | some o => rw [vr.sub D o q] at hD; cases hD
  -- the invariant
  refine ⟨fun i m Hc => m = xs.length - i ∧ i ≤ xs.length ∧ ∃ Fc vs ds fps rest, Hc D = some (.lst vs) ∧ Fc D = none ∧ NewVs Z.g F1 H1 Fc (woD Hc D) vs ds fps ∧ ds.length ≤ i ∧ lcL t c e Z.rt (wipes own env) (xs.drop i) = .ok rest ∧ ds ++ rest = all,
    ⟨_, rfl, Nat.zero_le _, F1, [], [], [], all, upd_same, hDF, ?_, Nat.le_refl _, el, rfl⟩, ?_⟩
  · have e0 : woD (upd H1 D (.lst [])) D = H1 := by
      rw [wo_upd]
      funext a
      unfold woD
      by_cases h : a = D
      · rw [if_pos h, h, hD]
      · rw [if_neg h]
    rw [e0]
    exact ⟨Nw.refl vr.sub, DRs.nil, fun _ h => (nomatch h), fun _ h => (nomatch h), List.nodup_nil⟩
  · rintro i m Hc ⟨rfl, hi, Fc, vs, ds, fps, rest, hHD, hFD, nv, hdl, hl, hall⟩
    -- all that stands by now
    have nwc : Nw F1 H1 Fc Hc := by
      refine ⟨fun a o e => ?_, nv.nw.fl, fun a o e => ?_, fun a o e q => nv.nw.old a o e q⟩
      · have hne : a ≠ D := fun z => by rw [z, hD] at e; cases e
        have := nv.nw.ext a o e
        rwa [wo_ne hne] at this
      · have hne : a ≠ D := fun z => by rw [z, hFD] at e; cases e
        have := nv.nw.sub a o e
        rwa [wo_ne hne] at this
    obtain ⟨w1, w2⟩ := wk Fc Hc nwc i
    rcases Nat.lt_or_ge i xs.length with hlt | hge
    · right
      obtain ⟨go, yl⟩ := w1 xs[i] (List.getElem?_eq_getElem hlt)
      rw [List.drop_eq_getElem_cons hlt] at hl
      unfold lcL at hl
      cases eb : bindP t xs[i] (wipes own env) with
      | none => rw [eb] at hl; cases hl
      | some en =>
      rw [eb] at hl
      simp only at hl
      obtain ⟨b, hb, hl⟩ := Out.bind_ok hl
      refine ⟨go, fun H' => ∃ Fc vs ds fps rest, H' D = some (.lst vs) ∧ Fc D = none ∧ NewVs Z.g F1 H1 Fc (woD H' D) vs ds fps ∧ ds.length ≤ i + 1 ∧ lcL t c e Z.rt (wipes own env) (xs.drop (i + 1)) = .ok rest ∧ ds ++ rest = all,
        fun H' q => ⟨_, by omega, rfl, hlt, q⟩, fun x H3 y => ?_⟩
      obtain ⟨F3, fx, nw3, drx⟩ := yl x H3 y
      have hF3 : F3 D = none := nw3.hidden hFD ⟨_, hHD⟩
      have hH3 : H3 D = some (.lst vs) := nw3.ext D _ hHD
      refine ⟨wipes own env, F3, xs[i], fx, (vr.later (nwc.trans nw3)).wipe own, drx, en, eb, fun σ' vr' hw => ⟨?_, ?_⟩⟩
      · rw [hw own hs]
        exact wipe_again own fun _ h => h
      · -- the test
        refine ⟨en, F3, vr', ?_⟩
        rw [hb]
        intro F4 H4 nw4
        have hF4 : F4 D = none := nw4.hidden hF3 ⟨_, hH3⟩
        have hH4 : H4 D = some (.lst vs) := nw4.ext D _ hH3
        have nw34 := (nw3.woX hFD ⟨_, hHD⟩).trans (nw4.woX hF3 ⟨_, hH3⟩)
        have nv4 : NewVs Z.g F1 H1 F4 (woD H4 D) vs ds fps := by
          refine ⟨nv.nw.trans nw34, nv.dr.later nw34, nv.fresh, fun a ha => ?_, nv.nd⟩
          obtain ⟨f, hf, hbb⟩ := List.mem_flatten.mp ha
          obtain ⟨j, hj, ee⟩ := List.getElem_of_mem hf
          have k1 : j < ds.length := by rw [← nv.dr.2.1]; exact hj
          have k2 : j < vs.length := by rw [nv.dr.1]; exact k1
          have dr := nv.dr.2.2 j _ _ f (List.getElem?_eq_getElem k2) (List.getElem?_eq_getElem k1) (by rw [List.getElem?_eq_getElem hj, ee])
          exact nw34.hidden (nv.hid a ha) (dr.there a hbb)
        cases b with
        | false =>
          rw [if_neg (by decide)]
          exact ⟨F4, vs, ds, fps, rest, hH4, hF4, nv4, by omega, hl, hall⟩
        | true =>
          rw [if_pos rfl]
          obtain ⟨d, hd, hl⟩ := Out.bind_ok hl
          obtain ⟨rs, hr, hl⟩ := Out.bind_ok hl
          cases hl
          refine ⟨en, F4, vr'.later nw4, ?_⟩
          rw [hd]
          intro v F5 H5 fp n5
          have hF5 : F5 D = none := n5.nw.hidden hF4 ⟨_, hH4⟩
          have hH5 : H5 D = some (.lst vs) := n5.nw.ext D _ hH4
          refine ⟨vs, hH5, ?_, F5, vs ++ [v], ds ++ [d], fps ++ [fp], rs, upd_same, hF5, ?_, by simp; omega, hr, by simpa using hall⟩
          · rw [nv.dr.1, ← sizeMax_eq]; omega
          · rw [wo_upd]
            have thr : ∀ a ∈ fp, a ≠ D := fun a ha z => by
              have := n5.fresh a ha
              rw [z, hH4] at this; cases this
            refine nv4.snoc (n5.nw.woX hF4 ⟨_, hH4⟩) ?_ (fun a ha => by rw [wo_ne (thr a ha)]; exact n5.fresh a ha) n5.hid n5.nd
            exact n5.dr.mono (fun _ _ e => e) fun a ha => wo_ne (thr a ha)
    · left
      have hi' : i = xs.length := by omega
      refine ⟨w2 hge, fin _ Fc Hc (D :: fps.flatten) ?_⟩
      rw [List.drop_eq_nil_of_le hge] at hl
      cases hl
      rw [List.append_nil] at hall
      subst hall
      have np : woD Hc D D = none := by unfold woD; rw [if_pos rfl]
      have := newL_of nv (p := D) np
      rw [upd_wo hHD] at this
      exact this
theorem tP_lc {I : Itr} {t : Pat} {c e : PDen} {own : List Nat} (hs : ∀ i ∈ t.slots, i ∈ own) (h : tP Z (pLc I t c e own) σ H Q) : tLc (tI Z I) (gPat Z.quiet t) (tB Z.quiet c) (tP Z.quiet e) own σ H Q := by
  obtain ⟨env, F, vr, oc⟩ := h
  refine ⟨env, F, vr, ?_⟩
  have oc := Oc.bind oc
  have hz : ∀ xs, I.run Z.rt env = .ok xs → xs.length ≤ sizeMax := fun xs hx => by
    unfold Itr.run at hx
    obtain ⟨ds, _, h2⟩ := Out.bind_ok hx
    cases e1 : I.f ds with
    | none => simp only [e1] at h2; cases h2
    | some ys =>
      simp only [e1] at h2
      by_cases z : ys.length ≤ sizeMax
      · rw [if_pos z] at h2; cases h2; exact z
      · rw [if_neg z] at h2; cases h2
  cases ex : I.run Z.rt env with
  | exc c fs => rw [ex] at oc; exact oc
  | bad => rw [ex] at oc; exact oc.elim
  | ok xs =>
    rw [ex] at oc
    have hxs := hz xs ex
    have oc : Oc Z F H σ ((noExc (lcL t c e Z.rt (wipes own env) xs)).bind fun ds => .ok (.lst true ds)) fun d => ∀ v F' H' fp, NewV Z.g F H F' H' v d fp → Q v H' := oc
    intro J F1 H1 nw1 wk D hD
    cases el : noExc (lcL t c e Z.rt (wipes own env) xs) with
    | bad => rw [el] at oc; exact oc.elim
    | exc c' fs =>
      exfalso
      cases e2 : lcL t c e Z.rt (wipes own env) xs <;> rw [e2] at el <;> cases el
    | ok all =>
    rw [el] at oc
    have fin : ∀ v F' H' fp, NewV Z.g F H F' H' v (.lst true all) fp → Q v H' := oc
    exact lc_run hs (vr.later nw1) hxs wk (noExc_ok el) (fun v F' H' fp m => fin v F' H' fp (m.after nw1)) D hD
end
end Z
end

section
set_option Elab.async false
set_option linter.all false
set_option maxRecDepth 100000
set_option maxHeartbeats 4000000
/-! ZG: what changes nothing is as its combinator tells. -/
namespace Z
open PySem L2 PyProof.Rows

theorem cP_okE {n : Nat} {C : CC} {e : Expr} {d : PDen} (h : cP n C e = some d) : okE e = true := by
  cases n with
  | zero => cases h
  | succ n => cases e <;> first | rfl | (exfalso; simp [cP] at h)
theorem cV_okE {n : Nat} {C : CC} {e : Expr} {d : PDen} (h : cV n C e = some d) : okE e = true := by
  cases n with
  | zero => cases h
  | succ n =>
    cases e <;> first | rfl | skip
    all_goals
      exfalso
      simp only [cV] at h
      obtain ⟨p, h1, _⟩ := Option.map_eq_some_iff.mp h
      have := cP_okE h1
      simp [okE] at this
theorem cVs_ns : ∀ {n : Nat} {C : CC} {es : List Expr} {ds : List PDen}, cVs n C es = some ds → noStars es = true
  | 0, C, es, ds, h => by cases h
  | n + 1, C, [], ds, h => rfl
  | n + 1, C, e :: es, ds, h => by
    simp only [cVs] at h
    cases e1 : cV n C e with
    | none => rw [e1] at h; cases h
    | some x =>
      cases e2 : cVs n C es with
      | none => rw [e1, e2] at h; cases h
      | some xs =>
        show (okE e && noStars es) = true
        rw [cV_okE e1, cVs_ns e2]; rfl
theorem cAs_ns : ∀ {n : Nat} {C : CC} {es : List Expr} {ds : List PDen}, cAs n C es = some ds → noStars es = true
  | 0, C, es, ds, h => by cases h
  | n + 1, C, [], ds, h => rfl
  | n + 1, C, e :: es, ds, h => by
    simp only [cAs] at h
    cases e1 : cP n C e with
    | none => rw [e1] at h; cases h
    | some x =>
      cases e2 : cAs n C es with
      | none => rw [e1, e2] at h; cases h
      | some xs =>
        show (okE e && noStars es) = true
        rw [cP_okE e1, cAs_ns e2]; rfl
theorem cVs_len : ∀ {n : Nat} {C : CC} {es : List Expr} {ds : List PDen}, cVs n C es = some ds → ds.length = es.length
  | 0, C, es, ds, h => by cases h
  | n + 1, C, [], ds, h => by cases h; rfl
  | n + 1, C, e :: es, ds, h => by
    simp only [cVs] at h
    cases e1 : cV n C e with
    | none => rw [e1] at h; cases h
    | some x =>
      cases e2 : cVs n C es with
      | none => rw [e1, e2] at h; cases h
      | some xs => rw [e1, e2] at h; cases h; simp [cVs_len e2]
theorem cAs_len : ∀ {n : Nat} {C : CC} {es : List Expr} {ds : List PDen}, cAs n C es = some ds → ds.length = es.length
  | 0, C, es, ds, h => by cases h
  | n + 1, C, [], ds, h => by cases h; rfl
  | n + 1, C, e :: es, ds, h => by
    simp only [cAs] at h
    cases e1 : cP n C e with
    | none => rw [e1] at h; cases h
    | some x =>
      cases e2 : cAs n C es with
      | none => rw [e1, e2] at h; cases h
      | some xs => rw [e1, e2] at h; cases h; simp [cAs_len e2]
theorem cPs_len : ∀ {n : Nat} {C : CC} {es : List Expr} {ds : List PDen}, cPs n C es = some ds → ds.length = es.length
  | 0, C, es, ds, h => by cases h
  | n + 1, C, [], ds, h => by cases h; rfl
  | n + 1, C, e :: es, ds, h => by
    simp only [cPs] at h
    cases e1 : cP n C e with
    | none => rw [e1] at h; cases h
    | some x =>
      cases e2 : cPs n C es with
      | none => rw [e1, e2] at h; cases h
      | some xs => rw [e1, e2] at h; cases h; simp [cPs_len e2]
section
variable {X : Cx} {Z : Ct}
theorem pt_ifx {c a b : Expr} {tc ta tb : TT} {pos : Pos} (hc : PT X c tc) (ha : PT X a ta) (hb : PT X b tb) : PT X (.IfExp c a b pos) (fun σ H Q => tc σ H fun d H1 => if d = true then ta σ H1 Q else tb σ H1 Q) := by
  constructor
  intro pins s σ H Q I h
  show wpAny _ _ (do if ← isTrue c X.env (eval c X.env) then isTrue a X.env (eval a X.env) else isTrue b X.env (eval b X.env)) _ _ s
  refine wpAny_bind (thn (hc.run pins s σ H _ I h) fun d s1 ⟨H1, I1, q1⟩ => ?_)
  cases d with
  | true => exact ha.run pins s1 σ H1 Q I1 q1
  | false => exact hb.run pins s1 σ H1 Q I1 q1
def plainE : Expr → Bool
  | .UnaryOp .Not _ _ => false
  | .BoolOp _ _ _ => false
  | .IfExp _ _ _ _ => false
  | .Compare _ _ _ _ => false
  | _ => true
theorem plain_true {e : Expr} (h : plainE e = true) (env : PySem.Env) (whole : Sem Value) : isTrue e env whole = (do let v ← whole; standAt e.pos; holding [v] (truthy v)) := by
  cases e <;> first | (simp [plainE] at h; done) | rfl | skip
  rename_i o a p
  cases o <;> first | (simp [plainE] at h; done) | rfl
theorem pt_P {e : Expr} {d : PDen} (h : PE X e (tP Z d)) (he : plainE e = true) : PT X e (tB Z d) := PT.imp (pt_val h (plain_true he _)) fun _ _ _ q => tB_val q
theorem pt_V {e : Expr} {d : PDen} (h : PE X e (tV Z d)) (he : plainE e = true) : PT X e (tB Z d) := PT.imp (pt_val h (plain_true he _)) fun _ _ _ q => tB_see q
theorem tB_ite {σ : L2.St} {H : Hp} {t p q : PDen} {Q : Bool → Hp → Prop} (h : tB Z (pIte t p q) σ H Q) : tB Z t σ H fun d H1 => if d = true then tB Z p σ H1 Q else tB Z q σ H1 Q := by
  obtain ⟨env, F, vr, oc⟩ := h
  have e : (pIte t p q Z.rt env).bind asB = ((t Z.rt env).bind asB).bind fun b => match b with
    | true => (p Z.rt env).bind asB
    | false => (q Z.rt env).bind asB := by
    show (((t Z.rt env).bind asB).bind _).bind asB = _
    cases (t Z.rt env).bind asB with
    | ok b => cases b <;> rfl
    | exc c fs => rfl
    | bad => rfl
  rw [e] at oc
  refine ⟨env, F, vr, Oc.mono (Oc.bind oc) fun b oc F' H' n => ?_⟩
  cases b with
  | true =>
    rw [if_pos rfl]
    exact ⟨env, F', vr.later n, Oc.later n (show Oc Z F H σ ((p Z.rt env).bind asB) _ from oc) fun b k F2 H2 n2 => k F2 H2 (n.trans n2)⟩
  | false =>
    rw [if_neg (by decide)]
    exact ⟨env, F', vr.later n, Oc.later n (show Oc Z F H σ ((q Z.rt env).bind asB) _ from oc) fun b k F2 H2 n2 => k F2 H2 (n.trans n2)⟩
theorem PW.imp {e : Expr} {t t' : TT} (h : PW X e t) (i : ∀ σ H Q, t' σ H Q → t σ H Q) : PW X e t' := ⟨fun wh pins s σ H Q I q => h.run wh pins s σ H Q I (i σ H Q q)⟩
theorem PTs.imp {es : List Expr} {t t' : TT} (h : PTs X es t) (i : ∀ σ H Q, t' σ H Q → t σ H Q) : PTs X es t' := ⟨fun pins s σ H Q I q => h.run pins s σ H Q I (i σ H Q q)⟩
theorem PO.imp {e : Option Expr} {t t' : TO} (h : PO X e t) (i : ∀ σ H Q, t' σ H Q → t σ H Q) : PO X e t' := ⟨fun pins s σ H Q I q => h.run pins s σ H Q I (i σ H Q q)⟩
/-- a slice's part -/
def tO (Z : Ct) (d : PDen) : TO := fun σ H Q => ∃ env F, VR Z.g F H σ env ∧ Oc Z F H σ (d Z.rt env) fun x => ∃ o, pt? x = some o ∧ ∀ F' H', Nw F H F' H' → Q o H'
theorem po_non : PO X none (tO Z (pLit .non)) := PO.imp po_none fun σ H Q h => by
  obtain ⟨env, F, vr, oc⟩ := h
  obtain ⟨o, ho, q⟩ := (show ∃ o, pt? .non = some o ∧ ∀ F' H', Nw F H F' H' → Q o H' from oc)
  cases ho
  exact q F H (Nw.refl vr.sub)
theorem po_int {e : Expr} {p : PDen} (h : PE X e (tV Z p)) : PO X (some e) (tO Z (pInt p)) := PO.imp (po_some h) fun σ H Q h => by
  obtain ⟨env, F, vr, oc⟩ := h
  refine ⟨env, F, vr, Oc.mono (Oc.bind oc) fun d oc v F' H' fp n => ?_⟩
  cases d <;> first | (exact False.elim oc) | skip
  rename_i i
  obtain ⟨o, ho, q⟩ := (show ∃ o, pt? (.int i) = some o ∧ ∀ F' H', Nw F H F' H' → Q o H' from oc)
  cases ho
  cases n.dr.is_int
  exact ⟨i, rfl, q F' H' n.nw⟩
/-- what a slice's part may be -/
def Part (l : PDen) : Prop := ∀ rt env d, l rt env = .ok d → ∃ o, pt? d = some o
theorem part_non : Part (pLit .non) := fun rt env d h => by cases h; exact ⟨none, rfl⟩
theorem part_int {p : PDen} : Part (pInt p) := fun rt env d h => by
  obtain ⟨a, _, h⟩ := Out.bind_ok h
  cases a <;> cases h
  exact ⟨_, rfl⟩
theorem tO_of {l : PDen} {σ : L2.St} {F H : Hp} {env : Env} {Q : Option Int → Hp → Prop} {q : D → Prop} (vr : VR Z.g F H σ env) (hl : Part l) (oc : Oc Z F H σ (l Z.rt env) q) (h : ∀ d o F' H', q d → pt? d = some o → Nw F H F' H' → Q o H') : tO Z l σ H Q := by
  refine ⟨env, F, vr, ?_⟩
  cases e : l Z.rt env with
  | ok d =>
    rw [e] at oc
    obtain ⟨o, ho⟩ := hl _ _ _ e
    exact ⟨o, ho, fun F' H' n => h d o F' H' oc ho n⟩
  | exc c fs => rw [e] at oc; exact oc
  | bad => rw [e] at oc; exact oc.elim
theorem tP_slice {x l h : PDen} {σ : L2.St} {H : Hp} {Q : VK} (hl : Part l) (hh : Part h) (w : tP Z (pN (o3 slice3) [x, l, h]) σ H Q) : tSl (rSl Z) (tV Z x) (tO Z l) (tO Z h) σ H Q := by
  obtain ⟨env, F, vr, oc⟩ := w
  have oc := Oc.bind oc
  simp only [pAll] at oc
  refine ⟨env, F, vr, Oc.mono (Oc.bind oc) fun d oc v F1 H1 fp n => ?_⟩
  have oc := Oc.later (q' := _) n.nw (Oc.bind oc) fun _ z => z
  refine tO_of (vr.later n.nw) hl (Oc.bind oc) fun dl ol F2 H2 oc hol n2 => ?_
  have oc := Oc.later (q' := _) n2 (Oc.bind oc) fun _ z => z
  refine tO_of ((vr.later n.nw).later n2) hh (Oc.bind oc) fun dh oh F3 H3 oc hoh n3 => ?_
  have oc : Oc Z F H σ (opt (slice3 d dl dh)) fun d => ∀ v F' H' fp, NewV Z.g F H F' H' v d fp → Q v H' := oc
  cases e : slice3 d dl dh with
  | none => rw [e] at oc; exact oc.elim
  | some c =>
    rw [e] at oc
    exact ⟨F3, d, dl, dh, fp, c, n3.sub, (n.dr.later n2).later n3, hol, hoh, e, fun v F' H' fp' m => oc v F' H' fp' (((m.after n3).after n2).after n.nw)⟩
end
end Z
end

section
set_option Elab.async false
set_option linter.all false
set_option maxRecDepth 100000
set_option maxHeartbeats 4000000
/-! ZH: the theorem for what changes nothing. -/
namespace Z
open PySem L2 PyProof.Rows

structure PureOk (n : Nat) : Prop where
  P : ∀ {X : Cx} {C : CC} {Z : Ct} {k : Nat}, GX X C Z k → ∀ e d, cP n C e = some d → PE X e (tP Z d) ∧ PT X e (tB Z d)
  V : ∀ {X : Cx} {C : CC} {Z : Ct} {k : Nat}, GX X C Z k → ∀ e d, cV n C e = some d → PE X e (tV Z d) ∧ PT X e (tB Z d)
  Vs : ∀ {X : Cx} {C : CC} {Z : Ct} {k : Nat}, GX X C Z k → ∀ es ds, cVs n C es = some ds → PA X es (tA Z ds)
  As : ∀ {X : Cx} {C : CC} {Z : Ct} {k : Nat}, GX X C Z k → ∀ es ds, cAs n C es = some ds → PA X es (tA Z ds)
  Ps : ∀ {X : Cx} {C : CC} {Z : Ct} {k : Nat}, GX X C Z k → ∀ es ds, cPs n C es = some ds → PA X es (tN Z ds)
  B : ∀ {X : Cx} {C : CC} {Z : Ct} {k : Nat}, GX X C Z k → ∀ o es d pos, cPB n C o es = some d → PE X (.BoolOp o es pos) (tP Z d) ∧ PW X (.BoolOp o es pos) (tB Z d)
  Cl : ∀ {X : Cx} {C : CC} {Z : Ct} {k : Nat}, GX X C Z k → ∀ f as d p pos, cPC n C f as = some d → PE X (.Call (.Name f p) as [] pos) (tP Z d)
  Vo : ∀ {X : Cx} {C : CC} {Z : Ct} {k : Nat}, GX X C Z k → ∀ eo d, cVo n C eo = some d → PO X eo (tO Z d) ∧ Part d
  Ifs : ∀ {X : Cx} {C : CC} {Z : Ct} {k : Nat}, GX X C Z k → ∀ es d, cIfs n C es = some d → PTs X es (tB Z d)
  I : ∀ {X : Cx} {C : CC} {Z : Ct} {k : Nat}, GX X C Z k → ∀ tg e d, cI n C (isTupE tg) e = some d → PI X tg e (tI Z d) ∧ okE e = true

section
variable {X : Cx} {C : CC} {Z : Ct} {k : Nat}
/-- a comprehension's block -/
theorem GX.blk (G : GX X C Z k) (s : Shared) (H : Hp) (scope : Scope) (a : Addr) (cl : List (Str × Addr)) (fp : List Addr) : GX (X.blk s H scope (compEnvC scope cl a X.env) fp) (C.blk scope) Z.quiet k := by
  refine ⟨G.K, ?_, G.N, G.nd, G.calm, G.room, fun x h => h, G.gfn, G.gcon, G.gno, G.iof, G.ioT, G.pf, takes_none5⟩
  show relS scope X.env.scope = relS scope C.sc
  rw [G.sc]
theorem bf_ok (G : GX X C Z k) {x : Str} {n : Nat} {b : Bf} (h : bltF x n = some b) : ((∃ id, bootBuiltins x = some (.builtin id) ∧ CallR X (.builtin id) (rOp Z (bfO b))) ∨ (∃ T, bootBuiltins x = some (.type T) ∧ CallR X (.type T) (rOp Z (bfO b)))) ∧ n ≠ 0 ∧ NoX (bfO b) := by
  have hu : X.A.units + 64 < cLine := by have := G.room.un; omega
  match n, h with
  | 0, h => cases h
  | 1, h =>
    refine ⟨?_, by decide, ?_⟩
    · simp only [bltF, bf1] at h
      by_cases e : x = S "len"
      · rw [if_pos e] at h; cases h; subst e; exact .inl ⟨_, PySem.boot_len, len_ok G.K⟩
      rw [if_neg e] at h; clear e
      by_cases e : x = S "all"
      · rw [if_pos e] at h; cases h; subst e; exact .inl ⟨_, boot_all, all_ok G.K G.calm⟩
      rw [if_neg e] at h; clear e
      by_cases e : x = S "any"
      · rw [if_pos e] at h; cases h; subst e; exact .inl ⟨_, boot_any, any_ok G.K G.calm⟩
      rw [if_neg e] at h; clear e
      by_cases e : x = S "sum"
      · rw [if_pos e] at h; cases h; subst e; exact .inl ⟨_, boot_sum, sum_ok G.K G.calm⟩
      rw [if_neg e] at h; clear e
      by_cases e : x = S "sorted"
      · rw [if_pos e] at h; cases h; subst e; exact .inl ⟨_, boot_sorted, sorted_ok G.K hu⟩
      rw [if_neg e] at h; clear e
      by_cases e : x = S "abs"
      · rw [if_pos e] at h; cases h; subst e; exact .inl ⟨_, boot_abs, abs_ok G.K⟩
      rw [if_neg e] at h; clear e
      by_cases e : x = S "tuple"
      · rw [if_pos e] at h; cases h; subst e; exact .inr ⟨_, boot_tuple, tuple_ok G.K⟩
      rw [if_neg e] at h; clear e
      by_cases e : x = S "list"
      · rw [if_pos e] at h; cases h; subst e; exact .inr ⟨_, boot_list, list_ok G.K⟩
      rw [if_neg e] at h; clear e
      by_cases e : x = S "int"
      · rw [if_pos e] at h; cases h; subst e
        refine .inr ⟨_, boot_int, CallR.imp call_int1 fun vs H Q h => ?_⟩
        obtain ⟨F, x, d, fp, e, rfl, sub, dr, q, w⟩ := rOp1 h
        cases d <;> first | (cases q; done) | skip
        · cases dr.is_bl; cases q
          rename_i b
          refine .inr ⟨b, rfl, ?_⟩
          have := w.int sub
          cases b <;> exact this
        · cases dr.is_int; cases q
          exact .inl ⟨_, rfl, w.int sub⟩
      · rw [if_neg e] at h; cases h
    · cases b <;> first | exact nox1 | exact nox2
  | 2, h =>
    refine ⟨?_, by decide, ?_⟩
    · simp only [bltF, bf2] at h
      by_cases e : x = S "min"
      · rw [if_pos e] at h; cases h; subst e; exact .inl ⟨_, boot_min, min2_ok G.K G.calm⟩
      rw [if_neg e] at h; clear e
      by_cases e : x = S "max"
      · rw [if_pos e] at h; cases h; subst e; exact .inl ⟨_, boot_max, max2_ok G.K G.calm⟩
      · rw [if_neg e] at h; cases h
    · cases b <;> first | exact nox1 | exact nox2
  | n + 3, h => cases h
theorem tyOf_boot {x : Str} {t : Ty} (h : tyOf x = some t) : bootBuiltins x = some (.type (tyN t)) := by
  unfold tyOf at h
  by_cases e : x = S "int"
  · rw [if_pos e] at h; cases h; subst e; exact boot_int
  rw [if_neg e] at h; clear e
  by_cases e : x = S "bool"
  · rw [if_pos e] at h; cases h; subst e; exact boot_bool
  rw [if_neg e] at h; clear e
  by_cases e : x = S "str"
  · rw [if_pos e] at h; cases h; subst e; exact boot_str
  rw [if_neg e] at h; clear e
  by_cases e : x = S "list"
  · rw [if_pos e] at h; cases h; subst e; exact boot_list
  rw [if_neg e] at h; clear e
  by_cases e : x = S "tuple"
  · rw [if_pos e] at h; cases h; subst e; exact boot_tuple
  rw [if_neg e] at h; clear e
  by_cases e : x = S "dict"
  · rw [if_pos e] at h; cases h; subst e; exact boot_dict
  · rw [if_neg e] at h; cases h
theorem pe_ty (G : GX X C Z k) {x : Str} {p : Pos} {t : Ty} (hb : C.isB x = true) (h : tyOf x = some t) : PE X (.Name x p) (tC (.ty (tyN t))) := by
  obtain ⟨h1, h2, h3⟩ := isB_some hb
  obtain ⟨k1, k2, k3⟩ := okN_some h1
  exact pe_bltn (G.gl h2) (G.gno x h3) (tyOf_boot h) rfl k3 k1
def tyTA (ts : List Ty) : TA := fun _ H Q => Q (ts.map fun t => .ty (tyN t)) H
theorem pa_tys (G : GX X C Z k) : ∀ (es : List Expr) (ts : List Ty), C.tys es = some ts → PA X es (tyTA ts) ∧ ts.length = es.length := by
  intro es
  induction es with
  | nil => intro ts h; cases h; exact ⟨pa_nil, rfl⟩
  | cons e es ih =>
    intro ts h
    cases e with
    | Name x p =>
      simp only [CC.tys] at h
      by_cases hb : C.isB x = true
      · rw [if_pos hb] at h
        cases e1 : tyOf x with
        | none => rw [e1] at h; cases h
        | some t =>
          cases e2 : C.tys es with
          | none => rw [e1, e2] at h; cases h
          | some ts' =>
            rw [e1, e2] at h; cases h
            obtain ⟨h1, h2⟩ := ih ts' e2
            exact ⟨PA.imp (pa_cons (pe_ty G hb e1) h1 rfl) fun _ _ _ q => q, by simp [h2]⟩
      · rw [if_neg hb] at h; cases h
    | _ => cases h
theorem isi_ext {cs : List Cl} {v : V} {H : Hp} {Q : VK} (h : rOp Z (o1 (isInst1 cs)) [v] H Q) : rOp Z (o1 (isInst1 cs)) [v] H fun v H' => ∀ H2, Nw H' H' H2 H2 → Q v H2 := by
  obtain ⟨F, x', d, fp, e, q, sub, dr, q1, w⟩ := rOp1 h
  cases q
  obtain ⟨n, hn, rfl⟩ := isInst1_some ⟨_, _, _, _, _, dr⟩ q1
  obtain ⟨F', ds, fps, d', sub', drs, e', w'⟩ := h
  refine ⟨F, [d], [fp], .bl (cs.any (isInst d)), sub, DRs.cons dr DRs.nil, by simp only [o1, q1, opt], fun v F' H' fp' m H2 n2 => ?_⟩
  have hv := m.dr
  cases hv
  exact w _ F' H2 [] ⟨⟨fun a o e => n2.ext a o (m.nw.ext a o e), m.nw.fl, fun a o e => n2.ext a o (m.nw.sub a o e), m.nw.old⟩, .bl _, fun _ h => (nomatch h), fun _ h => (nomatch h), List.nodup_nil⟩
end
end Z
end

section
set_option Elab.async false
set_option linter.all false
set_option maxRecDepth 100000
set_option maxHeartbeats 4000000
/-! ZI: the steps of the theorem for what changes nothing. -/
namespace Z
open PySem L2 PyProof.Rows
section
variable {n : Nat} (ih : PureOk n) {X : Cx} {C : CC} {Z : Ct} {k : Nat} (G : GX X C Z k)
include ih G
theorem st_Vs : ∀ es ds, cVs (n + 1) C es = some ds → PA X es (tA Z ds) := fun es ds h => by
  cases es with
  | nil => cases h; exact PA.imp pa_nil fun _ _ _ h => tA_nil h
  | cons e es =>
    simp only [cVs] at h
    cases e1 : cV n C e with
    | none => rw [e1] at h; cases h
    | some x =>
      cases e2 : cVs n C es with
      | none => rw [e1, e2] at h; cases h
      | some xs =>
        rw [e1, e2] at h; cases h
        exact PA.imp (pa_cons (ih.V G e x e1).1 (ih.Vs G es xs e2) (nostar (cV_okE e1) _ _)) fun _ _ _ h => tA_cons h
theorem st_As : ∀ es ds, cAs (n + 1) C es = some ds → PA X es (tA Z ds) := fun es ds h => by
  cases es with
  | nil => cases h; exact PA.imp pa_nil fun _ _ _ h => tA_nil h
  | cons e es =>
    simp only [cAs] at h
    cases e1 : cP n C e with
    | none => rw [e1] at h; cases h
    | some x =>
      cases e2 : cAs n C es with
      | none => rw [e1, e2] at h; cases h
      | some xs =>
        rw [e1, e2] at h; cases h
        exact PA.imp (pa_cons (PE.imp (ih.P G e x e1).1 fun _ _ _ h => tV_fz h) (ih.As G es xs e2) (nostar (cP_okE e1) _ _)) fun _ _ _ h => tA_cons h
theorem st_Ps : ∀ es ds, cPs (n + 1) C es = some ds → PA X es (tN Z ds) := fun es ds h => by
  cases es with
  | nil => cases h; exact PA.imp pa_nil fun _ _ _ h => tN_nil h
  | cons e es =>
    simp only [cPs] at h
    cases e1 : cP n C e with
    | none => rw [e1] at h; cases h
    | some x =>
      cases e2 : cPs n C es with
      | none => rw [e1, e2] at h; cases h
      | some xs =>
        rw [e1, e2] at h; cases h
        exact PA.imp (pa_cons (ih.P G e x e1).1 (ih.Ps G es xs e2) (nostar (cP_okE e1) _ _)) fun _ _ _ h => tN_cons h
theorem st_B : ∀ o es d pos, cPB (n + 1) C o es = some d → PE X (.BoolOp o es pos) (tP Z d) ∧ PW X (.BoolOp o es pos) (tB Z d) := fun o es d pos h => by
  match es, h with
  | [], h => cases h
  | [e], h =>
    simp only [cPB] at h
    obtain ⟨p1, p2⟩ := ih.P G e d h
    refine ⟨pe_one p1, ?_⟩
    cases o with
    | And => exact pw_and1 p2
    | Or => exact pw_or1 p2
  | e :: e' :: es, h =>
    simp only [cPB] at h
    cases e1 : cV n C e with
    | none => rw [e1] at h; cases h
    | some x =>
      cases e2 : cPB n C o (e' :: es) with
      | none => rw [e1, e2] at h; cases h
      | some y =>
        rw [e1, e2] at h; cases h
        obtain ⟨a1, a2⟩ := ih.V G e x e1
        obtain ⟨b1, b2⟩ := ih.B G o (e' :: es) y pos e2
        cases o with
        | And => exact ⟨PE.imp (pe_and a1 b1) fun _ _ _ h => tP_and h, PW.imp (pw_and a2 b2) fun _ _ _ h => tB_and h⟩
        | Or => exact ⟨PE.imp (pe_or a1 b1) fun _ _ _ h => tP_or h, PW.imp (pw_or a2 b2) fun _ _ _ h => tB_or h⟩
theorem st_Vo : ∀ eo d, cVo (n + 1) C eo = some d → PO X eo (tO Z d) ∧ Part d := fun eo d h => by
  cases eo with
  | none => cases h; exact ⟨po_non, part_non⟩
  | some e =>
    simp only [cVo] at h
    obtain ⟨p, h1, rfl⟩ := Option.map_eq_some_iff.mp h
    exact ⟨po_int (ih.V G e p h1).1, part_int⟩
theorem st_Ifs : ∀ es d, cIfs (n + 1) C es = some d → PTs X es (tB Z d) := fun es d h => by
  match es, h with
  | [], h =>
    cases h
    refine PTs.imp pts_nil fun σ H Q h => ?_
    obtain ⟨env, F, vr, oc⟩ := h
    exact (show ∀ F' H', Nw F H F' H' → Q true H' from oc) F H (Nw.refl vr.sub)
  | [e], h => exact pts_one (ih.V G e d h).2
  | _ :: _ :: _, h => cases h
theorem st_Cl : ∀ f as d p pos, cPC (n + 1) C f as = some d → PE X (.Call (.Name f p) as [] pos) (tP Z d) := fun f as d p pos h => by
  simp only [cPC] at h
  cases e1 : C.glob f with
  | some g =>
    rw [e1] at h
    obtain ⟨g1, g2, g3⟩ := glob_some e1
    obtain ⟨k1, k2, k3⟩ := okN_some g1
    cases g with
    | fn i =>
      simp only at h
      by_cases hi : C.iof i = true
      · rw [if_pos hi] at h; cases h
      · rw [if_neg hi] at h
        obtain ⟨ds, e2, rfl⟩ := Option.map_eq_some_iff.mp h
        obtain ⟨fd, ps, F, hk, hb⟩ := G.pf i (G.iof i (Bool.eq_false_iff.mpr hi))
        refine PE.imp (pe_callSN F G.room (G.gl g2) (G.gfn f i g3) hk hb G.pass k1 (ih.As G as ds e2) (cAs_ns e2) fun h0 σ H Q h => tA_nil0 h ?_) fun _ _ _ h => tP_call h
        have := cAs_len e2
        subst h0
        exact List.length_eq_zero_iff.mp this
    | _ => cases h
  | none =>
    rw [e1] at h
    simp only at h
    by_cases hb : C.isB f = true
    · rw [hb] at h
      simp only [Bool.not_true, Bool.false_eq_true, if_false] at h
      obtain ⟨g1, g2, g3⟩ := isB_some hb
      obtain ⟨k1, k2, k3⟩ := okN_some g1
      by_cases hf : f = S "isinstance"
      · rw [if_pos hf] at h
        subst hf
        match as, h with
        | [a, b], h =>
          simp only at h
          cases e2 : cV n C a with
          | none => rw [e2] at h; cases h
          | some x =>
            cases e3 : C.tysOf b with
            | none => rw [e2, e3] at h; cases h
            | some ts =>
              rw [e2, e3] at h; cases h
              have pa := (ih.V G a x e2).1
              cases b with
              | Name y q =>
                simp only [CC.tysOf] at e3
                by_cases hy : C.isB y = true
                · rw [if_pos hy] at e3
                  obtain ⟨t, e4, rfl⟩ := Option.map_eq_some_iff.mp e3
                  refine PE.imp (pe_callB call_isi (G.gl g2) (G.gno _ g3) boot_isinstance (pa_cons pa (pa_cons (pe_ty G hy e4) pa_nil rfl) (nostar (cV_okE e2) _ _)) k3 k1 (nostar (cV_okE e2) _ _) rfl) fun σ H Q h => ?_
                  have := tA1 ((rOp_ok nox1).tP h)
                  obtain ⟨env, F, vr, oc⟩ := this
                  exact ⟨env, F, vr, oc.mono fun d q v F' H' fp m => isi_one G.K (q v F' H' fp m)⟩
                · rw [if_neg hy] at e3; cases e3
              | Tuple es kk q =>
                simp only [CC.tysOf] at e3
                by_cases hl : es.length ≤ 100
                · rw [if_pos hl] at e3
                  obtain ⟨tys, e4, rfl⟩ := Option.map_eq_some_iff.mp e3
                  obtain ⟨pt, lt⟩ := pa_tys G _ _ e4
                  refine PE.imp (pe_callB call_isiT (G.gl g2) (G.gno _ g3) boot_isinstance (pa_cons pa (pa_cons (pe_tup pt) pa_nil rfl) (nostar (cV_okE e2) _ _)) k3 k1 (nostar (cV_okE e2) _ _) rfl) fun σ H Q h => ?_
                  obtain ⟨env, F, vr, oc⟩ := tA1 ((rOp_ok nox1).tP h)
                  exact ⟨env, F, vr, oc.mono fun d q v F' H' fp m => ⟨by rw [List.length_map, lt]; exact Nat.le_trans hl (by decide), fun p np => isi_many G.K np (isi_ext (q v F' H' fp m))⟩⟩
                · rw [if_neg hl] at e3; cases e3
              | _ => cases e3
        | [], h => cases h
        | [_], h => cases h
        | _ :: _ :: _ :: _, h => cases h
      · rw [if_neg hf] at h
        cases e2 : bltF f as.length with
        | none => rw [e2] at h; cases h
        | some b =>
          cases e3 : cVs n C as with
          | none => rw [e2, e3] at h; cases h
          | some ds =>
            rw [e2, e3] at h; cases h
            obtain ⟨hr, hn, nx⟩ := bf_ok G e2
            have pas := ih.Vs G as ds e3
            have ns := cVs_ns e3
            cases as with
            | nil => exact absurd rfl hn
            | cons a as =>
              have ns : okE a = true ∧ noStars as = true := by simpa [noStars] using ns
              rcases hr with ⟨id, hbt, hc⟩ | ⟨T, hbt, hc⟩
              · exact PE.imp (pe_callB hc (G.gl g2) (G.gno _ g3) hbt pas k3 k1 (nostar ns.1 _ _) (anyStar ns.2 _ _)) fun _ _ _ h => (rOp_ok nx).tP h
              · exact PE.imp (pe_callTy hc (G.gl g2) (G.gno _ g3) hbt pas k3 k1 (nostar ns.1 _ _) (anyStar ns.2 _ _)) fun _ _ _ h => (rOp_ok nx).tP h
    · rw [Bool.eq_false_iff.mpr hb] at h
      simp at h
end
end Z
end

section
set_option Elab.async false
set_option linter.all false
set_option maxRecDepth 100000
set_option maxHeartbeats 4000000
/-! ZJ: the theorem for what changes nothing. -/
namespace Z
open PySem L2 PyProof.Rows
section
variable {X : Cx} {C : CC} {Z : Ct} {k : Nat}
theorem opOf_ok (G : GX X C Z k) {o : Operator} {o' : Op2} {m : Str} (h : opOf o = some (o', m)) : OpR X (binaryOp o) (rB Z (oBin (op2D o') m)) := by
  cases o <;> first | (cases h; done) | skip
  · cases h; exact add_ok G.K
  · cases h; exact sub_ok G.K
  · cases h; exact mul_ok G.K
  · cases h; exact mod_ok G.K
  · cases h; exact fdiv_ok G.K
theorem cmOf_ok (G : GX X C Z k) {o : CmpOp} {c : Cm} (h : cmOf o = some c) : OpR X (compareOp o) (rB Z (o2 (cmD c))) := by
  have hu := G.units
  have hu2 : X.A.units + 64 < cLine := by omega
  cases o <;> first | (cases h; done) | skip
  · cases h; exact eq_ok G.K hu2
  · cases h; exact ne_ok G.K hu2
  · cases h; exact lt_ok G.K hu
  · cases h; exact le_ok G.K hu
  · cases h; exact gt_ok G.K hu
  · cases h; exact ge_ok G.K hu
  · cases h; exact in_ok G.K hu
  · cases h; exact nin_ok G.K hu
theorem tP_isN {p : PDen} {σ : L2.St} {H : Hp} {Q : VK} (h : tP Z (pN (o1 isNone1) [p]) σ H Q) : tIsN (tV Z p) σ H Q := by
  obtain ⟨env, F, vr, oc⟩ := tA1 ((rOp_ok nox1).tP h)
  refine ⟨env, F, vr, oc.mono fun d q v F' H' fp m => ?_⟩
  obtain ⟨F2, x, d2, f2, e, qq, sub, dr, q1, w⟩ := rOp1 (q v F' H' fp m)
  cases qq
  rw [dr.non_iff]
  cases dr <;> (cases q1; exact w.bl sub)
theorem tP_notN {p : PDen} {σ : L2.St} {H : Hp} {Q : VK} (h : tP Z (pN (o1 notNone1) [p]) σ H Q) : tNotN (tV Z p) σ H Q := by
  obtain ⟨env, F, vr, oc⟩ := tA1 ((rOp_ok nox1).tP h)
  refine ⟨env, F, vr, oc.mono fun d q v F' H' fp m => ?_⟩
  obtain ⟨F2, x, d2, f2, e, qq, sub, dr, q1, w⟩ := rOp1 (q v F' H' fp m)
  cases qq
  rw [dr.non_iff]
  cases dr <;> (cases q1; exact w.bl sub)
theorem tP_op {f : OpF} {p q : PDen} {σ : L2.St} {H : Hp} {Q : VK} (o : OpOk Z f (fun _ => rOp Z f)) (h : tP Z (pN f [p, q]) σ H Q) : tOp (rB Z f) (tV Z p) (tV Z q) σ H Q := tA2 (o.tP h)
theorem tP_un {f : OpF} {p : PDen} {σ : L2.St} {H : Hp} {Q : VK} (o : OpOk Z f (fun _ => rOp Z f)) (h : tP Z (pN f [p]) σ H Q) : tUn (fun x H Q => rOp Z f [x] H Q) (tV Z p) σ H Q := tA1 (o.tP h)
/-- the second of a place, looked at -/
theorem tV_idx {p q : PDen} {σ : L2.St} {H : Hp} {Q : VK} (h : tV Z (pN (o2 idx2) [p, q]) σ H Q) : tOp (rSee Z idx2) (tV Z p) (tV Z q) σ H Q := by
  obtain ⟨env, F, vr, oc⟩ := h
  have oc := Oc.bind oc
  simp only [pAll] at oc
  refine ⟨env, F, vr, Oc.mono (Oc.bind oc) fun d oc v F1 H1 fp n => ?_⟩
  have oc := Oc.later (q' := _) n.nw (Oc.bind oc) fun _ z => z
  refine ⟨env, F1, vr.later n.nw, Oc.mono (Oc.bind oc) fun e oc w F2 H2 fq m => ?_⟩
  have oc : Oc Z F H σ (opt (idx2 d e)) fun d => ∀ v F' H' fp, SeeV Z.g F H F' H' v d fp → Q v H' := oc
  cases q1 : idx2 d e with
  | none => rw [q1] at oc; exact oc.elim
  | some c =>
    rw [q1] at oc
    exact ⟨F2, d, e, fp, fq, c, m.nw.sub, n.dr.later m.nw, m.dr, q1, fun v F' H' fp z => oc v F' H' fp ((z.after m.nw).after n.nw)⟩
/-- a chain of two -/
theorem tP_chn {f g : D → D → Option D} {a b c : PDen} {σ : L2.St} {H : Hp} {Q : VK} (h : tP Z (pChn f g a b c) σ H Q) : tChain (rB Z (o2 f)) (rB Z (o2 g)) (tV Z a) (tV Z b) (tV Z c) σ H Q := by
  obtain ⟨env, F, vr, oc⟩ := h
  refine ⟨env, F, vr, Oc.mono (Oc.bind oc) fun d oc v F1 H1 fp n => ?_⟩
  have oc := Oc.later (q' := _) n.nw (Oc.bind oc) fun _ z => z
  refine ⟨env, F1, vr.later n.nw, Oc.mono oc fun e oc w F2 H2 fq m => ?_⟩
  have oc := Oc.later (q' := _) (n.nw.trans m.nw) (Oc.bind (Oc.bind oc)) fun _ z => z
  cases q1 : f d e with
  | none => rw [q1] at oc; exact oc.elim
  | some r =>
    rw [q1] at oc
    refine ⟨F2, [d, e], [fp, fq], r, m.nw.sub, DRs.cons (n.dr.later m.nw) (DRs.cons m.dr DRs.nil), by simp only [o2, q1, opt], fun x F3 H3 fx m3 => ?_⟩
    cases r <;> first | exact oc.elim | skip
    rename_i k
    have hx := m3.dr
    cases hx
    refine ⟨k, rfl, ?_⟩
    have nw03 := (n.nw.trans m.nw).trans m3.nw
    cases k with
    | false =>
      rw [if_neg (by decide)]
      have oc : ∀ v F' H' fp, NewV Z.g F H F' H' v (.bl false) fp → Q v H' := oc
      exact oc _ F3 H3 [] ((NewV.plain nw03.sub (.bl _)).after nw03)
    | true =>
      rw [if_pos rfl]
      have oc : Oc Z F H σ ((c Z.rt env).bind fun z => opt (g e z)) fun d => ∀ v F' H' fp, NewV Z.g F H F' H' v d fp → Q v H' := oc
      refine ⟨env, F3, vr.later nw03, Oc.later nw03 (Oc.bind oc) fun z oc y F4 H4 fy m4 => ?_⟩
      cases q2 : g e z with
      | none => rw [q2] at oc; exact oc.elim
      | some r =>
        rw [q2] at oc
        exact ⟨F4, [e, z], [fq, fy], r, m4.nw.sub, DRs.cons ((m.dr.later m3.nw).later m4.nw) (DRs.cons m4.dr DRs.nil), by simp only [o2, q2, opt], fun x F5 H5 fx m5 => oc x F5 H5 fx (m5.after (nw03.trans m4.nw))⟩
theorem tP_callV {i : Nat} {ps : List PDen} {σ : L2.St} {H : Hp} {Q : VK} (pf : ∀ j, Z.rt.tab.io j = false → PF X Z k j) (h : tP Z (pCallV i ps) σ H Q) : tCallV i (fun f sp => ∃ j, f = Z.g.fa j ∧ sp = spP Z j ∧ PF X Z k j) (WE Z.W) (tA Z ps) σ H Q := by
  obtain ⟨env, F, vr, oc⟩ := h
  unfold pCallV at oc
  cases e : env.getD i .nul <;> rw [e] at oc <;> first | exact oc.elim | skip
  rename_i j
  simp only at oc
  by_cases hj : Z.rt.tab.io j = true
  · rw [if_pos hj] at oc; exact oc.elim
  · rw [if_neg hj] at oc
    obtain ⟨v, fp, e1, dr⟩ := vr.at_ i (by rw [e]; exact fun z => by cases z)
    rw [e] at dr
    cases dr
    exact ⟨_, _, e1, ⟨j, rfl, rfl, pf j (Bool.eq_false_iff.mpr hj)⟩, tP_call ⟨env, F, vr, oc⟩⟩
end
section
variable {n : Nat} (ih : PureOk n) {X : Cx} {C : CC} {Z : Ct} {k : Nat} (G : GX X C Z k)
include ih G
theorem st_I : ∀ tg e d, cI (n + 1) C (isTupE tg) e = some d → PI X tg e (tI Z d) ∧ okE e = true := fun tg e d h => by
  have other : ∀ e, (cV n C e).map (fun d => (⟨fItems, [d]⟩ : Itr)) = some d → PI X tg e (tI Z d) ∧ okE e = true := fun e h => by
    obtain ⟨p, h1, rfl⟩ := Option.map_eq_some_iff.mp h
    exact ⟨PI.imp (pi_seq (ih.V G e p h1).1) fun _ _ _ h => tI_seq G.K h, cV_okE h1⟩
  cases e with
  | Call f as ks q =>
    cases f with
    | Name f p =>
      cases ks with
      | cons _ _ => exact other _ h
      | nil =>
        simp only [cI] at h
        have hb' : ∀ s, (C.isB f && decide (f = s)) = true → C.isB f = true ∧ f = s := fun s z => by simpa using z
        by_cases h1 : (C.isB f && decide (f = S "range")) = true
        · rw [if_pos h1] at h
          obtain ⟨hb, rfl⟩ := hb' _ h1
          obtain ⟨g1, g2, g3⟩ := isB_some hb
          by_cases hl : as.length = 1 ∨ as.length = 2
          · rw [if_pos hl] at h
            obtain ⟨ds, e1, rfl⟩ := Option.map_eq_some_iff.mp h
            have pas := ih.Vs G as ds e1
            have ns := cVs_ns e1
            have ll := cVs_len e1
            match as, ds, hl, ll with
            | [a], [p1], _, _ =>
              have ns : okE a = true ∧ noStars [] = true := by simpa [noStars] using ns
              exact ⟨PI.imp (pi_range1 (G.gl g2) (G.gno _ g3) pas (nostar ns.1 _ _)) fun _ _ _ h => tI_range1 h, rfl⟩
            | [a, b], [p1, p2], _, _ =>
              have ns : okE a = true ∧ okE b = true := by simpa [noStars] using ns
              exact ⟨PI.imp (pi_range2 (G.gl g2) (G.gno _ g3) pas (by rw [nostar ns.1, nostar ns.2]; rfl) (nostar ns.2 _ _)) fun _ _ _ h => tI_range2 h, rfl⟩
            | [], _, hl, _ => exact absurd hl (by simp)
            | _ :: _ :: _ :: _, _, hl, _ => exact absurd hl (by simp)
            | [_], [], _, ll => exact absurd ll (by simp)
            | [_], _ :: _ :: _, _, ll => exact absurd ll (by simp)
            | [_, _], [], _, ll => exact absurd ll (by simp)
            | [_, _], [_], _, ll => exact absurd ll (by simp)
            | [_, _], _ :: _ :: _ :: _, _, ll => exact absurd ll (by simp)
          · rw [if_neg hl] at h; cases h
        · rw [if_neg h1] at h
          by_cases h2 : (C.isB f && decide (f = S "zip")) = true
          · rw [if_pos h2] at h
            obtain ⟨hb, rfl⟩ := hb' _ h2
            obtain ⟨g1, g2, g3⟩ := isB_some hb
            by_cases hl : as.length = 2 ∧ isTupE tg = true
            · rw [if_pos hl] at h
              obtain ⟨ds, e1, rfl⟩ := Option.map_eq_some_iff.mp h
              have pas := ih.Vs G as ds e1
              have ns := cVs_ns e1
              obtain ⟨hl, ht⟩ := hl
              cases tg <;> first | (cases ht; done) | skip
              match as, hl with
              | [a, b], _ =>
                have ns : okE a = true ∧ okE b = true := by simpa [noStars] using ns
                exact ⟨PI.imp (RZ.pi_zipA (G.gl g2) (G.gno _ g3) pas (nostar ns.1 _ _) (anyStar (by simp [noStars, ns.2]) _ _)) fun _ _ _ h => tI_zip G.K h, rfl⟩
            · rw [if_neg hl] at h; cases h
          · rw [if_neg h2] at h
            by_cases h3 : (C.isB f && decide (f = S "enumerate")) = true
            · rw [if_pos h3] at h
              obtain ⟨hb, rfl⟩ := hb' _ h3
              obtain ⟨g1, g2, g3⟩ := isB_some hb
              by_cases hl : as.length = 1 ∧ isTupE tg = true
              · rw [if_pos hl] at h
                obtain ⟨ds, e1, rfl⟩ := Option.map_eq_some_iff.mp h
                have pas := ih.Vs G as ds e1
                have ns := cVs_ns e1
                obtain ⟨hl, ht⟩ := hl
                cases tg <;> first | (cases ht; done) | skip
                match as, hl with
                | [a], _ =>
                  have ns : okE a = true := by simpa [noStars] using ns
                  exact ⟨PI.imp (pi_enum (G.gl g2) (G.gno _ g3) pas (nostar ns _ _)) fun _ _ _ h => tI_enum G.K h, rfl⟩
              · rw [if_neg hl] at h; cases h
            · rw [if_neg h3] at h
              exact other _ h
    | _ => exact other _ h
  | _ => exact other _ h
end
end Z
end

section
set_option Elab.async false
set_option linter.all false
set_option maxRecDepth 100000
set_option maxHeartbeats 4000000
/-! ZK: the theorem for what changes nothing, whole. -/
namespace Z
open PySem L2 PyProof.Rows
section
variable {n : Nat} (ih : PureOk n) {X : Cx} {C : CC} {Z : Ct} {k : Nat} (G : GX X C Z k)
include ih G
theorem both {e : Expr} {d : PDen} (h : PE X e (tP Z d)) (he : plainE e = true) : PE X e (tP Z d) ∧ PT X e (tB Z d) := ⟨h, pt_P h he⟩
theorem st_P : ∀ e d, cP (n + 1) C e = some d → PE X e (tP Z d) ∧ PT X e (tB Z d) := fun e d h => by
  cases e with
  | Constant c kd p =>
    simp only [cP] at h
    cases c <;> first | (cases h; done) | skip
    all_goals (cases h; refine both ih G ?_ rfl)
    · exact PE.imp pe_non fun _ _ _ h => tP_lit (fun _ _ => .non) h
    · exact PE.imp pe_bl fun _ _ _ h => tP_lit (fun _ _ => .bl _) h
    · exact PE.imp pe_int fun _ _ _ h => tP_lit (fun _ _ => .int _) h
    · exact PE.imp pe_str fun _ _ _ h => tP_lit (fun _ _ => .str _) h
  | Name x p =>
    simp only [cP] at h
    cases e1 : C.slot x with
    | some i =>
      rw [e1] at h; cases h
      obtain ⟨s1, s2, s3⟩ := slot_some e1
      obtain ⟨k1, k2, k3⟩ := okN_some s1
      obtain ⟨v1, v2⟩ := G.vis e1
      exact both ih G (PE.imp (pe_var v1 v2 k1 k2) fun _ _ _ h => tP_rd h) rfl
    | none =>
      rw [e1] at h
      cases e2 : C.glob x with
      | none => rw [e2] at h; cases h
      | some g =>
        rw [e2] at h
        obtain ⟨g1, g2, g3⟩ := glob_some e2
        obtain ⟨k1, k2, k3⟩ := okN_some g1
        cases g <;> first | (cases h; done) | skip
        · cases h
          exact both ih G (PE.imp (pe_glob (v := .ref _) (G.gl g2) (G.gfn x _ g3) rfl k1) fun _ _ _ h => tP_lit (fun _ _ => .fn _) h) rfl
        · cases h
          obtain ⟨v, u, c1, c2, c3⟩ := G.gcon x _ g3
          exact both ih G (PE.imp (pe_glob (G.gl g2) c1 c2 k1) fun _ _ _ h => tP_lit c3 h) rfl
  | BinOp a o b p =>
    simp only [cP] at h
    cases e0 : opOf o with
    | none => rw [e0] at h; cases h
    | some om =>
      obtain ⟨o', m⟩ := om
      cases e1 : cV n C a with
      | none => rw [e0, e1] at h; cases h
      | some x =>
        cases e2 : cV n C b with
        | none => rw [e0, e1, e2] at h; cases h
        | some y =>
          rw [e0, e1, e2] at h; cases h
          exact both ih G (PE.imp (pe_op (opOf_ok G e0) (ih.V G a x e1).1 (ih.V G b y e2).1) fun _ _ _ h => tP_op oBin_ok h) rfl
  | UnaryOp o a p =>
    simp only [cP] at h
    cases e1 : cV n C a with
    | none => rw [e1] at h; cases o <;> cases h
    | some x =>
      rw [e1] at h
      obtain ⟨v1, v2⟩ := ih.V G a x e1
      cases o <;> first | (cases h; done) | skip
      · cases h
        exact ⟨PE.imp (pe_not v1) fun _ _ _ h => tP_not h, PT.imp (pt_not v2) fun _ _ _ h => tB_not h⟩
      · cases h
        exact both ih G (PE.imp (pe_un (neg_ok G.K) v1) fun _ _ _ h => tP_un oUn_ok h) rfl
  | BoolOp o es p =>
    simp only [cP] at h
    obtain ⟨b1, b2⟩ := ih.B G o es d p h
    exact ⟨b1, b2.pt⟩
  | Compare a os bs p =>
    simp only [cP] at h
    match os, bs, h with
    | [o], [b], h =>
      have plain : ∀ d', (match cmOf o, cV n C a, cV n C b with
          | some c, some x, some y => some (pN (o2 (cmD c)) [x, y])
          | _, _, _ => none) = some d' → PE X (.Compare a [o] [b] p) (tP Z d') ∧ PT X (.Compare a [o] [b] p) (tB Z d') := fun d' h => by
        cases e0 : cmOf o with
        | none => rw [e0] at h; cases h
        | some c =>
          cases e1 : cV n C a with
          | none => rw [e0, e1] at h; cases h
          | some x =>
            cases e2 : cV n C b with
            | none => rw [e0, e1, e2] at h; cases h
            | some y =>
              rw [e0, e1, e2] at h; cases h
              have hm := nomarkE (cV_okE e2) o
              exact ⟨PE.imp (pe_cmpR (cmOf_ok G e0) (ih.V G a x e1).1 (ih.V G b y e2).1 hm) fun _ _ _ h => tP_op (rOp_ok nox2) h,
                PT.imp (pt_cmpR (cmOf_ok G e0) (ih.V G a x e1).1 (ih.V G b y e2).1 hm) fun _ _ _ h => tP_op (rOp_ok nox2) (tB_val h)⟩
      have isN : ∀ d' j q, (cV n C a).map (fun x => pN (o1 isNone1) [x]) = some d' → PE X (.Compare a [.Is] [.Constant .none j q] p) (tP Z d') ∧ PT X (.Compare a [.Is] [.Constant .none j q] p) (tB Z d') := fun d' j q h => by
        obtain ⟨x, e1, rfl⟩ := Option.map_eq_some_iff.mp h
        exact ⟨PE.imp (pe_cmp (pc_isN (ih.V G a x e1).1) rfl) fun _ _ _ h => tP_isN h, PT.imp (pt_cmp (pc_isN (ih.V G a x e1).1) rfl) fun _ _ _ h => tP_isN (tB_val h)⟩
      have notN : ∀ d' j q, (cV n C a).map (fun x => pN (o1 notNone1) [x]) = some d' → PE X (.Compare a [.IsNot] [.Constant .none j q] p) (tP Z d') ∧ PT X (.Compare a [.IsNot] [.Constant .none j q] p) (tB Z d') := fun d' j q h => by
        obtain ⟨x, e1, rfl⟩ := Option.map_eq_some_iff.mp h
        exact ⟨PE.imp (pe_cmp (pc_notN (ih.V G a x e1).1) rfl) fun _ _ _ h => tP_notN h, PT.imp (pt_cmp (pc_notN (ih.V G a x e1).1) rfl) fun _ _ _ h => tP_notN (tB_val h)⟩
      simp only at h
      split at h
      · exact isN d _ _ h
      · exact notN d _ _ h
      · exact plain d h
    | [o, o'], [b, b'], h =>
      simp only at h
      cases e0 : cmOf o with
      | none => rw [e0] at h; cases h
      | some c =>
      cases e0' : cmOf o' with
      | none => rw [e0, e0'] at h; cases h
      | some c' =>
      cases e1 : cV n C a with
      | none => rw [e0, e0', e1] at h; cases h
      | some x =>
      cases e2 : cV n C b with
      | none => rw [e0, e0', e1, e2] at h; cases h
      | some y =>
      cases e3 : cV n C b' with
      | none => rw [e0, e0', e1, e2, e3] at h; cases h
      | some z =>
      rw [e0, e0', e1, e2, e3] at h; cases h
      have hm : lastMarks [o, o'] [b, b'] = false := nomarkE (cV_okE e3) o'
      have pa := (ih.V G a x e1).1
      have pb := (ih.V G b y e2).1
      have pc := (ih.V G b' z e3).1
      exact ⟨PE.imp (pe_chain (cmOf_ok G e0) (cmOf_ok G e0') pa pb pc hm) fun _ _ _ h => tP_chn h,
        PT.imp (pt_chain (cmOf_ok G e0) (cmOf_ok G e0') pa pb pc hm) fun _ _ _ h => tP_chn (tB_val h)⟩
    | [], _, h => cases h
    | [_], [], h => cases h
    | [_], _ :: _ :: _, h => cases h
    | [_, _], [], h => cases h
    | [_, _], [_], h => cases h
    | [_, _], _ :: _ :: _ :: _, h => cases h
    | _ :: _ :: _ :: _, _, h => cases h
  | IfExp t a b p =>
    simp only [cP] at h
    cases e1 : cV n C t with
    | none => rw [e1] at h; cases h
    | some x =>
      cases e2 : cP n C a with
      | none => rw [e1, e2] at h; cases h
      | some y =>
        cases e3 : cP n C b with
        | none => rw [e1, e2, e3] at h; cases h
        | some z =>
          rw [e1, e2, e3] at h; cases h
          obtain ⟨v1, v2⟩ := ih.V G t x e1
          obtain ⟨a1, a2⟩ := ih.P G a y e2
          obtain ⟨b1, b2⟩ := ih.P G b z e3
          exact ⟨PE.imp (pe_ifExp v2 a1 b1) fun _ _ _ h => tP_ite h, PT.imp (pt_ifx v2 a2 b2) fun _ _ _ h => tB_ite h⟩
  | Tuple es kk p =>
    simp only [cP] at h
    obtain ⟨ds, e1, rfl⟩ := Option.map_eq_some_iff.mp h
    exact both ih G (PE.imp (pe_tup (ih.As G es ds e1)) fun _ _ _ h => tP_tup h) rfl
  | List es p =>
    simp only [cP] at h
    by_cases hl : es.length ≤ 1000
    · rw [if_pos hl] at h
      obtain ⟨ds, e1, rfl⟩ := Option.map_eq_some_iff.mp h
      exact both ih G (PE.imp (pe_lst (ih.Ps G es ds e1)) fun _ _ _ h => tP_lst (by rw [cPs_len e1]; exact hl) h) rfl
    · rw [if_neg hl] at h; cases h
  | Subscript o i p =>
    simp only [cP] at h
    have other : ∀ d', okE i = true → (match cV n C o, cV n C i with
        | some x, some y => some (pN (o2 idxF) [x, y])
        | _, _ => none) = some d' → PE X (.Subscript o i p) (tP Z d') ∧ PT X (.Subscript o i p) (tB Z d') := fun d' hi h => by
      cases e1 : cV n C o with
      | none => rw [e1] at h; cases h
      | some x =>
        cases e2 : cV n C i with
        | none => rw [e1, e2] at h; cases h
        | some y =>
          rw [e1, e2] at h; cases h
          exact both ih G (PE.imp (pe_ix (ixF_ok G.K) (ih.V G o x e1).1 (ih.V G i y e2).1 (plainIx_ok hi)) fun _ _ _ h => tP_op (rOp_ok nox2) h) rfl
    cases i with
    | Slice lo hi st q =>
      cases st with
      | some s => cases h
      | none =>
        simp only at h
        cases e1 : cV n C o with
        | none => rw [e1] at h; cases h
        | some x =>
          cases e2 : cVo n C lo with
          | none => rw [e1, e2] at h; cases h
          | some l =>
            cases e3 : cVo n C hi with
            | none => rw [e1, e2, e3] at h; cases h
            | some u =>
              rw [e1, e2, e3] at h; cases h
              obtain ⟨l1, l2⟩ := ih.Vo G lo l e2
              obtain ⟨u1, u2⟩ := ih.Vo G hi u e3
              exact both ih G (PE.imp (pe_slice (sl_ok G.K) (ih.V G o x e1).1 l1 u1) fun _ _ _ h => tP_slice l2 u2 h) rfl
    | Starred _ _ =>
      simp only at h
      exfalso
      split at h
      · rename_i q2
        have := cV_okE q2
        cases this
      · cases h
    | Set _ _ _ =>
      simp only at h
      exfalso
      split at h
      · rename_i q2
        have := cV_okE q2
        cases this
      · cases h
    | _ => exact other d rfl h
  | ListComp el gs sc p =>
    simp only [cP] at h
    split at h
    · rename_i t it ifs
      by_cases hb : L2.blkC C.N C.sc sc (C.ownOf sc) = true
      · rw [if_pos hb] at h
        cases e1 : cI n C (isTupE t) it with
        | none => rw [e1] at h; cases h
        | some i =>
        cases e2 : cPat n (C.blk sc) t with
        | none => rw [e1, e2] at h; cases h
        | some pt =>
        cases e3 : cIfs n (C.blk sc) ifs with
        | none => rw [e1, e2, e3] at h; cases h
        | some c =>
        cases e4 : cP n (C.blk sc) el with
        | none => rw [e1, e2, e3, e4] at h; cases h
        | some e =>
        rw [e1, e2, e3, e4] at h
        simp only at h
        by_cases hs : (pt.slots.all fun k => ((C.ownOf sc).map (·.2)).contains k) = true
        · rw [if_pos hs] at h; cases h
          obtain ⟨pi, oki⟩ := ih.I G t it i e1
          have hs' : ∀ j ∈ pt.slots, j ∈ (C.ownOf sc).map (·.2) := fun j hj => by
            have := List.all_eq_true.mp hs j hj
            simpa using this
          have bok : BlkOk X.N X.env.scope sc (C.ownOf sc) := by
            rw [G.N, G.sc]; exact blkOk_by hb
          refine both ih G (PE.imp (pe_lc G.calm G.nd pi bok (fun s H a cl fp => (pg_pat (G.blk s H sc a cl fp) n).1 t pt e2) (fun s H a cl fp => ih.Ifs (G.blk s H sc a cl fp) ifs c e3) (fun s H a cl fp => (ih.P (G.blk s H sc a cl fp) el e e4).1) (noset oki _)) fun _ _ _ h => tP_lc hs' h) rfl
        · rw [if_neg hs] at h; cases h
      · rw [if_neg hb] at h; cases h
    · cases h
  | Call f as ks p =>
    simp only [cP] at h
    cases f <;> first | (cases h; done) | skip
    rename_i f q
    cases ks with
    | cons _ _ => cases h
    | nil =>
      simp only at h
      cases e1 : C.slot f with
      | some i =>
        rw [e1] at h
        simp only at h
        by_cases hne : as.isEmpty = true
        · rw [if_pos hne] at h; cases h
        · rw [if_neg hne] at h
          obtain ⟨ds, e2, rfl⟩ := Option.map_eq_some_iff.mp h
          obtain ⟨s1, s2, s3⟩ := slot_some e1
          obtain ⟨k1, k2, k3⟩ := okN_some s1
          obtain ⟨v1, v2⟩ := G.vis e1
          refine both ih G (PE.imp (pe_callV (S := fun f sp => ∃ j, f = Z.g.fa j ∧ sp = spP Z j ∧ PF X Z k j) (fun f sp ⟨j, h1, h2, h3⟩ => by
            obtain ⟨fd, ps, F, hk, hb⟩ := h3
            rw [h1, h2]; exact ⟨fd, ps, F, hk, hb⟩) G.room G.pass v1 v2 (ih.As G as ds e2) (cAs_ns e2) (fun z => hne (by rw [z]; rfl)) k1 k2) fun _ _ _ h => tP_callV G.pf h) rfl
      | none =>
        rw [e1] at h
        exact both ih G (ih.Cl G f as d q p h) rfl
  | _ => cases h
theorem st_V : ∀ e d, cV (n + 1) C e = some d → PE X e (tV Z d) ∧ PT X e (tB Z d) := fun e d h => by
  have fzd : ∀ e d', (cP n C e).map pFz = some d' → PE X e (tV Z d') ∧ PT X e (tB Z d') := fun e d' h => by
    obtain ⟨x, e1, rfl⟩ := Option.map_eq_some_iff.mp h
    obtain ⟨p1, p2⟩ := ih.P G e x e1
    exact ⟨PE.imp p1 fun _ _ _ h => tV_fz h, PT.imp p2 fun _ _ _ h => tB_fz h⟩
  have same : ∀ e d', cP n C e = some d' → PE X e (tV Z d') ∧ PT X e (tB Z d') := fun e d' h => by
    obtain ⟨p1, p2⟩ := ih.P G e d' h
    exact ⟨PE.imp p1 fun _ _ _ h => tP_of_tV_any h, p2⟩
  cases e with
  | Name x p =>
    simp only [cV] at h
    cases e1 : C.slot x with
    | some i =>
      rw [e1] at h; cases h
      obtain ⟨s1, s2, s3⟩ := slot_some e1
      obtain ⟨k1, k2, k3⟩ := okN_some s1
      obtain ⟨v1, v2⟩ := G.vis e1
      have := PE.imp (pe_var (pos := p) v1 v2 k1 k2) fun σ H Q h => tV_see (C := Z) (i := i) h
      exact ⟨this, pt_V this rfl⟩
    | none =>
      rw [e1] at h
      exact same _ _ h
  | Constant c kd p => exact same _ _ h
  | Subscript o i p =>
    simp only [cV] at h
    have other : ∀ d', okE i = true → (match cV n C o, cV n C i with
        | some x, some y => some (pN (o2 idx2) [x, y])
        | _, _ => none) = some d' → PE X (.Subscript o i p) (tV Z d') ∧ PT X (.Subscript o i p) (tB Z d') := fun d' hi h => by
      cases e1 : cV n C o with
      | none => rw [e1] at h; cases h
      | some x =>
        cases e2 : cV n C i with
        | none => rw [e1, e2] at h; cases h
        | some y =>
          rw [e1, e2] at h; cases h
          have := PE.imp (pe_ix (pos := p) (ixS_ok (C := Z) G.K) (ih.V G o x e1).1 (ih.V G i y e2).1 (plainIx_ok hi)) fun _ _ _ h => tV_idx h
          exact ⟨this, pt_V this rfl⟩
    cases i with
    | Slice lo hi st q => exact fzd _ _ h
    | Starred _ _ =>
      simp only at h
      exfalso
      split at h
      · rename_i q2
        have := cV_okE q2
        cases this
      · cases h
    | Set _ _ _ =>
      simp only at h
      exfalso
      split at h
      · rename_i q2
        have := cV_okE q2
        cases this
      · cases h
    | _ => exact other d rfl h
  | _ => exact fzd _ _ h
end
theorem pureOk : ∀ n, PureOk n
  | 0 => ⟨fun _ _ _ h => (nomatch h), fun _ _ _ h => (nomatch h), fun _ _ _ h => (nomatch h), fun _ _ _ h => (nomatch h), fun _ _ _ h => (nomatch h), fun _ _ _ _ _ h => (nomatch h), fun _ _ _ _ _ _ h => (nomatch h), fun _ _ _ h => (nomatch h), fun _ _ _ h => (nomatch h), fun _ _ _ _ h => (nomatch h)⟩
  | n + 1 =>
    let ih := pureOk n
    ⟨fun G => st_P ih G, fun G => st_V ih G, fun G => st_Vs ih G, fun G => st_As ih G, fun G => st_Ps ih G, fun G => st_B ih G, fun G => st_Cl ih G, fun G => st_Vo ih G, fun G => st_Ifs ih G, fun G => st_I ih G⟩
end Z
end

section
set_option Elab.async false
set_option linter.all false
set_option maxRecDepth 100000
set_option maxHeartbeats 4000000
/-! ZL: states with what names hold alone; steps. -/
namespace Z
open PySem L2 PyProof.Rows

/-- a step: P what is held alone ahead of it, P' behind it -/
structure Stp (F H : Hp) (P : Addr → Prop) (F' H' : Hp) (P' : Addr → Prop) : Prop where
  fl : ∀ a o, F a = some o → F' a = some o
  sub : ∀ a o, F' a = some o → H' a = some o
  fr : ∀ a o, H a = some o → ¬ P a → H' a = some o
  old : ∀ a o, H a = some o → F' a ≠ none → F a ≠ none ∨ P a
  own : ∀ a, P' a → P a ∨ H a = none
theorem Stp.trans {F H F1 H1 F2 H2 : Hp} {P P1 P2 : Addr → Prop} (a : Stp F H P F1 H1 P1) (b : Stp F1 H1 P1 F2 H2 P2) : Stp F H P F2 H2 P2 := by
  have keep : ∀ x o, H x = some o → ¬ P x → H1 x = some o ∧ ¬ P1 x := fun x o e n => ⟨a.fr x o e n, fun z => by
    rcases a.own x z with q | q
    · exact n q
    · rw [e] at q; cases q⟩
  refine ⟨fun x o e => b.fl x o (a.fl x o e), b.sub, fun x o e n => b.fr x o (keep x o e n).1 (keep x o e n).2, fun x o e n => ?_, fun x h => ?_⟩
  · by_cases p : P x
    · exact .inr p
    · obtain ⟨k1, k2⟩ := keep x o e p
      rcases b.old x o k1 n with q | q
      · exact a.old x o e q
      · exact absurd q k2
  · rcases b.own x h with q | q
    · exact a.own x q
    · cases e : H x with
      | none => exact .inr rfl
      | some o =>
        by_cases p : P x
        · exact .inl p
        · rw [(keep x o e p).1] at q; cases q
theorem Stp.refl {F H : Hp} {P : Addr → Prop} (s : ∀ a o, F a = some o → H a = some o) : Stp F H P F H P := ⟨fun _ _ e => e, s, fun _ _ e _ => e, fun _ _ _ n => .inl n, fun _ h => .inl h⟩
theorem Stp.less {F H F' H' : Hp} {P P' Q' : Addr → Prop} (a : Stp F H P F' H' P') (h : ∀ x, Q' x → P' x) : Stp F H P F' H' Q' := ⟨a.fl, a.sub, a.fr, a.old, fun x q => a.own x (h x q)⟩
theorem Nw.stp {F H F' H' : Hp} (n : Nw F H F' H') (P : Addr → Prop) : Stp F H P F' H' P := ⟨n.fl, n.sub, fun a o e _ => n.ext a o e, fun a o e q => .inl (n.old a o e q), fun _ h => .inl h⟩
/-- new objects held alone beside -/
theorem Nw.stpN {F H F' H' : Hp} (n : Nw F H F' H') (P : Addr → Prop) {fp : List Addr} (h : ∀ a ∈ fp, H a = none) : Stp F H P F' H' (fun a => P a ∨ a ∈ fp) := ⟨n.fl, n.sub, fun a o e _ => n.ext a o e, fun a o e q => .inl (n.old a o e q), fun a q => q.imp_right (h a)⟩
/-- what is held apart from P stays -/
theorem Stp.keep {F H F' H' : Hp} {P P' : Addr → Prop} (s : Stp F H P F' H' P') {a : Addr} {o : HO} (e : H a = some o) (n : ¬ P a) (hF : F a = none) : H' a = some o ∧ F' a = none ∧ ¬ P' a := by
  refine ⟨s.fr a o e n, ?_, fun z => ?_⟩
  · cases q : F' a with
    | none => rfl
    | some u =>
      rcases s.old a o e (by rw [q]; exact fun z => nomatch z) with z | z
      · exact absurd hF z
      · exact absurd z n
  · rcases s.own a z with q | q
    · exact n q
    · rw [e] at q; cases q
theorem DR.stp {g : Gb} {F H F' H' : Hp} {P P' : Addr → Prop} {v : V} {d : D} {fp : List Addr} (r : DR g F H v d fp) (s : Stp F H P F' H' P') (n : ∀ a ∈ fp, ¬ P a) : DR g F' H' v d fp := r.mono s.fl fun a ha => by
  obtain ⟨o, e⟩ := r.there a ha
  rw [e]; exact s.fr a o e (n a ha)

structure SR (g : Gb) (v0 : Option V) (F H : Hp) (σ : L2.St) (env : Env) (O : Nat → List Addr) : Prop where
  sub : ∀ a o, F a = some o → H a = some o
  len : env.length ≤ σ.length
  at_ : ∀ i, env.getD i .nul ≠ .nul → ∃ v, σ[i]? = some (some v) ∧ DR g F H v (env.getD i .nul) (O i)
  nul : ∀ i, env.getD i .nul = .nul → O i = []
  nd : ∀ i, (O i).Nodup
  dj : ∀ i j a, a ∈ O i → a ∈ O j → i = j
  hid : ∀ i a, a ∈ O i → F a = none
  zero : ∀ v, v0 = some v → σ[0]? = some (some v)
def OS (O : Nat → List Addr) : Addr → Prop := fun a => ∃ i, a ∈ O i
section
variable {g : Gb} {v0 : Option V} {F H F' H' : Hp} {σ : L2.St} {env : Env} {O : Nat → List Addr} {v : V} {d : D} {fp : List Addr}
theorem SR.vr (r : SR g v0 F H σ env O) : VR g F H σ env := ⟨r.sub, fun i h => let ⟨v, e, q⟩ := r.at_ i h; ⟨v, O i, e, q⟩, r.len⟩
theorem SR.there (r : SR g v0 F H σ env O) {a : Addr} (h : OS O a) : ∃ o, H a = some o := by
  obtain ⟨i, hi⟩ := h
  by_cases e : env.getD i .nul = .nul
  · rw [r.nul i e] at hi; cases hi
  · obtain ⟨v, _, q⟩ := r.at_ i e
    exact q.there a hi
theorem SR.later (r : SR g v0 F H σ env O) (n : Nw F H F' H') : SR g v0 F' H' σ env O := by
  refine ⟨n.sub, r.len, fun i h => ?_, r.nul, r.nd, r.dj, fun i a h => n.hidden (r.hid i a h) (r.there ⟨i, h⟩), r.zero⟩
  obtain ⟨v, e, q⟩ := r.at_ i h
  exact ⟨v, e, q.later n⟩
def setO (O : Nat → List Addr) (i : Nat) (f : List Addr) : Nat → List Addr := fun j => if j = i then f else O j
/-- a slot gets another value -/
theorem SR.set {i : Nat} (r : SR g v0 F H σ env O) (h : DR g F H v d fp) (hh : ∀ a ∈ fp, F a = none) (hn : fp.Nodup) (hd : ∀ a ∈ fp, ∀ j, j ≠ i → a ∉ O j) (hz : ∀ w, v0 = some w → i = 0 → v = w) :
    SR g v0 F H (σ.set i (some v)) (env.set i d) (setO O i (if i < env.length then fp else [])) := by
  have ge : ∀ j, (env.set i d).getD j .nul = if j = i then (if i < env.length then d else .nul) else env.getD j .nul := fun j => by
    by_cases e : j = i
    · subst e
      by_cases hl : j < env.length
      · simp [List.getD, hl]
      · simp [List.getD, List.getElem?_set, hl]
    · simp [List.getD, List.getElem?_set, Ne.symm e, e]
  refine ⟨r.sub, by simpa using r.len, fun j hj => ?_, fun j hj => ?_, fun j => ?_, fun j k a h1 h2 => ?_, fun j a h1 => ?_, fun w hw => ?_⟩
  · rw [ge] at hj ⊢
    unfold setO
    by_cases e : j = i
    · subst e
      rw [if_pos rfl] at hj ⊢
      rw [if_pos rfl]
      by_cases hl : j < env.length
      · rw [if_pos hl] at hj ⊢
        rw [if_pos hl]
        have := r.len
        exact ⟨v, by simp [show j < σ.length by omega], h⟩
      · rw [if_neg hl] at hj; exact absurd rfl hj
    · rw [if_neg e] at hj ⊢
      rw [if_neg e]
      obtain ⟨w, q, z⟩ := r.at_ j hj
      exact ⟨w, by rw [List.getElem?_set_ne (Ne.symm e)]; exact q, z⟩
  · rw [ge] at hj
    unfold setO
    by_cases e : j = i
    · subst e
      rw [if_pos rfl] at hj ⊢
      by_cases hl : j < env.length
      · rw [if_pos hl] at hj; exact absurd hj h.ne_nul
      · rw [if_neg hl]
    · rw [if_neg e] at hj ⊢
      exact r.nul j hj
  · unfold setO
    by_cases e : j = i
    · rw [if_pos e]; split
      · exact hn
      · exact List.nodup_nil
    · rw [if_neg e]; exact r.nd j
  · unfold setO at h1 h2
    by_cases e1 : j = i
    · by_cases e2 : k = i
      · rw [e1, e2]
      · rw [if_pos e1] at h1
        rw [if_neg e2] at h2
        by_cases hl : i < env.length
        · rw [if_pos hl] at h1; exact absurd h2 (hd a h1 k e2)
        · rw [if_neg hl] at h1; cases h1
    · by_cases e2 : k = i
      · rw [if_neg e1] at h1
        rw [if_pos e2] at h2
        by_cases hl : i < env.length
        · rw [if_pos hl] at h2; exact absurd h1 (hd a h2 j e1)
        · rw [if_neg hl] at h2; cases h2
      · rw [if_neg e1] at h1
        rw [if_neg e2] at h2
        exact r.dj j k a h1 h2
  · unfold setO at h1
    by_cases e : j = i
    · rw [if_pos e] at h1
      by_cases hl : i < env.length
      · rw [if_pos hl] at h1; exact hh a h1
      · rw [if_neg hl] at h1; cases h1
    · rw [if_neg e] at h1; exact r.hid j a h1
  · have z := r.zero w hw
    by_cases e : i = 0
    · subst e
      rw [hz w hw rfl, List.getElem?_set]
      simp [(List.getElem?_eq_some_iff.mp z).1]
    · rw [List.getElem?_set_ne e]; exact z
theorem OS_set {i : Nat} {f : List Addr} {a : Addr} (h : OS (setO O i f) a) : OS O a ∨ a ∈ f := by
  obtain ⟨j, hj⟩ := h
  unfold setO at hj
  by_cases e : j = i
  · rw [if_pos e] at hj; exact .inr hj
  · rw [if_neg e] at hj; exact .inl ⟨j, hj⟩
/-- what a slot holds alone, let go -/
theorem SR.fz1 (r : SR g v0 F H σ env O) (i : Nat) (hn : isFrz (env.getD i .nul) = false) : ∃ F2 O2, Stp F H (OS O) F2 H (OS O2) ∧ SR g v0 F2 H σ (env.set i (Z.freeze (env.getD i .nul))) O2 := by
  refine ⟨fun a => if a ∈ O i then H a else F a, setO O i [], ?_, ?_⟩
  · refine ⟨fun a o e => ?_, fun a o e => ?_, fun a o e _ => e, fun a o e q => ?_, fun a h => ?_⟩
    · by_cases h : a ∈ O i
      · rw [r.hid i a h] at e; cases e
      · simpa [h] using e
    · by_cases h : a ∈ O i
      · simpa [h] using e
      · simp only [h, if_false] at e; exact r.sub a o e
    · by_cases h : a ∈ O i
      · exact .inr ⟨i, h⟩
      · simp only [h, if_false] at q; exact .inl q
    · rcases OS_set h with h | h
      · exact .inl h
      · cases h
  · have fl : ∀ a o, F a = some o → (if a ∈ O i then H a else F a) = some o := fun a o e => by
      by_cases h : a ∈ O i
      · rw [r.hid i a h] at e; cases e
      · simpa [h] using e
    have ge : ∀ j, (env.set i (Z.freeze (env.getD i .nul))).getD j .nul = if j = i then Z.freeze (env.getD i .nul) else env.getD j .nul := fun j => by
      by_cases e : j = i
      · subst e
        rw [if_pos rfl]
        by_cases hl : j < env.length
        · simp [List.getD, hl]
        · simp [List.getD, List.getElem?_set, hl, Z.freeze]
      · simp [List.getD, List.getElem?_set, Ne.symm e, e]
    refine ⟨fun a o e => ?_, by simpa using r.len, fun j hj => ?_, fun j hj => ?_, fun j => ?_, fun j k a h1 h2 => ?_, fun j a h1 => ?_, r.zero⟩
    · by_cases h : a ∈ O i
      · simpa [h] using e
      · simp only [h, if_false] at e; exact r.sub a o e
    · rw [ge] at hj ⊢
      unfold setO
      by_cases e : j = i
      · subst e
        rw [if_pos rfl] at hj ⊢
        rw [if_pos rfl]
        have hne : env.getD j .nul ≠ .nul := fun z => by rw [z] at hj; simp [Z.freeze] at hj
        obtain ⟨v, e1, q⟩ := r.at_ j hne
        exact ⟨v, e1, q.freeze fl fun a ha => by simp [ha]⟩
      · rw [if_neg e] at hj ⊢
        rw [if_neg e]
        obtain ⟨v, e1, q⟩ := r.at_ j hj
        exact ⟨v, e1, q.mono fl fun _ _ => rfl⟩
    · rw [ge] at hj
      unfold setO
      by_cases e : j = i
      · rw [if_pos e]
      · rw [if_neg e] at hj ⊢; exact r.nul j hj
    · unfold setO
      by_cases e : j = i
      · rw [if_pos e]; exact List.nodup_nil
      · rw [if_neg e]; exact r.nd j
    · unfold setO at h1 h2
      by_cases e1 : j = i
      · rw [if_pos e1] at h1; cases h1
      · by_cases e2 : k = i
        · rw [if_pos e2] at h2; cases h2
        · rw [if_neg e1] at h1
          rw [if_neg e2] at h2
          exact r.dj j k a h1 h2
    · unfold setO at h1
      by_cases e : j = i
      · rw [if_pos e] at h1; cases h1
      · rw [if_neg e] at h1
        have : a ∉ O i := fun z => e (r.dj j i a h1 z)
        simp only [this, if_false]
        exact r.hid j a h1
theorem SR.fz : ∀ (is : List Nat) {F : Hp} {env : Env} {O : Nat → List Addr}, SR g v0 F H σ env O → ∃ F2 O2, Stp F H (OS O) F2 H (OS O2) ∧ SR g v0 F2 H σ (fzEnv is env) O2
  | [], F, env, O, r => ⟨F, O, Stp.refl r.sub, r⟩
  | i :: is, F, env, O, r => by
    show ∃ F2 O2, Stp F H (OS O) F2 H (OS O2) ∧ SR g v0 F2 H σ (fzEnv is (if isFrz (env.getD i .nul) then env else env.set i (Z.freeze (env.getD i .nul)))) O2
    by_cases h : isFrz (env.getD i .nul) = true
    · rw [if_pos h]
      exact SR.fz is r
    · rw [if_neg h]
      obtain ⟨F2, O2, s, r2⟩ := r.fz1 i (Bool.eq_false_iff.mpr h)
      obtain ⟨F3, O3, s3, r3⟩ := SR.fz is r2
      exact ⟨F3, O3, s.trans s3, r3⟩
end

/-! ### readings -/
/-- a value has come: d behind it, the names' data env' -/
structure Res (Z : Ct) (v0 : Option V) (F H : Hp) (P : Addr → Prop) (σ : L2.St) (F' H' : Hp) (env' : Env) (O' : Nat → List Addr) (v : V) (d : D) (fp : List Addr) : Prop where
  st : Stp F H P F' H' (fun a => OS O' a ∨ a ∈ fp)
  sr : SR Z.g v0 F' H' σ env' O'
  dr : DR Z.g F' H' v d fp
  hid : ∀ a ∈ fp, F' a = none
  nd : fp.Nodup
  dj : ∀ a ∈ fp, ¬ OS O' a
def Oe {α : Type} (Z : Ct) (F H : Hp) (P : Addr → Prop) (σ : L2.St) (x : Out α) (q : α → Prop) : Prop := match x with
  | .ok a => q a
  | .exc c fs => ∀ cls dd F' H' P', Stp F H P F' H' P' → ExR Z.g Z.ea F' H' c fs cls dd → Z.W cls dd σ H'
  | .bad => False
section
variable {Z : Ct} {v0 : Option V} {F H F' H' : Hp} {P P' : Addr → Prop} {σ : L2.St}
theorem Oe.bind {α β : Type} {x : Out α} {f : α → Out β} {q : β → Prop} (h : Oe Z F H P σ (x.bind f) q) : Oe Z F H P σ x fun a => Oe Z F H P σ (f a) q := by
  cases x <;> exact h
theorem Oe.mono {α : Type} {x : Out α} {q q' : α → Prop} (h : Oe Z F H P σ x q) (i : ∀ a, q a → q' a) : Oe Z F H P σ x q' := by
  cases x with
  | ok a => exact i a h
  | exc c fs => exact h
  | bad => exact h
theorem Oe.later {α : Type} {x : Out α} {q q' : α → Prop} (n : Stp F H P F' H' P') (h : Oe Z F H P σ x q) (i : ∀ a, q a → q' a) : Oe Z F' H' P' σ x q' := by
  cases x with
  | ok a => exact i a h
  | exc c fs => exact fun cls dd F2 H2 P2 n2 e => h cls dd F2 H2 P2 (n.trans n2) e
  | bad => exact h
/-- of what changes nothing -/
theorem Oe.oc {α : Type} {x : Out α} {q : α → Prop} (h : Oe Z F H P σ x q) : Oc Z F H σ x q := by
  cases x with
  | ok a => exact h
  | exc c fs => exact fun cls dd F' H' n e => h cls dd F' H' P (n.stp P) e
  | bad => exact h
def tE (Z : Ct) (v0 : Option V) (d : Den) : TE := fun σ H Q => ∃ env F O, SR Z.g v0 F H σ env O ∧ Oe Z F H (OS O) σ (d Z.rt env) fun r => ∀ v F' H' O' fp, Res Z v0 F H (OS O) σ F' H' r.2 O' v r.1 fp → Q v H'
def tBE (Z : Ct) (v0 : Option V) (d : Den) : TT := fun σ H Q => ∃ env F O, SR Z.g v0 F H σ env O ∧ Oe Z F H (OS O) σ ((d Z.rt env).bind fun r => (asB r.1).bind fun b => .ok (b, r.2)) fun r => ∀ F' H' O', Stp F H (OS O) F' H' (OS O') → SR Z.g v0 F' H' σ r.2 O' → Q r.1 H'
theorem NewV.res {env : Env} {O : Nat → List Addr} {v : V} {d : D} {fp : List Addr} (n : NewV Z.g F H F' H' v d fp) (r : SR Z.g v0 F H σ env O) : Res Z v0 F H (OS O) σ F' H' env O v d fp :=
  ⟨n.nw.stpN (OS O) n.fresh, r.later n.nw, n.dr, n.hid, n.nd, fun a ha z => by
    obtain ⟨o, e⟩ := r.there z
    rw [n.fresh a ha] at e; cases e⟩
theorem tE_pure {p : PDen} {Q : VK} (h : tE Z v0 (eP p) σ H Q) : tP Z p σ H Q := by
  obtain ⟨env, F, O, r, oc⟩ := h
  refine ⟨env, F, r.vr, (Oe.oc (Oe.bind oc)).mono fun d q v F' H' fp n => ?_⟩
  exact (show ∀ v F' H' O' fp, Res Z v0 F H (OS O) σ F' H' env O' v d fp → Q v H' from q) v F' H' O fp (n.res r)
theorem tBE_pure {p : PDen} {Q : Bool → Hp → Prop} (h : tBE Z v0 (eP p) σ H Q) : tB Z p σ H Q := by
  obtain ⟨env, F, O, r, oc⟩ := h
  have e : ((eP p Z.rt env).bind fun r => (asB r.1).bind fun b => .ok (b, r.2)) = ((p Z.rt env).bind asB).bind fun b => .ok (b, env) := by
    unfold eP
    cases p Z.rt env with
    | ok d => rfl
    | exc c fs => rfl
    | bad => rfl
  rw [e] at oc
  refine ⟨env, F, r.vr, (Oe.oc (Oe.bind oc)).mono fun b q F' H' n => ?_⟩
  exact (show ∀ F' H' O', Stp F H (OS O) F' H' (OS O') → SR Z.g v0 F' H' σ env O' → Q b H' from q) F' H' O (n.stp _) (r.later n)
end
end Z
end

section
set_option Elab.async false
set_option linter.all false
set_option maxRecDepth 100000
set_option maxHeartbeats 4000000
/-! ZM: expressions that change what names hold alone. -/
namespace Z
open PySem L2 PyProof.Rows

/-- several values have come -/
structure ResS (Z : Ct) (v0 : Option V) (F H : Hp) (P : Addr → Prop) (σ : L2.St) (F' H' : Hp) (env' : Env) (O' : Nat → List Addr) (vs : List V) (ds : List D) (fps : List (List Addr)) : Prop where
  st : Stp F H P F' H' (fun a => OS O' a ∨ a ∈ fps.flatten)
  sr : SR Z.g v0 F' H' σ env' O'
  dr : DRs Z.g F' H' vs ds fps
  hid : ∀ a ∈ fps.flatten, F' a = none
  nd : fps.flatten.Nodup
  dj : ∀ a ∈ fps.flatten, ¬ OS O' a
def tEA (Z : Ct) (v0 : Option V) (ds : List Den) : TA := fun σ H Q => ∃ env F O, SR Z.g v0 F H σ env O ∧ Oe Z F H (OS O) σ (eAll ds Z.rt env) fun r => ∀ vs F' H' O' fps, ResS Z v0 F H (OS O) σ F' H' r.2 O' vs r.1 fps → Q vs H'
section
variable {Z : Ct} {v0 : Option V} {F H F' H' : Hp} {P : Addr → Prop} {σ : L2.St} {env' : Env} {O' : Nat → List Addr} {ds : List Den}
theorem tEA_nil {Q : List V → Hp → Prop} (h : tEA Z v0 [] σ H Q) : tNil σ H Q := by
  obtain ⟨env, F, O, r, oc⟩ := h
  exact oc [] F H O [] ⟨(Stp.refl r.sub).less fun a h => h.elim id fun z => (nomatch z), r, DRs.nil, fun _ h => (nomatch h), List.nodup_nil, fun _ h => (nomatch h)⟩
theorem tEA_cons {d : Den} {Q : List V → Hp → Prop} (h : tEA Z v0 (d :: ds) σ H Q) : tCons (tE Z v0 d) (tEA Z v0 ds) σ H Q := by
  obtain ⟨env, F, O, r, oc⟩ := h
  refine ⟨env, F, O, r, Oe.mono (Oe.bind oc) fun e oc v F1 H1 O1 fp n => ⟨e.2, F1, O1, n.sr, ?_⟩⟩
  have s1 : Stp F H (OS O) F1 H1 (OS O1) := n.st.less fun a h => .inl h
  refine Oe.later s1 (Oe.bind oc) fun q k vs F2 H2 O2 fps m => ?_
  have kp : ∀ a ∈ fp, F2 a = none ∧ ¬ (OS O2 a ∨ a ∈ fps.flatten) := fun a ha => by
    obtain ⟨o, e⟩ := n.dr.there a ha
    exact (m.st.keep e (n.dj a ha) (n.hid a ha)).2
  have sFull : Stp F H (OS O) F2 H2 (fun a => OS O2 a ∨ a ∈ (fp :: fps).flatten) := by
    refine ⟨fun a o e => m.st.fl a o (n.st.fl a o e), m.st.sub, fun a o e hn => ?_, fun a o e hq => ?_, fun a ha => ?_⟩
    · exact (s1.trans m.st).fr a o e hn
    · exact (s1.trans m.st).old a o e hq
    · rw [List.flatten_cons, List.mem_append] at ha
      rcases ha with ha | ha | ha
      · exact (s1.trans m.st).own a (.inl ha)
      · exact n.st.own a (.inr ha)
      · exact (s1.trans m.st).own a (.inr ha)
  refine (show ∀ vs F' H' O' fps, ResS Z v0 F H (OS O) σ F' H' q.2 O' vs (e.1 :: q.1) fps → Q vs H' from k) (v :: vs) F2 H2 O2 (fp :: fps) ⟨sFull, m.sr, DRs.cons (n.dr.stp m.st fun a ha => n.dj a ha) m.dr, fun a ha => ?_, ?_, fun a ha => ?_⟩
  · rw [List.flatten_cons, List.mem_append] at ha
    rcases ha with ha | ha
    · exact (kp a ha).1
    · exact m.hid a ha
  · rw [List.flatten_cons, List.nodup_append]
    exact ⟨n.nd, m.nd, fun a h1 b h2 e => (kp a h1).2 (.inr (e ▸ h2))⟩
  · rw [List.flatten_cons, List.mem_append] at ha
    rcases ha with ha | ha
    · exact fun z => (kp a ha).2 (.inl z)
    · exact m.dj a ha
/-- let go: F grows by what is apart from the names -/
theorem SR.grow {env : Env} {O : Nat → List Addr} {F2 : Hp} (r : SR Z.g v0 F H σ env O) (fl : ∀ a o, F a = some o → F2 a = some o) (sub : ∀ a o, F2 a = some o → H a = some o) (hid : ∀ a, OS O a → F2 a = none) : SR Z.g v0 F2 H σ env O := by
  refine ⟨sub, r.len, fun i h => ?_, r.nul, r.nd, r.dj, fun i a h => hid a ⟨i, h⟩, r.zero⟩
  obtain ⟨v, e, q⟩ := r.at_ i h
  exact ⟨v, e, q.mono fl fun _ _ => rfl⟩
theorem freezes_allFrz {vs : List V} {g : Gb} {F H : Hp} : ∀ {ds : List D} {vs : List V} {fps : List (List Addr)}, DRs g F H vs ds fps → allFrz (freezes ds) = true
  | [], vs, fps, r => rfl
  | d :: ds, vs, fps, r => by
    obtain ⟨v, vs', f, fps', rfl, rfl, h, r⟩ := r.uncons
    show (isFrz (Z.freeze d) && allFrz (freezes ds)) = true
    rw [isFrz_freeze h.ne_nul, freezes_allFrz (vs := vs) r]; rfl
theorem ResS.fz {vs : List V} {xs : List D} {fps : List (List Addr)} (n : ResS Z v0 F H P σ F' H' env' O' vs xs fps) : ∃ F2, Stp F H P F2 H' (OS O') ∧ SR Z.g v0 F2 H' σ env' O' ∧ ∀ (i : Nat) v d, vs[i]? = some v → (freezes xs)[i]? = some d → DR Z.g F2 H' v d [] := by
  have fl : ∀ a o, F' a = some o → (if a ∈ fps.flatten then H' a else F' a) = some o := fun a o e => by
    by_cases h : a ∈ fps.flatten
    · rw [n.hid a h] at e; cases e
    · simpa [h] using e
  have sub : ∀ a o, (if a ∈ fps.flatten then H' a else F' a) = some o → H' a = some o := fun a o e => by
    by_cases h : a ∈ fps.flatten
    · simpa [h] using e
    · simp only [h, if_false] at e; exact n.sr.sub a o e
  refine ⟨fun a => if a ∈ fps.flatten then H' a else F' a, ?_, n.sr.grow fl sub fun a ha => ?_, fun i v d e1 e2 => ?_⟩
  · refine n.st.trans ⟨fl, sub, fun a o e _ => e, fun a o e q => ?_, fun a h => .inl (.inl h)⟩
    by_cases h : a ∈ fps.flatten
    · exact .inr (.inr h)
    · simp only [h, if_false] at q; exact .inl q
  · have : a ∉ fps.flatten := fun z => n.dj a z ha
    simp only [this, if_false]
    obtain ⟨i, hi⟩ := ha
    exact n.sr.hid i a hi
  · rw [freezes_get] at e2
    obtain ⟨d0, e3, rfl⟩ := Option.map_eq_some_iff.mp e2
    have hi : i < fps.length := by rw [n.dr.2.1]; exact (List.getElem?_eq_some_iff.mp e3).1
    refine (n.dr.2.2 i v d0 _ e1 e3 (List.getElem?_eq_getElem hi)).freeze fl fun a ha => ?_
    have : a ∈ fps.flatten := List.mem_flatten.mpr ⟨_, List.getElem_mem hi, ha⟩
    simp [this]
theorem DRs.ofFrz {g : Gb} {vs : List V} {xs : List D} (l : vs.length = xs.length) (h : ∀ (i : Nat) v d, vs[i]? = some v → xs[i]? = some d → DR g F H v d []) : DRs g F H vs xs (List.replicate xs.length []) :=
  ⟨l, by simp, fun i v d f e1 e2 e3 => by
    have : f = [] := by
      rw [List.getElem?_replicate] at e3
      split at e3 <;> simp_all
    rw [this]; exact h i v d e1 e2⟩
theorem Oe.bindU {α β : Type} {x : Out α} {f : α → Out β} {q : β → Prop} (h : Oe Z F H P σ x fun a => Oe Z F H P σ (f a) q) : Oe Z F H P σ (x.bind f) q := by
  cases x <;> exact h
/-- a result behind values let go -/
theorem NewV.resF {env : Env} {F0 H0 F2 : Hp} {O : Nat → List Addr} {v : V} {d : D} {fp : List Addr} (n : NewV Z.g F2 H F' H' v d fp) (s : Stp F0 H0 P F2 H (OS O)) (r : SR Z.g v0 F2 H σ env O) : Res Z v0 F0 H0 P σ F' H' env O v d fp :=
  ⟨s.trans (n.nw.stpN (OS O) n.fresh), r.later n.nw, n.dr, n.hid, n.nd, fun a ha z => by
    obtain ⟨o, e⟩ := r.there z
    rw [n.fresh a ha] at e; cases e⟩
theorem tE_N {f : OpF} {r : L2.St → List V → Hp → VK → Prop} (o : OpOk Z f r) {Q : VK} (h : tE Z v0 (eN f ds) σ H Q) : tEA Z v0 ds σ H fun vs H2 => r σ vs H2 Q := by
  obtain ⟨env, F, O, sr, oc⟩ := h
  have oc := Oe.bind oc
  unfold eAllF at oc
  refine ⟨env, F, O, sr, Oe.mono (Oe.bind oc) fun q oc vs F' H' O' fps n => ?_⟩
  obtain ⟨F2, s2, r2, d2⟩ := n.fz
  have l : vs.length = (freezes q.1).length := by rw [freezes_length]; exact n.dr.1
  refine o F2 H' σ vs (freezes q.1) _ Q r2.sub (DRs.ofFrz l d2) ?_
  have oc : Oe Z F H (OS O) σ ((f Z.rt (freezes q.1)).bind fun d => .ok (d, q.2)) fun r => ∀ v F' H' O' fp, Res Z v0 F H (OS O) σ F' H' r.2 O' v r.1 fp → Q v H' := oc
  refine (Oe.oc (Oe.later s2 (Oe.bind oc) fun _ z => z)).mono fun d k v F3 H3 fp m => ?_
  exact (show ∀ v F' H' O' fp, Res Z v0 F H (OS O) σ F' H' q.2 O' v d fp → Q v H' from k) v F3 H3 O' fp (m.resF s2 r2)
theorem tE_lst {Q : VK} (hl : ds.length ≤ 1000) (h : tE Z v0 (eLst ds) σ H Q) : tLst (tEA Z v0 ds) σ H Q := by
  obtain ⟨env, F, O, sr, oc⟩ := h
  have oc := Oe.bind oc
  unfold eAllF at oc
  have len : ∀ (ds : List Den) env q, eAll ds Z.rt env = .ok q → q.1.length = ds.length := by
    intro ds
    induction ds with
    | nil => intro env q h; cases h; rfl
    | cons d ds ih =>
      intro env q h
      obtain ⟨a, _, h⟩ := Out.bind_ok h
      obtain ⟨b, h1, h⟩ := Out.bind_ok h
      cases h
      simp [ih _ _ h1]
  have oc := Oe.bind oc
  refine ⟨env, F, O, sr, ?_⟩
  cases e : eAll ds Z.rt env with
  | exc c fs => rw [e] at oc; exact oc
  | bad => rw [e] at oc; exact oc.elim
  | ok q =>
    rw [e] at oc
    have hq := len ds env q e
    intro vs F' H' O' fps n
    obtain ⟨F2, s2, r2, d2⟩ := n.fz
    refine ⟨by rw [n.dr.1, hq]; exact Nat.le_trans hl (by decide), fun p np => ?_⟩
    have k : ∀ v F' H' O' fp, Res Z v0 F H (OS O) σ F' H' q.2 O' v (.lst true (freezes q.1)) fp → Q v H' := oc
    have w : Wish Z F2 H' Q (.lst true (freezes q.1)) := fun v F3 H3 fp m => k v F3 H3 O' fp (m.resF s2 r2)
    exact w.newL r2.sub (by rw [freezes_length]; exact n.dr.1) d2 p np
theorem oTup_ok : OpOk Z oTup (fun _ vs H Q => vs.length ≤ sizeLine ∧ ∀ p, H p = none → Q (.ref p) (upd H p (.tup vs))) := by
  intro F H σ vs ds fps Q sub r oc
  unfold oTup at oc
  by_cases z : (allFrz ds && decide (ds.length ≤ sizeMax)) = true
  · rw [if_pos z] at oc
    simp only [Bool.and_eq_true, decide_eq_true_eq] at z
    refine ⟨by rw [r.1, ← sizeMax_eq]; exact z.2, ?_⟩
    have w : Wish Z F H Q (.tup ds) := oc
    exact w.newT sub r.1 (r.all z.1)
  · rw [if_neg z] at oc; exact oc.elim

/-! ### tests -/
theorem Res.bl {env : Env} {O : Nat → List Addr} {F0 H0 : Hp} {b : Bool} (s : Stp F0 H0 P F' H' (OS O)) (r : SR Z.g v0 F' H' σ env O) : Res Z v0 F0 H0 P σ F' H' env O (.bl b) (.bl b) [] :=
  ⟨s.less fun a h => h.elim id fun z => (nomatch z), r, .bl b, fun _ h => (nomatch h), List.nodup_nil, fun _ h => (nomatch h)⟩
theorem Res.steps {env : Env} {O : Nat → List Addr} {F0 H0 : Hp} {v : V} {d : D} {fp : List Addr} {P1 : Addr → Prop} (s : Stp F0 H0 P F H P1) (r : Res Z v0 F H P1 σ F' H' env O v d fp) : Res Z v0 F0 H0 P σ F' H' env O v d fp :=
  ⟨s.trans r.st, r.sr, r.dr, r.hid, r.nd, r.dj⟩
theorem tBE_val {d : Den} {Q : Bool → Hp → Prop} (h : tBE Z v0 d σ H Q) : tTest (tE Z v0 d) σ H Q := by
  obtain ⟨env, F, O, sr, oc⟩ := h
  refine ⟨env, F, O, sr, Oe.mono (Oe.bind oc) fun q oc v F' H' O' fp n => ?_⟩
  obtain ⟨d', e'⟩ := q
  cases d' <;> first | exact oc.elim | skip
  rename_i b
  have hv := n.dr
  cases hv
  exact ⟨b, rfl, (show ∀ F' H' O', Stp F H (OS O) F' H' (OS O') → SR Z.g v0 F' H' σ e' O' → Q b H' from oc) F' H' O' (n.st.less fun a h => .inl h) n.sr⟩
theorem asB_ok {d : D} {b : Bool} (h : asB d = .ok b) : d = .bl b := by
  cases d <;> cases h; rfl
theorem tBE_not {d : Den} {Q : Bool → Hp → Prop} (h : tBE Z v0 (eNot d) σ H Q) : L2.tNot (tBE Z v0 d) σ H Q := by
  obtain ⟨env, F, O, sr, oc⟩ := h
  have e : ((eNot d Z.rt env).bind fun r => (asB r.1).bind fun b => .ok (b, r.2)) = ((d Z.rt env).bind fun r => (asB r.1).bind fun b => .ok (b, r.2)).bind fun r => .ok (!r.1, r.2) := by
    unfold eNot
    cases d Z.rt env with
    | ok r =>
      simp only [Out.bind]
      cases asB r.1 <;> rfl
    | exc c fs => rfl
    | bad => rfl
  rw [e] at oc
  refine ⟨env, F, O, sr, (Oe.bind oc).mono fun r k F' H' O' s r' => ?_⟩
  exact (show ∀ F' H' O', Stp F H (OS O) F' H' (OS O') → SR Z.g v0 F' H' σ r.2 O' → Q (!r.1) H' from k) F' H' O' s r'
theorem tE_not {d : Den} {Q : VK} (h : tE Z v0 (eNot d) σ H Q) : tNotV (tE Z v0 d) σ H Q := by
  obtain ⟨env, F, O, sr, oc⟩ := h
  refine ⟨env, F, O, sr, Oe.mono (Oe.bind oc) fun q oc v F' H' O' fp n => ?_⟩
  obtain ⟨d', e'⟩ := q
  cases d' <;> first | exact oc.elim | skip
  rename_i b
  have hv := n.dr
  cases hv
  exact ⟨b, rfl, (show ∀ v F' H' O' fp, Res Z v0 F H (OS O) σ F' H' e' O' v (.bl (!b)) fp → Q v H' from oc) _ F' H' O' [] (Res.bl (n.st.less fun a h => .inl h) n.sr)⟩
theorem tE_and {a b : Den} {Q : VK} (h : tE Z v0 (eAnd a b) σ H Q) : tAndV (tE Z v0 a) (tE Z v0 b) σ H Q := by
  obtain ⟨env, F, O, sr, oc⟩ := h
  refine ⟨env, F, O, sr, Oe.mono (Oe.bind oc) fun q oc v F' H' O' fp n => ?_⟩
  obtain ⟨d', e'⟩ := q
  cases d' <;> first | exact oc.elim | skip
  rename_i c
  have hv := n.dr
  cases hv
  have s : Stp F H (OS O) F' H' (OS O') := n.st.less fun a h => .inl h
  refine ⟨c, rfl, ?_⟩
  cases c with
  | true =>
    rw [if_pos rfl]
    have oc : Oe Z F H (OS O) σ (b Z.rt e') _ := oc
    exact ⟨e', F', O', n.sr, Oe.later s oc fun q k v F2 H2 O2 f m => k v F2 H2 O2 f (Res.steps s m)⟩
  | false =>
    rw [if_neg (by decide)]
    exact (show ∀ v F' H' O' fp, Res Z v0 F H (OS O) σ F' H' e' O' v (.bl false) fp → Q v H' from oc) _ F' H' O' [] (Res.bl s n.sr)
theorem tE_or {a b : Den} {Q : VK} (h : tE Z v0 (eOr a b) σ H Q) : tOrV (tE Z v0 a) (tE Z v0 b) σ H Q := by
  obtain ⟨env, F, O, sr, oc⟩ := h
  refine ⟨env, F, O, sr, Oe.mono (Oe.bind oc) fun q oc v F' H' O' fp n => ?_⟩
  obtain ⟨d', e'⟩ := q
  cases d' <;> first | exact oc.elim | skip
  rename_i c
  have hv := n.dr
  cases hv
  have s : Stp F H (OS O) F' H' (OS O') := n.st.less fun a h => .inl h
  refine ⟨c, rfl, ?_⟩
  cases c with
  | false =>
    rw [if_neg (by decide)]
    have oc : Oe Z F H (OS O) σ (b Z.rt e') _ := oc
    exact ⟨e', F', O', n.sr, Oe.later s oc fun q k v F2 H2 O2 f m => k v F2 H2 O2 f (Res.steps s m)⟩
  | true =>
    rw [if_pos rfl]
    exact (show ∀ v F' H' O' fp, Res Z v0 F H (OS O) σ F' H' e' O' v (.bl true) fp → Q v H' from oc) _ F' H' O' [] (Res.bl s n.sr)
theorem out_assoc {α β γ : Type} (x : Out α) (f : α → Out β) (g : β → Out γ) : (x.bind f).bind g = x.bind fun a => (f a).bind g := by cases x <;> rfl
theorem tBE_and {a b : Den} {Q : Bool → Hp → Prop} (h : tBE Z v0 (eAnd a b) σ H Q) : L2.tAnd (tBE Z v0 a) (tBE Z v0 b) σ H Q := by
  obtain ⟨env, F, O, sr, oc⟩ := h
  have e : ((eAnd a b Z.rt env).bind fun r => (asB r.1).bind fun b => .ok (b, r.2)) = ((a Z.rt env).bind fun r => (asB r.1).bind fun b => .ok (b, r.2)).bind fun r => match r.1 with
    | true => (b Z.rt r.2).bind fun r => (asB r.1).bind fun b => .ok (b, r.2)
    | false => .ok (false, r.2) := by
    unfold eAnd
    rw [out_assoc, out_assoc]
    congr 1
    funext r
    rw [out_assoc, out_assoc]
    congr 1
    funext c
    cases c <;> rfl
  rw [e] at oc
  refine ⟨env, F, O, sr, (Oe.bind oc).mono fun r k F' H' O' s r' => ?_⟩
  obtain ⟨c, e'⟩ := r
  cases c with
  | true =>
    rw [if_pos rfl]
    exact ⟨e', F', O', r', Oe.later s (show Oe Z F H (OS O) σ ((b Z.rt e').bind fun r => (asB r.1).bind fun b => .ok (b, r.2)) _ from k) fun q k F2 H2 O2 s2 r2 => k F2 H2 O2 (s.trans s2) r2⟩
  | false =>
    rw [if_neg Bool.false_ne_true]
    exact (show ∀ F' H' O', Stp F H (OS O) F' H' (OS O') → SR Z.g v0 F' H' σ e' O' → Q false H' from k) F' H' O' s r'
theorem tBE_or {a b : Den} {Q : Bool → Hp → Prop} (h : tBE Z v0 (eOr a b) σ H Q) : L2.tOr (tBE Z v0 a) (tBE Z v0 b) σ H Q := by
  obtain ⟨env, F, O, sr, oc⟩ := h
  have e : ((eOr a b Z.rt env).bind fun r => (asB r.1).bind fun b => .ok (b, r.2)) = ((a Z.rt env).bind fun r => (asB r.1).bind fun b => .ok (b, r.2)).bind fun r => match r.1 with
    | true => .ok (true, r.2)
    | false => (b Z.rt r.2).bind fun r => (asB r.1).bind fun b => .ok (b, r.2) := by
    unfold eOr
    rw [out_assoc, out_assoc]
    congr 1
    funext r
    rw [out_assoc, out_assoc]
    congr 1
    funext c
    cases c <;> rfl
  rw [e] at oc
  refine ⟨env, F, O, sr, (Oe.bind oc).mono fun r k F' H' O' s r' => ?_⟩
  obtain ⟨c, e'⟩ := r
  cases c with
  | false =>
    rw [if_neg Bool.false_ne_true]
    exact ⟨e', F', O', r', Oe.later s (show Oe Z F H (OS O) σ ((b Z.rt e').bind fun r => (asB r.1).bind fun b => .ok (b, r.2)) _ from k) fun q k F2 H2 O2 s2 r2 => k F2 H2 O2 (s.trans s2) r2⟩
  | true =>
    rw [if_pos rfl]
    exact (show ∀ F' H' O', Stp F H (OS O) F' H' (OS O') → SR Z.g v0 F' H' σ e' O' → Q true H' from k) F' H' O' s r'
theorem tE_ite {t a b : Den} {Q : VK} (h : tE Z v0 (eIte t a b) σ H Q) : L2.tIf (tBE Z v0 t) (tE Z v0 a) (tE Z v0 b) σ H Q := by
  obtain ⟨env, F, O, sr, oc⟩ := h
  have e : eIte t a b Z.rt env = ((t Z.rt env).bind fun r => (asB r.1).bind fun b => .ok (b, r.2)).bind fun r => match r.1 with
    | true => a Z.rt r.2
    | false => b Z.rt r.2 := by
    unfold eIte
    rw [out_assoc]
    congr 1
    funext r
    rw [out_assoc]
    congr 1
  rw [e] at oc
  refine ⟨env, F, O, sr, (Oe.bind oc).mono fun r k F' H' O' s r' => ?_⟩
  obtain ⟨c, e'⟩ := r
  cases c with
  | true =>
    rw [if_pos rfl]
    exact ⟨e', F', O', r', Oe.later s (show Oe Z F H (OS O) σ (a Z.rt e') _ from k) fun q k v F2 H2 O2 f m => k v F2 H2 O2 f (Res.steps s m)⟩
  | false =>
    rw [if_neg Bool.false_ne_true]
    exact ⟨e', F', O', r', Oe.later s (show Oe Z F H (OS O) σ (b Z.rt e') _ from k) fun q k v F2 H2 O2 f m => k v F2 H2 O2 f (Res.steps s m)⟩
theorem tBE_ite {t a b : Den} {Q : Bool → Hp → Prop} (h : tBE Z v0 (eIte t a b) σ H Q) : tBE Z v0 t σ H fun d H1 => if d = true then tBE Z v0 a σ H1 Q else tBE Z v0 b σ H1 Q := by
  obtain ⟨env, F, O, sr, oc⟩ := h
  have e : ((eIte t a b Z.rt env).bind fun r => (asB r.1).bind fun b => .ok (b, r.2)) = ((t Z.rt env).bind fun r => (asB r.1).bind fun b => .ok (b, r.2)).bind fun r => match r.1 with
    | true => (a Z.rt r.2).bind fun r => (asB r.1).bind fun b => .ok (b, r.2)
    | false => (b Z.rt r.2).bind fun r => (asB r.1).bind fun b => .ok (b, r.2) := by
    unfold eIte
    rw [out_assoc, out_assoc]
    congr 1
    funext r
    rw [out_assoc, out_assoc]
    congr 1
    funext c
    cases c <;> rfl
  rw [e] at oc
  refine ⟨env, F, O, sr, (Oe.bind oc).mono fun r k F' H' O' s r' => ?_⟩
  obtain ⟨c, e'⟩ := r
  cases c with
  | true =>
    rw [if_pos rfl]
    exact ⟨e', F', O', r', Oe.later s (show Oe Z F H (OS O) σ ((a Z.rt e').bind fun r => (asB r.1).bind fun b => .ok (b, r.2)) _ from k) fun q k F2 H2 O2 s2 r2 => k F2 H2 O2 (s.trans s2) r2⟩
  | false =>
    rw [if_neg Bool.false_ne_true]
    exact ⟨e', F', O', r', Oe.later s (show Oe Z F H (OS O) σ ((b Z.rt e').bind fun r => (asB r.1).bind fun b => .ok (b, r.2)) _ from k) fun q k F2 H2 O2 s2 r2 => k F2 H2 O2 (s.trans s2) r2⟩
end
end Z
end

section
set_option Elab.async false
set_option linter.all false
set_option maxRecDepth 100000
set_option maxHeartbeats 4000000
/-! ZN: calls that change an object, writes. -/
namespace Z
open PySem L2 PyProof.Rows

/-- what a function promises that may change its first argument's object -/
def spI (Z : Ct) (i : Nat) : Sp := fun vs H Q E => ∃ F v d f0 ws ds, vs = v :: ws ∧ (∀ a o, F a = some o → H a = some o) ∧ DR Z.g F H v d f0 ∧ f0.Nodup ∧ (∀ a ∈ f0, F a = none) ∧ ws.length = ds.length ∧ (∀ (i : Nat) v d, ws[i]? = some v → ds[i]? = some d → DR Z.g F H v d []) ∧ allFrz ds = true ∧
  match Z.rt.call i (d :: ds) with
  | .ok r => ∀ u F' H' fp f1, Stp F H (fun a => a ∈ f0) F' H' (fun a => a ∈ f1 ∨ a ∈ fp) → DR Z.g F' H' u r.1 fp → DR Z.g F' H' v r.2 f1 → (∀ a ∈ fp, F' a = none) → (∀ a ∈ f1, F' a = none) → fp.Nodup → f1.Nodup → (∀ a ∈ fp, a ∉ f1) → Q u H'
  | .exc c fs => ∀ cls dd F' H' P', Stp F H (fun a => a ∈ f0) F' H' P' → ExR Z.g Z.ea F' H' c fs cls dd → E cls dd H'
  | .bad => False
def PFI (X : Cx) (Z : Ct) (k i : Nat) : Prop := ∃ fd ps, FnOk X.prog X.w X.K X.mg X.base (L2.CX X.prog X.w) k (Z.g.fa i) fd ps (spI Z i) ∧ PySem.W.keepIn X.K (.ref (Z.g.fa i)) = true ∧ Binds X.K fd ps []
section
variable {g : Gb} {v0 : Option V} {F H F' H' : Hp} {σ : L2.St} {env : Env} {O : Nat → List Addr} {v : V} {d : D} {fp : List Addr} {i : Nat}
theorem set_self {σ : L2.St} {i : Nat} {x : Option V} (h : σ[i]? = some x) : σ.set i x = σ := by
  apply List.ext_getElem?
  intro j
  by_cases e : j = i
  · subst e
    rw [List.getElem?_set, if_pos rfl, if_pos (List.getElem?_eq_some_iff.mp h).1, h]
  · rw [List.getElem?_set_ne (Ne.symm e)]
theorem setO_same {f f' : List Addr} : setO (setO O i f) i f' = setO O i f' := by
  funext j
  unfold setO
  by_cases e : j = i
  · rw [if_pos e, if_pos e]
  · rw [if_neg e, if_neg e, if_neg e]
theorem getD_set_ne {j : Nat} (h : j ≠ i) : (env.set i d).getD j .nul = env.getD j .nul := by
  simp [List.getD, List.getElem?_set, Ne.symm h]
theorem getD_set_nul : (env.set i .nul).getD i .nul = .nul := by
  by_cases hl : i < env.length
  · simp [List.getD, hl]
  · simp [List.getD, List.getElem?_set, hl]
theorem lt_of_getD (h : env.getD i .nul ≠ .nul) : i < env.length := by
  by_cases hl : i < env.length
  · exact hl
  · exfalso; apply h; simp [List.getD, hl]
/-- a slot forgotten: what it held alone is not ours from now on -/
theorem SR.drop {P' : Addr → Prop} (r : SR g v0 F H σ env O) (i : Nat) (s : Stp F H (fun a => a ∈ O i) F' H' P') : SR g v0 F' H' σ (env.set i .nul) (setO O i []) := by
  have kp : ∀ j a, j ≠ i → a ∈ O j → F' a = none ∧ H' a = H a := fun j a hj ha => by
    obtain ⟨o, e⟩ := r.there ⟨j, ha⟩
    have := s.keep e (fun z => hj (r.dj j i a ha z)) (r.hid j a ha)
    exact ⟨this.2.1, by rw [e]; exact this.1⟩
  refine ⟨s.sub, by simpa using r.len, fun j hj => ?_, fun j hj => ?_, fun j => ?_, fun j k a h1 h2 => ?_, fun j a h1 => ?_, r.zero⟩
  · unfold setO
    by_cases e : j = i
    · subst e; rw [getD_set_nul] at hj; exact absurd rfl hj
    · rw [getD_set_ne e] at hj ⊢
      rw [if_neg e]
      obtain ⟨w, q, z⟩ := r.at_ j hj
      exact ⟨w, q, z.mono s.fl fun a ha => (kp j a e ha).2⟩
  · unfold setO
    by_cases e : j = i
    · rw [if_pos e]
    · rw [getD_set_ne e] at hj
      rw [if_neg e]; exact r.nul j hj
  · unfold setO
    by_cases e : j = i
    · rw [if_pos e]; exact List.nodup_nil
    · rw [if_neg e]; exact r.nd j
  · unfold setO at h1 h2
    by_cases e1 : j = i
    · rw [if_pos e1] at h1; cases h1
    · by_cases e2 : k = i
      · rw [if_pos e2] at h2; cases h2
      · rw [if_neg e1] at h1
        rw [if_neg e2] at h2
        exact r.dj j k a h1 h2
  · unfold setO at h1
    by_cases e : j = i
    · rw [if_pos e] at h1; cases h1
    · rw [if_neg e] at h1; exact (kp j a e h1).1
/-- behind a call that may have changed the slot's object -/
theorem SR.back {f1 : List Addr} {P' : Addr → Prop} (r : SR g v0 F H σ env O) (hn : env.getD i .nul ≠ .nul) (hv : σ[i]? = some (some v)) (s : Stp F H (fun a => a ∈ O i) F' H' P') (dr : DR g F' H' v d f1) (h1 : ∀ a ∈ f1, F' a = none) (h2 : f1.Nodup) (h3 : ∀ a ∈ f1, P' a) : SR g v0 F' H' σ (env.set i d) (setO O i f1) := by
  have hl := lt_of_getD hn
  have r1 := r.drop i s
  have r2 := r1.set (i := i) dr h1 h2 (fun a ha j hj z => by
    unfold setO at z
    rw [if_neg hj] at z
    obtain ⟨o, e⟩ := r.there ⟨j, z⟩
    exact (s.keep e (fun q => hj (r.dj j i a z q)) (r.hid j a z)).2.2 (h3 a ha)) (fun w hw e => by
    subst e
    have := r.zero w hw
    rw [hv] at this; cases this; rfl)
  rw [set_self hv, setO_same] at r2
  have e1 : (env.set i .nul).set i d = env.set i d := by simp
  rw [e1] at r2
  have e2 : i < (env.set i .nul).length := by simpa using hl
  rw [if_pos e2] at r2
  exact r2
end
section
variable {Z : Ct} {v0 : Option V} {F H : Hp} {σ : L2.St} {ds : List Den}
/-- what is held alone by one slot, held by the names -/
theorem Stp.slot {F H F' H' : Hp} {O : Nat → List Addr} {i : Nat} {f1 fp : List Addr} (s : Stp F H (fun a => a ∈ O i) F' H' (fun a => a ∈ f1 ∨ a ∈ fp)) : Stp F H (OS O) F' H' (fun a => OS (setO O i f1) a ∨ a ∈ fp) := by
  refine ⟨s.fl, s.sub, fun a o e n => s.fr a o e fun z => n ⟨i, z⟩, fun a o e n => (s.old a o e n).imp_right fun z => ⟨i, z⟩, fun a h => ?_⟩
  rcases h with h | h
  · rcases OS_set h with h | h
    · exact .inl h
    · exact (s.own a (.inl h)).imp_left fun z => ⟨i, z⟩
  · exact (s.own a (.inr h)).imp_left fun z => ⟨i, z⟩
theorem tE_IO {f i : Nat} {Q : VK} (h : tE Z v0 (eIO f i ds) σ H Q) : tCallS (spI Z f) (WE Z.W) (tCons (tVar i) (tEA Z v0 ds)) σ H Q := by
  obtain ⟨env, F, O, sr, oc⟩ := h
  unfold eIO at oc
  by_cases hn : isNul (env.getD i .nul) = true
  · rw [if_pos hn] at oc; exact oc.elim
  · rw [if_neg hn] at oc
    have hn' : env.getD i .nul ≠ .nul := fun z => hn (by rw [z]; rfl)
    obtain ⟨v, hv, _⟩ := sr.at_ i hn'
    refine ⟨v, hv, env, F, O, sr, ?_⟩
    unfold eAllF at oc
    refine Oe.mono (Oe.bind (Oe.bind oc)) fun q oc vs F' H' O' fps n => ?_
    obtain ⟨F2, s2, r2, d2⟩ := n.fz
    have oc : Oe Z F H (OS O) σ (match q.2.getD i .nul with
      | .nul => .bad
      | d => if allFrz (freezes q.1) then (Z.rt.call f (d :: freezes q.1)).bind fun w => .ok (w.1, q.2.set i w.2) else .bad) fun r => ∀ v F' H' O' fp, Res Z v0 F H (OS O) σ F' H' r.2 O' v r.1 fp → Q v H' := oc
    have hne : q.2.getD i .nul ≠ .nul := fun z => by rw [z] at oc; exact oc.elim
    have oc : Oe Z F H (OS O) σ (if allFrz (freezes q.1) then (Z.rt.call f (q.2.getD i .nul :: freezes q.1)).bind fun w => .ok (w.1, q.2.set i w.2) else .bad) fun r => ∀ v F' H' O' fp, Res Z v0 F H (OS O) σ F' H' r.2 O' v r.1 fp → Q v H' := by
      revert oc hne
      generalize q.2.getD i .nul = d
      intro oc hne
      cases d <;> first | exact absurd rfl hne | exact oc
    have hall := freezes_allFrz (vs := vs) n.dr
    rw [if_pos hall] at oc
    obtain ⟨v', hv', dr⟩ := r2.at_ i hne
    rw [hv] at hv'; cases hv'
    refine ⟨F2, v, _, O' i, vs, freezes q.1, rfl, r2.sub, dr, r2.nd i, r2.hid i, by rw [freezes_length]; exact n.dr.1, d2, hall, ?_⟩
    cases e : Z.rt.call f (q.2.getD i .nul :: freezes q.1) with
    | bad => rw [e] at oc; exact oc.elim
    | exc c fs =>
      rw [e] at oc
      intro cls dd F3 H3 P3 s3 ex
      have s3' : Stp F2 H' (OS O') F3 H3 (fun _ => False) := ⟨s3.fl, s3.sub, fun a o e n => s3.fr a o e fun z => n ⟨i, z⟩, fun a o e n => (s3.old a o e n).imp_right fun z => ⟨i, z⟩, fun _ z => z.elim⟩
      exact oc cls dd F3 H3 _ (s2.trans s3') ex
    | ok w =>
      rw [e] at oc
      have k : ∀ v F' H' O' fp, Res Z v0 F H (OS O) σ F' H' (q.2.set i w.2) O' v w.1 fp → Q v H' := oc
      intro u F3 H3 fp f1 s3 du dv hf hf1 nf nf1 dj
      refine k u F3 H3 (setO O' i f1) fp ⟨s2.trans s3.slot, r2.back hne hv s3 dv hf1 nf1 (fun a ha => .inl ha), du, hf, nf, fun a ha z => ?_⟩
      obtain ⟨j, hj⟩ := z
      unfold setO at hj
      by_cases e1 : j = i
      · rw [if_pos e1] at hj; exact dj a ha hj
      · rw [if_neg e1] at hj
        obtain ⟨o, e2⟩ := r2.there ⟨j, hj⟩
        exact (s3.keep e2 (fun z => e1 (r2.dj j i a hj z)) (r2.hid j a hj)).2.2 (.inr ha)
end

/-! ### an own list is written -/
section
variable {g : Gb} {v0 : Option V} {F H : Hp} {σ : L2.St} {env : Env} {O : Nat → List Addr} {i : Nat}
theorem DR.own_inv {v : V} {ds : List D} {fp : List Addr} (r : DR g F H v (.lst true ds) fp) : ∃ a vs fps, v = .ref a ∧ fp = a :: fps.flatten ∧ H a = some (.lst vs) ∧ DRs g F H vs ds fps := by
  cases r with
  | olst h n m r => exact ⟨_, _, _, rfl, rfl, h, n, m, r⟩
theorem SR.write {a : Addr} {vs vs' : List V} {ds ds' : List D} {fps fps' : List (List Addr)} (r : SR g v0 F H σ env O) (hi : env.getD i .nul = .lst true ds) (hv : σ[i]? = some (some (.ref a))) (hO : O i = a :: fps.flatten) (hH : H a = some (.lst vs))
    (d' : DRs g F H vs' ds' fps') (n' : (a :: fps'.flatten).Nodup) (h' : ∀ x ∈ fps'.flatten, F x = none) (j' : ∀ x ∈ fps'.flatten, ∀ j, j ≠ i → x ∉ O j) :
    SR g v0 F (upd H a (.lst vs')) σ (env.set i (.lst true ds')) (setO O i (a :: fps'.flatten)) := by
  have hF : F a = none := r.hid i a (by rw [hO]; exact List.mem_cons_self)
  have sub : ∀ b o, F b = some o → upd H a (.lst vs') b = some o := fun b o e => by
    rw [upd_ne (fun z => by rw [z, hF] at e; cases e)]; exact r.sub b o e
  have s : Stp F H (fun b => b ∈ O i) F (upd H a (.lst vs')) (fun b => b = a) := by
    refine ⟨fun _ _ e => e, sub, fun b o e n => ?_, fun b o e n => .inl n, fun b hb => .inl (by rw [hb, hO]; exact List.mem_cons_self)⟩
    rw [upd_ne (fun z => n (by rw [z, hO]; exact List.mem_cons_self))]; exact e
  have hn : env.getD i .nul ≠ .nul := by rw [hi]; exact fun z => by cases z
  have hl := lt_of_getD hn
  have r2 := (r.drop i s).set (i := i) (v := .ref a) (d := .lst true ds') (fp := a :: fps'.flatten) (.olst upd_same d'.1 d'.2.1 fun k v d f e1 e2 e3 => (d'.2.2 k v d f e1 e2 e3).mono (fun _ _ e => e) fun b hb => upd_ne fun z =>
      (List.nodup_cons.mp n').1 (z ▸ List.mem_flatten.mpr ⟨f, List.mem_of_getElem? e3, hb⟩)) (fun b hb => by
    rcases List.mem_cons.mp hb with rfl | hb
    · exact hF
    · exact h' b hb) n' (fun b hb j hj z => by
    unfold setO at z
    rw [if_neg hj] at z
    rcases List.mem_cons.mp hb with rfl | hb
    · exact hj (r.dj j i b z (by rw [hO]; exact List.mem_cons_self))
    · exact j' b hb j hj z) (fun w hw e => by
    subst e
    have := r.zero w hw
    rw [hv] at this; cases this; rfl)
  rw [set_self hv, setO_same] at r2
  have e1 : (env.set i .nul).set i (.lst true ds') = env.set i (.lst true ds') := by simp
  rw [e1] at r2
  have e2 : i < (env.set i .nul).length := by simpa using hl
  rw [if_pos e2] at r2
  exact r2
/-- the step of a write -/
theorem stp_write {a : Addr} {o : HO} {P P' : Addr → Prop} (sub : ∀ a o, F a = some o → H a = some o) (hP : P a) (hF : F a = none) (h : ∀ b, P' b → P b ∨ H b = none) : Stp F H P F (upd H a o) P' :=
  ⟨fun _ _ e => e, fun b u e => by rw [upd_ne (fun z => by rw [z, hF] at e; cases e)]; exact sub b u e, fun b u e n => by
    have : b ≠ a := fun z => n (by rw [z]; exact hP)
    rw [upd_ne this]; exact e, fun _ _ _ n => .inl n, h⟩
end
end Z
end

section
set_option Elab.async false
set_option linter.all false
set_option maxRecDepth 100000
set_option maxHeartbeats 4000000
/-! ZO: statements. -/
namespace Z
open PySem L2 PyProof.Rows

/-- what a statement's outcome asks -/
def So (Z : Ct) (v0 : Option V) (F H : Hp) (P : Addr → Prop) (x : SOut) (D : Ends) : Prop := match x with
  | .next e => ∀ σ' F' H' O', Stp F H P F' H' (OS O') → SR Z.g v0 F' H' σ' e O' → D.nx σ' H'
  | .ret d e => ∀ v σ' F' H' O' fp, Res Z v0 F H P σ' F' H' e O' v d fp → D.rt v H'
  | .exc c fs => ∀ cls dd σ' F' H' P', Stp F H P F' H' P' → ExR Z.g Z.ea F' H' c fs cls dd → Z.W cls dd σ' H'
  | .bad => False
def tS (Z : Ct) (v0 : Option V) (s : SDen) : TS := fun D σ H => ∃ env F O, SR Z.g v0 F H σ env O ∧ So Z v0 F H (OS O) (s Z.rt env) D
section
variable {Z : Ct} {v0 : Option V} {F H F' H' : Hp} {P P' : Addr → Prop} {σ : L2.St} {D : Ends}
theorem So.later {x : SOut} (s : Stp F H P F' H' P') (h : So Z v0 F H P x D) : So Z v0 F' H' P' x D := by
  cases x with
  | next e => exact fun σ' F2 H2 O' s2 r => h σ' F2 H2 O' (s.trans s2) r
  | ret d e => exact fun v σ' F2 H2 O' fp r => h v σ' F2 H2 O' fp (Res.steps s r)
  | exc c fs => exact fun cls dd σ' F2 H2 P2 s2 e => h cls dd σ' F2 H2 P2 (s.trans s2) e
  | bad => exact h
theorem tS_seq {a b : SDen} (h : tS Z v0 (sSeq a b) D σ H) : tSeq (tS Z v0 a) (tS Z v0 b) D σ H := by
  obtain ⟨env, F, O, r, so⟩ := h
  refine ⟨env, F, O, r, ?_⟩
  unfold sSeq at so
  cases e : a Z.rt env with
  | next e1 => rw [e] at so; exact fun σ' F' H' O' s r' => ⟨e1, F', O', r', So.later s so⟩
  | ret d e1 => rw [e] at so; exact so
  | exc c fs => rw [e] at so; exact so
  | bad => rw [e] at so; exact so
theorem tS_pass (h : tS Z v0 sPass D σ H) : tNext D σ H := by
  obtain ⟨env, F, O, r, so⟩ := h
  exact so σ F H O (Stp.refl r.sub) r
/-- ahead of it names let go -/
theorem tS_fz {is : List Nat} {b : SDen} (h : tS Z v0 (sSeq (sFz is) b) D σ H) : tS Z v0 b D σ H := by
  obtain ⟨env, F, O, r, so⟩ := h
  obtain ⟨F2, O2, s, r2⟩ := r.fz is
  exact ⟨fzEnv is env, F2, O2, r2, So.later s so⟩
theorem tE_fz {is : List Nat} {d : Den} {Q : VK} (h : tE Z v0 (eFz is d) σ H Q) : tE Z v0 d σ H Q := by
  obtain ⟨env, F, O, r, oc⟩ := h
  obtain ⟨F2, O2, s, r2⟩ := r.fz is
  exact ⟨fzEnv is env, F2, O2, r2, Oe.later s oc fun q k v F3 H3 O3 fp m => k v F3 H3 O3 fp (Res.steps s m)⟩
theorem tBE_fz {is : List Nat} {d : Den} {Q : Bool → Hp → Prop} (h : tBE Z v0 (eFz is d) σ H Q) : tBE Z v0 d σ H Q := by
  obtain ⟨env, F, O, r, oc⟩ := h
  obtain ⟨F2, O2, s, r2⟩ := r.fz is
  exact ⟨fzEnv is env, F2, O2, r2, Oe.later s (show Oe Z F H (OS O) σ ((d Z.rt (fzEnv is env)).bind fun r => (asB r.1).bind fun b => .ok (b, r.2)) _ from oc) fun q k F3 H3 O3 s3 r3 => k F3 H3 O3 (s.trans s3) r3⟩
theorem So.out {x : Out Env} {q : Env → Prop} (h : So Z v0 F H P (sOut x) D) (i : ∀ e, (∀ σ' F' H' O', Stp F H P F' H' (OS O') → SR Z.g v0 F' H' σ' e O' → D.nx σ' H') → q e) : Oe Z F H P σ x q := by
  cases x with
  | ok e => exact i e h
  | exc c fs => exact fun cls dd F' H' P' s e => h cls dd σ F' H' P' s e
  | bad => exact h
theorem tS_expr {d : Den} (h : tS Z v0 (sExpr d) D σ H) : tDrop (tE Z v0 d) D σ H := by
  obtain ⟨env, F, O, r, so⟩ := h
  refine ⟨env, F, O, r, Oe.mono (Oe.bind (So.out (q := fun e => ∀ σ' F' H' O', Stp F H (OS O) F' H' (OS O') → SR Z.g v0 F' H' σ' e O' → D.nx σ' H') so fun e k => k)) fun q k v F' H' O' fp n => ?_⟩
  exact (show ∀ σ' F' H' O', Stp F H (OS O) F' H' (OS O') → SR Z.g v0 F' H' σ' q.2 O' → D.nx σ' H' from k) σ F' H' O' (n.st.less fun a h => .inl h) n.sr
theorem tS_ret {d : Den} (h : tS Z v0 (sRet d) D σ H) : tRet (tE Z v0 d) D σ H := by
  obtain ⟨env, F, O, r, so⟩ := h
  refine ⟨env, F, O, r, ?_⟩
  unfold sRet at so
  cases e : d Z.rt env with
  | ok q =>
    obtain ⟨x, e1⟩ := q
    rw [e] at so
    exact fun v F' H' O' fp n => so v σ F' H' O' fp n
  | exc c fs => rw [e] at so; exact fun cls dd F' H' P' s ex => so cls dd σ F' H' P' s ex
  | bad => rw [e] at so; exact so
theorem tS_retN (h : tS Z v0 sRetN D σ H) : tRetN D σ H := by
  obtain ⟨env, F, O, r, so⟩ := h
  exact so .non σ F H O [] ⟨(Stp.refl r.sub).less fun a h => h.elim id fun z => (nomatch z), r, .non, fun _ h => (nomatch h), List.nodup_nil, fun _ h => (nomatch h)⟩
/-- return x: the object goes -/
theorem tS_retV {i : Nat} (h : tS Z v0 (sRetV i) D σ H) : tRet (tVar i) D σ H := by
  obtain ⟨env, F, O, r, so⟩ := h
  unfold sRetV at so
  by_cases hn : env.getD i .nul = .nul
  · rw [hn] at so; exact so.elim
  · obtain ⟨v, e, dr⟩ := r.at_ i hn
    have so : So Z v0 F H (OS O) (.ret (env.getD i .nul) (env.set i .nul)) D := by
      revert so hn
      generalize env.getD i .nul = d
      intro so hn
      cases d <;> first | exact absurd rfl hn | exact so
    refine ⟨v, e, so v σ F H (setO O i []) (O i) ⟨?_, r.drop i (Stp.refl r.sub), dr, r.hid i, r.nd i, fun a ha z => ?_⟩⟩
    · refine (Stp.refl r.sub).less fun a h => ?_
      rcases h with h | h
      · rcases OS_set h with h | h
        · exact h
        · cases h
      · exact ⟨i, h⟩
    · obtain ⟨j, hj⟩ := z
      unfold setO at hj
      by_cases e1 : j = i
      · rw [if_pos e1] at hj; cases hj
      · rw [if_neg e1] at hj
        exact e1 (r.dj j i a hj ha)
theorem sIf_eq (t : Den) (a b : SDen) (rt : RT) (env : Env) : sIf t a b rt env = match (t rt env).bind fun r => (asB r.1).bind fun b => .ok (b, r.2) with
  | .ok (true, e) => a rt e
  | .ok (false, e) => b rt e
  | .exc c fs => .exc c fs
  | .bad => .bad := by
  unfold sIf
  cases t rt env with
  | ok q =>
    obtain ⟨d, e⟩ := q
    cases d <;> try rfl
    rename_i c
    cases c <;> rfl
  | exc c fs => rfl
  | bad => rfl
theorem tS_if {t : Den} {a b : SDen} (h : tS Z v0 (sIf t a b) D σ H) : tIfS (tBE Z v0 t) (tS Z v0 a) (tS Z v0 b) D σ H := by
  obtain ⟨env, F, O, r, so⟩ := h
  rw [sIf_eq] at so
  refine ⟨env, F, O, r, ?_⟩
  cases e : (t Z.rt env).bind fun r => (asB r.1).bind fun b => .ok (b, r.2) with
  | ok q =>
    obtain ⟨c, e1⟩ := q
    rw [e] at so
    intro F' H' O' s r'
    cases c with
    | true => rw [if_pos rfl]; exact ⟨e1, F', O', r', So.later s so⟩
    | false => rw [if_neg Bool.false_ne_true]; exact ⟨e1, F', O', r', So.later s so⟩
  | exc c fs => rw [e] at so; exact fun cls dd F' H' P' s ex => so cls dd σ F' H' P' s ex
  | bad => rw [e] at so; exact so

/-! ### own lists -/
theorem ownL_some {d : _root_.Z.D} (h : ownL d = true) : ∃ xs, d = .lst true xs := by
  cases d with
  | lst o xs => cases o <;> first | (cases h; done) | exact ⟨xs, rfl⟩
  | _ => cases h
theorem tyV_list {K : PySem.W.Frag} {a : Addr} {vs : List V} (h : H a = some (.lst vs)) : tyV K "list" (.ref a) H := .inl ⟨rfl, vs, .inl (.inl h)⟩
theorem tS_append {K : PySem.W.Frag} {i : Nat} {d : Den} (h : tS Z v0 (sAppend i d) D σ H) : tDrop (tBM K "list" rAppend (tVar i) (tCons (tE Z v0 d) tNil)) D σ H := by
  obtain ⟨env, F, O, r, so⟩ := h
  unfold sAppend at so
  by_cases ho : ownL (env.getD i .nul) = true
  · rw [if_pos ho] at so
    obtain ⟨xs0, hx0⟩ := ownL_some ho
    obtain ⟨v, hv, dr0⟩ := r.at_ i (by rw [hx0]; exact fun z => by cases z)
    rw [hx0] at dr0
    obtain ⟨a, vs0, fps0, rfl, _, hH0, _⟩ := dr0.own_inv
    refine ⟨.ref a, hv, tyV_list hH0, env, F, O, r, Oe.mono (Oe.bind (So.out (q := fun e => ∀ σ' F' H' O', Stp F H (OS O) F' H' (OS O') → SR Z.g v0 F' H' σ' e O' → D.nx σ' H') so fun e k => k)) fun q k y F' H' O' fp n => ?_⟩
    obtain ⟨d', e'⟩ := q
    cases hxs : e'.getD i .nul with
    | lst o xs =>
      cases o with
      | false => simp only [hxs] at k; exact k.elim
      | true =>
        simp only [hxs] at k
        by_cases hz : xs.length < sizeMax
        · rw [if_pos hz] at k
          obtain ⟨v', hv', dr⟩ := n.sr.at_ i (by rw [hxs]; exact fun z => by cases z)
          rw [hv] at hv'; cases hv'
          rw [hxs] at dr
          obtain ⟨_, vs, fps, e1, hO, hH, ds⟩ := dr.own_inv
          cases e1
          have hfp : ∀ x ∈ fp, ∃ o, H' x = some o := n.dr.there
          have hsep : ∀ x ∈ fp, x ∉ O' i := fun x hx z => n.dj x hx ⟨i, z⟩
          have w := n.sr.write (vs' := vs ++ [y]) (ds' := xs ++ [d']) (fps' := fps ++ [fp]) hxs hv hO hH ?_ ?_ ?_ ?_
          · refine ⟨a, vs, y, rfl, rfl, hH, by rw [ds.1, ← sizeMax_eq]; exact hz, ?_⟩
            refine (show ∀ σ' F2 H2 O2, Stp F H (OS O) F2 H2 (OS O2) → SR Z.g v0 F2 H2 σ' (e'.set i (.lst true (xs ++ [d']))) O2 → D.nx σ' H2 from k) σ F' _ _ (n.st.trans (stp_write n.sr.sub (.inl ⟨i, by rw [hO]; exact List.mem_cons_self⟩) (n.sr.hid i a (by rw [hO]; exact List.mem_cons_self)) fun b hb => .inl ?_)) w
            rcases OS_set hb with hb | hb
            · exact .inl hb
            · rcases List.mem_cons.mp hb with rfl | hb
              · exact .inl ⟨i, by rw [hO]; exact List.mem_cons_self⟩
              · rw [List.flatten_append, List.mem_append] at hb
                rcases hb with hb | hb
                · exact .inl ⟨i, by rw [hO]; exact List.mem_cons_of_mem _ hb⟩
                · exact .inr (by simpa using hb)
          · refine ⟨by simp [ds.1], by simp [ds.2.1], fun j v d f h1 h2 h3 => ?_⟩
            have l1 := ds.1
            have l2 := ds.2.1
            by_cases hj : j < xs.length
            · rw [List.getElem?_append_left (by omega)] at h1 h2 h3
              exact ds.2.2 j v d f h1 h2 h3
            · have : j = xs.length := by
                have := (List.getElem?_eq_some_iff.mp h2).1
                simp at this; omega
              subst this
              rw [List.getElem?_append_right (by omega)] at h1 h2 h3
              simp [l1, l2] at h1 h2 h3
              subst h1 h2 h3
              exact n.dr
          · have nd := n.sr.nd i
            rw [hO] at nd
            have : (fps ++ [fp]).flatten = fps.flatten ++ fp := by simp
            rw [this, ← List.cons_append, List.nodup_append]
            exact ⟨nd, n.nd, fun x hx b hb e => hsep b hb (by rw [hO, ← e]; exact hx)⟩
          · intro x hx
            rw [List.flatten_append, List.mem_append] at hx
            rcases hx with hx | hx
            · exact n.sr.hid i x (by rw [hO]; exact List.mem_cons_of_mem _ hx)
            · exact n.hid x (by simpa using hx)
          · intro x hx j hj z
            rw [List.flatten_append, List.mem_append] at hx
            rcases hx with hx | hx
            · exact hj (n.sr.dj j i x z (by rw [hO]; exact List.mem_cons_of_mem _ hx))
            · exact n.dj x (by simpa using hx) ⟨j, z⟩
        · rw [if_neg hz] at k; exact k.elim
    | _ => simp only [hxs] at k; exact k.elim
  · rw [if_neg ho] at so; exact so.elim
end
end Z
end

section
set_option Elab.async false
set_option linter.all false
set_option maxRecDepth 100000
set_option maxHeartbeats 4000000
/-! ZP: extend, pop, targets. -/
namespace Z
open PySem L2 PyProof.Rows
section
variable {Z : Ct} {v0 : Option V} {F H F' H' : Hp} {P P' : Addr → Prop} {σ : L2.St} {B : Ends}
theorem DRs.append {g : Gb} {vs us : List V} {ds es : List D} {fps gps : List (List Addr)} (r : DRs g F H vs ds fps) (s : DRs g F H us es gps) : DRs g F H (vs ++ us) (ds ++ es) (fps ++ gps) := by
  obtain ⟨l1, l2, r⟩ := r
  obtain ⟨m1, m2, s⟩ := s
  refine ⟨by simp [l1, m1], by simp [l2, m2], fun j v d f h1 h2 h3 => ?_⟩
  by_cases hj : j < ds.length
  · rw [List.getElem?_append_left (by omega)] at h1 h2 h3
    exact r j v d f h1 h2 h3
  · rw [List.getElem?_append_right (by omega)] at h1 h2 h3
    rw [l1] at h1
    rw [l2] at h3
    exact s _ v d f h1 h2 h3
theorem tS_extend {K : PySem.W.Frag} {i : Nat} {d : Den} (h : tS Z v0 (sExtend i d) B σ H) : tDrop (tBM K "list" rExtend (tVar i) (tCons (tE Z v0 d) tNil)) B σ H := by
  obtain ⟨env, F, O, r, so⟩ := h
  unfold sExtend at so
  by_cases ho : ownL (env.getD i .nul) = true
  · rw [if_pos ho] at so
    obtain ⟨xs0, hx0⟩ := ownL_some ho
    obtain ⟨v, hv, dr0⟩ := r.at_ i (by rw [hx0]; exact fun z => by cases z)
    rw [hx0] at dr0
    obtain ⟨a, vs0, fps0, rfl, _, hH0, _⟩ := dr0.own_inv
    refine ⟨.ref a, hv, tyV_list hH0, env, F, O, r, Oe.mono (Oe.bind (So.out (q := fun e => ∀ σ' F' H' O', Stp F H (OS O) F' H' (OS O') → SR Z.g v0 F' H' σ' e O' → B.nx σ' H') so fun e k => k)) fun q k y F' H' O' fp n => ?_⟩
    obtain ⟨d', e'⟩ := q
    have key : ∀ xs ys, e'.getD i .nul = .lst true xs → d' = .lst true ys → xs.length + ys.length ≤ sizeMax → (∀ σ' F' H' O', Stp F H (OS O) F' H' (OS O') → SR Z.g v0 F' H' σ' (e'.set i (.lst true (xs ++ ys))) O' → B.nx σ' H') → rExtend (.ref a) [y] H' fun _ H1 => B.nx σ H1 := by
      intro xs ys hxs hd hz kk
      subst hd
      obtain ⟨v', hv', dr⟩ := n.sr.at_ i (by rw [hxs]; exact fun z => by cases z)
      rw [hv] at hv'; cases hv'
      rw [hxs] at dr
      obtain ⟨_, vs, fps, e1, hO, hH, ds⟩ := dr.own_inv
      cases e1
      obtain ⟨b, us, gps, rfl, hfp, hHb, es⟩ := DR.own_inv n.dr
      have hb : ∀ x ∈ gps.flatten, x ∈ fp := fun x hx => by rw [hfp]; exact List.mem_cons_of_mem _ hx
      have ndf : gps.flatten.Nodup := by have := n.nd; rw [hfp] at this; exact (List.nodup_cons.mp this).2
      have ef : (fps ++ gps).flatten = fps.flatten ++ gps.flatten := by simp
      have w := n.sr.write (vs' := vs ++ us) (ds' := xs ++ ys) (fps' := fps ++ gps) hxs hv hO hH (ds.append es) ?_ ?_ ?_
      · refine ⟨a, b, vs, us, rfl, rfl, hH, hHb, by rw [ds.1, es.1, ← sizeMax_eq]; exact hz, ?_⟩
        refine kk σ F' _ _ (n.st.trans (stp_write n.sr.sub (.inl ⟨i, by rw [hO]; exact List.mem_cons_self⟩) (n.sr.hid i a (by rw [hO]; exact List.mem_cons_self)) fun c hc => .inl ?_)) w
        rcases OS_set hc with hc | hc
        · exact .inl hc
        · rcases List.mem_cons.mp hc with rfl | hc
          · exact .inl ⟨i, by rw [hO]; exact List.mem_cons_self⟩
          · rw [ef, List.mem_append] at hc
            rcases hc with hc | hc
            · exact .inl ⟨i, by rw [hO]; exact List.mem_cons_of_mem _ hc⟩
            · exact .inr (hb c hc)
      · have nd := n.sr.nd i
        rw [hO] at nd
        rw [ef, ← List.cons_append, List.nodup_append]
        exact ⟨nd, ndf, fun x hx c hc e => n.dj c (hb c hc) ⟨i, by rw [hO, ← e]; exact hx⟩⟩
      · intro x hx
        rw [ef, List.mem_append] at hx
        rcases hx with hx | hx
        · exact n.sr.hid i x (by rw [hO]; exact List.mem_cons_of_mem _ hx)
        · exact n.hid x (hb x hx)
      · intro x hx j hj z
        rw [ef, List.mem_append] at hx
        rcases hx with hx | hx
        · exact hj (n.sr.dj j i x z (by rw [hO]; exact List.mem_cons_of_mem _ hx))
        · exact n.dj x (hb x hx) ⟨j, z⟩
    have k : Oe Z F H (OS O) σ (match e'.getD i .nul, d' with
      | .lst true xs, .lst true ys => if xs.length + ys.length ≤ sizeMax then .ok (e'.set i (.lst true (xs ++ ys))) else .bad
      | _, _ => .bad) fun e => ∀ σ' F' H' O', Stp F H (OS O) F' H' (OS O') → SR Z.g v0 F' H' σ' e O' → B.nx σ' H' := k
    split at k
    · rename_i xs ys h1 h2
      by_cases hz : xs.length + ys.length ≤ sizeMax
      · rw [if_pos hz] at k
        exact key xs ys h1 rfl hz k
      · rw [if_neg hz] at k; exact k.elim
    · exact k.elim
  · rw [if_neg ho] at so; exact so.elim
theorem tE_pop {K : PySem.W.Frag} {i : Nat} {Q : VK} (h : tE Z v0 (ePop i) σ H Q) : tBM0 K "list" rPop (tVar i) σ H Q := by
  obtain ⟨env, F, O, r, oc⟩ := h
  unfold ePop at oc
  split at oc
  · rename_i xs hxs
    cases hl : xs.getLast? with
    | none => rw [hl] at oc; exact oc.elim
    | some x =>
      rw [hl] at oc
      obtain ⟨v, hv, dr⟩ := r.at_ i (by rw [hxs]; exact fun z => by cases z)
      rw [hxs] at dr
      obtain ⟨a, vs, fps, rfl, hO, hH, ds⟩ := dr.own_inv
      obtain ⟨ys, rfl⟩ : ∃ ys, xs = ys ++ [x] := by
        obtain ⟨ys, e⟩ := List.getLast?_eq_some_iff.mp hl
        exact ⟨ys, e⟩
      have l1 := ds.1
      have l2 := ds.2.1
      simp only [List.length_append, List.length_singleton] at l1 l2
      obtain ⟨us, y, rfl⟩ : ∃ us y, vs = us ++ [y] := by
        cases e : vs.getLast? with
        | none => rw [List.getLast?_eq_none_iff] at e; rw [e] at l1; simp at l1
        | some y => obtain ⟨us, e⟩ := List.getLast?_eq_some_iff.mp e; exact ⟨us, y, e⟩
      obtain ⟨gps, f, rfl⟩ : ∃ gps f, fps = gps ++ [f] := by
        cases e : fps.getLast? with
        | none => rw [List.getLast?_eq_none_iff] at e; rw [e] at l2; simp at l2
        | some y => obtain ⟨us, e⟩ := List.getLast?_eq_some_iff.mp e; exact ⟨us, y, e⟩
      simp only [List.length_append, List.length_singleton] at l1 l2
      have m1 : us.length = ys.length := by omega
      have m2 : gps.length = ys.length := by omega
      have dx : DR Z.g F H y x f := ds.2.2 ys.length y x f (by rw [← m1]; simp) (by simp) (by rw [← m2]; simp)
      have dys : DRs Z.g F H us ys gps := ⟨m1, m2, fun j v d f h1 h2 h3 => by
        have hj := (List.getElem?_eq_some_iff.mp h2).1
        exact ds.2.2 j v d f (by rw [List.getElem?_append_left (by omega)]; exact h1) (by rw [List.getElem?_append_left (by omega)]; exact h2) (by rw [List.getElem?_append_left (by omega)]; exact h3)⟩
      have ef : (gps ++ [f]).flatten = gps.flatten ++ f := by simp
      rw [ef] at hO
      have nd := r.nd i
      rw [hO, ← List.cons_append, List.nodup_append] at nd
      have hd : (ys ++ [x]).dropLast = ys := by simp
      rw [hd] at oc
      refine ⟨.ref a, hv, tyV_list hH, a, us ++ [y], y, rfl, rfl, hH, by simp, ?_⟩
      have hdv : (us ++ [y]).dropLast = us := by simp
      rw [hdv]
      have hF : F a = none := r.hid i a (by rw [hO]; exact List.mem_cons_self)
      have hs : Stp F H (OS O) F (upd H a (.lst us)) (fun c => OS (setO O i (a :: gps.flatten)) c ∨ c ∈ f) := stp_write r.sub ⟨i, by rw [hO]; exact List.mem_cons_self⟩ hF fun c hc => .inl (by
        rcases hc with hc | hc
        · rcases OS_set hc with hc | hc
          · exact hc
          · exact ⟨i, by rw [hO, ← List.cons_append]; exact List.mem_append_left _ hc⟩
        · exact ⟨i, by rw [hO, ← List.cons_append]; exact List.mem_append_right _ hc⟩)
      refine (show ∀ v F' H' O' fp, Res Z v0 F H (OS O) σ F' H' (env.set i (.lst true ys)) O' v x fp → Q v H' from oc) y F _ (setO O i (a :: gps.flatten)) f ⟨hs, ?_, dx.mono (fun _ _ e => e) fun c hc => upd_ne fun z => ?_, fun c hc => r.hid i c (by rw [hO, ← List.cons_append]; exact List.mem_append_right _ hc), nd.2.1, fun c hc z => ?_⟩
      · refine r.write hxs hv (fps := gps ++ [f]) (by rw [ef]; exact hO) hH dys nd.1 (fun c hc => r.hid i c ?_) fun c hc j hj z => hj (r.dj j i c z ?_)
        · rw [hO, ← List.cons_append]; exact List.mem_append_left _ (List.mem_cons_of_mem _ hc)
        · rw [hO, ← List.cons_append]; exact List.mem_append_left _ (List.mem_cons_of_mem _ hc)
      · exact nd.2.2 a List.mem_cons_self c hc z.symm
      · obtain ⟨j, hj⟩ := z
        unfold setO at hj
        by_cases e1 : j = i
        · rw [if_pos e1] at hj; exact nd.2.2 c hj c hc rfl
        · rw [if_neg e1] at hj
          exact e1 (r.dj j i c hj (by rw [hO, ← List.cons_append]; exact List.mem_append_right _ hc))
  · exact oc.elim
end
end Z
end

section
set_option Elab.async false
set_option linter.all false
set_option maxRecDepth 100000
set_option maxHeartbeats 4000000
/-! ZQ: targets. -/
namespace Z
open PySem L2 PyProof.Rows
/-- what is asked, at any slots -/
def Oa {α : Type} (Z : Ct) (F H : Hp) (P : Addr → Prop) (x : Out α) (q : α → Prop) : Prop := match x with
  | .ok a => q a
  | .exc c fs => ∀ cls dd σ' F' H' P', Stp F H P F' H' P' → ExR Z.g Z.ea F' H' c fs cls dd → Z.W cls dd σ' H'
  | .bad => False
section
variable {Z : Ct} {v0 : Option V} {F H F' H' : Hp} {P P' : Addr → Prop} {σ : L2.St}
theorem Oa.oe {α : Type} {x : Out α} {q : α → Prop} (h : Oa Z F H P x q) : Oe Z F H P σ x q := by
  cases x with
  | ok a => exact h
  | exc c fs => exact fun cls dd F' H' P' s e => h cls dd σ F' H' P' s e
  | bad => exact h
theorem Oa.bind {α β : Type} {x : Out α} {f : α → Out β} {q : β → Prop} (h : Oa Z F H P (x.bind f) q) : Oa Z F H P x fun a => Oa Z F H P (f a) q := by
  cases x <;> exact h
theorem Oa.mono {α : Type} {x : Out α} {q q' : α → Prop} (h : Oa Z F H P x q) (i : ∀ a, q a → q' a) : Oa Z F H P x q' := by
  cases x with
  | ok a => exact i a h
  | exc c fs => exact h
  | bad => exact h
theorem Oa.later {α : Type} {x : Out α} {q q' : α → Prop} (n : Stp F H P F' H' P') (h : Oa Z F H P x q) (i : ∀ a, q a → q' a) : Oa Z F' H' P' x q' := by
  cases x with
  | ok a => exact i a h
  | exc c fs => exact fun cls dd σ' F2 H2 P2 n2 e => h cls dd σ' F2 H2 P2 (n.trans n2) e
  | bad => exact h
end
def gT (Z : Ct) (v0 : Option V) (t : Tgt) : TG := fun v σ H Q => ∃ env F O d fp, SR Z.g v0 F H σ env O ∧ DR Z.g F H v d fp ∧ (∀ a ∈ fp, F a = none) ∧ fp.Nodup ∧ (∀ a ∈ fp, ¬ OS O a) ∧
  Oa Z F H (fun a => OS O a ∨ a ∈ fp) (asg t Z.rt d env) fun env' => ∀ σ' F' H' O', Stp F H (fun a => OS O a ∨ a ∈ fp) F' H' (OS O') → SR Z.g v0 F' H' σ' env' O' → Q σ' H'
def gTs (Z : Ct) (v0 : Option V) (ts : List Tgt) : TGs := fun vs σ H Q => ∃ env F O ds, SR Z.g v0 F H σ env O ∧ vs.length = ds.length ∧ (∀ (i : Nat) v d, vs[i]? = some v → ds[i]? = some d → DR Z.g F H v d []) ∧
  Oa Z F H (OS O) (asgs ts Z.rt ds env) fun env' => ∀ σ' F' H' O', Stp F H (OS O) F' H' (OS O') → SR Z.g v0 F' H' σ' env' O' → Q σ' H'
theorem asgs_len : ∀ {ts : List Tgt} {rt : RT} {ds : List D} {env e : Env}, asgs ts rt ds env = .ok e → ds.length = ts.length
  | [], rt, ds, env, e, h => by cases ds <;> simp_all [asgs]
  | t :: ts, rt, [], env, e, h => by simp [asgs] at h
  | t :: ts, rt, d :: ds, env, e, h => by
    simp only [asgs] at h
    obtain ⟨e1, _, h⟩ := Out.bind_ok h
    simp [asgs_len h]
theorem flat_set {fps : List (List Addr)} {f : List Addr} {p : Nat} {x : Addr} (h : x ∈ (fps.set p f).flatten) : x ∈ fps.flatten ∨ x ∈ f := by
  obtain ⟨g, hg, hx⟩ := List.mem_flatten.mp h
  rcases List.mem_or_eq_of_mem_set hg with hg | hg
  · exact .inl (List.mem_flatten.mpr ⟨g, hg, hx⟩)
  · exact .inr (hg ▸ hx)
theorem nodup_set : ∀ {fps : List (List Addr)} {f : List Addr} (p : Nat), fps.flatten.Nodup → f.Nodup → (∀ x ∈ f, x ∉ fps.flatten) → (fps.set p f).flatten.Nodup
  | [], f, p, h1, h2, h3 => by simp
  | g :: fps, f, 0, h1, h2, h3 => by
    simp only [List.set_cons_zero, List.flatten_cons, List.nodup_append] at h1 ⊢
    exact ⟨h2, h1.2.1, fun x hx y hy e => h3 x hx (by rw [List.flatten_cons, List.mem_append]; exact .inr (e ▸ hy))⟩
  | g :: fps, f, p + 1, h1, h2, h3 => by
    simp only [List.set_cons_succ, List.flatten_cons, List.nodup_append] at h1 ⊢
    refine ⟨h1.1, nodup_set p h1.2.1 h2 (fun x hx z => h3 x hx (by rw [List.flatten_cons, List.mem_append]; exact .inr z)), fun x hx y hy e => ?_⟩
    rcases flat_set hy with hy | hy
    · exact h1.2.2 x hx y hy e
    · exact h3 y hy (by rw [List.flatten_cons, List.mem_append]; exact .inl (e ▸ hx))
section
variable {X : Cx} {C : CC} {Z : Ct} {k : Nat} {v0 : Option V}
theorem tg_ok : ∀ n, (∀ e p, cTg n C e = some p → okT e = true) ∧ ∀ es ps, cTgs n C es = some ps → es.length = ps.length ∧ es.all okT = true
  | 0 => ⟨fun e p h => (nomatch h), fun es ps h => (nomatch h)⟩
  | n + 1 => by
    obtain ⟨i1, i2⟩ := tg_ok n
    refine ⟨fun e p h => ?_, fun es ps h => ?_⟩
    · cases e <;> first | rfl | (cases h)
    · cases es with
      | nil => cases h; exact ⟨rfl, rfl⟩
      | cons e es =>
        simp only [cTgs] at h
        cases e1 : cTg n C e with
        | none => rw [e1] at h; cases h
        | some p =>
          cases e2 : cTgs n C es with
          | none => rw [e1, e2] at h; cases h
          | some ps' =>
            rw [e1, e2] at h; cases h
            obtain ⟨k1, k2⟩ := i2 es ps' e2
            refine ⟨by simp [k1], ?_⟩
            rw [List.all_cons, i1 e p e1, k2]; rfl
theorem gT_ix {i : Nat} {p : PDen} {v : V} {σ : L2.St} {H : Hp} {Q : L2.St → Hp → Prop} (h : gT Z v0 (.ix i p) v σ H Q) : gSub (tVar i) (tP Z p) rSetL v σ H Q := by
  obtain ⟨env, F, O, d, fp, sr, dr, hid, nd, dj, oc⟩ := h
  simp only [asg] at oc
  by_cases ho : ownL (env.getD i .nul) = true
  · rw [if_pos ho] at oc
    obtain ⟨xs, hxs⟩ := ownL_some ho
    obtain ⟨w, hw, dr0⟩ := sr.at_ i (by rw [hxs]; exact fun z => by cases z)
    have dr0' := dr0
    rw [hxs] at dr0
    obtain ⟨a, vs, fps, rfl, hO, hH, ds⟩ := dr0.own_inv
    refine ⟨.ref a, hw, env, F, sr.vr, ?_⟩
    refine Oc.mono (Oe.oc (P := fun a => OS O a ∨ a ∈ fp) (Oa.oe (Oa.bind oc))) fun kd oc y F1 H1 fk n => ?_
    have oc : Oa Z F H (fun a => OS O a ∨ a ∈ fp) ((ofO (setAt (env.getD i .nul) kd d)).bind fun c => .ok (env.set i c)) fun env' => ∀ σ' F' H' O', Stp F H (fun a => OS O a ∨ a ∈ fp) F' H' (OS O') → SR Z.g v0 F' H' σ' env' O' → Q σ' H' := oc
    rw [hxs] at oc
    cases kd with
    | int j =>
      cases n.dr.is_int
      simp only [setAt] at oc
      cases hp : place xs.length j with
      | none => rw [hp] at oc; exact oc.elim
      | some q =>
        rw [hp] at oc
        have oc : ∀ σ' F' H' O', Stp F H (fun a => OS O a ∨ a ∈ fp) F' H' (OS O') → SR Z.g v0 F' H' σ' (env.set i (.lst true (xs.set q d))) O' → Q σ' H' := oc
        have r1 := sr.later n.nw
        have d1 := dr.later n.nw
        have ds1 := ds.later n.nw
        have hH1 : H1 a = some (.lst vs) := n.nw.ext a _ hH
        have hid1 : ∀ x ∈ fp, F1 x = none := fun x hx => n.nw.hidden (hid x hx) (dr.there x hx)
        refine ⟨a, vs, j, q, rfl, rfl, hH1, by rw [← place_ixN, ds.1]; exact hp, ?_⟩
        have nd0 := sr.nd i
        rw [hO] at nd0
        have nd0' := List.nodup_cons.mp nd0
        have nfp : ∀ x ∈ fp, x ∉ a :: fps.flatten := fun x hx z => dj x hx ⟨i, by rw [hO]; exact z⟩
        have w := r1.write (vs' := vs.set q v) (ds' := xs.set q d) (fps' := fps.set q fp) hxs hw hO hH1 ⟨by simp [ds.1], by simp [ds.2.1], fun m v' d' f' h1 h2 h3 => ?_⟩ ?_ ?_ ?_
        · refine oc σ F1 _ _ ((n.nw.stp _).trans (stp_write n.nw.sub (.inl ⟨i, by rw [hO]; exact List.mem_cons_self⟩) (r1.hid i a (by rw [hO]; exact List.mem_cons_self)) fun c hc => .inl ?_)) w
          rcases OS_set hc with hc | hc
          · exact .inl hc
          · rcases List.mem_cons.mp hc with rfl | hc
            · exact .inl ⟨i, by rw [hO]; exact List.mem_cons_self⟩
            · rcases flat_set hc with hc | hc
              · exact .inl ⟨i, by rw [hO]; exact List.mem_cons_of_mem _ hc⟩
              · exact .inr hc
        · by_cases e : m = q
          · subst e
            have l1 := ds.1
            have l2 := ds.2.1
            have hm : m < xs.length := by
              have := (List.getElem?_eq_some_iff.mp h2).1
              simpa using this
            rw [List.getElem?_set] at h1 h2 h3
            simp [hm, show m < vs.length by omega, show m < fps.length by omega] at h1 h2 h3
            subst h1 h2 h3
            exact d1
          · rw [List.getElem?_set_ne (Ne.symm e)] at h1 h2 h3
            exact ds1.2.2 m v' d' f' h1 h2 h3
        · refine List.nodup_cons.mpr ⟨fun z => ?_, nodup_set q nd0'.2 nd fun x hx z => nfp x hx (List.mem_cons_of_mem _ z)⟩
          rcases flat_set z with z | z
          · exact nd0'.1 z
          · exact nfp a z List.mem_cons_self
        · intro x hx
          rcases flat_set hx with hx | hx
          · exact r1.hid i x (by rw [hO]; exact List.mem_cons_of_mem _ hx)
          · exact hid1 x hx
        · intro x hx j hj z
          rcases flat_set hx with hx | hx
          · exact hj (sr.dj j i x z (by rw [hO]; exact List.mem_cons_of_mem _ hx))
          · exact dj x hx ⟨j, z⟩
    | _ => exact oc.elim
  · rw [if_neg ho] at oc; exact oc.elim
theorem asg_sub {o i : Expr} {pos : Pos} {env : PySem.Env} (h : okE i = true) : ∀ v, assign (.Subscript o i pos) env v = (do
    let ov ← holding [v] (eval o env)
    let iv ← holding [v, ov] (eval i env)
    standAt pos
    holding [v, ov, iv] (setItem ov iv v)
    release [v, ov, iv] []) := fun v => by
  cases i <;> first | (simp [okE] at h; done) | rfl
theorem pg_tgt (G : GX X C Z k) (hz : C.io = false → v0 = none) : ∀ n, (∀ e p, cTg n C e = some p → PG X e (gT Z v0 p)) ∧ ∀ es ps, cTgs n C es = some ps → PGs X es (gTs Z v0 ps)
  | 0 => ⟨fun e p h => (nomatch h), fun es ps h => (nomatch h)⟩
  | n + 1 => by
    obtain ⟨i1, i2⟩ := pg_tgt G hz n
    refine ⟨fun e p h => ?_, fun es ps h => ?_⟩
    · cases e with
      | Name x pos =>
        simp only [cTg] at h
        cases e1 : C.slotS x with
        | none => rw [e1] at h; cases h
        | some i =>
          rw [e1] at h
          simp only at h
          by_cases z : (C.io && i == 0) = true
          · rw [if_pos z] at h; cases h
          · rw [if_neg z] at h; cases h
            obtain ⟨_, hN, hl⟩ := slotS_some e1
            have hx : L2.Loc X.env.scope x := by
              unfold L2.Loc; rw [G.sc]
              rcases hl with q | q
              · exact .inl q
              · exact .inr q.1
            have hf : X.fn x = true ∨ X.env.scope.names.lookup x = some .local := by
              rcases hl with q | q
              · exact .inr (by rw [G.sc]; exact q)
              · exact .inl (G.fn x q.2)
            refine PG.imp (pg_name G.nd (by rw [G.N]; exact hN) hx hf) fun v σ H Q h => ?_
            obtain ⟨env, F, O, d, fp, sr, dr, hid, nd, dj, oc⟩ := h
            have oc : ∀ σ' F' H' O', Stp F H (fun a => OS O a ∨ a ∈ fp) F' H' (OS O') → SR Z.g v0 F' H' σ' (env.set i d) O' → Q σ' H' := oc
            refine oc _ F H _ ((Stp.refl sr.sub).less fun a ha => ?_) (sr.set dr hid nd (fun a ha j _ z => dj a ha ⟨j, z⟩) fun w hw e => ?_)
            · rcases OS_set ha with ha | ha
              · exact .inl ha
              · by_cases hl : i < env.length
                · rw [if_pos hl] at ha; exact .inr ha
                · rw [if_neg hl] at ha; cases ha
            · exfalso
              cases hio : C.io with
              | false => rw [hz hio] at hw; cases hw
              | true => rw [hio, e] at z; exact z rfl
      | Tuple es kk pos =>
        simp only [cTg] at h
        obtain ⟨ps, e1, rfl⟩ := Option.map_eq_some_iff.mp h
        obtain ⟨l1, l2⟩ := (tg_ok n).2 es ps e1
        refine PG.imp (pg_tup G.calm (i2 es ps e1) (asgE_len _) (asgE_no l2 _)) fun v σ H Q h => ?_
        obtain ⟨env, F, O, d, fp, sr, dr, hid, nd, dj, oc⟩ := h
        cases d <;> first | exact oc.elim | skip
        rename_i ds
        obtain ⟨a, vs, rfl, h1, l3, h3, rfl⟩ := dr.tup_inv
        have oc : Oa Z F H (fun a => OS O a ∨ a ∈ []) (if ds.length = ps.length then asgs ps Z.rt ds env else .bad) fun env' => ∀ σ' F' H' O', Stp F H (fun a => OS O a ∨ a ∈ []) F' H' (OS O') → SR Z.g v0 F' H' σ' env' O' → Q σ' H' := oc
        have hl : ds.length = ps.length := by
          by_cases hl : ds.length = ps.length
          · exact hl
          · rw [if_neg hl] at oc; exact oc.elim
        rw [if_pos hl] at oc
        have s0 : Stp F H (fun a => OS O a ∨ a ∈ []) F H (OS O) := (Stp.refl sr.sub).less fun a h => .inl h
        have s1 : Stp F H (OS O) F H (fun a => OS O a ∨ a ∈ []) := (Stp.refl sr.sub).less fun a h => h.elim id fun z => (nomatch z)
        exact ⟨a, vs, rfl, by rw [← G.K]; exact sqT_mono sr.sub h1, by rw [l3, hl, l1], env, F, O, ds, sr, l3, h3, Oa.later s0 oc fun e k σ' F' H' O' s r => k σ' F' H' O' (s0.trans s) r⟩
      | Subscript o a pos =>
        simp only [cTg] at h
        cases o with
        | Name x px =>
          simp only at h
          cases e1 : C.slot x with
          | none => rw [e1] at h; cases h
          | some i =>
            cases e2 : cP 100 C a with
            | none => rw [e1, e2] at h; cases h
            | some u =>
              rw [e1, e2] at h; cases h
              obtain ⟨s1, s2, s3⟩ := slot_some e1
              obtain ⟨k1, k2, k3⟩ := okN_some s1
              obtain ⟨v1, v2⟩ := G.vis e1
              exact PG.imp (pg_sub (pe_var v1 v2 k1 k2) ((pureOk 100).P G a u e2).1 set_list (asg_sub (cP_okE e2))) fun v σ H Q h => gT_ix h
        | _ => cases h
      | _ => cases h
    · cases es with
      | nil =>
        cases h
        refine PGs.imp pgs_nil fun vs σ H Q h => ?_
        obtain ⟨env, F, O, ds, sr, l, dr, oc⟩ := h
        cases ds with
        | nil => exact ⟨List.length_eq_zero_iff.mp (by simpa using l), oc σ F H O (Stp.refl sr.sub) sr⟩
        | cons d ds => exact oc.elim
      | cons e es =>
        simp only [cTgs] at h
        cases e1 : cTg n C e with
        | none => rw [e1] at h; cases h
        | some p =>
          cases e2 : cTgs n C es with
          | none => rw [e1, e2] at h; cases h
          | some ps' =>
            rw [e1, e2] at h; cases h
            have ok := (tg_ok n).1 e p e1
            refine PGs.imp (pgs_cons (i1 e p e1) (i2 es ps' e2) (by rw [asgE_cons ok]; rfl)) fun vs σ H Q h => ?_
            obtain ⟨env, F, O, ds, sr, l, dr, oc⟩ := h
            cases ds with
            | nil => exact oc.elim
            | cons d ds =>
              cases vs with
              | nil => simp at l
              | cons v vs =>
                simp only [asgs] at oc
                have s0 : Stp F H (OS O) F H (fun a => OS O a ∨ a ∈ []) := (Stp.refl sr.sub).less fun a h => h.elim id fun z => (nomatch z)
                refine ⟨v, vs, rfl, env, F, O, d, [], sr, dr 0 v d rfl rfl, fun _ h => (nomatch h), List.nodup_nil, fun _ h => (nomatch h), Oa.later s0 (Oa.bind oc) fun en oc σ' F' H' O' s r => ⟨en, F', O', ds, r, by simpa using l, fun i v d a b => ?_, Oa.later (s0.trans s) oc fun e k σ2 F2 H2 O2 s2 r2 => k σ2 F2 H2 O2 ((s0.trans s).trans s2) r2⟩⟩
                exact (dr (i + 1) v d (by simpa using a) (by simpa using b)).stp s fun _ h => (nomatch h)
end
end Z
end

section
set_option Elab.async false
set_option linter.all false
set_option maxRecDepth 100000
set_option maxHeartbeats 4000000
/-! ZR: loops. -/
namespace Z
open PySem L2 PyProof.Rows
/-- all that is shared in F1 is shared now -/
def Fx (F1 : Hp) : Hp → Hp → Prop := fun F2 H2 => (∀ a o, F1 a = some o → F2 a = some o) ∧ ∀ a o, F2 a = some o → H2 a = some o
def tEI (Z : Ct) (v0 : Option V) (I : EItr) : TI := fun σ H R => ∃ env F O, SR Z.g v0 F H σ env O ∧ Oe Z F H (OS O) σ (I.run Z.rt env) fun r => ∀ J F' H' O', Stp F H (OS O) F' H' (OS O') → SR Z.g v0 F' H' σ r.2 O' → Wk Z.g (Fx F') J r.1 → R J H'
section
variable {Z : Ct} {v0 : Option V} {σ : L2.St} {H : Hp} {B : Ends}
theorem tS_for {t : Tgt} {I : EItr} {b : SDen} (h : tS Z v0 (sFor t I b) B σ H) : tFor (tEI Z v0 I) (gT Z v0 t) (tS Z v0 b) B σ H := by
  obtain ⟨env, F, O, r, so⟩ := h
  unfold sFor at so
  refine ⟨env, F, O, r, ?_⟩
  cases ex : I.run Z.rt env with
  | exc c fs => rw [ex] at so; exact fun cls dd F' H' P' s e => so cls dd σ F' H' P' s e
  | bad => rw [ex] at so; exact so.elim
  | ok q =>
    obtain ⟨xs, env1⟩ := q
    rw [ex] at so
    have so : So Z v0 F H (OS O) (forL t b Z.rt xs env1) B := so
    have hfr : allFrz xs = true := by
      unfold EItr.run at ex
      obtain ⟨q, _, h2⟩ := Out.bind_ok ex
      cases e1 : I.f q.1 with
      | none => simp only [e1] at h2; cases h2
      | some ys =>
        simp only [e1] at h2
        by_cases z : ys.length ≤ sizeMax ∧ allFrz ys = true
        · rw [if_pos z] at h2; cases h2; exact z.2
        · rw [if_neg z] at h2; cases h2
    intro J F1 H1 O1 s1 r1 wk
    refine ⟨fun i m σ H => m = xs.length - i ∧ i ≤ xs.length ∧ ∃ env F2 O2, SR Z.g v0 F2 H σ env O2 ∧ (∀ a o, F1 a = some o → F2 a = some o) ∧ So Z v0 F2 H (OS O2) (forL t b Z.rt (xs.drop i) env) B,
      ⟨_, rfl, Nat.zero_le _, env1, F1, O1, r1, fun _ _ e => e, So.later s1 so⟩, ?_⟩
    rintro i m σ2 H2 ⟨rfl, hi, env2, F2, O2, r2, fx, so2⟩
    obtain ⟨w1, w2⟩ := wk F2 H2 ⟨fx, r2.sub⟩ i
    rcases Nat.lt_or_ge i xs.length with hlt | hge
    · right
      obtain ⟨go, yl⟩ := w1 xs[i] (List.getElem?_eq_getElem hlt)
      rw [List.drop_eq_getElem_cons hlt] at so2
      unfold forL at so2
      refine ⟨go, fun σ H => ∃ env F2 O2, SR Z.g v0 F2 H σ env O2 ∧ (∀ a o, F1 a = some o → F2 a = some o) ∧ So Z v0 F2 H (OS O2) (forL t b Z.rt (xs.drop (i + 1)) env) B, fun σ' H' q => ⟨_, by omega, rfl, hlt, q⟩, fun x H3 y => ?_⟩
      obtain ⟨F3, fp, nw3, dr⟩ := yl x H3 y
      have fz : isFrz xs[i] = true := all_frz hfr (List.getElem?_eq_getElem hlt)
      have dr := dr.frz (F' := F3) (H' := H3) (fun _ _ e => e) fz
      have s3 : Stp F2 H2 (OS O2) F3 H3 (fun a => OS O2 a ∨ a ∈ []) := (nw3.stp (OS O2)).less fun a h => h.elim id fun z => (nomatch z)
      refine ⟨env2, F3, O2, xs[i], [], r2.later nw3, dr, fun _ h => (nomatch h), List.nodup_nil, fun _ h => (nomatch h), ?_⟩
      cases ea : asg t Z.rt xs[i] env2 with
      | bad => rw [ea] at so2; exact so2.elim
      | exc c fs => rw [ea] at so2; exact fun cls dd σ' F' H' P' s e => so2 cls dd σ' F' H' P' (s3.trans s) e
      | ok e =>
        rw [ea] at so2
        intro σ4 F4 H4 O4 s4 r4
        have s24 : Stp F2 H2 (OS O2) F4 H4 (OS O4) := s3.trans s4
        refine ⟨e, F4, O4, r4, ?_⟩
        cases eb : b Z.rt e with
        | next e2 =>
          simp only [eb] at so2
          exact fun σ' F5 H5 O5 s5 r5 => ⟨e2, F5, O5, r5, fun a o z => s5.fl a o (s24.fl a o (fx a o z)), So.later (s24.trans s5) so2⟩
        | ret d e2 => simp only [eb] at so2; exact So.later s24 so2
        | exc c fs => simp only [eb] at so2; exact So.later s24 so2
        | bad => simp only [eb] at so2; exact so2.elim
    · left
      rw [List.drop_eq_nil_of_le hge] at so2
      exact ⟨w2 hge, so2 σ2 F2 H2 O2 (Stp.refl r2.sub) r2⟩
theorem tS_while {t : Den} {b : SDen} (h : tS Z v0 (sWhile t b) B σ H) : tWhile (tBE Z v0 t) (tS Z v0 b) B σ H := by
  obtain ⟨env, F, O, r, so⟩ := h
  unfold sWhile at so
  refine ⟨fun m σ H => ∃ env F O, SR Z.g v0 F H σ env O ∧ So Z v0 F H (OS O) (whileL t b Z.rt m env) B, ⟨Z.rt.W, env, F, O, r, so⟩, ?_⟩
  rintro m σ2 H2 ⟨env2, F2, O2, r2, so2⟩
  cases m with
  | zero => exact so2.elim
  | succ m =>
    unfold whileL at so2
    refine ⟨env2, F2, O2, r2, ?_⟩
    cases e : t Z.rt env2 with
    | exc c fs => rw [e] at so2; exact fun cls dd F' H' P' s ex => so2 cls dd σ2 F' H' P' s ex
    | bad => rw [e] at so2; exact so2.elim
    | ok q =>
      obtain ⟨d, e1⟩ := q
      rw [e] at so2
      cases d <;> first | exact so2.elim | skip
      rename_i c
      intro F3 H3 O3 s3 r3
      cases c with
      | false =>
        refine (if_neg Bool.false_ne_true).mpr ?_
        exact so2 σ2 F3 H3 O3 s3 r3
      | true =>
        refine (if_pos rfl).mpr ?_
        refine ⟨fun σ H => ∃ env F O, SR Z.g v0 F H σ env O ∧ So Z v0 F H (OS O) (whileL t b Z.rt m env) B, fun σ' H' q => ⟨m, by omega, q⟩, e1, F3, O3, r3, ?_⟩
        have so2 : So Z v0 F2 H2 (OS O2) (match b Z.rt e1 with
          | .next e => whileL t b Z.rt m e
          | o => o) B := so2
        cases eb : b Z.rt e1 with
        | next e2 =>
          simp only [eb] at so2
          exact fun σ' F5 H5 O5 s5 r5 => ⟨e2, F5, O5, r5, So.later (s3.trans s5) so2⟩
        | ret d e2 => simp only [eb] at so2; exact So.later s3 so2
        | exc c fs => simp only [eb] at so2; exact So.later s3 so2
        | bad => simp only [eb] at so2; exact so2.elim
end
end Z
end

section
set_option Elab.async false
set_option linter.all false
set_option maxRecDepth 100000
set_option maxHeartbeats 4000000
/-! ZS: assignments, walks with effects. -/
namespace Z
open PySem L2 PyProof.Rows
section
variable {Z : Ct} {v0 : Option V} {σ : L2.St} {H : Hp} {B : Ends}
theorem So.oa {F H : Hp} {P : Addr → Prop} {x : Out Env} (h : So Z v0 F H P (sOut x) B) : Oa Z F H P x fun e => ∀ σ' F' H' O', Stp F H P F' H' (OS O') → SR Z.g v0 F' H' σ' e O' → B.nx σ' H' := by
  cases x with
  | ok e => exact h
  | exc c fs => exact h
  | bad => exact h
theorem tS_asg {t : Tgt} {d : Den} (h : tS Z v0 (sAsg t d) B σ H) : tAsg (tE Z v0 d) (gT Z v0 t) B σ H := by
  obtain ⟨env, F, O, r, so⟩ := h
  refine ⟨env, F, O, r, Oe.mono (Oa.oe (Oa.bind (So.oa so))) fun q k v F' H' O' fp n => ?_⟩
  exact ⟨q.2, F', O', q.1, fp, n.sr, n.dr, n.hid, n.nd, n.dj, Oa.later n.st k fun e w σ' F2 H2 O2 s r2 => w σ' F2 H2 O2 (n.st.trans s) r2⟩
/-- a name's own int, changed -/
theorem tS_aug {i : Nat} {f : D → D → Option D} {p : PDen} {g : Int → Int → Int} (hz : v0 = none ∨ i ≠ 0) (hf : ∀ x y z, f x y = some z → ∃ a b, x = .int a ∧ y = .int b ∧ z = .int (g a b)) (h : tS Z v0 (sAug i (o2 f) p) B σ H) : tAug i (tV Z p) (ipI g) B σ H := by
  obtain ⟨env, F, O, r, so⟩ := h
  have oa := Oa.bind (So.oa so)
  simp only [pAll] at oa
  have oa := Oa.bind oa
  by_cases hn : env.getD i .nul = .nul
  · exfalso
    have : pSee i Z.rt env = .bad := by unfold pSee; rw [hn]
    rw [this] at oa; exact oa
  · have e0 : pSee i Z.rt env = .ok (env.getD i .nul) := by
      unfold pSee
      revert hn
      generalize env.getD i .nul = d
      intro hn
      cases d <;> first | exact absurd rfl hn | rfl
    rw [e0] at oa
    obtain ⟨v, hv, dr⟩ := r.at_ i hn
    have oa := Oa.bind (show Oa Z F H (OS O) ((((p Z.rt env).bind fun d => (Out.ok []).bind fun ds => Out.ok (d :: ds))).bind fun ds => Out.ok (env.getD i .nul :: ds)) _ from oa)
    refine ⟨v, hv, env, F, r.vr, Oc.mono (Oe.oc (P := OS O) (Oa.oe (Oa.bind oa))) fun d oc w F1 H1 fp n => ?_⟩
    have oc : Oa Z F H (OS O) ((opt (f (env.getD i .nul) d)).bind fun d => .ok (env.set i d)) fun e => ∀ σ' F' H' O', Stp F H (OS O) F' H' (OS O') → SR Z.g v0 F' H' σ' e O' → B.nx σ' H' := oc
    cases q : f (env.getD i .nul) d with
    | none => rw [q] at oc; exact oc.elim
    | some z =>
      rw [q] at oc
      obtain ⟨a, b, e1, e2, e3⟩ := hf _ _ _ q
      subst e2 e3
      rw [e1] at dr
      cases dr.is_int
      cases n.dr.is_int
      refine ⟨a, b, rfl, rfl, ?_⟩
      have r1 := r.later n.nw
      have r2 := r1.set (i := i) (v := .int (g a b)) (.int (g a b)) (fun _ h => (nomatch h)) List.nodup_nil (fun _ h => (nomatch h)) fun w hw e => by
        rcases hz with z | z
        · rw [z] at hw; cases hw
        · exact absurd e z
      refine (show ∀ σ' F' H' O', Stp F H (OS O) F' H' (OS O') → SR Z.g v0 F' H' σ' (env.set i (.int (g a b))) O' → B.nx σ' H' from oc) _ F1 H1 _ ((n.nw.stp (OS O)).less fun x hx => ?_) r2
      rcases OS_set hx with hx | hx
      · exact hx
      · split at hx <;> cases hx
end
/-! ### what is walked -/
section
variable {Z : Ct} {v0 : Option V} {σ : L2.St} {H : Hp} {R : It → Hp → Prop} {ds : List Den}
theorem tEI_at {f : List D → Option (List D)} (h : tEI Z v0 ⟨f, ds⟩ σ H R) : tEA Z v0 ds σ H fun vs H' => ∃ F2 xs ys, (∀ a o, F2 a = some o → H' a = some o) ∧ vs.length = xs.length ∧ (∀ (i : Nat) v d, vs[i]? = some v → xs[i]? = some d → DR Z.g F2 H' v d []) ∧ f xs = some ys ∧ ys.length ≤ sizeMax ∧ ∀ J, Wk Z.g (Fx F2) J ys → R J H' := by
  obtain ⟨env, F, O, sr, oc⟩ := h
  unfold EItr.run at oc
  have oc := Oe.bind oc
  unfold eAllF at oc
  refine ⟨env, F, O, sr, Oe.mono (Oe.bind oc) fun q oc vs F' H' O' fps n => ?_⟩
  obtain ⟨F2, s2, r2, d2⟩ := n.fz
  have oc : Oe Z F H (OS O) σ (match f (freezes q.1) with
    | some xs => if xs.length ≤ sizeMax ∧ allFrz xs = true then Out.ok (xs, q.2) else .bad
    | none => .bad) fun r => ∀ J F' H' O', Stp F H (OS O) F' H' (OS O') → SR Z.g v0 F' H' σ r.2 O' → Wk Z.g (Fx F') J r.1 → R J H' := oc
  cases e : f (freezes q.1) with
  | none => simp only [e] at oc; exact oc.elim
  | some ys =>
    simp only [e] at oc
    by_cases z : ys.length ≤ sizeMax ∧ allFrz ys = true
    · rw [if_pos z] at oc
      exact ⟨F2, freezes q.1, ys, r2.sub, by rw [freezes_length]; exact n.dr.1, d2, e, z.1, fun J w => (show ∀ J F' H' O', Stp F H (OS O) F' H' (OS O') → SR Z.g v0 F' H' σ q.2 O' → Wk Z.g (Fx F') J ys → R J H' from oc) J F2 H' O' s2 r2 w⟩
    · rw [if_neg z] at oc; exact oc.elim
theorem DR.fx {g : Gb} {F H F2 H2 : Hp} {v : V} {d : D} (r : DR g F H v d []) (p : Fx F F2 H2) : DR g F2 H2 v d [] := r.mono p.1 fun _ h => (nomatch h)
theorem one_at {g : Gb} {F H : Hp} {vs : List V} {xs : List D} {d : D} (l : vs.length = xs.length) (h : ∀ (i : Nat) v d, vs[i]? = some v → xs[i]? = some d → DR g F H v d []) (e : xs = [d]) : ∃ v, vs = [v] ∧ DR g F H v d [] := by
  subst e
  match vs, l with
  | [v], _ => exact ⟨v, rfl, h 0 v d rfl rfl⟩
theorem two_at {g : Gb} {F H : Hp} {vs : List V} {xs : List D} {d e : D} (l : vs.length = xs.length) (h : ∀ (i : Nat) v d, vs[i]? = some v → xs[i]? = some d → DR g F H v d []) (q : xs = [d, e]) : ∃ v w, vs = [v, w] ∧ DR g F H v d [] ∧ DR g F H w e [] := by
  subst q
  match vs, l with
  | [v, w], _ => exact ⟨v, w, rfl, h 0 v d rfl rfl, h 1 w e rfl rfl⟩
theorem tEI_seq {K : PySem.W.Frag} (hK : Z.g.K = K) {d : Den} (h : tEI Z v0 ⟨fItems, [d]⟩ σ H R) : iSeq K (tE Z v0 d) σ H R := by
  have h := tEA_cons (tEI_at h)
  obtain ⟨env, F, O, sr, oc⟩ := h
  refine ⟨env, F, O, sr, Oe.mono oc fun q k v F' H' O' fp n => ?_⟩
  obtain ⟨F2, xs, ys, sub, l, dr, e, z, w⟩ := tEA_nil (k v F' H' O' fp n)
  match xs, l with
  | [x], l =>
    obtain ⟨v', ev, dx⟩ := one_at l dr rfl
    cases ev
    cases x with
    | tup ds =>
      cases e
      obtain ⟨a, vs, rfl, h1, l1, i1, _⟩ := dx.tup_inv
      refine ⟨a, rfl, .inr ⟨⟨vs, by rw [← hK]; exact sqT_mono sub h1⟩, ?_⟩⟩
      have := w (Itt Z.g.K a) (wk_tup fun F3 H3 p => ⟨p.2, dx.fx p⟩)
      rw [hK] at this; exact this
    | lst o ds =>
      cases e
      obtain ⟨a, vs, rfl, h1, l1, i1⟩ := dx.lst_inv sub
      refine ⟨a, rfl, .inl ⟨⟨vs, by rw [← hK]; exact h1⟩, ?_⟩⟩
      have := w (Itl Z.g.K a) (wk_lst fun F3 H3 p => ⟨p.2, [], dx.fx p⟩)
      rw [hK] at this; exact this
    | _ => cases e
theorem tEI_range1 {d : Den} (h : tEI Z v0 ⟨fRange, [d]⟩ σ H R) : iRng1 (tEA Z v0 [d]) σ H R := by
  obtain ⟨env, F, O, sr, oc⟩ := tEI_at h
  refine ⟨env, F, O, sr, ?_⟩
  cases e : eAll [d] Z.rt env with
  | exc c fs => rw [e] at oc; exact oc
  | bad => rw [e] at oc; exact oc.elim
  | ok q =>
    rw [e] at oc
    have hq : q.1.length = 1 := by
      obtain ⟨a, _, h⟩ := Out.bind_ok e
      obtain ⟨b, h1, h⟩ := Out.bind_ok h
      cases h1; cases h; rfl
    intro vs F' H' O' fps n
    obtain ⟨F2, xs, ys, sub, l, dr, ee, z, w⟩ := oc vs F' H' O' fps n
    obtain ⟨x, rfl⟩ := List.length_eq_one_iff.mp (show xs.length = 1 by rw [← l, n.dr.1]; exact hq)
    · obtain ⟨v, rfl, dx⟩ := one_at l dr rfl
      cases x <;> first | (cases ee; done) | skip
      rename_i j
      have ee : range1 (.int j) = some ys := ee
      simp only [range1] at ee
      by_cases hz : -(sizeMax : Int) ≤ j ∧ j ≤ sizeMax
      · rw [if_pos hz] at ee; cases ee
        cases dx.is_int
        have := sz62
        exact ⟨j, rfl, by omega, by omega, w _ (wk_range fun F3 H3 p => p.2)⟩
      · rw [if_neg hz] at ee; cases ee
theorem len_two {α : Type} : ∀ {xs : List α}, xs.length = 2 → ∃ a b, xs = [a, b]
  | [a, b], _ => ⟨a, b, rfl⟩
theorem tEI_range2 {d d' : Den} (h : tEI Z v0 ⟨fRange, [d, d']⟩ σ H R) : iRng2 (tEA Z v0 [d, d']) σ H R := by
  obtain ⟨env, F, O, sr, oc⟩ := tEI_at h
  refine ⟨env, F, O, sr, ?_⟩
  cases e : eAll [d, d'] Z.rt env with
  | exc c fs => rw [e] at oc; exact oc
  | bad => rw [e] at oc; exact oc.elim
  | ok q =>
    rw [e] at oc
    have hq : q.1.length = 2 := by
      obtain ⟨a, _, h⟩ := Out.bind_ok e
      obtain ⟨b, h1, h⟩ := Out.bind_ok h
      obtain ⟨c, _, h2⟩ := Out.bind_ok h1
      obtain ⟨c', h3, h2⟩ := Out.bind_ok h2
      cases h3; cases h2; cases h; rfl
    intro vs F' H' O' fps n
    obtain ⟨F2, xs, ys, sub, l, dr, ee, z, w⟩ := oc vs F' H' O' fps n
    obtain ⟨x, x', rfl⟩ := len_two (show xs.length = 2 by rw [← l, n.dr.1]; exact hq)
    · obtain ⟨v, v', rfl, dx, dx'⟩ := two_at l dr rfl
      cases x <;> cases x' <;> first | (cases ee; done) | skip
      rename_i i j
      have ee : range2 (.int i) (.int j) = some ys := ee
      simp only [range2] at ee
      by_cases hz : -(sizeMax : Int) ≤ i ∧ i ≤ sizeMax ∧ -(sizeMax : Int) ≤ j ∧ j ≤ sizeMax
      · rw [if_pos hz] at ee; cases ee
        cases dx.is_int; cases dx'.is_int
        have := sz62
        exact ⟨i, j, rfl, ⟨by omega, by omega, by omega, by omega⟩, w _ (wk_range fun F3 H3 p => p.2)⟩
      · rw [if_neg hz] at ee; cases ee
theorem tEI_zip {K : PySem.W.Frag} (hK : Z.g.K = K) (h : tEI Z v0 ⟨fZip, ds⟩ σ H R) : RZ.iZipA K (tEA Z v0 ds) σ H R := by
  obtain ⟨env, F, O, sr, oc⟩ := tEI_at h
  refine ⟨env, F, O, sr, Oe.mono oc fun q oc vs F' H' O' fps n => ?_⟩
  obtain ⟨F2, xs, ys, sub, l, dr, ee, z, w⟩ := oc vs F' H' O' fps n
  unfold fZip at ee
  split at ee
  · rename_i o us o' zs
    by_cases hz : (allFrz us && allFrz zs) = true
    · rw [if_pos hz] at ee; cases ee
      have hz := Bool.and_eq_true_iff.mp hz
      obtain ⟨v, v', rfl, d1, d2⟩ := two_at l dr rfl
      obtain ⟨a, us', rfl, k1, l1, i1⟩ := d1.lst_inv sub
      obtain ⟨b, ws, rfl, k2, l2, i2⟩ := d2.lst_inv sub
      rw [← hK]
      exact ⟨a, b, us', ws, rfl, .inl ⟨k1, k2, w _ (wk_zip hz.1 hz.2 fun F3 H3 p => ⟨p.2, ⟨[], d1.fx p⟩, ⟨[], d2.fx p⟩⟩)⟩⟩
    · rw [if_neg hz] at ee; cases ee
  · cases ee
    obtain ⟨v, v', rfl, d1, d2⟩ := two_at l dr rfl
    obtain ⟨a, us', rfl, k1, l1, i1, _⟩ := d1.tup_inv
    obtain ⟨b, ws, rfl, k2, l2, i2, _⟩ := d2.tup_inv
    rw [← hK]
    exact ⟨a, b, us', ws, rfl, .inr ⟨sqT_mono sub k1, sqT_mono sub k2, w _ (wk_zipT fun F3 H3 p => ⟨p.2, d1.fx p, d2.fx p⟩)⟩⟩
  · cases ee
theorem tEI_enum {K : PySem.W.Frag} (hK : Z.g.K = K) (h : tEI Z v0 ⟨fEnum, ds⟩ σ H R) : iEnum K (tEA Z v0 ds) σ H R := by
  obtain ⟨env, F, O, sr, oc⟩ := tEI_at h
  refine ⟨env, F, O, sr, Oe.mono oc fun q oc vs F' H' O' fps n => ?_⟩
  obtain ⟨F2, xs, ys, sub, l, dr, ee, z, w⟩ := oc vs F' H' O' fps n
  unfold fEnum at ee
  split at ee
  · rename_i o us
    by_cases hz : allFrz us = true
    · rw [if_pos hz] at ee; cases ee
      obtain ⟨v, rfl, d1⟩ := one_at l dr rfl
      obtain ⟨a, us', rfl, k1, l1, i1⟩ := d1.lst_inv sub
      rw [← hK]
      exact ⟨a, us', rfl, k1, w _ (wk_enum hz fun F3 H3 p => ⟨p.2, ⟨[], d1.fx p⟩⟩)⟩
    · rw [if_neg hz] at ee; cases ee
  · cases ee
end
end Z
end

section
set_option Elab.async false
set_option linter.all false
set_option maxRecDepth 100000
set_option maxHeartbeats 4000000
/-! ZT: expressions with effects are as their combinators tell. -/
namespace Z
open PySem L2 PyProof.Rows
section
variable {Z : Ct} {v0 : Option V} {σ : L2.St} {H : Hp}
theorem tEA1 {p : Den} {Q : List V → Hp → Prop} (h : tEA Z v0 [p] σ H Q) : tE Z v0 p σ H fun x H1 => Q [x] H1 := by
  obtain ⟨env, F, O, r, oc⟩ := tEA_cons h
  exact ⟨env, F, O, r, oc.mono fun d q v F' H' O' fp n => tEA_nil (q v F' H' O' fp n)⟩
theorem tEA2 {p q : Den} {Q : List V → Hp → Prop} (h : tEA Z v0 [p, q] σ H Q) : tE Z v0 p σ H fun x H1 => tE Z v0 q σ H1 fun y H2 => Q [x, y] H2 := by
  obtain ⟨env, F, O, r, oc⟩ := tEA_cons h
  exact ⟨env, F, O, r, oc.mono fun d q v F' H' O' fp n => tEA1 (q v F' H' O' fp n)⟩
theorem tE_op {f : OpF} {p q : Den} {Q : VK} (o : OpOk Z f (fun _ => rOp Z f)) (h : tE Z v0 (eN f [p, q]) σ H Q) : tOp (rB Z f) (tE Z v0 p) (tE Z v0 q) σ H Q := tEA2 (tE_N o h)
theorem tE_un {f : OpF} {p : Den} {Q : VK} (o : OpOk Z f (fun _ => rOp Z f)) (h : tE Z v0 (eN f [p]) σ H Q) : tUn (fun x H Q => rOp Z f [x] H Q) (tE Z v0 p) σ H Q := tEA1 (tE_N o h)
theorem tE_call {ds : List Den} {i : Nat} {Q : VK} (h : tE Z v0 (eN (oCall i) ds) σ H Q) : tCallS (spP Z i) (WE Z.W) (tEA Z v0 ds) σ H Q := tE_N oCall_ok h
theorem Wk.imp {g : Gb} {P P' : Hp → Hp → Prop} {J : It} {xs : List D} (w : Wk g P J xs) (h : ∀ F H, P' F H → P F H) : Wk g P' J xs := fun F2 H2 p => w F2 H2 (h F2 H2 p)
theorem tE_lcP {I : EItr} {t : Pat} {c e : PDen} {own : List Nat} {Q : VK} (hs : ∀ i ∈ t.slots, i ∈ own) (h : tE Z v0 (eLcP I t c e own) σ H Q) : tLc (tEI Z v0 I) (gPat Z.quiet t) (tB Z.quiet c) (tP Z.quiet e) own σ H Q := by
  obtain ⟨env, F, O, r, oc⟩ := h
  refine ⟨env, F, O, r, ?_⟩
  have oc := Oe.bind oc
  cases ex : I.run Z.rt env with
  | exc c fs => rw [ex] at oc; exact oc
  | bad => rw [ex] at oc; exact oc.elim
  | ok q =>
    rw [ex] at oc
    have oc : Oe Z F H (OS O) σ ((noExc (lcL t c e Z.rt (wipes own q.2) q.1)).bind fun ds => .ok (D.lst true ds, q.2)) fun r => ∀ v F' H' O' fp, Res Z v0 F H (OS O) σ F' H' r.2 O' v r.1 fp → Q v H' := oc
    intro J F' H' O' st sr wk D hD
    have hxs : q.1.length ≤ sizeMax := by
      unfold EItr.run at ex
      obtain ⟨q', _, h2⟩ := Out.bind_ok ex
      cases e1 : I.f q'.1 with
      | none => simp only [e1] at h2; cases h2
      | some ys =>
        simp only [e1] at h2
        by_cases z : ys.length ≤ sizeMax ∧ allFrz ys = true
        · rw [if_pos z] at h2; cases h2; exact z.1
        · rw [if_neg z] at h2; cases h2
    cases el : noExc (lcL t c e Z.rt (wipes own q.2) q.1) with
    | bad => rw [el] at oc; exact oc.elim
    | exc c' fs =>
      exfalso
      cases e2 : lcL t c e Z.rt (wipes own q.2) q.1 <;> rw [e2] at el <;> cases el
    | ok all =>
      rw [el] at oc
      have fin : ∀ v F' H' O' fp, Res Z v0 F H (OS O) σ F' H' q.2 O' v (.lst true all) fp → Q v H' := oc
      exact lc_run hs sr.vr hxs (wk.imp fun F2 H2 n => ⟨n.fl, n.sub⟩) (noExc_ok el) (fun v F2 H2 fp m => fin v F2 H2 O' fp (m.resF st sr)) D hD
end
structure ImpOk (n : Nat) : Prop where
  E : ∀ {X : Cx} {C : CC} {Z : Ct} {k : Nat} {v0 : Option V}, GX X C Z k → (∀ i, Z.rt.tab.io i = true → PFI X Z k i) → ∀ e d, cE n C e = some d → (PE X e (tE Z v0 d) ∧ PT X e (tBE Z v0 d)) ∧ okE e = true
  Es : ∀ {X : Cx} {C : CC} {Z : Ct} {k : Nat} {v0 : Option V}, GX X C Z k → (∀ i, Z.rt.tab.io i = true → PFI X Z k i) → ∀ es ds, cEs n C es = some ds → PA X es (tEA Z v0 ds) ∧ noStars es = true ∧ ds.length = es.length
  B : ∀ {X : Cx} {C : CC} {Z : Ct} {k : Nat} {v0 : Option V}, GX X C Z k → (∀ i, Z.rt.tab.io i = true → PFI X Z k i) → ∀ o es d pos, cEB n C o es = some d → PE X (.BoolOp o es pos) (tE Z v0 d) ∧ PW X (.BoolOp o es pos) (tBE Z v0 d)
  I : ∀ {X : Cx} {C : CC} {Z : Ct} {k : Nat} {v0 : Option V}, GX X C Z k → (∀ i, Z.rt.tab.io i = true → PFI X Z k i) → ∀ tg e d, cEI n C (isTupE tg) e = some d → PI X tg e (tEI Z v0 d) ∧ okE e = true
  Cl : ∀ {X : Cx} {C : CC} {Z : Ct} {k : Nat} {v0 : Option V}, GX X C Z k → (∀ i, Z.rt.tab.io i = true → PFI X Z k i) → ∀ f as d p pos, cEC n C f as = some d → PE X (.Call (.Name f p) as [] pos) (tE Z v0 d)
section
variable {n : Nat} (ih : ImpOk n) {X : Cx} {C : CC} {Z : Ct} {k : Nat} {v0 : Option V} (G : GX X C Z k) (pi : ∀ i, Z.rt.tab.io i = true → PFI X Z k i)
include ih G pi
theorem im_Es : ∀ es ds, cEs (n + 1) C es = some ds → PA X es (tEA Z v0 ds) ∧ noStars es = true ∧ ds.length = es.length := fun es ds h => by
  cases es with
  | nil => cases h; exact ⟨PA.imp pa_nil fun _ _ _ h => tEA_nil h, rfl, rfl⟩
  | cons e es =>
    simp only [cEs] at h
    cases e1 : cE n C e with
    | none => rw [e1] at h; cases h
    | some x =>
      cases e2 : cEs n C es with
      | none => rw [e1, e2] at h; cases h
      | some xs =>
        rw [e1, e2] at h; cases h
        obtain ⟨⟨a1, a2⟩, a3⟩ := ih.E (v0 := v0) G pi e x e1
        obtain ⟨b1, b2, b3⟩ := ih.Es (v0 := v0) G pi es xs e2
        refine ⟨PA.imp (pa_cons a1 b1 (nostar a3 _ _)) fun _ _ _ h => tEA_cons h, ?_, by simp [b3]⟩
        show (okE e && noStars es) = true
        rw [a3, b2]; rfl
theorem im_B : ∀ o es d pos, cEB (n + 1) C o es = some d → PE X (.BoolOp o es pos) (tE Z v0 d) ∧ PW X (.BoolOp o es pos) (tBE Z v0 d) := fun o es d pos h => by
  match es, h with
  | [], h => cases h
  | [e], h =>
    simp only [cEB] at h
    obtain ⟨⟨p1, p2⟩, _⟩ := ih.E (v0 := v0) G pi e d h
    refine ⟨pe_one p1, ?_⟩
    cases o with
    | And => exact pw_and1 p2
    | Or => exact pw_or1 p2
  | e :: e' :: es, h =>
    simp only [cEB] at h
    cases e1 : cE n C e with
    | none => rw [e1] at h; cases h
    | some x =>
      cases e2 : cEB n C o (e' :: es) with
      | none => rw [e1, e2] at h; cases h
      | some y =>
        rw [e1, e2] at h; cases h
        obtain ⟨⟨a1, a2⟩, _⟩ := ih.E (v0 := v0) G pi e x e1
        obtain ⟨b1, b2⟩ := ih.B (v0 := v0) G pi o (e' :: es) y pos e2
        cases o with
        | And => exact ⟨PE.imp (pe_and a1 b1) fun _ _ _ h => tE_and h, PW.imp (pw_and a2 b2) fun _ _ _ h => tBE_and h⟩
        | Or => exact ⟨PE.imp (pe_or a1 b1) fun _ _ _ h => tE_or h, PW.imp (pw_or a2 b2) fun _ _ _ h => tBE_or h⟩
theorem im_Cl : ∀ f as d p pos, cEC (n + 1) C f as = some d → PE X (.Call (.Name f p) as [] pos) (tE Z v0 d) := fun f as d p pos h => by
  simp only [cEC] at h
  cases e1 : C.glob f with
  | some g =>
    rw [e1] at h
    obtain ⟨g1, g2, g3⟩ := glob_some e1
    obtain ⟨k1, k2, k3⟩ := okN_some g1
    cases g with
    | fn j =>
      simp only at h
      by_cases hi : C.iof j = true
      · rw [if_pos hi] at h
        cases as with
        | nil => cases h
        | cons e r =>
          cases e with
          | Name x px =>
            simp only at h
            cases e2 : C.slot x with
            | none => rw [e2] at h; cases h
            | some i =>
              cases e3 : cEs n C r with
              | none => rw [e2, e3] at h; cases h
              | some ds =>
                rw [e2, e3] at h; cases h
                obtain ⟨b1, b2, b3⟩ := ih.Es (v0 := v0) G pi r ds e3
                obtain ⟨s1, s2, s3⟩ := slot_some e2
                obtain ⟨m1, m2, m3⟩ := okN_some s1
                obtain ⟨v1, v2⟩ := G.vis e2
                obtain ⟨fd, ps, F, hk, hb⟩ := pi j (G.ioT j hi)
                exact PE.imp (pe_callS F G.room (G.gl g2) (G.gfn f j g3) hk hb G.pass (pa_cons (pe_var v1 v2 m1 m2) b1 rfl) k1 rfl (anyStar b2 _ _)) fun _ _ _ h => tE_IO h
          | _ => cases h
      · rw [if_neg hi] at h
        obtain ⟨ds, e2, rfl⟩ := Option.map_eq_some_iff.mp h
        obtain ⟨b1, b2, b3⟩ := ih.Es (v0 := v0) G pi as ds e2
        obtain ⟨fd, ps, F, hk, hb⟩ := G.pf j (G.iof j (Bool.eq_false_iff.mpr hi))
        refine PE.imp (pe_callSN F G.room (G.gl g2) (G.gfn f j g3) hk hb G.pass k1 b1 b2 fun h0 σ H Q hq => ?_) fun _ _ _ h => tE_call h
        subst h0
        have : ds = [] := List.length_eq_zero_iff.mp b3
        subst this
        exact tEA_nil hq
    | _ => cases h
  | none =>
    rw [e1] at h
    simp only at h
    by_cases hb : C.isB f = true
    · rw [hb] at h
      simp only [Bool.not_true, Bool.false_eq_true, if_false] at h
      obtain ⟨g1, g2, g3⟩ := isB_some hb
      obtain ⟨k1, k2, k3⟩ := okN_some g1
      cases e2 : bltF f as.length with
      | none => rw [e2] at h; cases h
      | some b =>
        cases e3 : cEs n C as with
        | none => rw [e2, e3] at h; cases h
        | some ds =>
          rw [e2, e3] at h; cases h
          obtain ⟨hr, hn, nx⟩ := bf_ok G e2
          obtain ⟨b1, b2, b3⟩ := ih.Es (v0 := v0) G pi as ds e3
          cases as with
          | nil => exact absurd rfl hn
          | cons a as =>
            have ns : okE a = true ∧ noStars as = true := by simpa [noStars] using b2
            rcases hr with ⟨id, hbt, hc⟩ | ⟨T, hbt, hc⟩
            · exact PE.imp (pe_callB hc (G.gl g2) (G.gno _ g3) hbt b1 k3 k1 (nostar ns.1 _ _) (anyStar ns.2 _ _)) fun _ _ _ h => tE_N (rOp_ok nx) h
            · exact PE.imp (pe_callTy hc (G.gl g2) (G.gno _ g3) hbt b1 k3 k1 (nostar ns.1 _ _) (anyStar ns.2 _ _)) fun _ _ _ h => tE_N (rOp_ok nx) h
    · rw [Bool.eq_false_iff.mpr hb] at h
      simp at h
end
end Z
end

section
set_option Elab.async false
set_option linter.all false
set_option maxRecDepth 100000
set_option maxHeartbeats 4000000
/-! ZV: what is walked, with effects. -/
namespace Z
open PySem L2 PyProof.Rows
section
variable {n : Nat} (ih : ImpOk n) {X : Cx} {C : CC} {Z : Ct} {k : Nat} {v0 : Option V} (G : GX X C Z k) (pi : ∀ i, Z.rt.tab.io i = true → PFI X Z k i)
include ih G pi
theorem im_I : ∀ tg e d, cEI (n + 1) C (isTupE tg) e = some d → PI X tg e (tEI Z v0 d) ∧ okE e = true := fun tg e d h => by
  have other : ∀ e, (cE n C e).map (fun d => (⟨fItems, [d]⟩ : EItr)) = some d → PI X tg e (tEI Z v0 d) ∧ okE e = true := fun e h => by
    obtain ⟨p, h1, rfl⟩ := Option.map_eq_some_iff.mp h
    obtain ⟨⟨a1, _⟩, a3⟩ := ih.E (v0 := v0) G pi e p h1
    exact ⟨PI.imp (pi_seq a1) fun _ _ _ h => tEI_seq G.K h, a3⟩
  cases e with
  | Call f as ks q =>
    cases f with
    | Name f p =>
      cases ks with
      | cons _ _ => exact other _ h
      | nil =>
        simp only [cEI] at h
        have hb' : ∀ s, (C.isB f && decide (f = s)) = true → C.isB f = true ∧ f = s := fun s z => by simpa using z
        by_cases h1 : (C.isB f && decide (f = S "range")) = true
        · rw [if_pos h1] at h
          obtain ⟨hb, rfl⟩ := hb' _ h1
          obtain ⟨g1, g2, g3⟩ := isB_some hb
          by_cases hl : as.length = 1 ∨ as.length = 2
          · rw [if_pos hl] at h
            obtain ⟨ds, e1, rfl⟩ := Option.map_eq_some_iff.mp h
            obtain ⟨pas, ns, ll⟩ := ih.Es (v0 := v0) G pi as ds e1
            rcases hl with hl | hl
            · obtain ⟨a, rfl⟩ := List.length_eq_one_iff.mp hl
              obtain ⟨p1, rfl⟩ := List.length_eq_one_iff.mp (ll.trans hl)
              have ns : okE a = true := by simpa [noStars] using ns
              exact ⟨PI.imp (pi_range1 (G.gl g2) (G.gno _ g3) pas (nostar ns _ _)) fun _ _ _ h => tEI_range1 h, rfl⟩
            · obtain ⟨a, b, rfl⟩ := len_two hl
              obtain ⟨p1, p2, rfl⟩ := len_two (ll.trans hl)
              have ns : okE a = true ∧ okE b = true := by simpa [noStars] using ns
              exact ⟨PI.imp (pi_range2 (G.gl g2) (G.gno _ g3) pas (by rw [nostar ns.1, nostar ns.2]; rfl) (nostar ns.2 _ _)) fun _ _ _ h => tEI_range2 h, rfl⟩
          · rw [if_neg hl] at h; cases h
        · rw [if_neg h1] at h
          by_cases h2 : (C.isB f && decide (f = S "zip")) = true
          · rw [if_pos h2] at h
            obtain ⟨hb, rfl⟩ := hb' _ h2
            obtain ⟨g1, g2, g3⟩ := isB_some hb
            by_cases hl : as.length = 2 ∧ isTupE tg = true
            · rw [if_pos hl] at h
              obtain ⟨ds, e1, rfl⟩ := Option.map_eq_some_iff.mp h
              obtain ⟨pas, ns, ll⟩ := ih.Es (v0 := v0) G pi as ds e1
              obtain ⟨hl, ht⟩ := hl
              cases tg <;> first | (cases ht; done) | skip
              obtain ⟨a, b, rfl⟩ := len_two hl
              have ns : okE a = true ∧ okE b = true := by simpa [noStars] using ns
              exact ⟨PI.imp (RZ.pi_zipA (G.gl g2) (G.gno _ g3) pas (nostar ns.1 _ _) (anyStar (by simp [noStars, ns.2]) _ _)) fun _ _ _ h => tEI_zip G.K h, rfl⟩
            · rw [if_neg hl] at h; cases h
          · rw [if_neg h2] at h
            by_cases h3 : (C.isB f && decide (f = S "enumerate")) = true
            · rw [if_pos h3] at h
              obtain ⟨hb, rfl⟩ := hb' _ h3
              obtain ⟨g1, g2, g3⟩ := isB_some hb
              by_cases hl : as.length = 1 ∧ isTupE tg = true
              · rw [if_pos hl] at h
                obtain ⟨ds, e1, rfl⟩ := Option.map_eq_some_iff.mp h
                obtain ⟨pas, ns, ll⟩ := ih.Es (v0 := v0) G pi as ds e1
                obtain ⟨hl, ht⟩ := hl
                cases tg <;> first | (cases ht; done) | skip
                obtain ⟨a, rfl⟩ := List.length_eq_one_iff.mp hl
                have ns : okE a = true := by simpa [noStars] using ns
                exact ⟨PI.imp (pi_enum (G.gl g2) (G.gno _ g3) pas (nostar ns _ _)) fun _ _ _ h => tEI_enum G.K h, rfl⟩
              · rw [if_neg hl] at h; cases h
            · rw [if_neg h3] at h
              exact other _ h
    | _ => exact other _ h
  | _ => exact other _ h
end
end Z
end

section
set_option Elab.async false
set_option linter.all false
set_option maxRecDepth 100000
set_option maxHeartbeats 4000000
/-! ZU: the theorem for expressions with effects. -/
namespace Z
open PySem L2 PyProof.Rows
section
variable {n : Nat} (ih : ImpOk n) {X : Cx} {C : CC} {Z : Ct} {k : Nat} {v0 : Option V} (G : GX X C Z k) (pi : ∀ i, Z.rt.tab.io i = true → PFI X Z k i)
include ih G pi
theorem bothE {e : Expr} {d : Den} (h : PE X e (tE Z v0 d)) (he : plainE e = true) (ho : okE e = true) : (PE X e (tE Z v0 d) ∧ PT X e (tBE Z v0 d)) ∧ okE e = true := ⟨⟨h, PT.imp (pt_val h (plain_true he _)) fun _ _ _ q => tBE_val q⟩, ho⟩
theorem im_E : ∀ e d, cE (n + 1) C e = some d → (PE X e (tE Z v0 d) ∧ PT X e (tBE Z v0 d)) ∧ okE e = true := fun e d h => by
  unfold cE at h
  by_cases hp : (!imp C e) = true
  · rw [if_pos hp] at h
    obtain ⟨p, e1, rfl⟩ := Option.map_eq_some_iff.mp h
    obtain ⟨p1, p2⟩ := (pureOk 100).P G e p e1
    exact ⟨⟨PE.imp p1 fun _ _ _ h => tE_pure h, PT.imp p2 fun _ _ _ h => tBE_pure h⟩, cP_okE e1⟩
  · rw [if_neg hp] at h
    cases e with
    | BinOp a o b p =>
      simp only at h
      cases e0 : opOf o with
      | none => rw [e0] at h; cases h
      | some om =>
        obtain ⟨o', m⟩ := om
        cases e1 : cE n C a with
        | none => rw [e0, e1] at h; cases h
        | some x =>
          cases e2 : cE n C b with
          | none => rw [e0, e1, e2] at h; cases h
          | some y =>
            rw [e0, e1, e2] at h; cases h
            exact bothE ih G pi (PE.imp (pe_op (opOf_ok G e0) (ih.E (v0 := v0) G pi a x e1).1.1 (ih.E (v0 := v0) G pi b y e2).1.1) fun _ _ _ h => tE_op oBin_ok h) rfl rfl
    | UnaryOp o a p =>
      simp only at h
      cases e1 : cE n C a with
      | none => rw [e1] at h; cases o <;> cases h
      | some x =>
        rw [e1] at h
        obtain ⟨⟨v1, v2⟩, _⟩ := ih.E (v0 := v0) G pi a x e1
        cases o <;> first | (cases h; done) | skip
        · cases h
          exact ⟨⟨PE.imp (pe_not v1) fun _ _ _ h => tE_not h, PT.imp (pt_not v2) fun _ _ _ h => tBE_not h⟩, rfl⟩
        · cases h
          exact bothE ih G pi (PE.imp (pe_un (neg_ok G.K) v1) fun _ _ _ h => tE_un oUn_ok h) rfl rfl
    | BoolOp o es p =>
      simp only at h
      obtain ⟨b1, b2⟩ := ih.B (v0 := v0) G pi o es d p h
      exact ⟨⟨b1, b2.pt⟩, rfl⟩
    | Compare a os bs p =>
      simp only at h
      match os, bs, h with
      | [o], [b], h =>
        simp only at h
        cases e0 : cmOf o with
        | none => rw [e0] at h; cases h
        | some c =>
          cases e1 : cE n C a with
          | none => rw [e0, e1] at h; cases h
          | some x =>
            cases e2 : cE n C b with
            | none => rw [e0, e1, e2] at h; cases h
            | some y =>
              rw [e0, e1, e2] at h; cases h
              obtain ⟨⟨a1, _⟩, _⟩ := ih.E (v0 := v0) G pi a x e1
              obtain ⟨⟨b1, _⟩, b3⟩ := ih.E (v0 := v0) G pi b y e2
              have hm := nomarkE b3 o
              exact ⟨⟨PE.imp (pe_cmpR (cmOf_ok G e0) a1 b1 hm) fun _ _ _ h => tE_op (rOp_ok nox2) h,
                PT.imp (pt_cmpR (cmOf_ok G e0) a1 b1 hm) fun _ _ _ h => tE_op (rOp_ok nox2) (tBE_val h)⟩, rfl⟩
      | [], _, h => cases h
      | [_], [], h => cases h
      | [_], _ :: _ :: _, h => cases h
      | _ :: _ :: _, _, h => cases h
    | IfExp t a b p =>
      simp only at h
      cases e1 : cE n C t with
      | none => rw [e1] at h; cases h
      | some x =>
        cases e2 : cE n C a with
        | none => rw [e1, e2] at h; cases h
        | some y =>
          cases e3 : cE n C b with
          | none => rw [e1, e2, e3] at h; cases h
          | some z =>
            rw [e1, e2, e3] at h; cases h
            obtain ⟨⟨v1, v2⟩, _⟩ := ih.E (v0 := v0) G pi t x e1
            obtain ⟨⟨a1, a2⟩, _⟩ := ih.E (v0 := v0) G pi a y e2
            obtain ⟨⟨b1, b2⟩, _⟩ := ih.E (v0 := v0) G pi b z e3
            exact ⟨⟨PE.imp (pe_ifExp v2 a1 b1) fun _ _ _ h => tE_ite h, PT.imp (pt_ifx v2 a2 b2) fun _ _ _ h => tBE_ite h⟩, rfl⟩
    | Tuple es kk p =>
      simp only at h
      obtain ⟨ds, e1, rfl⟩ := Option.map_eq_some_iff.mp h
      exact bothE ih G pi (PE.imp (pe_tup (ih.Es (v0 := v0) G pi es ds e1).1) fun _ _ _ h => tE_N oTup_ok h) rfl rfl
    | List es p =>
      simp only at h
      by_cases hl : es.length ≤ 1000
      · rw [if_pos hl] at h
        obtain ⟨ds, e1, rfl⟩ := Option.map_eq_some_iff.mp h
        obtain ⟨b1, b2, b3⟩ := ih.Es (v0 := v0) G pi es ds e1
        exact bothE ih G pi (PE.imp (pe_lst b1) fun _ _ _ h => tE_lst (by rw [b3]; exact hl) h) rfl rfl
      · rw [if_neg hl] at h; cases h
    | ListComp el gs sc p =>
      simp only at h
      split at h
      · rename_i t it ifs
        by_cases hb : L2.blkC C.N C.sc sc (C.ownOf sc) = true
        · rw [if_pos hb] at h
          cases e1 : cEI n C (isTupE t) it with
          | none => rw [e1] at h; cases h
          | some i =>
          cases e2 : cPat 100 (C.blk sc) t with
          | none => rw [e1, e2] at h; cases h
          | some pt =>
          cases e3 : cIfs 100 (C.blk sc) ifs with
          | none => rw [e1, e2, e3] at h; cases h
          | some c =>
          cases e4 : cP 100 (C.blk sc) el with
          | none => rw [e1, e2, e3, e4] at h; cases h
          | some e =>
          rw [e1, e2, e3, e4] at h
          simp only at h
          by_cases hs : (pt.slots.all fun k => ((C.ownOf sc).map (·.2)).contains k) = true
          · rw [if_pos hs] at h; cases h
            obtain ⟨pI, oki⟩ := ih.I (v0 := v0) G pi t it i e1
            have hs' : ∀ j ∈ pt.slots, j ∈ (C.ownOf sc).map (·.2) := fun j hj => by
              have := List.all_eq_true.mp hs j hj
              simpa using this
            have bok : BlkOk X.N X.env.scope sc (C.ownOf sc) := by
              rw [G.N, G.sc]; exact blkOk_by hb
            exact bothE ih G pi (PE.imp (pe_lc G.calm G.nd pI bok (fun s H a cl fp => (pg_pat (G.blk s H sc a cl fp) 100).1 t pt e2) (fun s H a cl fp => (pureOk 100).Ifs (G.blk s H sc a cl fp) ifs c e3) (fun s H a cl fp => ((pureOk 100).P (G.blk s H sc a cl fp) el e e4).1) (noset oki _)) fun _ _ _ h => tE_lcP hs' h) rfl rfl
          · rw [if_neg hs] at h; cases h
        · rw [if_neg hb] at h; cases h
      · cases h
    | Subscript o i p =>
      simp only at h
      by_cases hs : isSl i = true
      · rw [if_pos hs] at h; cases h
      · rw [if_neg hs] at h
        cases e1 : cE n C o with
        | none => rw [e1] at h; cases h
        | some x =>
          cases e2 : cE n C i with
          | none => rw [e1, e2] at h; cases h
          | some y =>
            rw [e1, e2] at h; cases h
            obtain ⟨⟨a1, _⟩, _⟩ := ih.E (v0 := v0) G pi o x e1
            obtain ⟨⟨b1, _⟩, b3⟩ := ih.E (v0 := v0) G pi i y e2
            exact bothE ih G pi (PE.imp (pe_ix (ixF_ok G.K) a1 b1 (plainIx_ok b3)) fun _ _ _ h => tE_op (rOp_ok nox2) h) rfl rfl
    | Call f as ks p =>
      simp only at h
      cases f with
      | Name f q =>
        cases ks with
        | cons _ _ => cases h
        | nil =>
          simp only at h
          cases e1 : C.slot f with
          | some i => rw [e1] at h; cases h
          | none =>
            rw [e1] at h
            exact bothE ih G pi (ih.Cl (v0 := v0) G pi f as d q p h) rfl rfl
      | Attribute o m q =>
        cases o with
        | Name x px =>
          cases ks with
          | cons _ _ => cases h
          | nil =>
            simp only at h
            by_cases hm : m = S "pop" ∧ (q.endLine == p.line) = true
            · rw [if_pos hm] at h
              cases as with
              | cons _ _ => cases h
              | nil =>
                cases e1 : C.slot x with
                | none => rw [e1] at h; cases h
                | some i =>
                  rw [e1] at h; cases h
                  obtain ⟨rfl, hl⟩ := hm
                  obtain ⟨s1, s2, s3⟩ := slot_some e1
                  obtain ⟨k1, k2, k3⟩ := okN_some s1
                  obtain ⟨v1, v2⟩ := G.vis e1
                  exact bothE ih G pi (PE.imp (pe_bm0 PySem.F.plainAttrs_list PySem.F.slot_list_pop PySem.F.type_list_pop mt_pop (pe_var v1 v2 k1 k2) rfl hl) fun _ _ _ h => tE_pop h) rfl rfl
            · rw [if_neg hm] at h; cases h
        | _ => cases h
      | _ => cases h
    | _ => cases h
end
theorem impOk : ∀ n, ImpOk n
  | 0 => ⟨fun _ _ _ _ h => (nomatch h), fun _ _ _ _ h => (nomatch h), fun _ _ _ _ _ _ h => (nomatch h), fun _ _ _ _ _ h => (nomatch h), fun _ _ _ _ _ _ _ h => (nomatch h)⟩
  | n + 1 =>
    let ih := impOk n
    ⟨fun G pi => im_E ih G pi, fun G pi => im_Es ih G pi, fun G pi => im_B ih G pi, fun G pi => im_I ih G pi, fun G pi => im_Cl ih G pi⟩
end Z
end

section
set_option Elab.async false
set_option linter.all false
set_option maxRecDepth 100000
set_option maxHeartbeats 4000000
/-! ZW: towards the theorem for statements. -/
namespace Z
open PySem L2 PyProof.Rows
structure GS (X : Cx) (C : CC) (Z : Ct) (k : Nat) (v0 : Option V) : Prop where
  G : GX X C Z k
  pi : ∀ i, Z.rt.tab.io i = true → PFI X Z k i
  hp : PassesOwn (model X.prog X.w) X.A X.env X.xe
  io : C.io = false → v0 = none
  st : X.stack = X.env :: X.outer
  fr : X.env.frame = some X.env.locals
  kind : X.env.scope.kind = .function
  gexc : ∀ x c b, C.gl x = some (.exc c b) → X.mg x = some (.ref (Z.ea c).1)
  exc0 : ∀ x c, C.gl x = some (.exc c false) → PySem.W.excIn X.K (Z.ea c).1 He.veBase "ValueError.__new__" = true ∧ PySem.W.keepIn X.K (.ref (Z.ea c).1) = true ∧ Raises X (.ref (Z.ea c).1)
  exm : ∀ c c', c ∈ C.kn → c' ∈ C.kn → PySem.W.exmOne X.K (.ref (Z.ea c).1) (.ref (Z.ea c').1) = some (decide (c = c'))
  xf : ∀ x c, C.gl x = some (.exc c true) → c ∈ C.kn → XfC X.K (Z.ea c).1 ∧ PySem.W.findIn X.K (.ref (Z.ea c).1) (Z.ea c).2 = some none ∧ C.xf c = (Z.ea c).2
section
variable {Z : Ct} {v0 : Option V} {σ : L2.St} {H : Hp} {B : Ends}
theorem tS_pre {is : List Nat} {b : SDen} (h : tS Z v0 (pre is b) B σ H) : tS Z v0 b B σ H := by
  unfold pre at h
  by_cases e : is.isEmpty = true
  · rw [if_pos e] at h; exact h
  · rw [if_neg e] at h; exact tS_fz h
theorem tBE_pre {is : List Nat} {b : Den} {Q : Bool → Hp → Prop} (h : tBE Z v0 (preE is b) σ H Q) : tBE Z v0 b σ H Q := by
  unfold preE at h
  by_cases e : is.isEmpty = true
  · rw [if_pos e] at h; exact h
  · rw [if_neg e] at h; exact tBE_fz h
end
theorem noSwap {e : Expr} (h : isLc e = false) (t : Expr) (l : Nat) (env : PySem.Env) : swapsWithSole [t] e l env = pure false := by
  cases e <;> first | (simp [isLc] at h; done) | rfl
theorem noStores {t e : Expr} (h : (isTupE t && isTupE e) = false) (ht : ∀ es p, t ≠ .List es p) (env : PySem.Env) : swappedStores [t] e env = pure none := by
  cases t <;> cases e <;> first | rfl | (simp [isTupE] at h; done) | exact absurd rfl (ht _ _)
section
variable {X : Cx} {C : CC} {Z : Ct} {k : Nat} {v0 : Option V} (G : GS X C Z k v0)
include G
theorem ps_asg1 {t e : Expr} {t' : Tgt} {d : Den} {is : List Nat} {p : Pos} (e1 : cTg 20 C t = some t') (e2 : cE 100 C e = some d) (h1 : isLc e = false) (h2 : (isTupE t && isTupE e) = false) : PS X (.Assign [t] e p) (tS Z v0 (pre is (sAsg t' d))) := by
  have ok := (tg_ok 20).1 t t' e1
  have nl : ∀ es q, t ≠ .List es q := fun es q z => by subst z; cases e1
  exact PS.imp (ps_asg ((impOk 100).E (v0 := v0) G.G G.pi e d e2).1.1 ((pg_tgt G.G G.io 20).1 t t' e1) (noSwap h1 _ _ _) (noStores h2 nl _) (by rw [asgE_cons ok]; rfl)) fun _ _ _ h => tS_asg (tS_pre h)
end
end Z
end

section
set_option Elab.async false
set_option linter.all false
set_option maxRecDepth 100000
set_option maxHeartbeats 4000000
/-! ZX: name = [..] on one line (to be joined). -/
namespace Z
open PySem L2 PyProof.Rows
theorem lc_parts {n : Nat} {C : CC} {el : Expr} {gs : List Comprehension} {sc : Scope} {p : Pos} {d : PDen} (h : cP (n + 1) C (.ListComp el gs sc p) = some d) :
    ∃ t it ifs i pt c e, gs = [⟨t, it, ifs, 0⟩] ∧ L2.blkC C.N C.sc sc (C.ownOf sc) = true ∧ cI n C (isTupE t) it = some i ∧ cPat n (C.blk sc) t = some pt ∧ cIfs n (C.blk sc) ifs = some c ∧ cP n (C.blk sc) el = some e ∧
      (∀ j ∈ pt.slots, j ∈ (C.ownOf sc).map (·.2)) ∧ d = pLc i pt c e ((C.ownOf sc).map (·.2)) := by
  simp only [cP] at h
  split at h
  · rename_i t it ifs
    by_cases hb : L2.blkC C.N C.sc sc (C.ownOf sc) = true
    · rw [if_pos hb] at h
      cases e1 : cI n C (isTupE t) it with
      | none => rw [e1] at h; cases h
      | some i =>
      cases e2 : cPat n (C.blk sc) t with
      | none => rw [e1, e2] at h; cases h
      | some pt =>
      cases e3 : cIfs n (C.blk sc) ifs with
      | none => rw [e1, e2, e3] at h; cases h
      | some c =>
      cases e4 : cP n (C.blk sc) el with
      | none => rw [e1, e2, e3, e4] at h; cases h
      | some e =>
      rw [e1, e2, e3, e4] at h
      simp only at h
      by_cases hs : (pt.slots.all fun k => ((C.ownOf sc).map (·.2)).contains k) = true
      · rw [if_pos hs] at h; cases h
        exact ⟨t, it, ifs, i, pt, c, e, rfl, hb, by assumption, by assumption, by assumption, by first | rfl | assumption, fun j hj => by simpa using List.all_eq_true.mp hs j hj, rfl⟩
      · rw [if_neg hs] at h; cases h
    · rw [if_neg hb] at h; cases h
  · cases h
theorem tE_mono {Z : Ct} {v0 : Option V} {σ : L2.St} {H : Hp} {d : Den} {Q Q' : VK} (h : tE Z v0 d σ H Q) (i : ∀ v H, Q v H → Q' v H) : tE Z v0 d σ H Q' := by
  obtain ⟨env, F, O, r, oc⟩ := h
  exact ⟨env, F, O, r, oc.mono fun q k v F' H' O' fp n => i _ _ (k v F' H' O' fp n)⟩
theorem gT_nm {Z : Ct} {v0 : Option V} {σ : L2.St} {H : Hp} {i : Nat} {v : V} {Q : L2.St → Hp → Prop} (hz : ∀ w, v0 = some w → i = 0 → False) (h : gT Z v0 (.nm i) v σ H Q) : gName i v σ H Q := by
  obtain ⟨env, F, O, d, fp, sr, dr, hid, nd, dj, oc⟩ := h
  have oc : ∀ σ' F' H' O', Stp F H (fun a => OS O a ∨ a ∈ fp) F' H' (OS O') → SR Z.g v0 F' H' σ' (env.set i d) O' → Q σ' H' := oc
  refine oc _ F H _ ((Stp.refl sr.sub).less fun a ha => ?_) (sr.set dr hid nd (fun a ha j _ z => dj a ha ⟨j, z⟩) fun w hw e => (hz w hw e).elim)
  rcases OS_set ha with ha | ha
  · exact .inl ha
  · by_cases hl : i < env.length
    · rw [if_pos hl] at ha; exact .inr ha
    · rw [if_neg hl] at ha; cases ha
section
variable {X : Cx} {C : CC} {Z : Ct} {k : Nat} {v0 : Option V} (G : GS X C Z k v0)
include G
/-- name = [..] that changes nothing -/
theorem ps_lcP {n : Nat} {y : Str} {py : Pos} {el : Expr} {gs : List Comprehension} {sc : Scope} {q p : Pos} {i : Nat} {d : PDen} {is : List Nat} (e1 : cTg 20 C (.Name y py) = some (.nm i)) (e2 : cP (n + 1) C (.ListComp el gs sc q) = some d) :
    PS X (.Assign [.Name y py] (.ListComp el gs sc q) p) (tS Z v0 (pre is (sAsg (.nm i) (eP d)))) := by
  have g := (pg_tgt G.G G.io 20).1 _ _ e1
  have pe := ((pureOk (n + 1)).P G.G _ d e2).1
  cases hb : (X.env.blockKind == .function && X.env.kindOf y == some .local && py.line == q.line && !(sc.names.any fun (n, k) => n == y && (k == .local || k == .cell))) with
  | false =>
    refine PS.imp (ps_asg pe g ?_ rfl rfl) fun _ _ _ h => ?_
    · show swapsWith (.ListComp el gs sc q) (some (.Name y py)) p.line X.env = pure false
      show (pure (X.env.blockKind == .function && X.env.kindOf y == some .local && py.line == q.line && !(sc.names.any fun (n, k) => n == y && (k == .local || k == .cell))) : Sem Bool) = pure false
      rw [hb]
    · have := tS_asg (tS_pre h)
      exact tE_pure this
  | true =>
    obtain ⟨t, it, ifs, i', pt, c, e, rfl, h1, h2, h3, h4, h5, h6, rfl⟩ := lc_parts e2
    simp only [cTg] at e1
    cases e0 : C.slotS y with
    | none => rw [e0] at e1; cases e1
    | some j =>
      rw [e0] at e1
      simp only at e1
      by_cases z : (C.io && j == 0) = true
      · rw [if_pos z] at e1; cases e1
      · rw [if_neg z] at e1; cases e1
        obtain ⟨_, hN, hl⟩ := slotS_some e0
        have hyl : X.env.scope.names.lookup y = some .local := by
          simp only [Bool.and_eq_true] at hb
          exact eq_of_beq hb.1.1.2
        obtain ⟨pi, oki⟩ := (pureOk n).I G.G t it i' h2
        have bok : BlkOk X.N X.env.scope sc (C.ownOf sc) := by
          rw [G.G.N, G.G.sc]; exact blkOk_by h1
        refine PS.imp (ps_setLc G.G.calm G.G.nd (by rw [G.G.N]; exact hN) hyl ?_ pi bok (fun s H a cl fp => (pg_pat (G.G.blk s H sc a cl fp) n).1 t pt h3) (fun s H a cl fp => (pureOk n).Ifs (G.G.blk s H sc a cl fp) ifs c h4) (fun s H a cl fp => ((pureOk n).P (G.G.blk s H sc a cl fp) el e h5).1) (noset oki _)) fun D σ H h => ?_
        · show (pure (X.env.blockKind == .function && X.env.kindOf y == some .local && py.line == q.line && !(sc.names.any fun (n, k) => n == y && (k == .local || k == .cell))) : Sem Bool) = pure true
          rw [hb]
        · refine tP_lc h6 (tE_pure (tE_mono (tS_asg (tS_pre h)) fun v H hg => gT_nm ?_ hg))
          intro w hw e
          cases hio : C.io with
          | false => rw [G.io hio] at hw; cases hw
          | true => rw [hio, e] at z; exact z rfl
end
end Z
end

section
set_option Elab.async false
set_option linter.all false
set_option maxRecDepth 100000
set_option maxHeartbeats 4000000
/-! ZY: several except clauses, some with a name. -/
namespace Z
open PySem L2 PyProof.Rows
/-- a clause: its class, the slot of its name, what its suite reads -/
abbrev Cla := Value × Option Nat × (Addr → Value → Option Addr → TS)
def offN (D : Ends) : Option Nat → Ends
  | none => D
  | some i => ⟨fun σ H => D.nx (σ.set i none) H, D.rt, fun σ H => D.bk (σ.set i none) H, fun σ H => D.ct (σ.set i none) H⟩
def onN (σ : L2.St) (a : Addr) : Option Nat → L2.St
  | none => σ
  | some i => σ.set i (some (.ref a))
/-- what the clauses wish of an exception, one behind the other -/
def wCl (K : PySem.W.Frag) (W : WX) (D : Ends) : List Cla → WX
  | [] => W
  | c :: r => fun cls d σ H => ∃ b, PySem.W.exmOne K cls c.1 = some b ∧ (b = true → ∀ a, H a = none → c.2.2 a cls d (offN D c.2.1) (onN σ a c.2.1) H) ∧ (b = false → wCl K W D r cls d σ H)
/-- the suite's rule -/
def SuOk (X : Cx) (b : Stmt) (bs : List Stmt) (ts : Addr → Value → Option Addr → TS) : Prop :=
  ∀ (a : Addr) (oe : Obj) (cls : Value) (d : Option Addr) (pn : List (Addr × Obj)), Zc cls d oe → (∃ vs, oe.data = .fields vs) → PSs (X.suite a ((a, oe) :: pn)) (b :: bs) (ts a cls d)
/-- the slot of a clause's name -/
def NmOk (X : Cx) : Option Str → Option Nat → Prop
  | none, none => True
  | some n, some i => X.N[i]? = some n ∧ X.env.kindOf n = some .local
  | _, _ => False
inductive ClaOk (X : Cx) : List ExceptHandler → List Cla → Prop
  | nil : ClaOk X [] []
  | cons {x : Str} {n : Option Str} {i : Option Nat} {c : Value} {ts : Addr → Value → Option Addr → TS} {b : Stmt} {bs : List Stmt} {p q : Pos} {hs : List ExceptHandler} {l : List Cla} :
      Names X x c → NmOk X n i → SuOk X b bs ts → ClaOk X hs l → ClaOk X (.ExceptHandler (some (.Name x p)) n (b :: bs) q :: hs) ((c, i, ts) :: l)
/-- the exception has landed in our frame -/
structure Land (X : Cx) (pins : List (Addr × Obj)) (σ : L2.St) (H : Hp) (sI : Shared) (B : Heap) (a : Addr) (cls : Value) (d : Option Addr) (s : Shared) : Prop where
  J : Inv X pins σ H sI
  nb : ∀ b o, sI.heap.get? b = some o → b ∉ frs X.stack → B.get? b = some o
  fl : HandSPX.FlyingZ B (X.env :: X.outer) a (Zc cls d) s.heap
  up : sI.heap.UpToSlots s.heap
  na : H a = none
  os : s.os = sI.os
  ag : AllBare s.gens
section
variable {X : Cx} {pins : List (Addr × Obj)} {σ : L2.St} {H : Hp} {sI s : Shared} {B : Heap} {a : Addr} {cls : Value} {d : Option Addr}
theorem Land.inv (L : Land X pins σ H sI B a cls d s) : Inv X pins σ H s := L.J.landed L.nb L.fl.1 L.up L.os L.ag
/-- the suite's state -/
theorem Land.at_ (L : Land X pins σ H sI B a cls d s) (hf : X.env.frame = some X.env.locals) : ∃ oe vs, Zc cls d oe ∧ oe.data = .fields vs ∧ s.heap.get? a = some oe ∧ Inv (X.suite a ((a, oe) :: (X.pn ++ pins))) [] σ H s := by
  obtain ⟨oe, vs, he, hz, hd⟩ := L.fl.there
  have apart : a ∉ frs (X.env :: X.outer) := by
    intro hm
    obtain ⟨_, o, eo, hn⟩ := L.fl.2.2.1.mem hm
    rw [he] at eo
    cases eo
    exact hn _ hd
  refine ⟨oe, vs, hz, hd, he, L.inv.suite he hd L.na ?_ ?_⟩
  · intro z
    exact apart (List.mem_filterMap.mpr ⟨X.env, List.mem_cons_self, by rw [hf, z]⟩)
  · intro hm
    obtain ⟨e, h1, h2⟩ := List.mem_filterMap.mp hm
    exact apart (List.mem_filterMap.mpr ⟨e, List.mem_cons_of_mem _ h1, h2⟩)
/-- no clause takes it -/
theorem Land.off {W : WX} {D : Ends} (L : Land X pins σ H sI B a cls d s) (hs : X.stack = X.env :: X.outer) (hf : X.env.frame = some X.env.locals) (tk : Takes X W) (w : W cls d σ H) :
    wpAny (model X.prog X.w) X.A (handleBy (.ref a) X.env []) (SP X pins D) X.xe s := by
  refine wpAny_handleBy_nil ?_
  have out : wpAny (model X.prog X.w) X.A (setFlight (.ref a) X.env.frame) (fun _ s4 => wpAny (model X.prog X.w) X.A (throw (.ref a) : Sem Flow) (SP X pins D) X.xe s4) X.xe s := by
    rw [hf]
    refine HandSPX.setFlight_upZ L.fl fun h4 held up4 => wpAny_throw (tk _ _ ⟨a, B, sI, pins, σ, H, cls, d, rfl, L.J, L.nb, L.up.trans up4, Or.inr (Or.inr ?_), L.na, L.os, L.ag, w⟩)
    rw [hs]; exact held
  obtain ⟨_, _, _, oe, vs, T, oT, ts, he, _, hd, h1, _⟩ := L.fl
  unfold PySem.passOn
  refine wpAny_bind (wpAny_field he hd h1 ?_)
  rw [if_neg (by simp)]
  first
    | exact wpAny_bind (wpAny_pure (wpAny_bind out))
    | exact wpAny_bind out
/-- behind a suite -/
theorem suite_end {D : Ends} {f : Flow} {i : Option Nat} {n : Option Str} {oe : Obj} {q : Pos} {s6 : Shared} (ok : X.Ok) (hN : X.N.Nodup) (hn : NmOk X n i) (h : SP (X.suite a ((a, oe) :: (X.pn ++ pins))) [] (offN D i) f s6) :
    match n with
    | none => SP X pins D f s6
    | some n => wpAny (model X.prog X.w) X.A (do bindName X.env n .none; unbindBehindTheSuite X.env n q) (fun _ s7 => SP X pins D f s7) X.xe s6 := by
  match n, i, hn with
  | none, none, _ =>
    cases f with
    | ret u =>
      obtain ⟨v, σ6, H6, S6, r6, k6⟩ := h
      exact ⟨v, σ6, H6, S6.unsuite ok, r6, k6⟩
    | next =>
      obtain ⟨σ6, H6, S6, k6⟩ := h
      exact ⟨σ6, H6, S6.unsuite ok, k6⟩
    | brk =>
      obtain ⟨σ6, H6, S6, k6⟩ := h
      exact ⟨σ6, H6, S6.unsuite ok, k6⟩
    | cont =>
      obtain ⟨σ6, H6, S6, k6⟩ := h
      exact ⟨σ6, H6, S6.unsuite ok, k6⟩
  | some n, some i, hn =>
    obtain ⟨hi, hl⟩ := hn
    cases f with
    | ret u =>
      obtain ⟨v, σ6, H6, S6, r6, k6⟩ := h
      exact gone_ok (S6.unsuite ok) hN hi hl fun s7 J7 => ⟨v, _, H6, J7, r6, k6⟩
    | next =>
      obtain ⟨σ6, H6, S6, k6⟩ := h
      exact gone_ok (S6.unsuite ok) hN hi hl fun s7 J7 => ⟨_, H6, J7, k6⟩
    | brk =>
      obtain ⟨σ6, H6, S6, k6⟩ := h
      exact gone_ok (S6.unsuite ok) hN hi hl fun s7 J7 => ⟨_, H6, J7, k6⟩
    | cont =>
      obtain ⟨σ6, H6, S6, k6⟩ := h
      exact gone_ok (S6.unsuite ok) hN hi hl fun s7 J7 => ⟨_, H6, J7, k6⟩
/-- the clauses, one behind the other -/
theorem Land.hands {W : WX} {D : Ends} (L : Land X pins σ H sI B a cls d s) (ok : X.Ok) (hs : X.stack = X.env :: X.outer) (hf : X.env.frame = some X.env.locals) (hN : X.N.Nodup) (tk : Takes X W) :
    ∀ {hds : List ExceptHandler} {l : List Cla}, ClaOk X hds l → wCl X.K W D l cls d σ H → wpAny (model X.prog X.w) X.A (handleBy (.ref a) X.env hds) (SP X pins D) X.xe s := by
  intro hds l hk
  induction hk with
  | nil => intro w; exact L.off hs hf tk w
  | @cons x n i c ts b bs p q hs' l' hc hn hsu _ ih =>
    rintro ⟨m, hm, yes, no⟩
    refine wpAny_handleBy_cons (codeAny_handlers_test ?_) (fun z => by cases z)
    obtain ⟨oe, vs, hz, hd, he, S⟩ := L.at_ hf
    have ty : PySem.W.Looks (model X.prog X.w) s.heap (typeOf (.ref a)) cls := fun A Q E s k z => wpAny_typeOf_ref (k _ _ he) (by rw [hz.1]; exact z)
    have mt := PySem.W.exm_one (M := model X.prog X.w) L.inv.kIn ty hm
    have name : ∀ {Q : Value → Shared → Prop} {E : Value → Shared → Prop}, Q c s → wpAny (model X.prog X.w) (X.A.mark (some (.ref a))) (eval (.Name x p) X.env) Q E s := fun {Q E} z => by
      obtain ⟨g, db, g2⟩ := hc
      rcases g2 with g2 | ⟨g2, g3, g4⟩
      · exact ld_glob (X := X.suite a ((a, oe) :: (X.pn ++ pins))) S g g2 z db
      · exact ld_blt (X := X.suite a ((a, oe) :: (X.pn ++ pins))) S g g2 g3 z g4 db
    refine name (mt.here ?_)
    cases m with
    | false => exact ih (no rfl)
    | true =>
      match n, i, hn with
      | none, none, hn =>
        refine codeAny_handlers_suite (HandSPX.lands_againZ L.fl fun h4 fl4 up4 => ?_)
        have L4 : Land X pins σ H sI B a cls d { s with heap := h4 } := ⟨L.J, L.nb, fl4, L.up.trans up4, L.na, L.os, L.ag⟩
        obtain ⟨oe4, vs4, hz4, hd4, _, S4⟩ := L4.at_ hf
        exact wpAny_mono ((hsu a oe4 cls d (X.pn ++ pins) hz4 ⟨_, hd4⟩).run [] _ _ H _ S4 (yes rfl a L.na)) (fun f s6 h6 => suite_end (q := q) ok hN hn h6) (fun _ _ z => z.elim)
      | some n, some i, hn =>
        refine codeAny_handlers_suite_as (HandSPX.lands_againZ L.fl fun h4 fl4 up4 => ?_)
        have L4 : Land X pins σ H sI B a cls d { s with heap := h4 } := ⟨L.J, L.nb, fl4, L.up.trans up4, L.na, L.os, L.ag⟩
        obtain ⟨oe4, vs4, hz4, hd4, _, S4⟩ := L4.at_ hf
        refine store_ok (X := X.suite a ((a, oe4) :: (X.pn ++ pins))) (v := .ref a) S4 hN hn.1 (.inl hn.2) rfl (fun s5 S5 => ?_) (.inr hn.2)
        exact wpAny_mono ((hsu a oe4 cls d (X.pn ++ pins) hz4 ⟨_, hd4⟩).run [] s5 _ H _ S5 (yes rfl a L.na)) (fun f s6 h6 => suite_end (q := q) ok hN hn h6) (fun _ _ z => z.elim)
/-- try: .., several clauses -/
theorem ps_tryC {body : List Stmt} {h₀ : ExceptHandler} {hds : List ExceptHandler} {l : List Cla} {pos : Pos} {tb : WX → TS} {W : WX} (hs : X.stack = X.env :: X.outer) (hf : X.env.frame = some X.env.locals) (hN : X.N.Nodup) (tk : Takes X W)
    (hb : ∀ (W' : WX) (pn : List (Addr × Obj)) (xe : Value → Shared → Prop), Takes (X.tr pn xe) W' → PassesOwn (model X.prog X.w) X.A X.env xe → PSs (X.tr pn xe) body (tb W')) (hh : ClaOk X (h₀ :: hds) l) :
    PS X (.Try body (h₀ :: hds) [] [] pos) (fun D σ H => tb (wCl X.K W D l) D σ H) := by
  constructor
  intro pins s σ H D I h
  have ok := I.ok
  refine wpAny_Try_except ?_
  have run := hb (wCl X.K W D l) (X.pn ++ pins) (fun e s₁ => wpAny (model X.prog X.w) X.A (noteFrame e X.env) (fun _ s₂ => wpAny (model X.prog X.w) X.A (setFlight e none) (fun _ s₃ =>
    wpAny (model X.prog X.w) X.A (handleBy e X.env (h₀ :: hds)) (SP X pins D) X.xe s₃) X.xe s₂) X.xe s₁) ?_ PassesOwn.looking
  · refine wpAny_mono (run.run [] s σ H D (I.toTry _) h) (fun f s1 z => ?_) (fun _ _ z => z)
    cases f with
    | ret u =>
      obtain ⟨v, σ', H', J', r, k⟩ := z
      exact ⟨v, σ', H', J'.ofTry ok, r, k⟩
    | next =>
      obtain ⟨σ', H', J', k⟩ := z
      exact wpAny_execs_nil ⟨σ', H', J'.ofTry ok, k⟩
    | brk =>
      obtain ⟨σ', H', J', k⟩ := z
      exact ⟨σ', H', J'.ofTry ok, k⟩
    | cont =>
      obtain ⟨σ', H', J', k⟩ := z
      exact ⟨σ', H', J'.ofTry ok, k⟩
  · rintro u s' ⟨a, B, sI, pins', σ', H', cls, d, rfl, J', nb, up, sky, na, os, ag, w⟩
    refine Sky.land Zc.steady (env := X.env) (outer := X.outer) (L := X.env.locals) (B := B) (by rw [ok.frames, hs]) hf (by rw [← hs]; exact sky) fun h3 fl3 up3 => ?_
    exact Land.hands (s := { s' with heap := h3 }) ⟨J'.ofTry ok, nb, fl3, up.trans up3, na, os, ag⟩ ok hs hf hN tk hh w
end
end Z
end

section
set_option Elab.async false
set_option linter.all false
set_option maxRecDepth 100000
set_option maxHeartbeats 4000000
/-! ZZa: a, b = x, y. -/
namespace Z
open PySem L2 PyProof.Rows
theorem sw_eq {C : CC} {env : PySem.Env} {ts vs : List Expr} {k k2 : Nat} {p p2 : Pos} (hs : env.scope = C.sc) (hk : env.scope.kind = .function) {r : Option (List Str)} (h : swC C ts vs = some r) :
    swappedStores [.Tuple ts k p] (.Tuple vs k2 p2) env = pure r := by
  have hb : env.blockKind = .function := by unfold Env.blockKind; rw [hk]; rfl
  unfold swC at h
  rw [← hs] at h
  unfold swappedStores
  simp only [hb, hk, Env.kindOf] at h ⊢
  split at h
  · rename_i c; cases h; exact if_pos c
  rename_i c; refine (if_neg c).trans ?_
  split at h
  · rename_i c; cases h; exact if_pos c
  rename_i c; refine (if_neg c).trans ?_
  split at h
  · rename_i c; cases h; exact if_pos c
  rename_i c; refine (if_neg c).trans ?_
  split at h
  · rename_i c; cases h; exact if_pos c
  rename_i c; refine (if_neg c).trans ?_
  split at h
  · cases h
  rename_i c; cases h; exact if_neg c
/-- what it means that the names are told -/
theorem sw_some {C : CC} {ts vs : List Expr} {ns : List Str} (h : swC C ts vs = some (some ns)) : (ts.length = 2 ∨ ts.length = 3) ∧ vs.length = ts.length ∧ ns.length = ts.length ∧ ns = ts.filterMap (fun
    | .Name id pos => if (C.sc.names.lookup id == some .local && pos.line == (ts.head?.map (·.pos.line)).getD 0) = true then some id else none
    | _ => none) := by
  unfold swC at h
  split at h
  · cases h
  rename_i c0
  split at h
  · cases h
  simp only at h
  split at h
  · cases h
  rename_i c1
  split at h
  · cases h
  split at h
  · cases h
  cases h
  simp only [Bool.or_eq_true, Bool.not_eq_true', Bool.or_eq_false_iff, beq_eq_false_iff_ne, bne_iff_ne, not_or, ne_eq, Decidable.not_not, not_and] at c0 c1
  refine ⟨?_, c0.1.2, c1.1, rfl⟩
  by_cases h2 : ts.length = 2
  · exact .inl h2
  · exact .inr (c0.1.1 h2)
/-- slots stored, one behind the other -/
def setsS : List Nat → List V → L2.St → L2.St
  | i :: is, v :: vs, σ => setsS is vs (σ.set i (some v))
  | _, _, σ => σ
section
variable {g : Gb} {v0 : Option V} {F H : Hp}
theorem SR.sets : ∀ (is : List Nat) {σ : L2.St} {env : Env} {O : Nat → List Addr} {vs : List V} {ds : List D} {fps : List (List Addr)}, SR g v0 F H σ env O → DRs g F H vs ds fps → is.length = ds.length → (∀ a ∈ fps.flatten, F a = none) → fps.flatten.Nodup → (∀ a ∈ fps.flatten, ¬ OS O a) → (v0 = none ∨ 0 ∉ is) →
    ∃ O', SR g v0 F H (setsS is vs σ) (setsE is ds env) O' ∧ ∀ a, OS O' a → OS O a ∨ a ∈ fps.flatten
  | [], σ, env, O, vs, ds, fps, r, q, l, h, nd, dj, z => ⟨O, r, fun a h => .inl h⟩
  | i :: is, σ, env, O, vs, [], fps, r, q, l, h, nd, dj, z => by simp at l
  | i :: is, σ, env, O, vs, d :: ds, fps, r, q, l, h, nd, dj, z => by
    obtain ⟨v, vs', f, fps', rfl, rfl, dv, q⟩ := q.uncons
    rw [List.flatten_cons] at h nd dj
    rw [List.nodup_append] at nd
    have r1 := r.set (i := i) dv (fun a ha => h a (List.mem_append_left _ ha)) nd.1 (fun a ha j _ k => dj a (List.mem_append_left _ ha) ⟨j, k⟩) (fun w hw e => by
      rcases z with z | z
      · rw [z] at hw; cases hw
      · exact absurd (by rw [e]; exact List.mem_cons_self) z)
    have sub : ∀ a, OS (setO O i (if i < env.length then f else [])) a → OS O a ∨ a ∈ f := fun a ha => by
      rcases OS_set ha with ha | ha
      · exact .inl ha
      · split at ha
        · exact .inr ha
        · cases ha
    obtain ⟨O', r2, s2⟩ := SR.sets is r1 q (by simpa using l) (fun a ha => h a (List.mem_append_right _ ha)) nd.2.1 (fun a ha k => by
      rcases sub a k with k | k
      · exact dj a (List.mem_append_right _ ha) k
      · exact nd.2.2 a k a ha rfl) (z.imp_right fun z k => z (List.mem_cons_of_mem _ k))
    refine ⟨O', r2, fun a ha => ?_⟩
    rw [List.flatten_cons, List.mem_append]
    rcases s2 a ha with k | k
    · rcases sub a k with k | k
      · exact .inl k
      · exact .inr (.inl k)
    · exact .inr (.inr k)
end
section
variable {Z : Ct} {v0 : Option V} {σ : L2.St} {H : Hp} {B : Ends}
theorem eAll_len : ∀ {ds : List Den} {rt : RT} {env : Env} {q : List D × Env}, eAll ds rt env = .ok q → q.1.length = ds.length
  | [], rt, env, q, h => by cases h; rfl
  | d :: ds, rt, env, q, h => by
    obtain ⟨a, _, h⟩ := Out.bind_ok h
    obtain ⟨b, h1, h⟩ := Out.bind_ok h
    cases h
    simp [eAll_len h1]
theorem tS_par {is : List Nat} {ds : List Den} (hl : is.length = ds.length) (hz : v0 = none ∨ 0 ∉ is) (h : tS Z v0 (sPar is ds) B σ H) : tEA Z v0 ds σ H fun vs H1 => vs.length = is.length ∧ B.nx (setsS is vs σ) H1 := by
  obtain ⟨env, F, O, r, so⟩ := h
  refine ⟨env, F, O, r, ?_⟩
  have oc := Oa.oe (σ := σ) (Oa.bind (So.oa so))
  cases e : eAll ds Z.rt env with
  | bad => rw [e] at oc; exact oc
  | exc c fs => rw [e] at oc; exact oc
  | ok q =>
    rw [e] at oc
    have oc : ∀ σ' F' H' O', Stp F H (OS O) F' H' (OS O') → SR Z.g v0 F' H' σ' (setsE is q.1 q.2) O' → B.nx σ' H' := oc
    intro vs F' H' O' fps n
    have l1 := eAll_len e
    obtain ⟨O2, r2, s2⟩ := n.sr.sets is n.dr (by rw [l1]; exact hl) n.hid n.nd n.dj hz
    exact ⟨by rw [n.dr.1, l1, hl], oc _ F' H' O2 (n.st.less s2) r2⟩
end
section
variable {X : Cx} {C : CC} {Z : Ct} {k : Nat} {v0 : Option V} (G : GS X C Z k v0)
include G
theorem nms_slot : ∀ {es : List Expr} {is : List Nat}, cNms C es = some is → is.length = es.length ∧ (v0 = none ∨ 0 ∉ is) ∧ ∀ (j : Nat) (x : Str) (p : Pos), es[j]? = some (.Name x p) → ∃ i, is[j]? = some i ∧ X.N[i]? = some x
  | [], is, h => by cases h; exact ⟨rfl, .inr (by simp), fun j x p e => by simp at e⟩
  | e :: es, is, h => by
    cases e <;> first | (cases h; done) | skip
    rename_i x p
    simp only [cNms] at h
    cases e1 : C.slotS x with
    | none => rw [e1] at h; cases h
    | some i =>
      cases e2 : cNms C es with
      | none => rw [e1, e2] at h; cases h
      | some is' =>
        rw [e1, e2] at h
        simp only at h
        by_cases z : (C.io && i == 0) = true
        · rw [if_pos z] at h; cases h
        · rw [if_neg z] at h; cases h
          obtain ⟨l, z2, f⟩ := nms_slot e2
          obtain ⟨_, hN, _⟩ := slotS_some e1
          refine ⟨by simp [l], ?_, fun j y q ej => ?_⟩
          · cases hio : C.io with
            | false => exact .inl (G.io hio)
            | true =>
              rcases z2 with z2 | z2
              · exact .inl z2
              · refine .inr fun m => ?_
                rcases List.mem_cons.mp m with m | m
                · rw [hio, ← m] at z; exact z rfl
                · exact z2 m
          · cases j with
            | zero => simp at ej; obtain ⟨rfl, rfl⟩ := ej; exact ⟨i, rfl, by rw [G.G.N]; exact hN⟩
            | succ j => exact f j y q (by simpa using ej)
theorem ps_parC {ts vs : List Expr} {ns : List Str} {is : List Nat} {ds : List Den} {fz : List Nat} {k1 k2 : Nat} {p p1 p2 : Pos} (e1 : swC C ts vs = some (some ns)) (e2 : cNms C ts = some is) (e3 : cEs 100 C vs = some ds) (nd : is.Nodup) :
    PS X (.Assign [.Tuple ts k1 p1] (.Tuple vs k2 p2) p) (tS Z v0 (pre fz (sPar is ds))) := by
  obtain ⟨a1, a2, a3⟩ := (impOk 100).Es (v0 := v0) G.G G.pi vs ds e3
  obtain ⟨l1, z, sl⟩ := nms_slot G e2
  obtain ⟨l2, l3, l4, l5⟩ := sw_some e1
  have sw := sw_eq (k := k1) (k2 := k2) (p := p1) (p2 := p2) G.G.sc G.kind e1
  have hl : is.length = ds.length := by rw [l1, a3, l3]
  have sub : ∀ (es : List Expr) (f : Expr → Option Str), (es.filterMap f).length = es.length → ∀ (j : Nat) (e : Expr), es[j]? = some e → ∃ y, f e = some y ∧ (es.filterMap f)[j]? = some y := by
    intro es f
    induction es with
    | nil => intro _ j e he; simp at he
    | cons e0 es ih =>
      intro hl j e he
      cases hf : f e0 with
      | none =>
        rw [List.filterMap_cons_none hf] at hl
        have := List.length_filterMap_le f es
        simp at hl; omega
      | some y0 =>
        rw [List.filterMap_cons_some hf] at hl ⊢
        cases j with
        | zero => simp at he; subst he; exact ⟨y0, hf, rfl⟩
        | succ j => exact ih (by simpa using hl) j e (by simpa using he)
  have key : ∀ (j : Nat) (e : Expr), ts[j]? = some e → ∃ x q i, e = .Name x q ∧ ns[j]? = some x ∧ is[j]? = some i ∧ X.N[i]? = some x ∧ X.env.scope.names.lookup x = some .local := fun j e he => by
    obtain ⟨y, h1, h2⟩ := sub ts _ (by rw [← l5]; exact l4) j e he
    rw [← l5] at h2
    cases e <;> first | (cases h1; done) | skip
    rename_i x q
    simp only at h1
    split at h1
    · rename_i hc
      have h1 := Option.some.inj h1
      subst h1
      obtain ⟨i, i1, i2⟩ := sl j _ q he
      exact ⟨_, q, i, rfl, h2, i1, i2, by rw [G.G.sc]; exact eq_of_beq (Bool.and_eq_true_iff.mp hc).1⟩
    · cases h1
  rcases l2 with l2 | l2
  · obtain ⟨t0, t1, rfl⟩ := len_two l2
    obtain ⟨v1, v2, rfl⟩ := len_two (l3.trans l2)
    obtain ⟨i0, i1, rfl⟩ := len_two (l1.trans l2)
    obtain ⟨y0, y1, rfl⟩ := len_two (l4.trans l2)
    obtain ⟨x, q, i, rfl, c1, c2, c3, c4⟩ := key 0 _ rfl
    obtain ⟨x', q', i', rfl, c1', c2', c3', c4'⟩ := key 1 _ rfl
    simp at c1 c2 c1' c2'
    subst c1 c2 c1' c2'
    have ne : i0 ≠ i1 := by simpa using nd
    refine PS.imp (ps_par G.G.calm G.G.nd c3 c3' ne c4 c4' a1 sw) fun D σ H h => ?_
    obtain ⟨env, F, O, r, oc⟩ := tS_par hl z (tS_pre h)
    refine ⟨env, F, O, r, oc.mono fun q k vs F' H' O' fps n => ?_⟩
    obtain ⟨h1, h2⟩ := k vs F' H' O' fps n
    obtain ⟨v, w, rfl⟩ := len_two h1
    exact ⟨v, w, rfl, h2⟩
  · have len3 : ∀ {α : Type} {xs : List α}, xs.length = 3 → ∃ a b c, xs = [a, b, c] := fun {α xs} h => match xs, h with
      | [a, b, c], _ => ⟨a, b, c, rfl⟩
    obtain ⟨t0, t1, t2, rfl⟩ := len3 l2
    obtain ⟨v1, v2, v3, rfl⟩ := len3 (l3.trans l2)
    obtain ⟨i0, i1, i2, rfl⟩ := len3 (l1.trans l2)
    obtain ⟨y0, y1, y2, rfl⟩ := len3 (l4.trans l2)
    obtain ⟨x, q, i, rfl, c1, c2, c3, c4⟩ := key 0 _ rfl
    obtain ⟨x', q', i', rfl, c1', c2', c3', c4'⟩ := key 1 _ rfl
    obtain ⟨x2, q2, i22, rfl, c12, c22, c32, c42⟩ := key 2 _ rfl
    simp at c1 c2 c1' c2' c12 c22
    subst c1 c2 c1' c2' c12 c22
    have ne : (¬ i0 = i1 ∧ ¬ i0 = i2) ∧ ¬ i1 = i2 := by simpa using nd
    refine PS.imp (ps_par3 G.G.calm G.G.nd c3 c3' c32 ne.1.1 ne.1.2 ne.2 c4 c4' c42 a1 sw) fun D σ H h => ?_
    obtain ⟨env, F, O, r, oc⟩ := tS_par hl z (tS_pre h)
    refine ⟨env, F, O, r, oc.mono fun q k vs F' H' O' fps n => ?_⟩
    obtain ⟨h1, h2⟩ := k vs F' H' O' fps n
    obtain ⟨u, v, w, rfl⟩ := len3 h1
    exact ⟨u, v, w, rfl, h2⟩
end
end Z
end

section
set_option Elab.async false
set_option linter.all false
set_option maxRecDepth 100000
set_option maxHeartbeats 4000000
/-! ZZb: raise, try. -/
namespace Z
open PySem L2 PyProof.Rows
/-- what a suite reads: the value of the error's fields -/
def tSu (Z : Ct) (f : Suite) (c : Nat) (i : Option Nat) (a : Addr) (cls : Value) (d : Option Addr) : TE := fun σ H Q => ∃ F fs x, (∀ a o, F a = some o → H a = some o) ∧ ExR Z.g Z.ea F H c fs cls d ∧ (∀ j, i = some j → σ[j]? = some (some (.ref a))) ∧
  f fs = some x ∧ ∀ v F' H', Nw F H F' H' → DR Z.g F' H' v x [] → Q v H'
def tSus (Z : Ct) (f : List D → Option (List D)) (c : Nat) (i : Option Nat) (a : Addr) (cls : Value) (d : Option Addr) : TA := fun σ H Q => ∃ F fs xs, (∀ a o, F a = some o → H a = some o) ∧ ExR Z.g Z.ea F H c fs cls d ∧ (∀ j, i = some j → σ[j]? = some (some (.ref a))) ∧
  f fs = some xs ∧ ∀ vs F' H', Nw F H F' H' → vs.length = xs.length → (∀ (i : Nat) v d, vs[i]? = some v → xs[i]? = some d → DR Z.g F' H' v d []) → Q vs H'
theorem ExR.later {g : Gb} {ea : Nat → Addr × Str} {F H F' H' : Hp} {c : Nat} {fs : List D} {cls : Value} {dd : Option Addr} (e : ExR g ea F H c fs cls dd) (n : Nw F H F' H') : ExR g ea F' H' c fs cls dd := by
  obtain ⟨e1, e2⟩ := e
  refine ⟨e1, ?_⟩
  rcases e2 with e2 | ⟨a, xs, v, d, h1, h2, h3, h4, h5⟩
  · exact .inl e2
  · exact .inr ⟨a, xs, v, d, h1, h2, n.ext _ _ h3, h4, h5.later n⟩
section
variable {X : Cx} {Z : Ct} {nm : Option (Str × Str)} {c : Nat} {i : Option Nat} {a : Addr} {oe : Obj} {cls : Value} {d : Option Addr} {pn : List (Addr × Obj)}
/-- the clause's name and its class's field -/
def NmF (X : Cx) (Z : Ct) (c : Nat) (nm : Option (Str × Str)) (i : Option Nat) : Prop := ∀ y g, nm = some (y, g) → ∃ j, i = some j ∧ X.N[j]? = some y ∧ X.env.kindOf y = some .local ∧ g = (Z.ea c).2 ∧ XfC X.K (Z.ea c).1 ∧ PySem.W.findIn X.K (.ref (Z.ea c).1) (Z.ea c).2 = some none
theorem su_okE {n : Nat} {e : Expr} {f : Suite} (h : cSu n nm e = some f) : okE e = true := by
  cases n with
  | zero => cases h
  | succ n => cases e <;> first | rfl | (cases h)
theorem pe_su (hz : Zc cls d oe) (hf : ∃ vs, oe.data = .fields vs) (hn : NmF X Z c nm i) : ∀ n, (∀ e f, cSu n nm e = some f → PE (X.suite a ((a, oe) :: pn)) e (tSu Z f c i a cls d)) ∧ ∀ es f, cSus n nm es = some f → PA (X.suite a ((a, oe) :: pn)) es (tSus Z f c i a cls d)
  | 0 => ⟨fun e f h => (nomatch h), fun es f h => (nomatch h)⟩
  | n + 1 => by
    obtain ⟨i1, i2⟩ := pe_su hz hf hn n
    refine ⟨fun e f h => ?_, fun es f h => ?_⟩
    · cases e with
      | Constant k j p =>
        simp only [cSu] at h
        cases k <;> first | (cases h; done) | skip
        · cases h
          exact PE.imp pe_non fun σ H Q ⟨F, fs, x, sub, _, _, hx, q⟩ => by cases hx; exact q _ F H (Nw.refl sub) .non
        · cases h
          exact PE.imp pe_bl fun σ H Q ⟨F, fs, x, sub, _, _, hx, q⟩ => by cases hx; exact q _ F H (Nw.refl sub) (.bl _)
        · cases h
          exact PE.imp pe_int fun σ H Q ⟨F, fs, x, sub, _, _, hx, q⟩ => by cases hx; exact q _ F H (Nw.refl sub) (.int _)
        · cases h
          exact PE.imp pe_str fun σ H Q ⟨F, fs, x, sub, _, _, hx, q⟩ => by cases hx; exact q _ F H (Nw.refl sub) (.str _)
      | Attribute o f' p =>
        cases o <;> first | (cases h; done) | skip
        rename_i x px
        simp only [cSu] at h
        cases nm with
        | none => cases h
        | some yg =>
          obtain ⟨y, g⟩ := yg
          simp only at h
          by_cases hc : x = y ∧ f' = g ∧ okN x = true
          · rw [if_pos hc] at h; cases h
            obtain ⟨rfl, rfl, hok⟩ := hc
            obtain ⟨j, rfl, hN, hl, rfl, T, hno⟩ := hn _ _ rfl
            obtain ⟨k1, k2, k3⟩ := okN_some hok
            have pv : PE (X.suite a ((a, oe) :: pn)) (.Name x px) (tVar j) := pe_var (X := X.suite a ((a, oe) :: pn)) hN (.inl hl) k1 k2
            refine PE.imp (pe_xf (X := X) T hno hz hf pv) fun σ H Q ⟨F, fs, z, sub, ex, hσ, hx, q⟩ => ?_
            obtain ⟨ec, ex⟩ := ex
            rcases ex with rfl | ⟨da, xs, v, dd, rfl, h2, h3, h4, h5⟩
            · cases hx
            · cases hx
              exact ⟨_, hσ j rfl, rfl, ec, da, xs, v, h2, h3, h4, q v F H (Nw.refl sub) h5⟩
          · rw [if_neg hc] at h; cases h
      | Tuple es kk p =>
        simp only [cSu] at h
        obtain ⟨g, e1, rfl⟩ := Option.map_eq_some_iff.mp h
        refine PE.imp (pe_tup (i2 es g e1)) fun σ H Q ⟨F, fs, x, sub, ex, hσ, hx, q⟩ => ?_
        obtain ⟨xs, h1, h2⟩ := Option.bind_eq_some_iff.mp hx
        by_cases hl : xs.length ≤ sizeMax
        · rw [if_pos hl] at h2; cases h2
          refine ⟨F, fs, xs, sub, ex, hσ, h1, fun vs F' H' nw l dr => ⟨by rw [l, ← sizeMax_eq]; exact hl, ?_⟩⟩
          have w : Wish Z F' H' Q (.tup xs) := fun v F2 H2 fp m => q v F2 H2 (nw.trans m.nw) (by have := m.dr; rw [this.nofp rfl] at this; exact this)
          exact w.newT nw.sub l dr
        · rw [if_neg hl] at h2; cases h2
      | _ => cases h
    · cases es with
      | nil =>
        cases h
        exact PA.imp pa_nil fun σ H Q ⟨F, fs, xs, sub, ex, hσ, hx, q⟩ => by cases hx; exact q [] F H (Nw.refl sub) rfl fun i v d e => by simp at e
      | cons e es =>
        simp only [cSus] at h
        cases e1 : cSu n nm e with
        | none => rw [e1] at h; cases h
        | some f1 =>
          cases e2 : cSus n nm es with
          | none => rw [e1, e2] at h; cases h
          | some f2 =>
            rw [e1, e2] at h; cases h
            refine PA.imp (pa_cons (i1 e f1 e1) (i2 es f2 e2) (nostar (su_okE e1) _ _)) fun σ H Q ⟨F, fs, xs, sub, ex, hσ, hx, q⟩ => ?_
            have hx : (match f1 fs, f2 fs with
              | some x, some xs => some (x :: xs)
              | _, _ => none) = some xs := hx
            cases h1 : f1 fs with
            | none => rw [h1] at hx; cases hx
            | some x =>
              cases h2 : f2 fs with
              | none => rw [h1, h2] at hx; cases hx
              | some xs' =>
                rw [h1, h2] at hx; cases hx
                refine ⟨F, fs, x, sub, ex, hσ, h1, fun v F1 H1 nw1 dv => ⟨F1, fs, xs', nw1.sub, ex.later nw1, hσ, h2, fun vs F2 H2 nw2 l dr => q (v :: vs) F2 H2 (nw1.trans nw2) (by simp [l]) fun j w y e3 e4 => ?_⟩⟩
                cases j with
                | zero => simp at e3 e4; subst e3 e4; exact dv.later nw2
                | succ j => exact dr j w y (by simpa using e3) (by simpa using e4)
end
/-! ### raise, try -/
section
variable {Z : Ct} {σ : L2.St} {H : Hp} {B : Ends}
theorem tS_raise0 {v0 : Option V} {c : Nat} {D : Ends} (h : tS Z v0 (sRaise c []) D σ H) : Z.W (.ref (Z.ea c).1) none σ H := by
  obtain ⟨env, F, O, r, so⟩ := h
  exact so _ none σ F H _ (Stp.refl r.sub) ⟨rfl, .inl rfl⟩
def Ct.withW (Z : Ct) (W : WX) : Ct := { Z with W := W }
/-- the clause's reading -/
def claOf (Z : Ct) (h : Hd) : Cla := (.ref (Z.ea h.c).1, h.i, fun a cls d => tRet (tSu Z h.f h.c h.i a cls d))
theorem Res.withW {v0 : Option V} {F H' F' : Hp} {P : Addr → Prop} {env : Env} {O : Nat → List Addr} {v : V} {d : _root_.Z.D} {fp : List Addr} {W : WX} (r : Res (Z.withW W) v0 F H P σ F' H' env O v d fp) : Res Z v0 F H P σ F' H' env O v d fp := ⟨r.st, r.sr, r.dr, r.hid, r.nd, r.dj⟩
theorem wCl_of {K : PySem.W.Frag} {kn : List Nat} {c : Nat} {fs : List D} {cls : Value} {dd : Option Addr} {F H0 F' H' : Hp} {P P' : Addr → Prop} (hk : c ∈ kn) (ex : ExR Z.g Z.ea F' H' c fs cls dd) (st : Stp F H0 P F' H' P')
    (exm : ∀ c c', c ∈ kn → c' ∈ kn → PySem.W.exmOne K (.ref (Z.ea c).1) (.ref (Z.ea c').1) = some (decide (c = c'))) (D : Ends) : ∀ hs : List Hd, (∀ h ∈ hs, h.c ∈ kn) → (∀ h ∈ hs, ∀ i, h.i = some i → i < σ.length) →
      So Z none F H0 P (match hFind c hs with
        | some f => (match f fs with
          | some d => SOut.ret d []
          | none => .bad)
        | none => .exc c fs) D → wCl K Z.W D (hs.map (claOf Z)) cls dd σ H'
  | [], _, _, so => so cls dd σ F' H' P' st ex
  | h :: hs, hh, hi, so => by
    refine ⟨decide (c = h.c), by rw [ex.1]; exact exm c h.c hk (hh h List.mem_cons_self), fun hb a na => ?_, fun hb => ?_⟩
    · have e : c = h.c := of_decide_eq_true hb
      have so : So Z none F H0 P (match h.f fs with
          | some d => SOut.ret d []
          | none => .bad) D := by
        have : hFind c (h :: hs) = some h.f := by unfold hFind; rw [if_pos e]
        rw [this] at so; exact so
      cases hx : h.f fs with
      | none => rw [hx] at so; exact so.elim
      | some x =>
        rw [hx] at so
        refine ⟨F', fs, x, st.sub, e ▸ ex, fun j hj => ?_, hx, fun v F2 H2 nw dv => ?_⟩
        · show (onN σ a h.i)[j]? = _
          rw [hj]
          show (σ.set j (some (.ref a)))[j]? = _
          rw [List.getElem?_set, if_pos rfl, if_pos (hi h List.mem_cons_self j hj)]
        · have k : D.rt v H2 := so v [] F2 H2 (fun _ => []) [] ⟨(st.trans (nw.stp P')).less fun a h => h.elim (fun ⟨_, z⟩ => nomatch z) (fun z => nomatch z), ⟨nw.sub, by simp, fun i hi => absurd (show ([] : Env).getD i .nul = .nul by simp) hi, fun _ _ => rfl, fun _ => List.nodup_nil, fun _ _ _ z => (nomatch z), fun _ _ z => (nomatch z), fun _ z => (nomatch z)⟩, dv, fun _ z => (nomatch z), List.nodup_nil, fun _ z => (nomatch z)⟩
          show (offN D h.i).rt v H2
          have : (offN D h.i).rt = D.rt := by cases h.i <;> rfl
          rw [this]; exact k
    · have e : ¬ c = h.c := of_decide_eq_false hb
      refine wCl_of hk ex st exm D hs (fun x hx => hh x (List.mem_cons_of_mem _ hx)) (fun x hx => hi x (List.mem_cons_of_mem _ hx)) ?_
      have : hFind c (h :: hs) = hFind c hs := by
        show (if c = h.c then some h.f else hFind c hs) = _
        rw [if_neg e]
      rw [this] at so; exact so
theorem tS_try {K : PySem.W.Frag} {kn : List Nat} {b : SDen} {hs : List Hd} (N : Nat) (exm : ∀ c c', c ∈ kn → c' ∈ kn → PySem.W.exmOne K (.ref (Z.ea c).1) (.ref (Z.ea c').1) = some (decide (c = c'))) (hh : ∀ h ∈ hs, h.c ∈ kn) (hi : ∀ h ∈ hs, ∀ i, h.i = some i → i < N)
    (h : tS Z none (sTry kn b hs) B σ H) : tS (Z.withW fun cls d σ H => σ.length = N → wCl K Z.W B (hs.map (claOf Z)) cls d σ H) none b B σ H := by
  obtain ⟨env, F, O, r, so⟩ := h
  refine ⟨env, F, O, r, ?_⟩
  unfold sTry at so
  show So (Z.withW _) none F H (OS O) (b Z.rt env) B
  cases e : b Z.rt env with
  | next e1 => rw [e] at so; exact so
  | ret d e1 => rw [e] at so; exact fun v σ' F' H' O' fp q => so v σ' F' H' O' fp q.withW
  | bad => rw [e] at so; exact so
  | exc c fs =>
    rw [e] at so
    simp only at so
    by_cases hk : kn.contains c = true
    · rw [if_pos hk] at so
      intro cls dd σ' F' H' P' st ex hl
      exact wCl_of (Z := Z) (by simpa using hk) ex st exm B hs hh (fun h hm i e => by rw [hl]; exact hi h hm i e) so
    · rw [if_neg hk] at so; exact so.elim
end
section
variable {X : Cx} {C : CC} {Z : Ct} {k : Nat} {v0 : Option V}
/-- within a try -/
theorem GS.tr (G : GS X C Z k v0) {W : WX} {pn : List (Addr × Obj)} {xe : Value → Shared → Prop} (tk : Takes (X.tr pn xe) W) (hp : PassesOwn (model X.prog X.w) X.A X.env xe) : GS (X.tr pn xe) C (Z.withW W) k v0 :=
  ⟨⟨G.G.K, G.G.sc, G.G.N, G.G.nd, G.G.calm, G.G.room, G.G.fn, G.G.gfn, G.G.gcon, G.G.gno, G.G.iof, G.G.ioT, G.G.pf, tk⟩, G.pi, hp, G.io, G.st, G.fr, G.kind, G.gexc, G.exc0, G.exm, G.xf⟩
theorem hs_ok (G : GS X C Z k v0) : ∀ {hs : List ExceptHandler} {l : List Hd}, cHs C hs = some l → (∀ h ∈ l, h.c ∈ C.kn) ∧ (∀ h ∈ l, ∀ i, h.i = some i → i < X.N.length) ∧ ClaOk X hs (l.map (claOf Z))
  | [], l, h => by cases h; exact ⟨fun _ z => (nomatch z), fun _ z => (nomatch z), .nil⟩
  | h0 :: hs, l, h => by
    unfold cHs at h
    split at h
    · rename_i hs0 heq; cases heq
    · rename_i hs0 x px nm e p1 p2 r heq
      cases heq
      cases e1 : C.glob x with
      | none => rw [e1] at h; cases h
      | some g =>
        cases g <;> first | (rw [e1] at h; cases h; done) | skip
        rename_i c b
        cases e2 : cHs C hs with
        | none => rw [e1, e2] at h; cases h
        | some l' =>
          rw [e1, e2] at h
          simp only at h
          by_cases hk : C.kn.contains c = true
          · rw [if_pos hk] at h
            have hk' : c ∈ C.kn := by simpa using hk
            obtain ⟨i1, i2, i3⟩ := hs_ok G e2
            obtain ⟨g1, g2, g3⟩ := glob_some e1
            obtain ⟨k1, k2, k3⟩ := okN_some g1
            have nmk : Names X x (.ref (Z.ea c).1) := ⟨G.G.gl g2, k1, .inl (G.gexc x c b g3)⟩
            cases nm with
            | none =>
              simp only at h
              obtain ⟨f, e3, rfl⟩ := Option.map_eq_some_iff.mp h
              refine ⟨fun h hm => ?_, fun h hm => ?_, .cons (n := none) (i := none) (ts := fun a cls d => tRet (tSu Z f c none a cls d)) nmk trivial (fun a oe cls d pn hz hf => pss_one (ps_ret ((pe_su (X := X) (nm := none) (i := none) hz hf (fun _ _ z => nomatch z) 20).1 e f e3))) i3⟩
              · rcases List.mem_cons.mp hm with rfl | hm
                · exact hk'
                · exact i1 h hm
              · rcases List.mem_cons.mp hm with rfl | hm
                · intro i z; cases z
                · exact i2 h hm
            | some n =>
              simp only at h
              cases e3 : C.slotS n with
              | none => rw [e3] at h; cases h
              | some i =>
                cases e4 : cSu 20 (some (n, C.xf c)) e with
                | none => rw [e3, e4] at h; cases h
                | some f =>
                  rw [e3, e4] at h
                  simp only at h
                  by_cases hb : b = true ∧ C.sc.names.lookup n = some .local
                  · rw [if_pos hb] at h; cases h
                    obtain ⟨rfl, hl⟩ := hb
                    obtain ⟨_, hN, _⟩ := slotS_some e3
                    obtain ⟨T, hno, hxf⟩ := G.xf x c g3 hk'
                    have hN' : X.N[i]? = some n := by rw [G.G.N]; exact hN
                    have hln : X.env.kindOf n = some .local := by show X.env.scope.names.lookup n = _; rw [G.G.sc]; exact hl
                    refine ⟨fun h hm => ?_, fun h hm => ?_, .cons (n := some n) (i := some i) (ts := fun a cls d => tRet (tSu Z f c (some i) a cls d)) nmk ⟨hN', hln⟩ (fun a oe cls d pn hz hf => pss_one (ps_ret ((pe_su (X := X) (nm := some (n, C.xf c)) (i := some i) hz hf (fun y g z => ?_) 20).1 e f e4))) i3⟩
                    · rcases List.mem_cons.mp hm with rfl | hm
                      · exact hk'
                      · exact i1 h hm
                    · rcases List.mem_cons.mp hm with rfl | hm
                      · intro j z; cases z; exact (List.getElem?_eq_some_iff.mp hN').1
                      · exact i2 h hm
                    · cases z; exact ⟨i, rfl, hN', hln, hxf, T, hno⟩
                  · rw [if_neg hb] at h; cases h
          · rw [if_neg hk] at h; cases h
    · cases h
end
end Z
end

section
set_option Elab.async false
set_option linter.all false
set_option maxRecDepth 100000
set_option maxHeartbeats 4000000
/-! ZZc: the theorem for statements. -/
namespace Z
open PySem L2 PyProof.Rows
structure StmOk (n : Nat) : Prop where
  S : ∀ {X : Cx} {C : CC} {Z : Ct} {k : Nat} {v0 : Option V}, GS X C Z k v0 → ∀ s d, cS n C s = some d → PS X s (tS Z v0 d)
  A : ∀ {X : Cx} {C : CC} {Z : Ct} {k : Nat} {v0 : Option V}, GS X C Z k v0 → ∀ t e d, cAs1 n C t e = some d → ∀ p, PS X (.Assign [t] e p) (tS Z v0 d)
  Ss : ∀ {X : Cx} {C : CC} {Z : Ct} {k : Nat} {v0 : Option V}, GS X C Z k v0 → ∀ s d, cSs n C s = some d → PSs X s (tS Z v0 d)
theorem sm_A {n : Nat} {X : Cx} {C : CC} {Z : Ct} {k : Nat} {v0 : Option V} (G : GS X C Z k v0) : ∀ t e d, cAs1 n C t e = some d → ∀ p, PS X (.Assign [t] e p) (tS Z v0 d) := fun t e d h p => by
  cases n with
  | zero => cases h
  | succ n =>
  simp only [cAs1] at h
  by_cases ht : (isTupE t && isTupE e) = true
  · rw [if_pos ht] at h
    cases t <;> first | (simp [isTupE] at ht; done) | skip
    cases e <;> first | (simp [isTupE] at ht; done) | skip
    rename_i ts k1 p1 vs k2 p2
    simp only at h
    cases e1 : swC C ts vs with
    | none => rw [e1] at h; cases h
    | some r =>
      rw [e1] at h
      cases r with
      | none =>
        simp only at h
        cases e2 : cTg 20 C (.Tuple ts k1 p1) with
        | none => rw [e2] at h; cases h
        | some t' =>
          cases e3 : cE 100 C (.Tuple vs k2 p2) with
          | none => rw [e2, e3] at h; cases h
          | some d' =>
            rw [e2, e3] at h; cases h
            have ok := (tg_ok 20).1 _ t' e2
            exact PS.imp (ps_asg ((impOk 100).E (v0 := v0) G.G G.pi _ d' e3).1.1 ((pg_tgt G.G G.io 20).1 _ t' e2) (noSwap rfl _ _ _) (sw_eq G.G.sc G.kind e1) (by rw [asgE_cons ok]; rfl)) fun _ _ _ h => tS_asg (tS_pre h)
      | some ns =>
        simp only at h
        cases e2 : cNms C ts with
        | none => rw [e2] at h; cases h
        | some is =>
          cases e3 : cEs 100 C vs with
          | none => rw [e2, e3] at h; cases h
          | some ds =>
            rw [e2, e3] at h
            simp only at h
            by_cases hc : ns.length = ts.length ∧ is.length = ts.length ∧ is.Nodup
            · rw [if_pos hc] at h; cases h
              exact ps_parC G e1 e2 e3 hc.2.2
            · rw [if_neg hc] at h; cases h
  · rw [if_neg ht] at h
    by_cases hl : isLc e = true
    · rw [if_pos hl] at h
      cases t <;> first | (cases h; done) | skip
      cases e <;> first | (cases h; done) | skip
      rename_i y py el gs sc q
      simp only at h
      cases e1 : cTg 20 C (.Name y py) with
      | none => rw [e1] at h; cases h
      | some t' =>
        cases e2 : cP 100 C (.ListComp el gs sc q) with
        | none => rw [e1, e2] at h; cases t' <;> cases h
        | some d' =>
          rw [e1, e2] at h
          cases t' <;> first | (cases h; done) | skip
          cases h
          exact ps_lcP G (n := 99) e1 e2
    · rw [if_neg hl] at h
      cases e1 : cTg 20 C t with
      | none => rw [e1] at h; cases h
      | some t' =>
        cases e2 : cE 100 C e with
        | none => rw [e1, e2] at h; cases h
        | some d' =>
          rw [e1, e2] at h; cases h
          exact ps_asg1 G e1 e2 (Bool.eq_false_iff.mpr hl) (Bool.eq_false_iff.mpr ht)
section
variable {n : Nat} (ih : StmOk n) {X : Cx} {C : CC} {Z : Ct} {k : Nat} {v0 : Option V} (G : GS X C Z k v0)
include ih G
theorem sm_Ss : ∀ s d, cSs (n + 1) C s = some d → PSs X s (tS Z v0 d) := fun ss d h => by
  match ss, h with
  | [], h => cases h; exact PSs.imp pss_nil fun _ _ _ h => tS_pass h
  | [s], h => exact pss_one (ih.S G s d h)
  | s :: s' :: ss, h =>
    simp only [cSs] at h
    cases e1 : cS n C s with
    | none => rw [e1] at h; cases h
    | some a =>
      cases e2 : cSs n C (s' :: ss) with
      | none => rw [e1, e2] at h; cases h
      | some b =>
        rw [e1, e2] at h; cases h
        exact PSs.imp (pss_cons (ih.S G s a e1) (ih.Ss G _ b e2)) fun _ _ _ h => tS_seq h
theorem sm_S : ∀ s d, cS (n + 1) C s = some d → PS X s (tS Z v0 d) := fun s d h => by
  have im := fun e d (h : cE 100 C e = some d) => (impOk 100).E (v0 := v0) G.G G.pi e d h
  cases s with
  | Pass p =>
    simp only [cS] at h
    cases h
    exact PS.imp ps_pass fun _ _ _ h => tS_pass h
  | Return eo p =>
    cases eo with
    | none =>
      simp only [cS] at h
      cases h
      exact PS.imp ps_retN fun _ _ _ h => tS_retN h
    | some e =>
      simp only [cS] at h
      have other : ∀ e, (cE 100 C e).map (fun d => pre (C.fz [e]) (sRet d)) = some d → PS X (.Return (some e) p) (tS Z v0 d) := fun e h => by
        obtain ⟨x, e1, rfl⟩ := Option.map_eq_some_iff.mp h
        exact PS.imp (ps_ret (im e x e1).1.1) fun _ _ _ h => tS_ret (tS_pre h)
      cases e with
      | Name x q =>
        simp only at h
        cases e1 : C.slot x with
        | some i =>
          rw [e1] at h
          simp only at h
          by_cases hi : (C.io && i == 0) = true
          · rw [if_pos hi] at h; cases h
          · rw [if_neg hi] at h; cases h
            obtain ⟨s1, s2, s3⟩ := slot_some e1
            obtain ⟨k1, k2, k3⟩ := okN_some s1
            obtain ⟨v1, v2⟩ := G.G.vis e1
            exact PS.imp (ps_ret (pe_var v1 v2 k1 k2)) fun _ _ _ h => tS_retV h
        | none =>
          rw [e1] at h
          obtain ⟨x', e2, rfl⟩ := Option.map_eq_some_iff.mp h
          exact PS.imp (ps_ret (im _ x' e2).1.1) fun _ _ _ h => tS_ret h
      | _ => exact other _ h
  | If t a b p =>
    simp only [cS] at h
    cases e1 : cE 100 C t with
    | none => rw [e1] at h; cases h
    | some x =>
      cases e2 : cSs n C a with
      | none => rw [e1, e2] at h; cases h
      | some y =>
        cases e3 : cSs n C b with
        | none => rw [e1, e2, e3] at h; cases h
        | some z =>
          rw [e1, e2, e3] at h; cases h
          exact PS.imp (ps_if (im t x e1).1.2 (ih.Ss G a y e2) (ih.Ss G b z e3)) fun _ _ _ h => tS_if (tS_pre h)
  | While t b o p =>
    cases o with
    | cons _ _ => simp only [cS] at h; cases h
    | nil =>
      simp only [cS] at h
      cases e1 : cE 100 C t with
      | none => rw [e1] at h; cases h
      | some x =>
        cases e2 : cSs n C b with
        | none => rw [e1, e2] at h; cases h
        | some y =>
          rw [e1, e2] at h; cases h
          refine PS.imp (ps_while G.hp (PT.imp (im t x e1).1.2 fun _ _ _ h => tBE_pre h) (ih.Ss G b y e2)) fun _ _ _ h => tS_while h
  | For t it b o p =>
    cases o with
    | cons _ _ => simp only [cS] at h; cases h
    | nil =>
      simp only [cS] at h
      cases e1 : cTg 20 C t with
      | none => rw [e1] at h; cases h
      | some x =>
        cases e2 : cEI 100 C (isTupE t) it with
        | none => rw [e1, e2] at h; cases h
        | some y =>
          cases e3 : cSs n C b with
          | none => rw [e1, e2, e3] at h; cases h
          | some z =>
            rw [e1, e2, e3] at h; cases h
            obtain ⟨pi, oki⟩ := (impOk 100).I (v0 := v0) G.G G.pi t it y e2
            exact PS.imp (ps_for G.hp G.G.calm pi ((pg_tgt G.G G.io 20).1 t x e1) (ih.Ss G b z e3) (noset oki _)) fun _ _ _ h => tS_for (tS_pre h)
  | Expr e p =>
    simp only [cS] at h
    have call : ∀ f as ks r, (cE 100 C (.Call f as ks r)).map (fun d => pre (C.fz [.Call f as ks r]) (sExpr d)) = some d → PS X (.Expr (.Call f as ks r) p) (tS Z v0 d) := fun f as ks r h => by
      obtain ⟨x, e1, rfl⟩ := Option.map_eq_some_iff.mp h
      exact PS.imp (ps_expr (im _ x e1).1.1) fun _ _ _ h => tS_expr (tS_pre h)
    cases e with
    | Constant c j q =>
      cases c <;> first | (cases h; done) | skip
      cases h
      exact PS.imp ps_doc fun _ _ _ h => tS_pass h
    | Call f as ks r =>
      simp only at h
      split at h
      · rename_i x pp m q a
        by_cases hl : (q.endLine == r.line) = true
        · rw [if_pos hl] at h
          cases e1 : C.slot x with
          | none => rw [e1] at h; cases h
          | some i =>
            cases e2 : cE 100 C a with
            | none => rw [e1, e2] at h; cases h
            | some y =>
              rw [e1, e2] at h
              simp only at h
              obtain ⟨s1, s2, s3⟩ := slot_some e1
              obtain ⟨k1, k2, k3⟩ := okN_some s1
              obtain ⟨v1, v2⟩ := G.G.vis e1
              obtain ⟨⟨a1, _⟩, a3⟩ := im a y e2
              by_cases hm : m = S "append"
              · rw [if_pos hm] at h; cases h; subst hm
                exact PS.imp (ps_expr (pe_bm PySem.F.plainAttrs_list PySem.F.slot_list_append PySem.F.type_list_append mt_append (pe_var v1 v2 k1 k2) (pa_cons a1 pa_nil (nostar a3 _ _)) rfl (by rw [nostar a3]; rfl) hl (nostar a3 _ _) rfl)) fun _ _ _ h => tS_append (tS_pre h)
              · rw [if_neg hm] at h
                by_cases hm : m = S "extend"
                · rw [if_pos hm] at h; cases h; subst hm
                  exact PS.imp (ps_expr (pe_bm PySem.F.plainAttrs_list PySem.F.slot_list_extend PySem.F.type_list_extend mt_extend (pe_var v1 v2 k1 k2) (pa_cons a1 pa_nil (nostar a3 _ _)) rfl (by rw [nostar a3]; rfl) hl (nostar a3 _ _) rfl)) fun _ _ _ h => tS_extend (tS_pre h)
                · rw [if_neg hm] at h; cases h
        · rw [if_neg hl] at h; cases h
      · exact call _ _ _ _ h
    | _ => cases h
  | Assign ts e p =>
    simp only [cS] at h
    match ts, h with
    | [t], h => exact ih.A G t e d h p
    | [], h => cases h
    | _ :: _ :: _, h => cases h
  | AugAssign t o e p =>
    simp only [cS] at h
    cases t <;> first | (cases h; done) | skip
    rename_i x px
    simp only at h
    cases e1 : C.slotS x with
    | none => rw [e1] at h; cases h
    | some i =>
    cases e2 : opOf o with
    | none => rw [e1, e2] at h; cases h
    | some om =>
    obtain ⟨o', m⟩ := om
    cases e3 : cV 100 C e with
    | none => rw [e1, e2, e3] at h; cases h
    | some y =>
    rw [e1, e2, e3] at h
    simp only at h
    by_cases z : (C.io && i == 0) = true
    · rw [if_pos z] at h; cases h
    rw [if_neg z] at h
    obtain ⟨_, hN, hl⟩ := slotS_some e1
    have hx : L2.Loc X.env.scope x := by
      unfold L2.Loc; rw [G.G.sc]
      rcases hl with q | q
      · exact .inl q
      · exact .inr q.1
    have hf : X.fn x = true ∨ X.env.scope.names.lookup x = some .local := by
      rcases hl with q | q
      · exact .inr (by rw [G.G.sc]; exact q)
      · exact .inl (G.G.fn x q.2)
    have hz : v0 = none ∨ i ≠ 0 := by
      cases hio : C.io with
      | false => exact .inl (G.io hio)
      | true => exact .inr fun e => by rw [hio, e] at z; exact z rfl
    have pv := ((pureOk 100).V G.G e y e3).1
    by_cases ha : o' = .add
    · rw [if_pos ha] at h; cases h; subst ha
      have eo : o = .Add := by cases o <;> simp [opOf] at e2 <;> first | rfl | done
      subst eo
      exact PS.imp (ps_aug G.G.nd (by rw [G.G.N]; exact hN) hx pv ip_add hf) fun _ _ _ h => tS_aug hz (fun x y z h => by
        cases x <;> cases y <;> first | (cases h; done) | skip
        cases h; exact ⟨_, _, rfl, rfl, rfl⟩) h
    · rw [if_neg ha] at h
      by_cases ha : o' = .sub
      · rw [if_pos ha] at h; cases h; subst ha
        have eo : o = .Sub := by cases o <;> simp [opOf] at e2 <;> first | rfl | done
        subst eo
        exact PS.imp (ps_aug G.G.nd (by rw [G.G.N]; exact hN) hx pv ip_sub hf) fun _ _ _ h => tS_aug hz (fun x y z h => by
          cases x <;> cases y <;> first | (cases h; done) | skip
          cases h; exact ⟨_, _, rfl, rfl, rfl⟩) h
      · rw [if_neg ha] at h; cases h
  | Raise eo cause p =>
    cases eo with
    | none => simp only [cS] at h; cases h
    | some e =>
      cases cause with
      | some _ => simp only [cS] at h; cases h
      | none =>
        simp only [cS] at h
        split at h
        · rename_i x px m j p2 q
          split at h
          · rename_i c e1
            cases h
            obtain ⟨g1, g2, g3⟩ := glob_some e1
            obtain ⟨k1, k2, k3⟩ := okN_some g1
            obtain ⟨x1, x2, x3⟩ := G.exc0 x c g3
            exact PS.imp (ps_raise (W := Z.W) G.G.calm G.G.tk (pmk_own F.excBase_ValueError x1 (G.gexc x c false g3) x2 x3 (G.G.gl g2) k1)) fun _ _ _ h => tS_raise0 h
          · cases h
        · cases h
  | Try b hs o f p =>
    cases o with
    | cons _ _ => simp only [cS] at h; cases h
    | nil =>
    cases f with
    | cons _ _ => simp only [cS] at h; cases h
    | nil =>
    cases hs with
    | nil => simp only [cS] at h; cases h
    | cons h0 hs =>
      simp only [cS] at h
      by_cases hio : C.io = true
      · rw [if_pos hio] at h; cases h
      rw [if_neg hio] at h
      cases e1 : cSs n C b with
      | none => rw [e1] at h; cases h
      | some b' =>
      cases e2 : cHs C (h0 :: hs) with
      | none => rw [e1, e2] at h; cases h
      | some l =>
      rw [e1, e2] at h; cases h
      obtain ⟨h1, h2, h3⟩ := hs_ok G e2
      have hv : v0 = none := G.io (Bool.eq_false_iff.mpr hio)
      subst hv
      refine PS.imp (ps_tryC (W := Z.W) (tb := fun W' => tS (Z.withW fun cls d σ H => σ.length = X.N.length → W' cls d σ H) none b') G.st G.fr G.G.nd G.G.tk (fun W' pn xe tk hp => ?_) h3) fun D σ H h => tS_try X.N.length G.exm h1 h2 h
      refine ih.Ss (G.tr (fun u s' x => tk u s' ?_) hp) b b' e1
      obtain ⟨a, B, sI, pins, σ, H, cls, d, q1, I, q2, q3, q4, q5, q6, q7, w⟩ := x
      exact ⟨a, B, sI, pins, σ, H, cls, d, q1, I, q2, q3, q4, q5, q6, q7, w I.len⟩
  | _ => simp only [cS] at h; cases h
end
theorem stmOk : ∀ n, StmOk n
  | 0 => ⟨fun _ _ _ h => (nomatch h), fun _ _ _ _ h => (nomatch h), fun _ _ _ h => (nomatch h)⟩
  | n + 1 => ⟨fun G => sm_S (stmOk n) G, fun G => sm_A G, fun G => sm_Ss (stmOk n) G⟩
end Z
end

section
set_option Elab.async false
set_option linter.all false
set_option maxRecDepth 100000
set_option maxHeartbeats 4000000
/-! ZZd: functions. -/
namespace Z
open PySem L2 PyProof.Rows
theorem Stp.nw {F H F' H' : Hp} {P P' : Addr → Prop} (s : Stp F H P F' H' P') (h : ∀ a, ¬ P a) : Nw F H F' H' :=
  ⟨fun a o e => s.fr a o e (h a), s.fl, s.sub, fun a o e n => (s.old a o e n).resolve_right (h a)⟩
theorem Res.newV {Z : Ct} {v0 : Option V} {F H F' H' : Hp} {P : Addr → Prop} {σ : L2.St} {env : Env} {O : Nat → List Addr} {v : V} {d : D} {fp : List Addr} (r : Res Z v0 F H P σ F' H' env O v d fp) (h : ∀ a, ¬ P a) : NewV Z.g F H F' H' v d fp :=
  ⟨r.st.nw h, r.dr, fun a ha => (r.st.own a (.inr ha)).resolve_left (h a), r.hid, r.nd⟩
theorem start_get {N : List Str} {vs : List V} {i : Nat} {v : V} (h : vs[i]? = some v) : (L2.start N vs)[i]? = some (some v) := by
  unfold L2.start
  rw [List.getElem?_append_left (by simpa using (List.getElem?_eq_some_iff.mp h).1), List.getElem?_map, h]; rfl
theorem start_len {N : List Str} {vs : List V} (h : vs.length ≤ N.length) : (L2.start N vs).length = N.length := by
  unfold L2.start; simp; omega
theorem env0_get {ds : List D} {n i : Nat} (h : (ds ++ List.replicate n D.nul).getD i .nul ≠ .nul) : ∃ d, ds[i]? = some d ∧ (ds ++ List.replicate n D.nul).getD i .nul = d := by
  by_cases hi : i < ds.length
  · exact ⟨ds[i], List.getElem?_eq_getElem hi, by simp [List.getD, List.getElem?_append_left hi, List.getElem?_eq_getElem hi]⟩
  · exfalso; apply h
    simp only [List.getD, List.getElem?_append_right (Nat.le_of_not_lt hi), List.getElem?_replicate]
    split <;> rfl
/-- the entry of a function -/
theorem sr_start {g : Gb} {F H : Hp} {N : List Str} {vs : List V} {ds : List D} {n : Nat} (sub : ∀ a o, F a = some o → H a = some o) (l : vs.length = ds.length) (dr : ∀ (i : Nat) v d, vs[i]? = some v → ds[i]? = some d → DR g F H v d [])
    (hn : n = N.length) (hl : ds.length ≤ n) : SR g none F H (L2.start N vs) (ds ++ List.replicate (n - ds.length) .nul) (fun _ => []) := by
  refine ⟨sub, ?_, fun i h => ?_, fun _ _ => rfl, fun _ => List.nodup_nil, fun _ _ _ z => (nomatch z), fun _ _ z => (nomatch z), fun _ z => (nomatch z)⟩
  · rw [start_len (by omega)]; simp; omega
  · obtain ⟨d, h1, h2⟩ := env0_get h
    have hi := (List.getElem?_eq_some_iff.mp h1).1
    have h3 : vs[i]? = some vs[i] := List.getElem?_eq_getElem (by omega)
    exact ⟨_, start_get h3, by rw [h2]; exact dr i _ d h3 h1⟩
theorem sr_startI {g : Gb} {F H : Hp} {N : List Str} {v : V} {vs : List V} {d : D} {ds : List D} {n : Nat} {f0 : List Addr} (sub : ∀ a o, F a = some o → H a = some o) (dv : DR g F H v d f0) (nd : f0.Nodup) (hid : ∀ a ∈ f0, F a = none) (l : vs.length = ds.length)
    (dr : ∀ (i : Nat) v d, vs[i]? = some v → ds[i]? = some d → DR g F H v d []) (hn : n = N.length) (hl : (d :: ds).length ≤ n) : SR g (some v) F H (L2.start N (v :: vs)) ((d :: ds) ++ List.replicate (n - (d :: ds).length) .nul) (fun i => if i = 0 then f0 else []) := by
  refine ⟨sub, ?_, fun i h => ?_, fun i h => ?_, fun i => ?_, fun i j a h1 h2 => ?_, fun i a h => ?_, fun w hw => ?_⟩
  · rw [start_len (by simp at hl ⊢; omega)]; simp at hl ⊢; omega
  · obtain ⟨x, h1, h2⟩ := env0_get h
    cases i with
    | zero =>
      simp at h1; subst h1
      exact ⟨v, start_get rfl, by rw [h2]; exact dv⟩
    | succ i =>
      have h1 : ds[i]? = some x := by simpa using h1
      have hi := (List.getElem?_eq_some_iff.mp h1).1
      have h3 : vs[i]? = some vs[i] := List.getElem?_eq_getElem (by omega)
      exact ⟨_, start_get (i := i + 1) (by rw [List.getElem?_cons_succ]; exact h3), by rw [h2]; exact dr i _ x h3 h1⟩
  · by_cases e : i = 0
    · subst e
      exact absurd h (by simpa using dv.ne_nul)
    · exact if_neg e
  · by_cases e : i = 0
    · rw [if_pos e]; exact nd
    · rw [if_neg e]; exact List.nodup_nil
  · by_cases e1 : i = 0
    · by_cases e2 : j = 0
      · rw [e1, e2]
      · rw [if_neg e2] at h2; cases h2
    · rw [if_neg e1] at h1; cases h1
  · by_cases e : i = 0
    · rw [if_pos e] at h; exact hid a h
    · rw [if_neg e] at h; cases h
  · cases hw; exact start_get rfl
/-- how the arguments bind, anywhere -/
def BT (fd : FuncData) (ps : List Str) : Prop := ∀ (s : Shared) (us : List Value), us.length = ps.length → BindsTo s fd ⟨us, []⟩ (ps.zip us)
/-- one function: its text, its reading -/
structure FOk (K : PySem.W.Frag) (g : Gb) (i : Nat) (d : He.DefD) (C : CC) (F : Fn) : Prop where
  fd : ∃ fd ps, FunD K d.name d.qual d.params d.body d.scope [] [] (g.fa i) fd ∧ (Binds K fd ps [] ∧ BT fd ps) ∧ FnScope C.N ps d.scope ∧ F.pars = ps.length
  sc : C.sc = d.scope
  raw : C.raw = none
  cs : cSs 200 C d.body = some F.body
  size : F.size = C.N.length
  pl : F.pars ≤ F.size
  io : F.io = C.io
  dfl : F.dfl = []
/-- the program's text is as the tables tell -/
structure Ev (K : PySem.W.Frag) (mg : Str → Option Value) (g : Gb) (ea : Nat → Addr × Str) (P : Prog) (ts : List (He.DefD × CC)) : Prop where
  gK : g.K = K
  len : P.fns.length = ts.length
  fn : ∀ i d C F, ts[i]? = some (d, C) → P.fns[i]? = some F → FOk K g i d C F
  out : ∀ i, P.fns[i]? = none → ∃ fd ps, (Binds K fd ps [] ∧ BT fd ps) ∧ PySem.W.keepIn K (.ref (g.fa i)) = true
  gfn : ∀ p ∈ ts, ∀ x i, p.2.gl x = some (.fn i) → mg x = some (.ref (g.fa i))
  gcon : ∀ p ∈ ts, ∀ x d, p.2.gl x = some (.con d) → ∃ v u, mg x = some u ∧ RelV v u ∧ ∀ F H, DR g F H v d []
  gno : ∀ p ∈ ts, ∀ x, p.2.gl x = none → mg x = none
  io : ∀ i, P.tab.io i = match P.fns[i]? with
    | some F => F.io
    | none => false
  iof : ∀ p ∈ ts, ∀ i, p.2.iof i = P.tab.io i
  gexc : ∀ p ∈ ts, ∀ x c b, p.2.gl x = some (.exc c b) → mg x = some (.ref (ea c).1)
  exc0 : ∀ p ∈ ts, ∀ x c, p.2.gl x = some (.exc c false) → PySem.W.excIn K (ea c).1 He.veBase "ValueError.__new__" = true ∧ PySem.W.keepIn K (.ref (ea c).1) = true ∧ PySem.W.subIn K (.ref (ea c).1) (.type "BaseException") = some true ∧ PySem.W.typeIn K (.ref (ea c).1) = some (.type "type")
  exm : ∀ p ∈ ts, ∀ c c', c ∈ p.2.kn → c' ∈ p.2.kn → PySem.W.exmOne K (.ref (ea c).1) (.ref (ea c').1) = some (decide (c = c'))
  xf : ∀ p ∈ ts, ∀ x c, p.2.gl x = some (.exc c true) → c ∈ p.2.kn → XfC K (ea c).1 ∧ PySem.W.findIn K (.ref (ea c).1) (ea c).2 = some none ∧ p.2.xf c = (ea c).2
section
variable {prog : Program} {w : World} {K : PySem.W.Frag} {mg : Str → Option Value} {base : Heap} {g : Gb} {ea : Nat → Addr × Str} {P : Prog} {ts : List (He.DefD × CC)}
def rtN (P : Prog) (n : Nat) : RT := ⟨callF P n, P.W, P.tab⟩
def ctN (g : Gb) (ea : Nat → Addr × Str) (P : Prog) (n : Nat) (W : WX) : Ct := ⟨g, ea, rtN P n, W⟩
/-- the functions at a level -/
structure Lv (prog : Program) (w : World) (K : PySem.W.Frag) (mg : Str → Option Value) (g : Gb) (ea : Nat → Addr × Str) (P : Prog) (n : Nat) : Prop where
  p : ∀ W i, P.tab.io i = false → ∃ fd ps, (∀ base, FnOk prog w K mg base (L2.CX prog w) n (g.fa i) fd ps (spP (ctN g ea P n W) i)) ∧ PySem.W.keepIn K (.ref (g.fa i)) = true ∧ (Binds K fd ps [] ∧ BT fd ps)
  i : ∀ W i, P.tab.io i = true → ∃ fd ps, (∀ base, FnOk prog w K mg base (L2.CX prog w) n (g.fa i) fd ps (spI (ctN g ea P n W) i)) ∧ PySem.W.keepIn K (.ref (g.fa i)) = true ∧ (Binds K fd ps [] ∧ BT fd ps)
theorem callF_in {n i : Nat} {F : Fn} {ds : List D} (hF : P.fns[i]? = some F) (hd : F.dfl = []) : callF P (n + 1) i ds = if ds.length = F.pars then runF F.body F.size F.io (rtN P n) ds else .bad := by
  unfold callF
  rw [hF]
  simp only [hd, List.length_nil, Nat.add_zero, List.drop_nil, List.append_nil]
  by_cases h : ds.length = F.pars
  · have h1 : ds.length ≤ F.pars := Nat.le_of_eq h
    have h2 : ds.length ≥ F.pars := Nat.le_of_eq h.symm
    simp [h, rtN]
  · by_cases h1 : ds.length ≤ F.pars
    · have h2 : ¬ (ds.length ≥ F.pars) := by omega
      simp [h, h2]
    · simp [h, h1]
theorem gs_of (ev : Ev K mg g ea P ts) {n i : Nat} {d : He.DefD} {C : CC} {F : Fn} (lv : Lv prog w K mg g ea P n) (hi : ts[i]? = some (d, C)) (hF : P.fns[i]? = some F) {ps : List Str} (S : FnScope C.N ps d.scope) {v0 : Option V} (hv : C.io = false → v0 = none)
    (cdv : Value) (A : Around) (outer : List PySem.Env) (s : Shared) (H : Hp) (E : XK) (hr : Room n (A.deeper (envOfC d.qual d.scope s.heap.objs.size (g.fa i) cdv))) :
    GS (cxOf (L2.CX prog w) prog w K mg base C.N d.qual d.scope (g.fa i) cdv A outer s H E) C (ctN g ea P n fun cls dd _ H => E cls dd H) n v0 := by
  have hm : (d, C) ∈ ts := List.mem_of_getElem? hi
  have fo := ev.fn i d C F hi hF
  refine ⟨⟨ev.gK, fo.sc.symm, rfl, S.nd, rfl, hr, fun _ _ => rfl, ev.gfn _ hm, ev.gcon _ hm, ev.gno _ hm, fun j h => ?_, fun j h => ?_, fun j h => (let ⟨fd, ps, F, k, b⟩ := lv.p _ j h; ⟨fd, ps, F base, k, b.1⟩), takes_of rfl rfl rfl rfl⟩, fun j h => (let ⟨fd, ps, F, k, b⟩ := lv.i _ j h; ⟨fd, ps, F base, k, b.1⟩), passes_of rfl, hv, rfl, rfl, S.kind, ev.gexc _ hm, fun x c h => ?_, ev.exm _ hm, ev.xf _ hm⟩
  · have := ev.iof _ hm j
    show P.tab.io j = false
    rw [← this]; exact h
  · have := ev.iof _ hm j
    show P.tab.io j = true
    rw [← this]; exact h
  · obtain ⟨x1, x2, x3, x4⟩ := ev.exc0 _ hm x c h
    exact ⟨x1, x2, raises_own x3 x4⟩
theorem lv_out (ev : Ev K mg g ea P ts) {n i : Nat} (hF : P.fns[i]? = none) {sp : Sp} (h : ∀ vs H Q E, ¬ sp vs H Q E) : ∃ fd ps, (∀ base, FnOk prog w K mg base (L2.CX prog w) n (g.fa i) fd ps sp) ∧ PySem.W.keepIn K (.ref (g.fa i)) = true ∧ (Binds K fd ps [] ∧ BT fd ps) := by
  obtain ⟨fd, ps, b, k⟩ := ev.out i hF
  exact ⟨fd, ps, fun base => ⟨fun vs H Q E z => (h _ _ _ _ z).elim, fun A outer s H args us vs Q E _ _ _ _ z => (h _ _ _ _ z).elim⟩, k, b⟩
theorem lv_zero (ev : Ev K mg g ea P ts) : Lv prog w K mg g ea P 0 := by
  have nP : ∀ W i vs H Q E, ¬ spP (ctN g ea P 0 W) i vs H Q E := fun W i vs H Q E ⟨F, ds, _, _, _, _, z⟩ => z
  have nI : ∀ W i vs H Q E, ¬ spI (ctN g ea P 0 W) i vs H Q E := fun W i vs H Q E ⟨F, v, d, f0, ws, ds, _, _, _, _, _, _, _, _, z⟩ => z
  have all : ∀ i (sp : Sp), (∀ vs H Q E, ¬ sp vs H Q E) → ∃ fd ps, (∀ base, FnOk prog w K mg base (L2.CX prog w) 0 (g.fa i) fd ps sp) ∧ PySem.W.keepIn K (.ref (g.fa i)) = true ∧ (Binds K fd ps [] ∧ BT fd ps) := fun i sp h => by
    cases hF : P.fns[i]? with
    | none => exact lv_out ev hF h
    | some F =>
      have hi : i < ts.length := by rw [← ev.len]; exact (List.getElem?_eq_some_iff.mp hF).1
      obtain ⟨fd, ps, F1, b, _⟩ := (ev.fn i ts[i].1 ts[i].2 F (List.getElem?_eq_getElem hi) hF).fd
      exact ⟨fd, ps, fun base => ⟨fun vs H Q E z => (h _ _ _ _ z).elim, fun A outer s H args us vs Q E _ _ _ _ z => (h _ _ _ _ z).elim⟩, F1.kp, b⟩
  exact ⟨fun W i _ => all i _ (nP W i), fun W i _ => all i _ (nI W i)⟩
theorem lv_succ (ev : Ev K mg g ea P ts) {n : Nat} (lv : Lv prog w K mg g ea P n) : Lv prog w K mg g ea P (n + 1) := by
  refine ⟨fun W i hio => ?_, fun W i hio => ?_⟩
  · cases hF : P.fns[i]? with
    | none =>
      refine lv_out ev hF fun vs H Q E ⟨F, ds, _, _, _, _, z⟩ => ?_
      have : callF P (n + 1) i ds = .bad := by unfold callF; rw [hF]
      rw [show (ctN g ea P (n + 1) W).rt.call i ds = .bad from this] at z; exact z
    | some F =>
      have hi : i < ts.length := by rw [← ev.len]; exact (List.getElem?_eq_some_iff.mp hF).1
      have ht : ts[i]? = some (ts[i].1, ts[i].2) := List.getElem?_eq_getElem hi
      generalize ts[i].1 = d at ht
      generalize ts[i].2 = C at ht
      have fo := ev.fn i d C F ht hF
      obtain ⟨fd, ps, F1, b, S, hp⟩ := fo.fd
      have hFio : F.io = false := by
        have h := ev.io i
        rw [hF] at h
        exact (show P.tab.io i = F.io from h).symm.trans hio
      have hcall : ∀ ds, (ctN g ea P (n + 1) W).rt.call i ds = if ds.length = F.pars then runF F.body F.size false (rtN P n) ds else .bad := fun ds => by
        rw [← hFio]; exact callF_in hF fo.dfl
      refine ⟨fd, ps, fun base => F1.ok S (fun vs H Q E ⟨F', ds, _, l, _, _, z⟩ => ?_) (fun cdv A outer s H vs Q E hr ⟨F', ds, sub, l, dr, ha, z⟩ => ?_), F1.kp, b⟩
      · rw [hcall] at z
        by_cases hl : ds.length = F.pars
        · rw [l, hl, hp]
        · rw [if_neg hl] at z; exact z.elim
      · rw [hcall] at z
        have hl : ds.length = F.pars := by
          by_cases hl : ds.length = F.pars
          · exact hl
          · rw [if_neg hl] at z; exact z.elim
        rw [if_pos hl] at z
        have G := gs_of (base := base) ev lv ht hF S (v0 := none) (fun _ => rfl) cdv A outer s H E hr
        refine ⟨_, (stmOk 200).Ss G d.body F.body fo.cs, ?_⟩
        have sr := sr_start (N := C.N) (n := F.size) sub l dr fo.size (by rw [hl]; exact fo.pl)
        refine ⟨_, F', _, sr, ?_⟩
        have no : ∀ a, ¬ OS (fun _ => ([] : List Addr)) a := fun a ⟨_, z⟩ => nomatch z
        unfold runF at z
        show So _ _ F' H _ (F.body (rtN P n) (ds ++ List.replicate (F.size - ds.length) .nul)) _
        cases e : F.body (rtN P n) (ds ++ List.replicate (F.size - ds.length) .nul) with
        | next e1 =>
          rw [e] at z
          exact fun σ' F2 H2 O2 st r2 => z .non F2 H2 [] ⟨st.nw no, .non, fun _ h => (nomatch h), fun _ h => (nomatch h), List.nodup_nil⟩
        | ret x e1 =>
          rw [e] at z
          exact fun v σ' F2 H2 O2 fp r2 => z v F2 H2 fp (r2.newV no)
        | exc c fs =>
          rw [e] at z
          exact fun cls dd σ' F2 H2 P2 st ex => z cls dd F2 H2 (st.nw no) ex
        | bad => rw [e] at z; exact z
  · cases hF : P.fns[i]? with
    | none =>
      have := ev.io i
      rw [hF, hio] at this; cases this
    | some F =>
      have hi : i < ts.length := by rw [← ev.len]; exact (List.getElem?_eq_some_iff.mp hF).1
      have ht : ts[i]? = some (ts[i].1, ts[i].2) := List.getElem?_eq_getElem hi
      generalize ts[i].1 = d at ht
      generalize ts[i].2 = C at ht
      have fo := ev.fn i d C F ht hF
      obtain ⟨fd, ps, F1, b, S, hp⟩ := fo.fd
      have hFio : F.io = true := by
        have h := ev.io i
        rw [hF] at h
        exact (show P.tab.io i = F.io from h).symm.trans hio
      have hcall : ∀ ds, (ctN g ea P (n + 1) W).rt.call i ds = if ds.length = F.pars then runF F.body F.size true (rtN P n) ds else .bad := fun ds => by
        rw [← hFio]; exact callF_in hF fo.dfl
      refine ⟨fd, ps, fun base => F1.ok S (fun vs H Q E ⟨F', v, x, f0, ws, ds, ev, _, _, _, _, l, _, _, z⟩ => ?_) (fun cdv A outer s H vs Q E hr ⟨F', v, x, f0, ws, ds, evs, sub, dv, nd, hid, l, dr, ha, z⟩ => ?_), F1.kp, b⟩
      · rw [hcall] at z
        by_cases hl : (x :: ds).length = F.pars
        · rw [ev, ← hp, ← hl]; simp [l]
        · rw [if_neg hl] at z; exact z.elim
      · subst evs
        rw [hcall] at z
        have hl : (x :: ds).length = F.pars := by
          by_cases hl : (x :: ds).length = F.pars
          · exact hl
          · rw [if_neg hl] at z; exact z.elim
        rw [if_pos hl] at z
        have G := gs_of (base := base) ev lv ht hF S (v0 := some v) (fun q => by rw [← fo.io, hFio] at q; cases q) cdv A outer s H E hr
        refine ⟨_, (stmOk 200).Ss G d.body F.body fo.cs, ?_⟩
        have sr := sr_startI (N := C.N) (n := F.size) sub dv nd hid l dr fo.size (by rw [hl]; exact fo.pl)
        refine ⟨_, F', _, sr, ?_⟩
        have os : ∀ a, OS (fun i => if i = 0 then f0 else []) a → a ∈ f0 := fun a ⟨j, hj⟩ => by
          have hj : a ∈ (if j = 0 then f0 else []) := hj
          by_cases e : j = 0
          · rw [if_pos e] at hj; exact hj
          · rw [if_neg e] at hj; cases hj
        have so : ∀ a, a ∈ f0 → OS (fun i => if i = 0 then f0 else []) a := fun a ha => ⟨0, by show a ∈ (if 0 = 0 then f0 else []); rw [if_pos rfl]; exact ha⟩
        have conv : ∀ {F2 H2 : Hp} {P2 : Addr → Prop}, Stp F' H (OS fun i => if i = 0 then f0 else []) F2 H2 P2 → Stp F' H (fun a => a ∈ f0) F2 H2 P2 := fun {F2 H2 P2} s =>
          ⟨s.fl, s.sub, fun a o e n => s.fr a o e fun z => n (os a z), fun a o e n => (s.old a o e n).imp_right (os a), fun a h => (s.own a h).imp_left (os a)⟩
        show So _ _ F' H _ (F.body (rtN P n) ((x :: ds) ++ List.replicate (F.size - (x :: ds).length) .nul)) _
        have nul : ∀ (d : D) (e1 : Env), (∃ r, ioOut true d e1 = .ok r ∧ e1.getD 0 .nul ≠ .nul ∧ r = (d, e1.getD 0 .nul)) ∨ ioOut true d e1 = .bad := fun d e1 => by
          unfold ioOut
          cases e1.getD 0 .nul <;> first | exact .inr rfl | exact .inl ⟨_, rfl, fun z => (by cases z), rfl⟩
        cases e : F.body (rtN P n) ((x :: ds) ++ List.replicate (F.size - (x :: ds).length) .nul) with
        | next e1 =>
          have hrun : runF F.body F.size true (rtN P n) (x :: ds) = ioOut true .non e1 := by unfold runF; rw [e]
          rw [hrun] at z
          rcases nul .non e1 with ⟨r, h1, h2, rfl⟩ | h1
          · rw [h1] at z
            intro σ' F2 H2 O2 st r2
            obtain ⟨v', hv', dv'⟩ := r2.at_ 0 h2
            have := r2.zero v rfl
            rw [this] at hv'; cases hv'
            exact z .non F2 H2 [] (O2 0) ((conv st).less fun a h => h.elim (fun h => ⟨0, h⟩) fun z => nomatch z) .non dv' (fun _ z => (nomatch z)) (r2.hid 0) List.nodup_nil (r2.nd 0) fun _ z => (nomatch z)
          · rw [h1] at z; exact z.elim
        | ret y e1 =>
          have hrun : runF F.body F.size true (rtN P n) (x :: ds) = ioOut true y e1 := by unfold runF; rw [e]
          rw [hrun] at z
          rcases nul y e1 with ⟨r, h1, h2, rfl⟩ | h1
          · rw [h1] at z
            intro u σ' F2 H2 O2 fp r2
            obtain ⟨v', hv', dv'⟩ := r2.sr.at_ 0 h2
            have := r2.sr.zero v rfl
            rw [this] at hv'; cases hv'
            exact z u F2 H2 fp (O2 0) ((conv r2.st).less fun a h => h.elim (fun h => .inl ⟨0, h⟩) .inr) r2.dr dv' r2.hid (r2.sr.hid 0) r2.nd (r2.sr.nd 0) fun a ha h => r2.dj a ha ⟨0, h⟩
          · rw [h1] at z; exact z.elim
        | exc c fs =>
          have hrun : runF F.body F.size true (rtN P n) (x :: ds) = .exc c fs := by unfold runF; rw [e]
          rw [hrun] at z
          exact fun cls dd σ' F2 H2 P2 st ex => z cls dd F2 H2 P2 (conv st) ex
        | bad =>
          have hrun : runF F.body F.size true (rtN P n) (x :: ds) = .bad := by unfold runF; rw [e]
          rw [hrun] at z
          exact z
theorem lv (ev : Ev K mg g ea P ts) : ∀ n, Lv prog w K mg g ea P n
  | 0 => lv_zero ev
  | n + 1 => lv_succ ev (lv ev n)
end
end Z
end

section
set_option Elab.async false
set_option linter.all false
set_option maxRecDepth 100000
set_option maxHeartbeats 4000000
/-! ZZe: binding of plain parameters. -/
namespace Z
open PySem L2 PyProof.Rows
theorem zip_lookup : ∀ {ps : List Str} {us : List Value}, ps.Nodup → us.length = ps.length → ps.filterMap (fun n => ((ps.zip us).lookup n).map (n, ·)) = ps.zip us := by
  intro ps us nd l
  have key : ∀ (qs : List Str) (ws : List Value) (t : List (Str × Value)), (∀ q ∈ qs, q ∈ ps) → qs.length = ws.length → (∀ (i : Nat) (q : Str) (w : Value), qs[i]? = some q → ws[i]? = some w → (ps.zip us).lookup q = some w) → qs.filterMap (fun n => ((ps.zip us).lookup n).map (n, ·)) = qs.zip ws := by
    intro qs
    induction qs with
    | nil => intro ws t _ l _; cases ws <;> simp_all
    | cons q qs ih =>
      intro ws t h l k
      cases ws with
      | nil => simp at l
      | cons w ws =>
        rw [List.filterMap_cons, k 0 q w rfl rfl]
        simp only [Option.map_some, List.zip_cons_cons]
        rw [ih ws t (fun x hx => h x (List.mem_cons_of_mem _ hx)) (by simpa using l) fun i x y e1 e2 => k (i + 1) x y (by simpa using e1) (by simpa using e2)]
  refine key ps us [] (fun _ h => h) l.symm ?_
  clear key
  induction ps generalizing us with
  | nil => intro i q w h; simp at h
  | cons p ps ih =>
    intro i q w h1 h2
    cases us with
    | nil => simp at l
    | cons u us =>
      obtain ⟨n1, n2⟩ := List.nodup_cons.mp nd
      cases i with
      | zero => simp at h1 h2; subst h1 h2; simp [List.lookup]
      | succ i =>
        have h1 : ps[i]? = some q := by simpa using h1
        have hne : (q == p) = false := by
          simp only [beq_eq_false_iff_ne, ne_eq]
          intro e; subst e; exact n1 (List.mem_of_getElem? h1)
        rw [List.zip_cons_cons, List.lookup_cons, hne]
        exact ih n2 (by simpa using l) i q w h1 (by simpa using h2)
theorem zip_none {ps : List Str} {us : List Value} (nd : ps.Nodup) (l : us.length = ps.length) : ps.filter (fun n => ((ps.zip us).lookup n).isNone) = [] := by
  rw [List.filter_eq_nil_iff]
  intro p hp h
  have e := zip_lookup nd l
  have : (ps.filterMap (fun n => ((ps.zip us).lookup n).map (n, ·))).length < ps.length := by
    have : ∀ (qs : List Str), p ∈ qs → (qs.filterMap (fun n => ((ps.zip us).lookup n).map (n, ·))).length < qs.length := by
      intro qs
      induction qs with
      | nil => intro h; cases h
      | cons q qs ih =>
        intro hm
        have hle := List.length_filterMap_le (fun n => ((ps.zip us).lookup n).map (n, ·)) qs
        rcases List.mem_cons.mp hm with rfl | hm
        · have : ((ps.zip us).lookup p).map (p, ·) = none := by
            rw [Option.isNone_iff_eq_none] at h; rw [h]; rfl
          rw [List.filterMap_cons_none (f := fun n => ((ps.zip us).lookup n).map (n, ·)) this]
          simp; omega
        · rw [List.filterMap_cons]
          have := ih hm
          split
          · exact Nat.lt_succ_of_lt this
          · exact Nat.succ_lt_succ this
    exact this ps hp
  rw [e] at this
  simp [l] at this
/-- parameters without anything beside -/
def plainPs (a : Arguments) : Bool := a.posonlyargs.isEmpty && (a.kwonlyargs.isEmpty && (a.vararg.isNone && (a.kwarg.isNone && a.defaults.isEmpty)))
theorem bind_plain {x qual : Str} {params : Arguments} {body : List Stmt} {scope : Scope} {kV doc pm : Value} {an : Option Addr} {cdv ct : Value} {us : List Value} (hp : plainPs params = true) (nd : (params.args.map (·.arg)).Nodup) (l : us.length = (params.args.map (·.arg)).length) :
    bindArgs (PySem.W.fnOf x qual params body scope .none kV doc pm an cdv ct) ⟨us, []⟩ = pure ((params.args.map (·.arg)).zip us) := by
  obtain ⟨po, as, va, ko, kd, kw, df⟩ := params
  simp only [plainPs, Bool.and_eq_true, List.isEmpty_iff, Option.isNone_iff_eq_none] at hp
  obtain ⟨rfl, rfl, rfl, rfl, rfl⟩ := hp
  obtain ⟨ps, hps⟩ : ∃ ps, as.map (fun x => x.arg) = ps := ⟨_, rfl⟩
  simp only [hps] at nd l ⊢
  unfold bindArgs
  simp only [List.map_nil, List.nil_append, List.append_nil, l, PySem.W.fnOf, hps, List.forIn_nil, pure_bind, seqItems?, notAStandIn, Option.getD, List.length_nil, List.drop_nil, Nat.sub_zero, List.take_length, List.drop_length, List.zip_nil_left, List.zip_nil_right, zip_none nd l, zip_lookup nd l, Nat.lt_irrefl, gt_iff_lt, false_and, List.isEmpty_nil, Bool.not_true, Bool.false_eq_true, if_false, decide_false, Bool.false_and]
end Z
end

section
set_option Elab.async false
set_option linter.all false
set_option maxRecDepth 100000
set_option maxHeartbeats 4000000
/-! ZZf: the tables of a program, from its text; what the head must tell; the end. -/
namespace Z
open PySem L2 PyProof.Rows
/-! ### names -/
mutual
/-- the own names of the comprehensions in it -/
def cnE : Nat → Expr → List Str
  | 0, _ => []
  | n + 1, e => match e with
    | .BoolOp _ es _ => cnEs n es
    | .BinOp a _ b _ => cnE n a ++ cnE n b
    | .UnaryOp _ a _ => cnE n a
    | .IfExp a b c _ => cnE n a ++ (cnE n b ++ cnE n c)
    | .Dict ks vs _ => cnEs n (ks.filterMap id) ++ cnEs n vs
    | .ListComp el gs sc _ => (sc.names.filterMap fun y => match y.2 with
      | .local => some y.1
      | .cell => some y.1
      | _ => none) ++ (cnE n el ++ cnGs n gs)
    | .DictComp k v gs sc _ => (sc.names.filterMap fun y => match y.2 with
      | .local => some y.1
      | .cell => some y.1
      | _ => none) ++ (cnE n k ++ (cnE n v ++ cnGs n gs))
    | .Compare a _ bs _ => cnE n a ++ cnEs n bs
    | .Call f as _ _ => cnE n f ++ cnEs n as
    | .FormattedValue v _ _ _ => cnE n v
    | .JoinedStr vs _ => cnEs n vs
    | .Attribute v _ _ => cnE n v
    | .Subscript a b _ => cnE n a ++ cnE n b
    | .List es _ => cnEs n es
    | .Tuple es _ _ => cnEs n es
    | .Slice a b c _ => cnEs n ((a.toList ++ b.toList) ++ c.toList)
    | _ => []
def cnEs : Nat → List Expr → List Str
  | 0, _ => []
  | n + 1, es => match es with
    | [] => []
    | e :: es => cnE n e ++ cnEs n es
def cnGs : Nat → List Comprehension → List Str
  | 0, _ => []
  | n + 1, gs => match gs with
    | [] => []
    | g :: gs => cnE n g.target ++ (cnE n g.iter ++ (cnEs n g.ifs ++ cnGs n gs))
end
mutual
def cnS : Nat → Stmt → List Str
  | 0, _ => []
  | n + 1, s => match s with
    | .Return (some e) _ => cnE 50 e
    | .Assign ts e _ => cnEs 50 ts ++ cnE 50 e
    | .AugAssign t _ e _ => cnE 50 t ++ cnE 50 e
    | .For t i b _ _ => cnE 50 t ++ (cnE 50 i ++ cnSs n b)
    | .While t b _ _ => cnE 50 t ++ cnSs n b
    | .If t a b _ => cnE 50 t ++ (cnSs n a ++ cnSs n b)
    | .Raise (some e) _ _ => cnE 50 e
    | .Try b _ _ _ _ => cnSs n b
    | .Expr e _ => cnE 50 e
    | _ => []
def cnSs : Nat → List Stmt → List Str
  | 0, _ => []
  | n + 1, ss => match ss with
    | [] => []
    | s :: ss => cnS n s ++ cnSs n ss
end
def parsOf (s : Stmt) : List Str := (defArgs s).args.map (·.arg)
def slotsOf (s : Stmt) : List Str :=
  let ls := (defScope s).names.filterMap fun y => match y.2 with
    | .local => some y.1
    | .cell => some y.1
    | _ => none
  (parsOf s ++ (ls ++ cnSs 100 (defBody s))).eraseDups
def nameOf : Stmt → Str
  | .FunctionDef x _ _ _ _ _ _ _ _ _ => x
  | .ClassDef x _ _ _ _ _ _ _ _ _ _ => x
  | _ => S ""
def isFn : Stmt → Bool
  | .FunctionDef _ _ _ _ _ _ _ _ _ _ => true
  | _ => false
def clsBody : Stmt → List Stmt
  | .ClassDef _ _ _ b _ _ _ _ _ _ _ => b
  | _ => []
def isExc : Stmt → Bool
  | .ClassDef _ bs _ _ _ _ _ _ _ _ _ => !bs.isEmpty
  | _ => false
def fnsOf (b : List Stmt) : List Stmt := b.filter isFn
def excOf (b : List Stmt) : List Stmt := b.filter isExc
def hasInit (s : Stmt) : Bool := (clsBody s).any isFn
/-- the field of an exception class with its own __init__ -/
def xfOf (s : Stmt) : Str := ((clsBody s).findSome? fun m => if isFn m then (defBody m).findSome? fun t => match t with
  | .Assign [.Attribute (.Name _ _) f _] _ _ => some f
  | _ => none else none).getD (S "")
/-- the built-in names -/
def bNames : List Str := [S "len", S "all", S "any", S "sum", S "sorted", S "abs", S "tuple", S "list", S "int", S "min", S "max", S "isinstance", S "range", S "zip", S "enumerate", S "bool", S "str", S "dict"]
/-- the module's numbers and texts -/
def conOf (b : List Stmt) : List (Str × D) := b.filterMap fun s => match s with
  | .Assign [.Name x _] (.Constant (.int i) _ _) _ => some (x, .int i)
  | .Assign [.Name x _] (.Constant (.str z) _ _) _ => if x = S "__name__" then none else some (x, .str z)
  | _ => none
def findN (x : Str) : List Stmt → Nat → Option Nat
  | [], _ => none
  | s :: r, n => if nameOf s = x then some n else findN x r (n + 1)
theorem findN_some {x : Str} : ∀ {l : List Stmt} {n i : Nat}, findN x l n = some i → n ≤ i ∧ ∃ s, l[i - n]? = some s ∧ nameOf s = x
  | [], n, i, h => by cases h
  | s :: r, n, i, h => by
    unfold findN at h
    by_cases e : nameOf s = x
    · rw [if_pos e] at h; cases h
      exact ⟨Nat.le_refl _, s, by simp, e⟩
    · rw [if_neg e] at h
      obtain ⟨h1, s', h2, h3⟩ := findN_some h
      refine ⟨by omega, s', ?_, h3⟩
      have : i - n = (i - (n + 1)) + 1 := by omega
      rw [this, List.getElem?_cons_succ]; exact h2
theorem lookup_some {α : Type} {x : Str} {d : α} : ∀ {l : List (Str × α)}, l.lookup x = some d → (x, d) ∈ l
  | [], h => by cases h
  | (y, e) :: r, h => by
    rw [List.lookup_cons] at h
    cases q : x == y with
    | true => rw [q] at h; simp at h; rw [eq_of_beq q, h]; exact List.mem_cons_self
    | false => rw [q] at h; exact List.mem_cons_of_mem _ (lookup_some h)
def gvOf (b : List Stmt) (x : Str) : Option Gv := match findN x (fnsOf b) 0 with
  | some i => some (.fn i)
  | none => match findN x (excOf b) 0 with
    | some i => some (.exc i (((excOf b)[i]?.map hasInit).getD false))
    | none => match (conOf b).lookup x with
      | some d => some (.con d)
      | none => if bNames.contains x then none else some .unk
def litE : Expr → Bool
  | .Constant _ _ _ => true
  | .Compare _ _ _ _ => true
  | .Tuple _ _ _ => true
  | .JoinedStr _ _ => true
  | .UnaryOp _ _ _ => true
  | _ => false
/-- the names that may hold something alone: stored from what is not surely shared -/
def mayT : Nat → Expr → Expr → List Str
  | 0, _, _ => []
  | n + 1, t, e => match t with
    | .Name x _ => if litE e then [] else [x]
    | .Tuple ts _ _ => match e with
      | .Tuple es _ _ => (ts.zip es).flatMap fun p => mayT n p.1 p.2
      | _ => []
    | _ => []
mutual
def mayS : Nat → Stmt → List Str
  | 0, _ => []
  | n + 1, s => match s with
    | .Assign ts e _ => ts.flatMap fun t => mayT 20 t e
    | .For _ _ b _ _ => maySs n b
    | .While _ b _ _ => maySs n b
    | .If _ a b _ => maySs n a ++ maySs n b
    | .Try b _ _ _ _ => maySs n b
    | _ => []
def maySs : Nat → List Stmt → List Str
  | 0, _ => []
  | n + 1, ss => match ss with
    | [] => []
    | s :: ss => mayS n s ++ maySs n ss
end
def isIo (s : Stmt) : Bool := decide ((parsOf s).head? = some (S "state"))
def knOf (b : List Stmt) : List Nat := (List.range (excOf b).length).filter fun c => !decide ((excOf b)[c]?.map nameOf = some (S "Fault"))
def ccOf (b : List Stmt) (s : Stmt) : CC :=
  { sc := defScope s, N := slotsOf s, raw := none, gl := gvOf b, io := isIo s
    iof := fun i => match (fnsOf b)[i]? with
      | some q => isIo q
      | none => false
    flds := fun _ => []
    meths := []
    own := (maySs 100 (defBody s)).filterMap fun x => ixOf x (slotsOf s) 0
    kn := knOf b
    xf := fun c => ((excOf b)[c]?.map xfOf).getD (S "") }
/-- the program of these functions -/
def mkProg (fns : List Fn) (W : Nat) : Prog := ⟨fns, ⟨fun _ _ => none, fun i => match fns[i]? with
  | some F => F.io
  | none => false⟩, W⟩
def fsB (N P : List Str) (sc : Scope) : Bool := decide (sc.kind = .function) && (!sc.isCoroutine && (!sc.isGenerator && (decide N.Nodup && (decide (N.take P.length = P) && ((P.all fun x => decide (sc.names.lookup x = some .local) || decide (sc.names.lookup x = some .cell)) && sc.names.all fun y => !decide (y.2 = .free))))))
theorem fsB_ok {N P : List Str} {sc : Scope} (h : fsB N P sc = true) : FnScope N P sc := by
  simp only [fsB, Bool.and_eq_true, decide_eq_true_eq, Bool.not_eq_true', List.all_eq_true, Bool.or_eq_true, decide_eq_false_iff_not] at h
  obtain ⟨h1, h2, h3, h4, h5, h6, h7⟩ := h
  exact ⟨h1, h2, h3, h4, h5, h6, h7⟩
/-- a function's text is well formed -/
def okF (s : Stmt) : Bool := plainPs (defArgs s) && (decide (parsOf s).Nodup && (fsB (slotsOf s) (parsOf s) (defScope s) && decide ((parsOf s).length ≤ (slotsOf s).length)))
def defD (s : Stmt) : He.DefD := ⟨(nameOf s, none), nameOf s, nameOf s, defArgs s, defBody s, defScope s, [], []⟩
/-! ### facts -/
def xNames (b : List Stmt) : List (Str × Bool × Str) := (excOf b).map fun s => (nameOf s, hasInit s, xfOf s)
def faOf (b : List Stmt) : List He.Fa :=
  ((fnsOf b).map fun s => He.Fa.glo (nameOf s)) ++ (((excOf b).map fun s => He.Fa.glo (nameOf s)) ++ (((bNames.filter fun x => (gvOf b x).isNone).map He.Fa.free) ++
  (((conOf b).map fun p => match p.2 with
    | .int i => He.Fa.int p.1 i
    | .str z => He.Fa.str p.1 z
    | _ => He.Fa.keep p.1) ++
  ((((excOf b).filter fun s => !hasInit s).map fun s => He.Fa.exc (nameOf s)) ++
  (((excOf b).filter hasInit).map (fun s => He.Fa.noat (nameOf s) (xfOf s)) ++
  (knOf b).flatMap fun c => (knOf b).map fun c' => He.Fa.exm (((excOf b)[c]?.map nameOf).getD (S "")) (((excOf b)[c']?.map nameOf).getD (S "")) (decide (c = c')))))))
/-- no list stands among the module's own objects -/
def noList (K : PySem.W.Frag) : Bool := K.all fun q => match q.2.cls with
  | .type c => !decide (c = "list")
  | _ => true
def exOf (b : List Stmt) (K : PySem.W.Frag) : Bool := noList K && ((excOf b).filter hasInit).all fun s => xfB K (He.ga K (nameOf s))
abbrev AlZ : Type := He.AlD × Bool
def obsZ (n : Nat) (fa : List He.Fa) (fn : List He.DefD) (ex : PySem.W.Frag → Bool) (g : Addr → Option Obj) : AlZ := (He.obsDG n fa fn g, ex (He.frG g (He.asD g n)))
def hookZ (n : Nat) (fa : List He.Fa) (fn : List He.DefD) (ex : PySem.W.Frag → Bool) : PySem.W.Hook where
  α := AlZ
  obs := fun s => obsZ n fa fn ex s.heap.get?
  val := fun _ => (He.valD fn, true)
  says := fun _ h => ∃ K : PySem.W.Frag, K.In h ∧ (He.SaysD fa fn K ∧ ex K = true)
  of := fun _ _ e => ⟨_, He.frG_in, ⟨congrArg (fun z : AlZ => z.1) e, congrArg (fun z : AlZ => z.2) e⟩⟩
  keeps := fun _ _ _ ⟨K, hK, c⟩ k => ⟨K, PySem.W.Frag.In.keeps hK k, c⟩
theorem obsZ_eq {n : Nat} {fa : List He.Fa} {fn : List He.DefD} {ex : PySem.W.Frag → Bool} {g : Addr → Option Obj} {s : Shared} (h : ∀ a, g a = s.heap.get? a) : obsZ n fa fn ex g = (hookZ n fa fn ex).obs s := by
  have e : g = s.heap.get? := funext h
  rw [e]; rfl
/-! ### the program's text is as its tables tell -/
def gbOf (b : List Stmt) (K : PySem.W.Frag) : Gb := ⟨K, fun i => He.ga K (((fnsOf b)[i]?.map nameOf).getD (((fnsOf b)[0]?.map nameOf).getD (S ""))), fun _ => 0⟩
def eaOf (b : List Stmt) (K : PySem.W.Frag) : Nat → Addr × Str := fun c => (He.ga K (((excOf b)[c]?.map nameOf).getD (S "")), ((excOf b)[c]?.map xfOf).getD (S ""))
def tsOf (b : List Stmt) : List (He.DefD × CC) := (fnsOf b).map fun s => (defD s, ccOf b s)
/-- what the kernel reckons of a function's text -/
def rowOf (b : List Stmt) (s : Stmt) : Option SDen × Nat × Nat × Bool := (cSs 200 (ccOf b s) (defBody s), (slotsOf s).length, (parsOf s).length, isIo s)
def rowF (F : Fn) : Option SDen × Nat × Nat × Bool := (some F.body, F.size, F.pars, F.io)
section
variable {b : List Stmt} {K : PySem.W.Frag} {mg : Str → Option Value} {h : Heap} {fns : List Fn} {W : Nat}
theorem gv_fn {x : Str} {i : Nat} (e : gvOf b x = some (.fn i)) : ∃ s, (fnsOf b)[i]? = some s ∧ nameOf s = x := by
  unfold gvOf at e
  cases h1 : findN x (fnsOf b) 0 with
  | some j =>
    rw [h1] at e; cases e
    exact (findN_some h1).2
  | none =>
    rw [h1] at e
    cases h2 : findN x (excOf b) 0 with
    | some j => rw [h2] at e; cases e
    | none =>
      rw [h2] at e
      cases h3 : (conOf b).lookup x with
      | some d => rw [h3] at e; cases e
      | none =>
        rw [h3] at e
        simp only at e
        split at e <;> cases e
theorem gv_exc {x : Str} {c : Nat} {i : Bool} (e : gvOf b x = some (.exc c i)) : ∃ s, (excOf b)[c]? = some s ∧ nameOf s = x ∧ hasInit s = i := by
  unfold gvOf at e
  cases h1 : findN x (fnsOf b) 0 with
  | some j => rw [h1] at e; cases e
  | none =>
    rw [h1] at e
    cases h2 : findN x (excOf b) 0 with
    | some j =>
      rw [h2] at e; cases e
      obtain ⟨s, h3, h4⟩ := (findN_some h2).2
      exact ⟨s, h3, h4, by rw [show (excOf b)[c]? = some s from h3]; rfl⟩
    | none =>
      rw [h2] at e
      cases h3 : (conOf b).lookup x with
      | some d => rw [h3] at e; cases e
      | none =>
        rw [h3] at e
        simp only at e
        split at e <;> cases e
theorem gv_con {x : Str} {d : D} (e : gvOf b x = some (.con d)) : (x, d) ∈ conOf b := by
  unfold gvOf at e
  cases h1 : findN x (fnsOf b) 0 with
  | some j => rw [h1] at e; cases e
  | none =>
    rw [h1] at e
    cases h2 : findN x (excOf b) 0 with
    | some j => rw [h2] at e; cases e
    | none =>
      rw [h2] at e
      cases h3 : (conOf b).lookup x with
      | some d => rw [h3] at e; cases e; exact lookup_some h3
      | none =>
        rw [h3] at e
        simp only at e
        split at e <;> cases e
theorem gv_none {x : Str} (e : gvOf b x = none) : x ∈ bNames := by
  have e0 := e
  unfold gvOf at e
  cases h1 : findN x (fnsOf b) 0 with
  | some j => rw [h1] at e; cases e
  | none =>
    rw [h1] at e
    cases h2 : findN x (excOf b) 0 with
    | some j => rw [h2] at e; cases e
    | none =>
      rw [h2] at e
      cases h3 : (conOf b).lookup x with
      | some d => rw [h3] at e; cases e
      | none =>
        rw [h3] at e
        simp only at e
        split at e
        · rename_i q; simpa using q
        · cases e
theorem con_d {x : Str} {d : D} (e : (x, d) ∈ conOf b) : (∃ i, d = .int i) ∨ ∃ z, d = .str z := by
  unfold conOf at e
  obtain ⟨s, _, hs⟩ := List.mem_filterMap.mp e
  split at hs
  · cases hs; exact .inl ⟨_, rfl⟩
  · split at hs
    · cases hs
    · cases hs; exact .inr ⟨_, rfl⟩
  · cases hs
theorem ev_of (X : K.In h) (G : h.Ns mainGlobals mg) (c : He.SaysD (faOf b) ((fnsOf b).map defD) K) (ce : exOf b K = true) (hok : (fnsOf b).all okF = true)
    (hb : (fnsOf b).map (rowOf b) = fns.map rowF) (hd : (fns.all fun F => F.dfl.isEmpty) = true) (ne : fnsOf b ≠ []) : Ev K mg (gbOf b K) (eaOf b K) (mkProg fns W) (tsOf b) := by
  have len : fns.length = (fnsOf b).length := by have := congrArg List.length hb; simpa using this.symm
  have fact : ∀ f, f ∈ faOf b → f.ok K = true := fun f hf => c.facts hf
  have okf : ∀ s ∈ fnsOf b, okF s = true := fun s hs => List.all_eq_true.mp hok s hs
  have bd : ∀ s ∈ fnsOf b, ∃ fd, FunD K (nameOf s) (nameOf s) (defArgs s) (defBody s) (defScope s) [] [] (He.ga K (nameOf s)) fd ∧ (Binds K fd (parsOf s) [] ∧ BT fd (parsOf s)) ∧ FnScope (slotsOf s) (parsOf s) (defScope s) ∧ (parsOf s).length ≤ (slotsOf s).length := fun s hs => by
    obtain ⟨fd, F⟩ := c.defs (d := defD s) (List.mem_map.mpr ⟨s, hs, rfl⟩)
    have ok := okf s hs
    simp only [okF, Bool.and_eq_true, decide_eq_true_eq] at ok
    obtain ⟨o1, o2, o3, o4⟩ := ok
    exact ⟨fd, F, ⟨FunD.bindsN (kws := []) F fun kV doc pm an cdv ct us l => bind_plain o1 o2 l, FunD.bindsA (kws := []) F fun kV doc pm an cdv ct us l => bind_plain o1 o2 l⟩, fsB_ok o3, o4⟩
  refine ⟨rfl, by rw [show (mkProg fns W).fns = fns from rfl, len]; simp [tsOf], fun i d C F h1 h2 => ?_, fun i hi => ?_, fun p hp x i e => ?_, fun p hp x d e => ?_, fun p hp x e => ?_, fun i => rfl, fun p hp i => ?_, fun p hp x c' i e => ?_, fun p hp x c' e => ?_, fun p hp c1 c2 m1 m2 => ?_, fun p hp x c' e m => ?_⟩
  · unfold tsOf at h1
    rw [List.getElem?_map] at h1
    obtain ⟨s, hs, e⟩ := Option.map_eq_some_iff.mp h1
    cases e
    have hm := List.mem_of_getElem? hs
    obtain ⟨fd, F1, F2, F3, F4⟩ := bd s hm
    have h2 : fns[i]? = some F := h2
    have row : rowOf b s = rowF F := by
      have e2 : ((fnsOf b).map (rowOf b))[i]? = (fns.map rowF)[i]? := by rw [hb]
      rw [List.getElem?_map, List.getElem?_map, hs, h2] at e2
      exact Option.some.inj e2
    simp only [rowOf, rowF, Prod.mk.injEq] at row
    obtain ⟨r1, r2, r3, r4⟩ := row
    have fa : (gbOf b K).fa i = He.ga K (nameOf s) := by
      show He.ga K (((fnsOf b)[i]?.map nameOf).getD _) = _
      rw [hs]; rfl
    refine ⟨⟨fd, parsOf s, by rw [fa]; exact F1, F2, F3, r3.symm⟩, rfl, rfl, r1, r2.symm, by rw [← r2, ← r3]; exact F4, r4.symm, ?_⟩
    have := List.all_eq_true.mp hd F (List.mem_of_getElem? h2)
    simpa using this
  · have hl : 0 < (fnsOf b).length := List.length_pos_iff.mpr ne
    obtain ⟨fd, F1, F2, _⟩ := bd (fnsOf b)[0] (List.getElem_mem hl)
    have hn : (fnsOf b)[i]? = none := by
      rw [List.getElem?_eq_none_iff] at hi ⊢
      rw [← len]; exact hi
    refine ⟨fd, _, F2, ?_⟩
    have fa : (gbOf b K).fa i = He.ga K (nameOf (fnsOf b)[0]) := by
      show He.ga K (((fnsOf b)[i]?.map nameOf).getD (((fnsOf b)[0]?.map nameOf).getD _)) = _
      rw [hn, List.getElem?_eq_getElem hl]; rfl
    rw [fa]; exact F1.kp
  · obtain ⟨s, hs, rfl⟩ := List.mem_map.mp hp
    obtain ⟨s', h1, rfl⟩ := gv_fn (b := b) e
    have := He.glo_ok X G (x := nameOf s') (fact _ (List.mem_append_left _ (List.mem_map.mpr ⟨s', List.mem_of_getElem? h1, rfl⟩)))
    rw [this]
    show _ = some (Value.ref (He.ga K (((fnsOf b)[i]?.map nameOf).getD _)))
    rw [h1]; rfl
  · obtain ⟨s, hs, rfl⟩ := List.mem_map.mp hp
    have hm := gv_con (b := b) e
    have f : ∀ f, f = (match d with
      | .int i => He.Fa.int x i
      | .str z => He.Fa.str x z
      | _ => He.Fa.keep x) → f.ok K = true := fun f hf => fact f (by
        unfold faOf
        refine List.mem_append_right _ (List.mem_append_right _ (List.mem_append_right _ (List.mem_append_left _ (List.mem_map.mpr ⟨(x, d), hm, ?_⟩))))
        rw [hf])
    rcases con_d hm with ⟨i, rfl⟩ | ⟨z, rfl⟩
    · obtain ⟨t, ht⟩ := He.int_ok X G (f _ rfl)
      exact ⟨.int i, _, ht, ⟨t, rfl⟩, fun F H => .int i⟩
    · obtain ⟨t, ht⟩ := He.str_ok X G (f _ rfl)
      exact ⟨.str z, _, ht, ⟨t, rfl⟩, fun F H => .str z⟩
  · obtain ⟨s, hs, rfl⟩ := List.mem_map.mp hp
    refine He.free_ok X G (fact _ ?_)
    unfold faOf
    refine List.mem_append_right _ (List.mem_append_right _ (List.mem_append_left _ (List.mem_map.mpr ⟨x, List.mem_filter.mpr ⟨gv_none e, ?_⟩, rfl⟩)))
    rw [show gvOf b x = none from e]; rfl
  · obtain ⟨s, hs, rfl⟩ := List.mem_map.mp hp
    show (match (fnsOf b)[i]? with
      | some q => isIo q
      | none => false) = match fns[i]? with
      | some F => F.io
      | none => false
    have e2 : ((fnsOf b).map (rowOf b))[i]? = (fns.map rowF)[i]? := by rw [hb]
    rw [List.getElem?_map, List.getElem?_map] at e2
    cases h1 : (fnsOf b)[i]? with
    | none =>
      rw [h1] at e2
      cases h2 : fns[i]? with
      | none => rfl
      | some F => rw [h2] at e2; cases e2
    | some q =>
      rw [h1] at e2
      cases h2 : fns[i]? with
      | none => rw [h2] at e2; cases e2
      | some F =>
        rw [h2] at e2
        have := Option.some.inj e2
        simp only [rowOf, rowF, Prod.mk.injEq] at this
        exact this.2.2.2
  · obtain ⟨s, hs, rfl⟩ := List.mem_map.mp hp
    obtain ⟨s', h1, rfl, _⟩ := gv_exc (b := b) e
    have := He.glo_ok X G (x := nameOf s') (fact _ (List.mem_append_right _ (List.mem_append_left _ (List.mem_map.mpr ⟨s', List.mem_of_getElem? h1, rfl⟩))))
    rw [this]
    show _ = some (Value.ref (He.ga K (((excOf b)[c']?.map nameOf).getD _)))
    rw [h1]; rfl
  · obtain ⟨s, hs, rfl⟩ := List.mem_map.mp hp
    obtain ⟨s', h1, rfl, h3⟩ := gv_exc (b := b) e
    have ea : (eaOf b K c').1 = He.ga K (nameOf s') := by
      show He.ga K (((excOf b)[c']?.map nameOf).getD _) = _
      rw [h1]; rfl
    rw [ea]
    refine He.exc_ok (fact _ ?_)
    unfold faOf
    refine List.mem_append_right _ (List.mem_append_right _ (List.mem_append_right _ (List.mem_append_right _ (List.mem_append_left _ (List.mem_map.mpr ⟨s', List.mem_filter.mpr ⟨List.mem_of_getElem? h1, ?_⟩, rfl⟩)))))
    rw [h3]; rfl
  · obtain ⟨s, hs, rfl⟩ := List.mem_map.mp hp
    refine He.exm_ok (fact (He.Fa.exm _ _ _) ?_)
    unfold faOf
    refine List.mem_append_right _ (List.mem_append_right _ (List.mem_append_right _ (List.mem_append_right _ (List.mem_append_right _ (List.mem_append_right _ (List.mem_flatMap.mpr ⟨c1, m1, List.mem_map.mpr ⟨c2, m2, rfl⟩⟩))))))
  · obtain ⟨s, hs, rfl⟩ := List.mem_map.mp hp
    obtain ⟨s', h1, rfl, h3⟩ := gv_exc (b := b) e
    have hm := List.mem_filter.mpr ⟨List.mem_of_getElem? h1, h3⟩
    have ea1 : (eaOf b K c').1 = He.ga K (nameOf s') := by
      show He.ga K (((excOf b)[c']?.map nameOf).getD _) = _
      rw [h1]; rfl
    have ea2 : (eaOf b K c').2 = xfOf s' := by
      show ((excOf b)[c']?.map xfOf).getD _ = _
      rw [h1]; rfl
    rw [ea1, ea2]
    refine ⟨xfB_ok (List.all_eq_true.mp (Bool.and_eq_true_iff.mp ce).2 s' hm), He.noat_ok (fact _ ?_), ?_⟩
    · unfold faOf
      exact List.mem_append_right _ (List.mem_append_right _ (List.mem_append_right _ (List.mem_append_right _ (List.mem_append_right _ (List.mem_append_left _ (List.mem_map.mpr ⟨s', hm, rfl⟩))))))
    · show ((excOf b)[c']?.map xfOf).getD _ = _
      rw [h1]; rfl
end
/-! ### the end -/
@[irreducible] def pw (k : Nat) : Nat := 2 ^ k
theorem pw_eq (k : Nat) : pw k = 2 ^ k := by unfold pw; rfl
theorem bits_lt {z : Int} (h : Builtin.Int.intBits z ≤ 1048576) : z.natAbs < pw 1048576 := by
  rw [pw_eq]
  generalize 1048576 = k at *
  by_cases e : z = 0
  · subst e; exact Nat.pow_pos (by decide)
  · have h1 : z.natAbs ≠ 0 := by omega
    have h2 : z.natAbs.log2 + 1 ≤ k := by
      have : Builtin.Int.intBits z = z.natAbs.log2 + 1 := by
        unfold Builtin.Int.intBits
        rw [if_neg (by simpa using e)]
      rw [← this]; exact h
    exact Nat.lt_of_lt_of_le ((Nat.log2_lt h1).mp (Nat.lt_succ_self _)) (Nat.pow_le_pow_right (by decide) h2)
/-- the law's script, as data -/
def scr (ns : List Int) : D := .lst false (ns.map D.int)
theorem walkZ {l : PySem.W.OpenLaw} {q : Program} {loose : List Str} {XP : (Str → Option Value) → Heap → Prop} {d : DefRec} {b : List Stmt} {fns : List Fn} {W m n li : Nat} {s : Stmt} {x : Str}
    (hn : l.most = some 63) (hdf : d.params.defaults = []) (hr : Room n callerA) (hli : (fnsOf b)[li]? = some s) (hnm : d.name = nameOf s) (hps : parsOf s = [x]) (hio : isIo s = false)
    (hok : (fnsOf b).all okF = true) (hb : (fnsOf b).map (rowOf b) = fns.map rowF) (hd : (fns.all fun F => F.dfl.isEmpty) = true)
    (law : ∀ ns : List Int, ns.length ≤ 63 → (∀ z ∈ ns, z.natAbs < pw 1048576) → ∃ r, callF (mkProg fns W) n li [scr ns] = .ok (.bl true, r)) :
    PySem.W.WalkO q loose XP (hookZ m (faOf b) ((fnsOf b).map defD) (exOf b)).says l.row.toRowW d [] (fun f vs => PySem.call f vs) := by
  refine Att.attach_callB hn hdf fun w s₀ s₁ mg mb fa o pm cd doc a vs ns G Y ho hdat hcd hmg hobj hints hlen hbits hg => ?_
  obtain ⟨K, KX, c, ce⟩ := Y
  have ne : fnsOf b ≠ [] := fun z => by rw [z] at hli; simp at hli
  have ev := ev_of (W := W) KX G.T.g c ce hok hb hd ne
  have fio : (mkProg fns W).tab.io li = false := by
    have e2 : ((fnsOf b).map (rowOf b))[li]? = (fns.map rowF)[li]? := by rw [hb]
    rw [List.getElem?_map, List.getElem?_map, hli] at e2
    cases h2 : fns[li]? with
    | none => rw [h2] at e2; cases e2
    | some F =>
      rw [h2] at e2
      have r := Option.some.inj e2
      simp only [rowOf, rowF, Prod.mk.injEq] at r
      show (match fns[li]? with
        | some F => F.io
        | none => false) = false
      rw [h2, ← hio]; exact r.2.2.2.symm
  have hfa : (gbOf b K).fa li = He.ga K (nameOf s) := by
    show He.ga K (((fnsOf b)[li]?.map nameOf).getD _) = _
    rw [hli]; rfl
  have hglo := He.glo_ok KX G.T.g (x := nameOf s) (c.facts (List.mem_append_left _ (List.mem_map.mpr ⟨s, List.mem_of_getElem? hli, rfl⟩)))
  have efa : fa = (gbOf b K).fa li := by
    rw [hnm, hglo] at hmg
    have := Option.some.inj hmg
    injection this with this
    rw [hfa]; exact this.symm
  obtain ⟨fd, ps, F, kp, _, bt⟩ := (lv (prog := l.prog) (w := w) ev n).p (fun _ _ _ _ => False) li fio
  obtain ⟨r, hlaw⟩ := law ns hlen fun z hz => bits_lt (hbits z hz)
  have sp : ∀ H : Hp, Rd H a (.lst (ns.map V.int)) → spP (ctN (gbOf b K) (eaOf b K) (mkProg fns W) n fun _ _ _ _ => False) li [.ref a] H (fun v _ => v = .bl true) fun _ _ _ => False := fun H hR => by
    refine ⟨H, [scr ns], fun _ _ e => e, rfl, fun i v d h1 h2 => ?_, rfl, ?_⟩
    · cases i with
      | succ i => simp at h1
      | zero =>
        simp at h1 h2
        subst h1 h2
        refine .lst hR (by simp) fun i v d h1 h2 => ?_
        rw [List.getElem?_map] at h1 h2
        cases e : ns[i]? with
        | none => rw [e] at h1; cases h1
        | some z => rw [e] at h1 h2; cases h1; cases h2; exact .int z
    · show match callF (mkProg fns W) n li [scr ns] with
        | .ok r => _
        | .exc c fs => _
        | .bad => False
      rw [hlaw]
      intro v F' H' fp nv
      have := nv.dr
      cases this
      rfl
  obtain ⟨y, rfl⟩ : ∃ y, ps = [y] := by
    have := (F s₁.heap).len _ _ _ _ (sp (fun b => if b = a then some (.lst (ns.map V.int)) else none) (.inl (if_pos rfl)))
    exact List.length_eq_one_iff.mp this.symm
  have nol := List.all_eq_true.mp (Bool.and_eq_true_iff.mp ce).1
  rw [efa]
  refine law_call KX G.T.g G.T.b G.T.builtins G.T.nolimit hg hobj hints (Nat.le_trans hlen (by decide)) hr (fun base _ _ => F base) (fun s u => bt s [u] rfl) (fun H _ hS => ?_) fun H e s' z => ?_
  · rcases hS with hS | ⟨o, its, k, h1, h2, _⟩
    · exact sp H hS
    · exfalso
      have := nol (a, o) (He.lookup_mem h1)
      simp only [h2] at this
      simp at this
  · obtain ⟨_, _, _, _, _, _, _, _, _, _, _, _, z⟩ := z
    exact z
end Z
end

section
set_option Elab.async false
set_option linter.all false
set_option maxRecDepth 100000
set_option maxHeartbeats 4000000
/-! ZFa: the combinators once more, by bare recursors: quick for the kernel. -/
namespace Z
open PySem
noncomputable section
/-! ### places -/
def nthF (env : Env) (i : Nat) : D := (List.rec (motive := fun _ => Nat → D) (fun _ => .nul) (fun x _ ih n => Nat.rec (motive := fun _ => D) x (fun m _ => ih m) n) env) i
theorem nthF_eq : ∀ (env : Env) (i : Nat), env.getD i .nul = nthF env i
  | [], i => by simp [nthF]
  | x :: env, 0 => rfl
  | x :: env, i + 1 => by
    have := nthF_eq env i
    simpa [List.getD, nthF] using this
def setF (env : Env) (i : Nat) (v : D) : Env := (List.rec (motive := fun _ => Nat → Env) (fun _ => []) (fun x xs ih n => Nat.rec (motive := fun _ => Env) (v :: xs) (fun m _ => x :: ih m) n) env) i
theorem setF_eq : ∀ (env : Env) (i : Nat) (v : D), env.set i v = setF env i v
  | [], i, v => rfl
  | x :: env, 0, v => rfl
  | x :: env, i + 1, v => by
    have := setF_eq env i v
    show x :: env.set i v = x :: setF env i v
    rw [this]
def wipesF (is : List Nat) (env : Env) : Env := List.rec (motive := fun _ => Env) env (fun i _ ih => setF ih i .nul) is
theorem wipesF_eq : ∀ (is : List Nat) (env : Env), wipes is env = wipesF is env
  | [], env => rfl
  | i :: is, env => by
    show (wipes is env).set i .nul = setF (wipesF is env) i .nul
    rw [wipesF_eq is env, setF_eq]
/-! ### ints -/
def ieqF (i j : Int) : Bool := Int.rec (motive := fun _ => Bool) (fun m => Int.rec (motive := fun _ => Bool) (fun n => Nat.beq m n) (fun _ => false) j) (fun m => Int.rec (motive := fun _ => Bool) (fun _ => false) (fun n => Nat.beq m n) j) i
theorem nbeq (m n : Nat) : Nat.beq m n = decide (m = n) := by
  by_cases h : m = n
  · subst h; simp
  · have : Nat.beq m n = false := by
      cases e : Nat.beq m n with
      | false => rfl
      | true => exact absurd (Nat.eq_of_beq_eq_true e) h
    simp [this, h]
theorem ieqF_eq (i j : Int) : decide (i = j) = ieqF i j := by
  cases i <;> cases j <;> simp [ieqF, nbeq] <;> omega
def iltF (i j : Int) : Bool := Int.rec (motive := fun _ => Bool) (fun m => Int.rec (motive := fun _ => Bool) (fun n => Nat.ble (Nat.succ m) n) (fun _ => false) j) (fun m => Int.rec (motive := fun _ => Bool) (fun _ => true) (fun n => Nat.ble (Nat.succ n) m) j) i
theorem nble (m n : Nat) : Nat.ble m n = decide (m ≤ n) := by
  cases e : Nat.ble m n with
  | true => simp [Nat.le_of_ble_eq_true e]
  | false =>
    have : ¬ m ≤ n := fun h => by rw [Nat.ble_eq_true_of_le h] at e; cases e
    simp [this]
theorem iltF_eq (i j : Int) : decide (i < j) = iltF i j := by
  cases i <;> cases j <;> simp [iltF, nble] <;> omega
theorem ileF_eq (i j : Int) : decide (i ≤ j) = !iltF j i := by
  rw [← iltF_eq]
  by_cases h : i ≤ j
  · simp [h, Int.not_lt.mpr h]
  · simp [h, Int.not_le.mp h]
def smallF (i : Int) : Bool := Int.rec (motive := fun _ => Bool) (fun n => Nat.ble n (2 ^ 4000)) (fun n => Nat.ble n (2 ^ 4000)) i
theorem smallF_log2 {i : Int} (h : smallF i = true) : i.natAbs.log2 ≤ 4001 := by
  have h1 : i.natAbs ≤ 2 ^ 4000 + 1 := by
    cases i with
    | ofNat n =>
      have : n ≤ 2 ^ 4000 := Nat.le_of_ble_eq_true h
      simp; omega
    | negSucc n =>
      have : n ≤ 2 ^ 4000 := Nat.le_of_ble_eq_true h
      simp [Int.natAbs_negSucc]; omega
  by_cases h0 : i.natAbs = 0
  · rw [h0]; decide
  · have h2 : i.natAbs < 2 ^ 4002 := Nat.lt_of_le_of_lt h1 (by
      have : (2:Nat) ^ 4002 = 2 ^ 4000 * 4 := Nat.pow_add 2 4000 2
      have p : 0 < (2:Nat) ^ 4000 := Nat.pow_pos (by decide)
      omega)
    exact Nat.le_of_lt_succ ((Nat.log2_lt h0).mpr h2)
def condF {α : Type} (b : Bool) (x y : α) : α := Bool.rec (motive := fun _ => α) y x b
theorem condF_eq {α : Type} {p : Prop} [Decidable p] {b : Bool} (h : decide p = b) (x y : α) : (if p then x else y) = condF b x y := by
  subst h
  by_cases h : p
  · simp [h, condF]
  · simp [h, condF]
/-! ### operations -/
def dInt {α : Type} (no : α) (f : Int → α) (d : D) : α := D.casesOn (motive_1 := fun _ => α) d no no (fun _ => no) f (fun _ => no) (fun _ => no) (fun _ _ => no) (fun _ _ _ => no) (fun _ _ _ => no) (fun _ => no) (fun _ => no)
theorem dInt_int {α : Type} (no : α) (f : Int → α) (i : Int) : dInt no f (.int i) = f i := rfl
/-- two ints, else as ever -/
def ints2 (f : D → D → Option D) (g : Int → Int → Option D) (x y : D) : Option D := dInt (f x y) (fun i => dInt (f x y) (fun j => g i j) y) x
theorem ints2_eq {f : D → D → Option D} {g : Int → Int → Option D} (h : ∀ i j, f (.int i) (.int j) = g i j) : f = ints2 f g := by
  funext x y
  cases x <;> first | rfl | skip
  cases y <;> first | rfl | exact h _ _
def add2F : D → D → Option D := ints2 add2 fun i j => some (.int (Int.add i j))
theorem add2F_eq : add2 = add2F := ints2_eq fun _ _ => rfl
def sub2F : D → D → Option D := ints2 sub2 fun i j => some (.int (Int.sub i j))
theorem sub2F_eq : sub2 = sub2F := ints2_eq fun _ _ => rfl
def mul2F : D → D → Option D := ints2 mul2 fun i j => condF (condF (smallF i) (smallF j) false) (some (.int (Int.mul i j))) (mul2 (.int i) (.int j))
theorem mul2F_eq : mul2 = mul2F := ints2_eq fun i j => by
  cases h1 : smallF i with
  | false => simp [condF]
  | true =>
    cases h2 : smallF j with
    | false => simp [condF]
    | true =>
      have a := smallF_log2 h1
      have b := smallF_log2 h2
      show (if i.natAbs.log2 + j.natAbs.log2 < 130000000 then some (D.int (i * j)) else none) = some (.int (Int.mul i j))
      rw [if_pos (by omega)]; rfl
def posF (j : Int) : Bool := Int.rec (motive := fun _ => Bool) (fun n => Nat.ble 1 n) (fun _ => false) j
theorem posF_eq (j : Int) : decide (0 < j) = posF j := by
  cases j <;> simp [posF, nble] <;> omega
def fdiv2F : D → D → Option D := ints2 fdiv2 fun i j => condF (condF (posF j) (smallF j) false) (some (.int (Int.ediv i j))) (fdiv2 (.int i) (.int j))
theorem fdiv2F_eq : fdiv2 = fdiv2F := ints2_eq fun i j => by
  cases h1 : posF j with
  | false => simp [condF]
  | true =>
    cases h2 : smallF j with
    | false => simp [condF]
    | true =>
      have a : 0 < j := by have := posF_eq j; rw [h1] at this; exact of_decide_eq_true this
      have b := smallF_log2 h2
      show (if 0 < j ∧ j.natAbs.log2 < 9000 then some (D.int (i / j)) else none) = some (.int (Int.ediv i j))
      rw [if_pos ⟨a, by omega⟩]; rfl
def mod2F : D → D → Option D := ints2 mod2 fun i j => condF (posF j) (some (.int (Int.emod i j))) none
theorem mod2F_eq : mod2 = mod2F := ints2_eq fun i j => condF_eq (posF_eq j) _ _
def lt2F : D → D → Option D := ints2 lt2 fun i j => some (.bl (iltF i j))
theorem lt2F_eq : lt2 = lt2F := ints2_eq fun i j => by show some (D.bl (decide (i < j))) = _; rw [iltF_eq]
def le2F : D → D → Option D := ints2 le2 fun i j => some (.bl (condF (iltF j i) false true))
theorem le2F_eq : le2 = le2F := ints2_eq fun i j => by
  show some (D.bl (decide (i ≤ j))) = _
  rw [ileF_eq]
  cases iltF j i <;> rfl
def gt2F : D → D → Option D := ints2 (cmD .gt) fun i j => some (.bl (iltF j i))
theorem gt2F_eq : cmD .gt = gt2F := ints2_eq fun i j => by show some (D.bl (decide (j < i))) = _; rw [iltF_eq]
def ge2F : D → D → Option D := ints2 (cmD .ge) fun i j => some (.bl (condF (iltF i j) false true))
theorem ge2F_eq : cmD .ge = ge2F := ints2_eq fun i j => by
  show some (D.bl (decide (j ≤ i))) = _
  rw [ileF_eq]
  cases iltF i j <;> rfl
def eq2F : D → D → Option D := ints2 eq2 fun i j => some (.bl (ieqF i j))
theorem eq2F_eq : eq2 = eq2F := ints2_eq fun i j => by show some (D.bl (decide (i = j))) = _; rw [ieqF_eq]
def ne2F : D → D → Option D := ints2 ne2 fun i j => some (.bl (condF (ieqF i j) false true))
theorem ne2F_eq : ne2 = ne2F := ints2_eq fun i j => by
  show some (D.bl (!decide (i = j))) = _
  rw [ieqF_eq]
  cases ieqF i j <;> rfl
def abs1F (x : D) : Option D := dInt (abs1 x) (fun i => some (.int (Int.rec (motive := fun _ => Int) (fun n => .ofNat n) (fun n => .ofNat (Nat.succ n)) i))) x
theorem abs1F_eq : abs1 = abs1F := by
  funext x
  cases x <;> first | rfl | skip
  rename_i i
  cases i with
  | ofNat n =>
    show some (D.int (if Int.ofNat n < 0 then _ else _)) = _
    rw [if_neg (by simp)]; rfl
  | negSucc n =>
    show some (D.int (if Int.negSucc n < 0 then _ else _)) = _
    rw [if_pos (Int.negSucc_lt_zero n)]; rfl
/-! ### expressions -/
def outF {α β : Type} (x : Out α) (f : α → Out β) : Out β := Out.rec (motive := fun _ => Out β) f (fun c fs => .exc c fs) .bad x
theorem outF_eq {α β : Type} (x : Out α) (f : α → Out β) : x.bind f = outF x f := by cases x <;> rfl
def optF (o : Option D) : Out D := Option.rec (motive := fun _ => Out D) .bad (fun d => .ok d) o
theorem optF_eq (o : Option D) : opt o = optF o := by cases o <;> rfl
def pSeeF (i : Nat) : PDen := fun _ env => D.casesOn (motive_1 := fun _ => Out D) (nthF env i) .bad (.ok .non) (fun b => .ok (.bl b)) (fun i => .ok (.int i)) (fun s => .ok (.str s)) (fun xs => .ok (.tup xs)) (fun o xs => .ok (.lst o xs)) (fun o ks vs => .ok (.dic o ks vs)) (fun o c fs => .ok (.obj o c fs)) (fun f => .ok (.fn f)) (fun c => .ok (.cls c))
theorem pSeeF_eq : pSee = pSeeF := by
  funext i rt env
  unfold pSee pSeeF
  rw [nthF_eq]
  cases nthF env i <;> rfl
def pRdF (i : Nat) : PDen := fun _ env => D.casesOn (motive_1 := fun _ => Out D) (nthF env i) .bad (.ok .non) (fun b => .ok (.bl b)) (fun i => .ok (.int i)) (fun s => .ok (.str s)) (fun xs => .ok (.tup xs)) (fun o xs => condF o .bad (.ok (.lst false xs))) (fun o ks vs => condF o .bad (.ok (.dic false ks vs))) (fun o c fs => condF o .bad (.ok (.obj false c fs))) (fun f => .ok (.fn f)) (fun c => .ok (.cls c))
theorem pRdF_eq : pRd = pRdF := by
  funext i rt env
  unfold pRd pRdF
  rw [nthF_eq]
  cases nthF env i with
  | lst o xs => cases o <;> rfl
  | dic o ks vs => cases o <;> rfl
  | obj o c fs => cases o <;> rfl
  | _ => rfl
def frzF (d : D) : D := D.casesOn (motive_1 := fun _ => D) d .nul .non (fun b => .bl b) (fun i => .int i) (fun s => .str s) (fun xs => .tup xs) (fun o xs => condF o (freeze (.lst true xs)) (.lst false xs)) (fun o ks vs => condF o (freeze (.dic true ks vs)) (.dic false ks vs)) (fun o c fs => condF o (freeze (.obj true c fs)) (.obj false c fs)) (fun f => .fn f) (fun c => .cls c)
theorem frzF_eq (d : D) : freeze d = frzF d := by
  cases d with
  | lst o xs => cases o <;> first | rfl | simp [freeze, frzF, condF]
  | dic o ks vs => cases o <;> first | rfl | simp [freeze, frzF, condF]
  | obj o c fs => cases o <;> first | rfl | simp [freeze, frzF, condF]
  | _ => simp [freeze, frzF]
def pFzF (p : PDen) : PDen := fun rt env => Out.rec (motive := fun _ => Out D) (fun d => .ok (frzF d)) (fun c fs => .exc c fs) .bad (p rt env)
theorem pFzF_eq : pFz = pFzF := by
  funext p rt env
  unfold pFz pFzF
  cases p rt env <;> simp [Out.bind, frzF_eq]
def p1F (f : D → Option D) (a : PDen) : PDen := fun rt env => Out.rec (motive := fun _ => Out D) (fun x => Option.rec (motive := fun _ => Out D) .bad (fun d => .ok d) (f x)) (fun c fs => .exc c fs) .bad (a rt env)
theorem p1F_eq (f : D → Option D) (a : PDen) : pN (o1 f) [a] = p1F f a := by
  funext rt env
  unfold pN p1F
  simp only [pAll]
  cases a rt env <;> simp [Out.bind, o1, opt]
  cases f _ <;> rfl
def p2F (f : D → D → Option D) (a b : PDen) : PDen := fun rt env => Out.rec (motive := fun _ => Out D) (fun x => Out.rec (motive := fun _ => Out D) (fun y => Option.rec (motive := fun _ => Out D) .bad (fun d => .ok d) (f x y)) (fun c fs => .exc c fs) .bad (b rt env)) (fun c fs => .exc c fs) .bad (a rt env)
theorem p2F_eq (f : D → D → Option D) (a b : PDen) : pN (o2 f) [a, b] = p2F f a b := by
  funext rt env
  unfold pN p2F
  simp only [pAll]
  cases a rt env <;> simp [Out.bind]
  cases b rt env <;> simp [Out.bind, o2, opt]
  cases f _ _ <;> rfl
def pBinF (f : D → D → Option D) (m : Str) (a b : PDen) : PDen := fun rt env => Out.rec (motive := fun _ => Out D) (fun x => Out.rec (motive := fun _ => Out D) (fun y => Option.rec (motive := fun _ => Out D) (ownOp m rt x [y]) (fun d => .ok d) (f x y)) (fun c fs => .exc c fs) .bad (b rt env)) (fun c fs => .exc c fs) .bad (a rt env)
theorem pBinF_eq (f : D → D → Option D) (m : Str) (a b : PDen) : pN (oBin f m) [a, b] = pBinF f m a b := by
  funext rt env
  unfold pN pBinF
  simp only [pAll]
  cases a rt env <;> simp [Out.bind]
  cases b rt env <;> simp [Out.bind, oBin]
  cases f _ _ <;> rfl
def pUnF (f : D → Option D) (m : Str) (a : PDen) : PDen := fun rt env => Out.rec (motive := fun _ => Out D) (fun x => Option.rec (motive := fun _ => Out D) (ownOp m rt x []) (fun d => .ok d) (f x)) (fun c fs => .exc c fs) .bad (a rt env)
theorem pUnF_eq (f : D → Option D) (m : Str) (a : PDen) : pN (oUn f m) [a] = pUnF f m a := by
  funext rt env
  unfold pN pUnF
  simp only [pAll]
  cases a rt env <;> simp [Out.bind, oUn]
  cases f _ <;> rfl
def pAllF (ps : List PDen) (rt : RT) (env : Env) : Out (List D) := List.rec (motive := fun _ => Out (List D)) (.ok []) (fun p _ ih => Out.rec (motive := fun _ => Out (List D)) (fun d => Out.rec (motive := fun _ => Out (List D)) (fun ds => .ok (d :: ds)) (fun c fs => .exc c fs) .bad ih) (fun c fs => .exc c fs) .bad (p rt env)) ps
theorem pAllF_eq : ∀ (ps : List PDen) (rt : RT) (env : Env), pAll ps rt env = pAllF ps rt env
  | [], rt, env => rfl
  | p :: ps, rt, env => by
    simp only [pAll, pAllF_eq ps rt env, pAllF]
    cases p rt env <;> simp [Out.bind]
    generalize (List.rec _ _ ps : Out (List D)) = y
    cases y <;> rfl
def frzsB (xs : List D) : Bool := List.rec (motive := fun _ => Bool) true (fun d _ ih => D.casesOn (motive_1 := fun _ => Bool) d false ih (fun _ => ih) (fun _ => ih) (fun _ => ih) (fun _ => ih) (fun o _ => condF o false ih) (fun o _ _ => condF o false ih) (fun o _ _ => condF o false ih) (fun _ => ih) (fun _ => ih)) xs
theorem frzsB_eq : ∀ xs : List D, allFrz xs = frzsB xs
  | [] => rfl
  | d :: xs => by
    show (isFrz d && allFrz xs) = _
    rw [frzsB_eq xs]
    cases d with
    | lst o ys => cases o <;> rfl
    | dic o ys zs => cases o <;> rfl
    | obj o ys zs => cases o <;> rfl
    | _ => rfl
def pCallF (k : Nat) (ps : List PDen) : PDen := fun rt env => outF (pAllF ps rt env) fun ds => condF (rt.tab.io k) .bad (condF (frzsB ds) (outF (rt.call k ds) fun r => .ok r.1) .bad)
theorem pCallF_eq (k : Nat) (ps : List PDen) : pN (oCall k) ps = pCallF k ps := by
  funext rt env
  unfold pN pCallF
  rw [pAllF_eq, outF_eq]
  congr 1
  funext ds
  unfold oCall
  cases rt.tab.io k with
  | true => rfl
  | false =>
    rw [frzsB_eq]
    cases frzsB ds with
    | true => simp [condF, outF_eq]
    | false => rfl
def pTupF (ps : List PDen) : PDen := fun rt env => outF (pAllF ps rt env) fun ds => condF (condF (frzsB ds) (Nat.ble ds.length sizeMax) false) (.ok (.tup ds)) .bad
theorem pTupF_eq (ps : List PDen) : pN oTup ps = pTupF ps := by
  funext rt env
  unfold pN pTupF
  rw [pAllF_eq, outF_eq]
  congr 1
  funext ds
  unfold oTup
  rw [frzsB_eq]
  cases frzsB ds with
  | true => simp only [condF, Bool.true_and, nble]; cases decide (ds.length ≤ sizeMax) <;> rfl
  | false => rfl
def pLstF (ps : List PDen) : PDen := fun rt env => outF (pAllF ps rt env) fun ds => .ok (.lst true ds)
theorem pLstF_eq : pLst = pLstF := by
  funext ps rt env
  unfold pLst pLstF
  rw [pAllF_eq, outF_eq]
def blF {β : Type} (d : D) (f : Bool → Out β) : Out β := D.casesOn (motive_1 := fun _ => Out β) d .bad .bad f (fun _ => .bad) (fun _ => .bad) (fun _ => .bad) (fun _ _ => .bad) (fun _ _ _ => .bad) (fun _ _ _ => .bad) (fun _ => .bad) (fun _ => .bad)
theorem blF_eq {β : Type} (d : D) (f : Bool → Out β) : (asB d).bind f = blF d f := by cases d <;> rfl
theorem bind_bind {α β γ : Type} (x : Out α) (f : α → Out β) (g : β → Out γ) : (x.bind f).bind g = x.bind fun a => (f a).bind g := by cases x <;> rfl
def testF (t : PDen) (rt : RT) (env : Env) (f : Bool → Out D) : Out D := Out.rec (motive := fun _ => Out D) (fun d => blF d f) (fun c fs => .exc c fs) .bad (t rt env)
theorem testF_eq (t : PDen) (rt : RT) (env : Env) (f : Bool → Out D) : ((t rt env).bind asB).bind f = testF t rt env f := by
  unfold testF
  rw [bind_bind]
  cases t rt env <;> simp [Out.bind, ← blF_eq]
def pIteF (t a b : PDen) : PDen := fun rt env => testF t rt env fun c => condF c (a rt env) (b rt env)
theorem pIteF_eq : pIte = pIteF := by
  funext t a b rt env
  unfold pIte pIteF
  rw [testF_eq]
  congr 1
  funext c
  cases c <;> rfl
def pAndF (a b : PDen) : PDen := fun rt env => testF a rt env fun c => condF c (b rt env) (.ok (.bl false))
theorem pAndF_eq : pAnd = pAndF := by
  funext a b rt env
  unfold pAnd pAndF
  rw [testF_eq]
  congr 1
  funext c
  cases c <;> rfl
def pOrF (a b : PDen) : PDen := fun rt env => testF a rt env fun c => condF c (.ok (.bl true)) (b rt env)
theorem pOrF_eq : pOr = pOrF := by
  funext a b rt env
  unfold pOr pOrF
  rw [testF_eq]
  congr 1
  funext c
  cases c <;> rfl
def pNotF (a : PDen) : PDen := fun rt env => testF a rt env fun c => .ok (.bl (condF c false true))
theorem pNotF_eq : pNot = pNotF := by
  funext a rt env
  unfold pNot pNotF
  rw [testF_eq]
  congr 1
  funext c
  cases c <;> rfl
def pChnF (f g : D → D → Option D) (a b c : PDen) : PDen := fun rt env => outF (a rt env) fun x => outF (b rt env) fun y => outF (optF (f x y)) fun k => blF k fun k => condF k (outF (c rt env) fun z => optF (g y z)) (.ok (.bl false))
theorem pChnF_eq : pChn = pChnF := by
  funext f g a b c rt env
  unfold pChn pChnF
  rw [outF_eq]
  congr 1
  funext x
  rw [outF_eq]
  congr 1
  funext y
  rw [bind_bind, outF_eq, optF_eq]
  congr 1
  funext k
  rw [blF_eq]
  congr 1
  funext k
  cases k
  · rfl
  · show (c rt env).bind _ = outF _ _
    rw [outF_eq]
    congr 1
    funext z
    exact optF_eq _
/-! ### comprehensions over one name -/
def lcLF (i : Nat) (c e : PDen) (rt : RT) (env : Env) (xs : List D) : Out (List D) := List.rec (motive := fun _ => Out (List D)) (.ok []) (fun x _ ih => (fun en : Env => Out.rec (motive := fun _ => Out (List D)) (fun d => blF d fun b => condF b
  (Out.rec (motive := fun _ => Out (List D)) (fun d => Out.rec (motive := fun _ => Out (List D)) (fun ds => .ok (d :: ds)) (fun c fs => .exc c fs) .bad ih) (fun c fs => .exc c fs) .bad (e rt en)) ih) (fun c fs => .exc c fs) .bad (c rt en)) (setF env i x)) xs
theorem lcLF_eq (i : Nat) (c e : PDen) (rt : RT) (env : Env) : ∀ xs : List D, lcL (.nm i) c e rt env xs = lcLF i c e rt env xs
  | [] => rfl
  | x :: xs => by
    simp only [lcL, bindP, lcLF_eq i c e rt env xs, setF_eq]
    show _ = Out.rec (motive := fun _ => Out (List D)) _ _ _ (c rt (setF env i x))
    cases c rt (setF env i x) with
    | exc c fs => rfl
    | bad => rfl
    | ok d =>
      cases d <;> first | rfl | skip
      rename_i b
      cases b with
      | false => rfl
      | true =>
        show (e rt (setF env i x)).bind _ = Out.rec (motive := fun _ => Out (List D)) _ _ _ (e rt (setF env i x))
        cases e rt (setF env i x) with
        | exc c fs => rfl
        | bad => rfl
        | ok d =>
          show (lcLF i c e rt env xs).bind _ = _
          show _ = Out.rec (motive := fun _ => Out (List D)) _ _ _ (lcLF i c e rt env xs)
          cases lcLF i c e rt env xs <;> rfl
def noExF {α : Type} (x : Out α) : Out α := Out.rec (motive := fun _ => Out α) (fun a => .ok a) (fun _ _ => .bad) .bad x
def itF (I : Itr) (rt : RT) (env : Env) : Out (List D) := outF (pAllF I.ps rt env) fun ds => Option.rec (motive := fun _ => Out (List D)) .bad (fun xs => condF (Nat.ble xs.length sizeMax) (.ok xs) .bad) (I.f ds)
theorem itF_eq (I : Itr) (rt : RT) (env : Env) : I.run rt env = itF I rt env := by
  unfold Itr.run itF
  rw [pAllF_eq, outF_eq]
  congr 1
  funext ds
  cases I.f ds with
  | none => rfl
  | some xs => exact condF_eq (nble _ _).symm _ _
def pLcF (it : Itr) (i : Nat) (c e : PDen) (own : List Nat) : PDen := fun rt env => outF (itF it rt env) fun xs => outF (noExF (lcLF i c e rt (wipesF own env) xs)) fun ds => .ok (.lst true ds)
theorem pLcF_eq (it : Itr) (i : Nat) (c e : PDen) (own : List Nat) : pLc it (.nm i) c e own = pLcF it i c e own := by
  funext rt env
  unfold pLc pLcF
  rw [itF_eq, outF_eq]
  congr 1
  funext xs
  rw [lcLF_eq, wipesF_eq, outF_eq]
  congr 1
  cases lcLF i c e rt (wipesF own env) xs <;> rfl
/-! ### statements -/
def sSeqF (a b : SDen) : SDen := fun rt env => SOut.rec (motive := fun _ => SOut) (fun e => b rt e) (fun d e => .ret d e) (fun c fs => .exc c fs) .bad (a rt env)
theorem sSeqF_eq : sSeq = sSeqF := by
  funext a b rt env
  unfold sSeq sSeqF
  cases a rt env <;> rfl
def sIfF (t : PDen) (a b : SDen) : SDen := fun rt env => Out.rec (motive := fun _ => SOut) (fun d => D.casesOn (motive_1 := fun _ => SOut) d .bad .bad (fun c => condF c (a rt env) (b rt env)) (fun _ => .bad) (fun _ => .bad) (fun _ => .bad) (fun _ _ => .bad) (fun _ _ _ => .bad) (fun _ _ _ => .bad) (fun _ => .bad) (fun _ => .bad)) (fun c fs => .exc c fs) .bad (t rt env)
theorem sIfF_eq (t : PDen) (a b : SDen) : sIf (eP t) a b = sIfF t a b := by
  funext rt env
  unfold sIf sIfF eP
  cases t rt env with
  | ok d =>
    cases d <;> first | rfl | skip
    rename_i c
    cases c <;> rfl
  | exc c fs => rfl
  | bad => rfl
def sAsgF (i : Nat) (p : PDen) : SDen := fun rt env => Out.rec (motive := fun _ => SOut) (fun d => .next (setF env i d)) (fun c fs => .exc c fs) .bad (p rt env)
theorem sAsgF_eq (i : Nat) (p : PDen) : sAsg (.nm i) (eP p) = sAsgF i p := by
  funext rt env
  unfold sAsg sAsgF eP
  cases p rt env <;> simp [Out.bind, asg, sOut, setF_eq]
def sRetF (p : PDen) : SDen := fun rt env => Out.rec (motive := fun _ => SOut) (fun d => .ret d env) (fun c fs => .exc c fs) .bad (p rt env)
theorem sRetF_eq (p : PDen) : sRet (eP p) = sRetF p := by
  funext rt env
  unfold sRet sRetF eP
  cases p rt env <;> rfl
def sRetVF (i : Nat) : SDen := fun _ env => (fun d => D.casesOn (motive_1 := fun _ => SOut) d .bad (.ret d (setF env i .nul)) (fun _ => .ret d (setF env i .nul)) (fun _ => .ret d (setF env i .nul)) (fun _ => .ret d (setF env i .nul)) (fun _ => .ret d (setF env i .nul)) (fun _ _ => .ret d (setF env i .nul)) (fun _ _ _ => .ret d (setF env i .nul)) (fun _ _ _ => .ret d (setF env i .nul)) (fun _ => .ret d (setF env i .nul)) (fun _ => .ret d (setF env i .nul))) (nthF env i)
theorem sRetVF_eq : sRetV = sRetVF := by
  funext i rt env
  unfold sRetV sRetVF
  rw [nthF_eq]
  cases nthF env i <;> simp [setF_eq]
def forF (i : Nat) (b : SDen) (rt : RT) (xs : List D) : Env → SOut := List.rec (motive := fun _ => Env → SOut) (fun env => .next env) (fun x _ ih env => SOut.rec (motive := fun _ => SOut) (fun e => ih e) (fun d e => .ret d e) (fun c fs => .exc c fs) .bad (b rt (setF env i x))) xs
theorem forF_eq (i : Nat) (b : SDen) (rt : RT) : ∀ (xs : List D) (env : Env), forL (.nm i) b rt xs env = forF i b rt xs env
  | [], env => rfl
  | x :: xs, env => by
    simp only [forL, asg, setF_eq]
    show _ = SOut.rec (motive := fun _ => SOut) _ _ _ _ (b rt (setF env i x))
    cases b rt (setF env i x) with
    | next e => exact forF_eq i b rt xs e
    | ret d e => rfl
    | exc c fs => rfl
    | bad => rfl
def sForF (i : Nat) (it : EItr) (b : SDen) : SDen := fun rt env => Out.rec (motive := fun _ => SOut) (fun q => forF i b rt q.1 q.2) (fun c fs => .exc c fs) .bad (it.run rt env)
theorem sForF_eq (i : Nat) (it : EItr) (b : SDen) : sFor (.nm i) it b = sForF i it b := by
  funext rt env
  unfold sFor sForF
  cases it.run rt env with
  | ok q => obtain ⟨xs, e⟩ := q; exact forF_eq i b rt xs e
  | exc c fs => rfl
  | bad => rfl
end
/-! ### all at once -/
theorem fns_fast {fns fast : List Fn} (h : fns = fast) (W : Nat) : mkProg fns W = mkProg fast W := by rw [h]
end Z
end

section
set_option Elab.async false
set_option linter.all false
set_option maxRecDepth 100000
set_option maxHeartbeats 4000000
/-! ZGa: the laws' draws. -/
namespace Z
open PySem
/-- the state of the draws -/
def ST (d : D) : Prop := ∃ s t : Int, d = .lst true [.int s, .int t] ∧ s.natAbs < pw 1100000 ∧ 0 ≤ t ∧ t < 2147483647
def stateB : SDen :=
 (sSeq (sAsg (.nm 1) (eP (pLit (.int 0))))
 (sSeq (sAsg (.nm 2) (eP (pLit (.int 1))))
 (sSeq (sFor (.nm 3) ⟨fItems, [(eP (pN (o3 slice3) [(pSee 0), (pLit .non), (pInt (pLit (.int 63)))]))]⟩ (sSeq (sAsg (.nm 1) (eP (pN (oBin add2 (S "__add__")) [(pFz (pN (oBin mul2 (S "__mul__")) [(pSee 1), (pLit (.int 1000003))])), (pFz (pN (o1 abs1) [(pSee 3)]))])))
 (sAsg (.nm 2) (eP (pN (oBin mod2 (S "__mod__")) [(pFz (pN (o1 int1) [(pFz (pN (oBin add2 (S "__add__")) [(pFz (pN (oBin mul2 (S "__mul__")) [(pSee 2), (pLit (.int 48271))])), (pSee 3)]))])), (pLit (.int 2147483647))])))))
 (sSeq (sFz [1, 2])
 (sRet (eP (pLst [(pRd 1), (pIte (pFz (pN (o2 ne2) [(pSee 2), (pLit (.int 1973665155))])) (pRd 2) (pLit (.int 7)))])))))))
def takeB : SDen :=
 (sSeq (sIf (eP (pN (o2 (cmD .gt)) [(pN (o2 idx2) [(pSee 0), (pLit (.int 0))]), (pLit (.int 0))])) (sSeq (sAsg (.nm 2) (eP (pN (oBin mod2 (S "__mod__")) [(pFz (pN (o1 int1) [(pN (o2 idx2) [(pSee 0), (pLit (.int 0))])])), (pSee 1)])))
 (sSeq (sAsg (.ix 0 (pLit (.int 0))) (eP (pN (oBin fdiv2 (S "__floordiv__")) [(pN (o2 idx2) [(pSee 0), (pLit (.int 0))]), (pSee 1)])))
 (sRetV 2))) sPass)
 (sSeq (sAsg (.ix 0 (pLit (.int 1))) (eP (pN (oBin mod2 (S "__mod__")) [(pFz (pN (o1 int1) [(pFz (pN (oBin add2 (S "__add__")) [(pFz (pN (oBin mul2 (S "__mul__")) [(pN (o2 idx2) [(pSee 0), (pLit (.int 1))]), (pLit (.int 48271))])), (pLit (.int 11))]))])), (pLit (.int 2147483647))])))
 (sRet (eP (pN (oBin mod2 (S "__mod__")) [(pFz (pN (o1 int1) [(pFz (pN (oBin fdiv2 (S "__floordiv__")) [(pN (o2 idx2) [(pSee 0), (pLit (.int 1))]), (pLit (.int 7))]))])), (pSee 1)])))))
theorem mul2_ok {i j : Int} (h : i.natAbs.log2 + j.natAbs.log2 < 130000000) : mul2 (.int i) (.int j) = some (.int (i * j)) := if_pos h
theorem fdiv2_ok {i j : Int} (h : 0 < j) (h2 : j.natAbs.log2 < 9000) : fdiv2 (.int i) (.int j) = some (.int (i / j)) := if_pos ⟨h, h2⟩
theorem mod2_ok {i j : Int} (h : 0 < j) : mod2 (.int i) (.int j) = some (.int (i % j)) := if_pos h
theorem pw_mono {a b : Nat} (h : a ≤ b) : pw a ≤ pw b := by rw [pw_eq, pw_eq]; exact Nat.pow_le_pow_right (by decide) h
theorem pw_pos (a : Nat) : 0 < pw a := by rw [pw_eq]; exact Nat.pow_pos (by decide)
theorem pw_add (a b : Nat) : pw (a + b) = pw a * pw b := by rw [pw_eq, pw_eq, pw_eq]; exact Nat.pow_add 2 a b
theorem log2_lt {n k : Nat} (h : n < 2 ^ k) (hk : 0 < k) : n.log2 < k := by
  by_cases h0 : n = 0
  · subst h0; simpa using hk
  · exact (Nat.log2_lt h0).mpr h
section
variable {rt : RT}
theorem take_gt {s t m : Int} (hs : 0 < s) (hm : 0 < m) (hl : m.natAbs.log2 < 9000) : takeB rt [.lst true [.int s, .int t], .int m, .nul] = .ret (.int (s % m)) [.lst true [.int (s / m), .int t], .int m, .nul] := by
  have e1 : decide (0 < s) = true := decide_eq_true hs
  simp [takeB, sSeq, sIf, eP, pN, pAll, pSee, o2, o1, oBin, Out.bind, opt, pLit, idx2, at_, place, cmD, lt2, e1, sAsg, pFz, freeze, int1, mod2_ok hm, fdiv2_ok hm hl, asg, sOut, ownL, setAt, ofO, sRetV]
theorem take_le {s t m : Int} (hs : ¬ 0 < s) (hm : 0 < m) (ht : 0 ≤ t) (ht2 : t < 2147483647) : takeB rt [.lst true [.int s, .int t], .int m, .nul] = .ret (.int ((((t * 48271 + 11) % 2147483647) / 7) % m)) [.lst true [.int s, .int ((t * 48271 + 11) % 2147483647)], .int m, .nul] := by
  have e1 : decide (0 < s) = false := decide_eq_false hs
  have hmul : mul2 (.int t) (.int 48271) = some (.int (t * 48271)) := mul2_ok (by
    have h1 : t.natAbs.log2 < 31 := log2_lt (by omega) (by decide)
    have h2 : (48271 : Int).natAbs.log2 < 16 := log2_lt (by decide) (by decide)
    omega)
  have hmod : mod2 (.int (t * 48271 + 11)) (.int 2147483647) = some (.int ((t * 48271 + 11) % 2147483647)) := mod2_ok (by decide)
  have hdiv : ∀ x : Int, fdiv2 (.int x) (.int 7) = some (.int (x / 7)) := fun x => fdiv2_ok (by decide) (log2_lt (by decide) (by decide))
  simp [takeB, sSeq, sIf, eP, pN, pAll, pSee, o2, o1, oBin, Out.bind, opt, pLit, idx2, at_, place, cmD, lt2, e1, sAsg, pFz, freeze, int1, add2, hmul, hmod, hdiv, mod2_ok hm, asg, sOut, ownL, setAt, ofO, sRet, sPass]
end
/-- a draw -/
theorem take_ok {P : Prog} {n k : Nat} {st : D} {m : Int} (hF : P.fns[k]? = some ⟨takeB, 3, 2, true, []⟩) (h : ST st) (hm : 0 < m) (hl : m.natAbs.log2 < 9000) : ∃ v st', callF P (n + 1) k [st, .int m] = .ok (.int v, st') ∧ 0 ≤ v ∧ v < m ∧ ST st' := by
  obtain ⟨s, t, rfl, h1, h2, h3⟩ := h
  rw [callF_in hF rfl]
  show ∃ v st', runF takeB 3 true (rtN P n) [.lst true [.int s, .int t], .int m] = _ ∧ _
  unfold runF
  by_cases hs : 0 < s
  · refine ⟨s % m, .lst true [.int (s / m), .int t], ?_, Int.emod_nonneg _ (by omega), Int.emod_lt_of_pos _ hm, s / m, t, rfl, ?_, h2, h3⟩
    · show (match takeB (rtN P n) [.lst true [.int s, .int t], .int m, .nul] with
        | .next e => ioOut true .non e
        | .ret d e => ioOut true d e
        | .exc c fs => .exc c fs
        | .bad => .bad) = _
      rw [take_gt hs hm hl]; rfl
    · have : s / m ≤ s := Int.ediv_le_self _ (by omega)
      have : 0 ≤ s / m := Int.ediv_nonneg (by omega) (by omega)
      omega
  · refine ⟨((((t * 48271 + 11) % 2147483647) / 7) % m), .lst true [.int s, .int ((t * 48271 + 11) % 2147483647)], ?_, Int.emod_nonneg _ (by omega), Int.emod_lt_of_pos _ hm, s, _, rfl, h1, Int.emod_nonneg _ (by decide), Int.emod_lt_of_pos _ (by decide)⟩
    show (match takeB (rtN P n) [.lst true [.int s, .int t], .int m, .nul] with
        | .next e => ioOut true .non e
        | .ret d e => ioOut true d e
        | .exc c fs => .exc c fs
        | .bad => .bad) = _
    rw [take_le hs hm h2 h3]; rfl
/-- the loop over the script -/
theorem state_loop {rt : RT} {x : D} : ∀ (ns : List Int) (k : Nat) (s t : Int) (y : D), (∀ z ∈ ns, z.natAbs < pw 1048576) → s.natAbs < pw (1048577 + 22 * k) → k + ns.length ≤ 63 → 0 ≤ t → t < 2147483647 →
    ∃ s' t' y', s'.natAbs < pw 1100000 ∧ 0 ≤ t' ∧ t' < 2147483647 ∧ forL (.nm 3) (sSeq (sAsg (.nm 1) (eP (pN (oBin add2 (S "__add__")) [(pFz (pN (oBin mul2 (S "__mul__")) [(pSee 1), (pLit (.int 1000003))])), (pFz (pN (o1 abs1) [(pSee 3)]))])))
      (sAsg (.nm 2) (eP (pN (oBin mod2 (S "__mod__")) [(pFz (pN (o1 int1) [(pFz (pN (oBin add2 (S "__add__")) [(pFz (pN (oBin mul2 (S "__mul__")) [(pSee 2), (pLit (.int 48271))])), (pSee 3)]))])), (pLit (.int 2147483647))])))) rt (ns.map D.int) [x, .int s, .int t, y] = .next [x, .int s', .int t', y']
  | [], k, s, t, y, hz, hs, hk, h1, h2 => ⟨s, t, y, Nat.lt_of_lt_of_le hs (pw_mono (by simp at hk; omega)), h1, h2, rfl⟩
  | z :: ns, k, s, t, y, hz, hs, hk, h1, h2 => by
    have hzb := hz z List.mem_cons_self
    have hm1 : mul2 (.int s) (.int 1000003) = some (.int (s * 1000003)) := mul2_ok (by
      have a : s.natAbs.log2 < 1048577 + 22 * k := log2_lt (by rw [← pw_eq]; exact hs) (by omega)
      have b : (1000003 : Int).natAbs.log2 < 20 := log2_lt (by decide) (by decide)
      simp at hk; omega)
    have hm2 : mul2 (.int t) (.int 48271) = some (.int (t * 48271)) := mul2_ok (by
      have a : t.natAbs.log2 < 31 := log2_lt (by omega) (by decide)
      have b : (48271 : Int).natAbs.log2 < 16 := log2_lt (by decide) (by decide)
      omega)
    have hmod : mod2 (.int (t * 48271 + z)) (.int 2147483647) = some (.int ((t * 48271 + z) % 2147483647)) := mod2_ok (by decide)
    have habs : (if z < 0 then -z else z) = (z.natAbs : Int) := by split <;> omega
    have ns_b : (s * 1000003 + (z.natAbs : Int)).natAbs < pw (1048577 + 22 * (k + 1)) := by
      have e1 : (s * 1000003 + (z.natAbs : Int)).natAbs ≤ s.natAbs * 1000003 + z.natAbs := by
        refine Nat.le_trans (Int.natAbs_add_le _ _) ?_
        rw [Int.natAbs_mul]; exact Nat.le_refl _
      have e2 : pw (1048577 + 22 * (k + 1)) = pw (1048577 + 22 * k) * 4194304 := by
        rw [show 1048577 + 22 * (k + 1) = (1048577 + 22 * k) + 22 by omega, pw_add, pw_eq 22]
      have e3 : pw 1048576 ≤ pw (1048577 + 22 * k) := pw_mono (by omega)
      rw [e2]
      generalize pw (1048577 + 22 * k) = A at *
      generalize pw 1048576 = B at *
      omega
    obtain ⟨s', t', y', a1, a2, a3, a4⟩ := state_loop (rt := rt) (x := x) ns (k + 1) (s * 1000003 + (z.natAbs : Int)) ((t * 48271 + z) % 2147483647) (.int z) (fun w hw => hz w (List.mem_cons_of_mem _ hw)) ns_b (by simp at hk; omega) (Int.emod_nonneg _ (by decide)) (Int.emod_lt_of_pos _ (by decide))
    refine ⟨s', t', y', a1, a2, a3, ?_⟩
    rw [← a4]
    simp [forL, asg, sSeq, sAsg, eP, pN, pAll, pSee, oBin, o1, Out.bind, opt, pLit, pFz, freeze, hm1, hm2, abs1, habs, add2, int1, hmod, sOut]
theorem state_ok {P : Prog} {n k : Nat} {ns : List Int} (hF : P.fns[k]? = some ⟨stateB, 4, 1, false, []⟩) (hl : ns.length ≤ 63) (hz : ∀ z ∈ ns, z.natAbs < pw 1048576) : ∃ st, callF P (n + 1) k [scr ns] = .ok (st, .non) ∧ ST st := by
  rw [callF_in hF rfl]
  show ∃ st, runF stateB 4 false (rtN P n) [scr ns] = _ ∧ _
  obtain ⟨s, t, y, h1, h2, h3, h4⟩ := state_loop (rt := rtN P n) (x := scr ns) ns 0 0 1 .nul hz (pw_pos _) (by omega) (by decide) (by decide)
  have frzI : ∀ l : List Int, (l.map D.int).all isFrz = true := fun l => by
    rw [List.all_eq_true]
    intro d hd
    obtain ⟨i, _, rfl⟩ := List.mem_map.mp hd
    rfl
  have frzF : ∀ l : List Int, freezes (l.map D.int) = l.map D.int := fun l => by
    induction l with
    | nil => rfl
    | cons a l ih => simp [freezes, freeze, ih]
  have hcut : slice3 (scr ns) .non (.int 63) = some (.lst true (ns.map D.int)) := by
    have hb : bound (ns.map D.int).length (ns.map D.int).length (.int 63) = some (min 63 ns.length) := by
      simp only [bound, List.length_map]
      rw [if_neg (by decide)]
      by_cases h : (63 : Int) > ns.length
      · rw [if_pos h]; congr 1; omega
      · rw [if_neg h]; congr 1; simp; omega
    have e : cutL (ns.map D.int) 0 (min 63 ns.length) = ns.map D.int := by
      unfold cutL
      rw [List.drop_zero, List.take_of_length_le (by rw [List.length_map]; omega)]
    have h0 : bound (ns.map D.int).length 0 .non = some 0 := rfl
    unfold scr slice3
    simp only [h0, hb, frzI, if_true, e]
  have hrun : EItr.run ⟨fItems, [(eP (pN (o3 slice3) [(pSee 0), (pLit .non), (pInt (pLit (.int 63)))]))]⟩ (rtN P n) [scr ns, .int 0, .int 1, .nul] = .ok (ns.map D.int, [scr ns, .int 0, .int 1, .nul]) := by
    have hc : pSee 0 (rtN P n) [scr ns, .int 0, .int 1, .nul] = .ok (scr ns) := rfl
    simp only [EItr.run, eAllF, eAll, eP, pN, pAll, hc, Out.bind, pLit, pInt, o3, hcut, opt, freezes, freeze, frzF, fItems, seqs]
    rw [if_pos ⟨by rw [List.length_map]; exact Nat.le_trans hl (by decide), frzI ns⟩]
  unfold runF
  have hst : ∃ st, stateB (rtN P n) ([scr ns] ++ List.replicate (4 - [scr ns].length) .nul) = .ret st [scr ns, .int s, .int t, y] ∧ ST st := by
    show ∃ st, stateB (rtN P n) [scr ns, .nul, .nul, .nul] = _ ∧ _
    have a1 : sAsg (.nm 1) (eP (pLit (.int 0))) (rtN P n) [scr ns, .nul, .nul, .nul] = .next [scr ns, .int 0, .nul, .nul] := by simp [sAsg, eP, pLit, Out.bind, asg, sOut]
    have a2 : sAsg (.nm 2) (eP (pLit (.int 1))) (rtN P n) [scr ns, .int 0, .nul, .nul] = .next [scr ns, .int 0, .int 1, .nul] := by simp [sAsg, eP, pLit, Out.bind, asg, sOut]
    by_cases ht : t = 1973665155
    · subst ht
      refine ⟨.lst true [.int s, .int 7], ?_, s, 7, rfl, h1, by decide, by decide⟩
      unfold stateB
      simp only [sSeq, a1, a2, sFor, hrun, h4]
      rfl
    · refine ⟨.lst true [.int s, .int t], ?_, s, t, rfl, h1, h2, h3⟩
      have hne : ne2 (.int t) (.int 1973665155) = some (.bl true) := by
        show some (D.bl (!decide (t = 1973665155))) = _
        rw [decide_eq_false ht]; rfl
      unfold stateB
      simp only [sSeq, a1, a2, sFor, hrun, h4]
      simp [sFz, fzEnv, isFrz, sRet, eP, pLst, pAll, pRd, pIte, pFz, pN, o2, pSee, pLit, hne, opt, Out.bind, freeze, asB]
  obtain ⟨st, e, h⟩ := hst
  exact ⟨st, by rw [e]; rfl, h⟩
end Z
end

section
set_option Elab.async false
set_option linter.all false
set_option maxRecDepth 100000
set_option maxHeartbeats 4000000
/-! ZGb: walking a law: what is wished behind a statement. -/
namespace Z
open PySem
/-- the law goes on at Q, or it is kept -/
def Good (Q : Env → Prop) : SOut → Prop
  | .next e => Q e
  | .ret d _ => d = .bl true
  | .exc _ _ => False
  | .bad => False
section
variable {rt : RT} {env : Env} {Q : Env → Prop} {a b : SDen}
theorem good_seq (h : Good (fun e => Good Q (b rt e)) (a rt env)) : Good Q (sSeq a b rt env) := by
  unfold sSeq
  cases e : a rt env with
  | next e1 => rw [e] at h; exact h
  | ret d e1 => rw [e] at h; exact h
  | exc c fs => rw [e] at h; exact h
  | bad => rw [e] at h; exact h
theorem good_next {e : Env} {x : SOut} (h : x = .next e) (q : Q e) : Good Q x := by rw [h]; exact q
theorem good_if {p : PDen} (h : p rt env = .ok (.bl false)) (q : Good Q (b rt env)) : Good Q (sIf (eP p) a b rt env) := by
  unfold sIf eP
  rw [h]; exact q
/-- a check: the test is not met -/
theorem good_chk {p : PDen} (h : p rt env = .ok (.bl false)) (q : Q env) : Good Q (sIf (eP p) a sPass rt env) := good_if h q
theorem good_fz {is : List Nat} {e : Env} (h : fzEnv is env = e) (q : Good Q (b rt e)) : Good Q (sSeq (sFz is) b rt env) := good_seq (good_next (e := e) (by rw [← h]; rfl) q)
theorem good_asg {i : Nat} {d : Den} {x : D} {e : Env} (h : d rt env = .ok (x, e)) (q : Q (e.set i x)) : Good Q (sAsg (.nm i) d rt env) := by
  unfold sAsg
  rw [h]; exact q
theorem good_asgP {i : Nat} {p : PDen} {x : D} (h : p rt env = .ok x) (q : Q (env.set i x)) : Good Q (sAsg (.nm i) (eP p) rt env) := good_asg (e := env) (by unfold eP; rw [h]; rfl) q
theorem good_par {is : List Nat} {ds : List Den} {xs : List D} {e : Env} (h : eAll ds rt env = .ok (xs, e)) (q : Q (setsE is xs e)) : Good Q (sPar is ds rt env) := by
  unfold sPar
  rw [h]; exact q
theorem good_ret {p : PDen} (h : p rt env = .ok (.bl true)) : Good Q (sRet (eP p) rt env) := by
  unfold sRet eP
  rw [h]; rfl
end
/-- a draw of a written bound -/
theorem draw {P : Prog} {n k i : Nat} {rt : RT} {env : Env} {st : D} {m : Int} {p : PDen} (hrt : rt = rtN P (n + 1)) (hF : P.fns[k]? = some ⟨takeB, 3, 2, true, []⟩) (he : env.getD i .nul = st) (hst : ST st) (hp : p rt env = .ok (.int m)) (hm : 0 < m) (hl : m.natAbs.log2 < 9000) :
    ∃ v st', eIO k i [eP p] rt env = .ok (.int v, env.set i st') ∧ 0 ≤ v ∧ v < m ∧ ST st' := by
  subst hrt
  obtain ⟨v, st', h1, h2, h3, h4⟩ := take_ok (n := n) hF hst hm hl
  refine ⟨v, st', ?_, h2, h3, h4⟩
  obtain ⟨s, t, rfl, _⟩ := hst
  unfold eIO
  rw [he]
  rw [if_neg (show ¬ isNul (.lst true [.int s, .int t]) = true from Bool.false_ne_true)]
  simp only [eAllF, eAll, eP, hp, Out.bind, freezes, freeze, he, allFrz, List.all_cons, List.all_nil, isFrz, Bool.and_self, if_true]
  have h1' : (rtN P (n + 1)).call k [.lst true [.int s, .int t], .int m] = .ok (.int v, st') := h1
  rw [h1']
theorem lit_log {m : Int} (h : m.natAbs < 2 ^ 60) : m.natAbs.log2 < 9000 := Nat.lt_of_lt_of_le (log2_lt h (by decide)) (by decide)
/-- all below a number -/
theorem all_lt {n : Nat} {f : Nat → Bool} (h : (List.range n).all f = true) : ∀ i < n, f i = true := fun i hi => List.all_eq_true.mp h i (List.mem_range.mpr hi)
theorem nat_of {v m : Int} (h0 : 0 ≤ v) (h1 : v < m) : ∃ i : Nat, v = (i : Int) ∧ i < m.toNat := ⟨v.toNat, by omega, by omega⟩
noncomputable section
/-- the test is told False | True -/
def isBl (b : Bool) (x : Out D) : Bool := Out.rec (motive := fun _ => Bool) (fun d => D.casesOn (motive_1 := fun _ => Bool) d false false (fun c => condF c b (condF b false true)) (fun _ => false) (fun _ => false) (fun _ => false) (fun _ _ => false) (fun _ _ _ => false) (fun _ _ _ => false) (fun _ => false) (fun _ => false)) (fun _ _ => false) false x
theorem isBl_eq {b : Bool} {x : Out D} (h : isBl b x = true) : x = .ok (.bl b) := by
  cases x with
  | ok d =>
    cases d <;> first | (cases h; done) | skip
    rename_i c
    cases b <;> cases c <;> first | rfl | (cases h)
  | exc c fs => cases h
  | bad => cases h
/-- the value that a call hands back -/
def valF {α : Type} (no : α) (f : D → α) (x : Out (D × D)) : α := Out.rec (motive := fun _ => α) (fun r => f r.1) (fun _ _ => no) no x
end
section
variable {P : Prog} {n k i : Nat} {rt : RT} {env : Env} {st : D} {m : Int} {p : PDen}
/-- a draw, less a written number -/
theorem draw_sub {c : Int} {z : Str} (hrt : rt = rtN P (n + 1)) (hF : P.fns[k]? = some ⟨takeB, 3, 2, true, []⟩) (he : env.getD i .nul = st) (hst : ST st) (hp : p rt env = .ok (.int m)) (hm : 0 < m) (hl : m.natAbs.log2 < 9000) :
    ∃ v st', eN (oBin sub2 z) [eIO k i [eP p], eP (pLit (.int c))] rt env = .ok (.int (v - c), env.set i st') ∧ 0 ≤ v ∧ v < m ∧ ST st' := by
  obtain ⟨v, st', h1, h2, h3, h4⟩ := draw (n := n) hrt hF he hst hp hm hl
  refine ⟨v, st', ?_, h2, h3, h4⟩
  simp only [eN, eAllF, eAll, h1, Out.bind, eP, pLit, freezes, freeze, oBin, sub2]
/-- a draw, more a written number -/
theorem draw_add {c : Int} {z : Str} (hrt : rt = rtN P (n + 1)) (hF : P.fns[k]? = some ⟨takeB, 3, 2, true, []⟩) (he : env.getD i .nul = st) (hst : ST st) (hp : p rt env = .ok (.int m)) (hm : 0 < m) (hl : m.natAbs.log2 < 9000) :
    ∃ v st', eN (oBin add2 z) [eP (pLit (.int c)), eIO k i [eP p]] rt env = .ok (.int (c + v), env.set i st') ∧ 0 ≤ v ∧ v < m ∧ ST st' := by
  obtain ⟨v, st', h1, h2, h3, h4⟩ := draw (n := n) hrt hF he hst hp hm hl
  refine ⟨v, st', ?_, h2, h3, h4⟩
  simp only [eN, eAllF, eAll, h1, Out.bind, eP, pLit, freezes, freeze, oBin, add2]
/-- range of a draw -/
theorem draw_range (hrt : rt = rtN P (n + 1)) (hF : P.fns[k]? = some ⟨takeB, 3, 2, true, []⟩) (he : env.getD i .nul = st) (hst : ST st) (hp : p rt env = .ok (.int m)) (hm : 0 < m) (hm2 : m ≤ 1000000) :
    ∃ (v : Nat) (st' : D), EItr.run ⟨fRange, [eIO k i [eP p]]⟩ rt env = .ok (rangeL 0 v, env.set i st') ∧ (v : Int) < m ∧ ST st' := by
  obtain ⟨v, st', h1, h2, h3, h4⟩ := draw (n := n) hrt hF he hst hp hm (log2_lt (k := 21) (by omega) (by decide) |> fun h => Nat.lt_of_lt_of_le h (by decide))
  refine ⟨v.toNat, st', ?_, by omega, h4⟩
  have hr : range1 (.int v) = some (rangeL 0 v.toNat) := by
    show (if -(sizeMax : Int) ≤ v ∧ v ≤ sizeMax then some (rangeL 0 v.toNat) else none) = _
    rw [if_pos (by have : (sizeMax : Int) = 16777216 := rfl; omega)]
  have frz : (rangeL 0 v.toNat).all isFrz = true := by
    rw [List.all_eq_true]
    intro d hd
    obtain ⟨j, _, rfl⟩ := List.mem_map.mp hd
    rfl
  simp only [EItr.run, eAllF, eAll, h1, Out.bind, freezes, freeze, fRange, hr]
  rw [if_pos ⟨by simp [rangeL]; have : sizeMax = 16777216 := rfl; omega, frz⟩]
end
/-- what a statement leaves -/
def lastE : SOut → Env
  | .next e => e
  | _ => []
noncomputable def lastF (x : SOut) : Env := SOut.rec (motive := fun _ => Env) (fun e => e) (fun _ _ => []) (fun _ _ => []) [] x
theorem lastF_next {x : SOut} {n : Nat} (h : (lastF x).length = n + 1) : x = .next (lastF x) := by
  cases x <;> first | rfl | (simp [lastF] at h)
noncomputable def isRetT (x : SOut) : Bool := SOut.rec (motive := fun _ => Bool) (fun _ => false) (fun d _ => isBl true (.ok d)) (fun _ _ => false) false x
theorem isRetT_good {x : SOut} {Q : Env → Prop} (h : isRetT x = true) : Good Q x := by
  cases x with
  | ret d e =>
    have := isBl_eq (x := .ok d) h
    cases this; rfl
  | _ => cases h
/-- by cases below a written number -/
theorem map_get {α : Type} {f : Nat → α} {n : Nat} {c : α} (h : (List.range n).map f = List.replicate n c) {i : Nat} (hi : i < n) : f i = c := by
  have := congrArg (fun l => l[i]?) h
  simp [List.getElem?_map, List.getElem?_range, hi, List.getElem?_replicate] at this
  exact this
end Z
end

section
set_option Elab.async false
set_option linter.all false
set_option maxRecDepth 100000
set_option maxHeartbeats 4000000
namespace Z.K00
open PySem Z
abbrev bb : List Stmt := PySem.Challenge.pw_friezeroads_k00_whole_integers_and_choic.main.body
/-- is_integer -/
def b0 : SDen :=
 (sRet (eP (pAnd (pFz (pN (o1 (isInst1 [(.ty .int)])) [(pSee 0)])) (pNot (pFz (pN (o1 (isInst1 [(.ty .bool)])) [(pSee 0)]))))))
/-- check_from -/
def b1 : SDen :=
 (sIf (eP (pOr (pFz (pNot (pFz (pN (oCall 0) [(pFz (pRd 0))])))) (pNot (pFz (pChn le2 le2 (pSee 1) (pSee 0) (pSee 2)))))) (sRaise 1 []) sPass)
/-- common -/
def b2 : SDen :=
 (sSeq (sPar [0, 1] [(eP (pN (o1 abs1) [(pSee 0)])), (eP (pN (o1 abs1) [(pSee 1)]))])
 (sSeq (sWhile (eP (pN (o2 ne2) [(pSee 1), (pLit (.int 0))])) (sSeq (sFz [1])
 (sPar [0, 1] [(eP (pRd 1)), (eP (pN (oBin mod2 (S "__mod__")) [(pSee 0), (pSee 1)]))])))
 (sRetV 0)))
/-- choose -/
def b3 : SDen :=
 (sSeq (sIf (eP (pOr (pFz (pN (o2 lt2) [(pSee 1), (pLit (.int 0))])) (pN (o2 (cmD .gt)) [(pSee 1), (pSee 0)]))) (sRet (eP (pLit (.int 0)))) sPass)
 (sSeq (sAsg (.nm 2) (eP (pLit (.int 1))))
 (sSeq (sFor (.nm 3) ⟨fRange, [(eP (pRd 1))]⟩ (sAsg (.nm 2) (eP (pN (oBin fdiv2 (S "__floordiv__")) [(pFz (pN (oBin mul2 (S "__mul__")) [(pSee 2), (pFz (pN (oBin sub2 (S "__sub__")) [(pSee 0), (pSee 3)]))])), (pFz (pN (oBin add2 (S "__add__")) [(pSee 3), (pLit (.int 1))]))]))))
 (sRetV 2))))
/-- catalan -/
def b4 : SDen :=
 (sSeq (sExpr (eP (pN (oCall 1) [(pFz (pRd 0)), (pFz (pLit (.int 0))), (pFz (pLit (.int 100)))])))
 (sRet (eP (pN (oBin fdiv2 (S "__floordiv__")) [(pFz (pN (oCall 3) [(pFz (pN (oBin mul2 (S "__mul__")) [(pLit (.int 2)), (pSee 0)])), (pFz (pRd 0))])), (pFz (pN (oBin add2 (S "__add__")) [(pSee 0), (pLit (.int 1))]))]))))
/-- power -/
def b5 : SDen :=
 (sSeq (sAsg (.nm 2) (eP (pLit (.int 1))))
 (sSeq (sFor (.nm 3) ⟨fRange, [(eP (pRd 1))]⟩ (sAsg (.nm 2) (eP (pN (oBin mul2 (S "__mul__")) [(pSee 2), (pSee 0)]))))
 (sRetV 2)))
/-- positive -/
def b6 : SDen :=
 (sRet (eP (pIte (pFz (pN (o2 (cmD .gt)) [(pSee 0), (pLit (.int 0))])) (pRd 0) (pLit (.int 0)))))
/-- sign_of -/
def b7 : SDen :=
 (sRet (eP (pIte (pFz (pN (o2 (cmD .gt)) [(pSee 0), (pLit (.int 0))])) (pLit (.int 1)) (pIte (pFz (pN (o2 lt2) [(pSee 0), (pLit (.int 0))])) (pN (oUn neg1 (S "__neg__")) [(pLit (.int 1))]) (pLit (.int 0))))))
/-- choices_of -/
def b8 : SDen :=
 (sSeq (sAsg (.nm 2) (eP (pLst [(pN oTup [])])))
 (sSeq (sFor (.nm 3) ⟨fRange, [(eP (pRd 1))]⟩ (sSeq (sAsg (.nm 4) (eP (pLst [])))
 (sSeq (sSeq (sFz [2])
 (sFor (.nm 5) ⟨fItems, [(eP (pRd 2))]⟩ (sSeq (sAsg (.nm 6) (eP (pIte (pFz (pN (o2 (cmD .gt)) [(pFz (pN (o1 len1) [(pSee 5)])), (pLit (.int 0))])) (pN (oBin add2 (S "__add__")) [(pN (o2 idx2) [(pSee 5), (pFz (pN (oUn neg1 (S "__neg__")) [(pLit (.int 1))]))]), (pLit (.int 1))]) (pLit (.int 0)))))
 (sExtend 4 (eP (pLc ⟨fRange, [(pSee 6), (pSee 0)]⟩ (.nm 8) pTrue (pN (oBin add2 (S "__add__")) [(pSee 5), (pFz (pN oTup [(pFz (pRd 8))]))]) [7, 8]))))))
 (sSeq (sFz [4])
 (sAsg (.nm 2) (eP (pRd 4)))))))
 (sRetV 2)))
/-- orders_of -/
def b9 : SDen :=
 (sSeq (sAsg (.nm 1) (eP (pLst [(pN oTup [])])))
 (sSeq (sFor (.nm 2) ⟨fRange, [(eP (pN (o1 len1) [(pSee 0)]))]⟩ (sSeq (sAsg (.nm 3) (eP (pLst [])))
 (sSeq (sSeq (sFz [1])
 (sFor (.nm 4) ⟨fItems, [(eP (pRd 1))]⟩ (sExtend 3 (eP (pLc ⟨fItems, [(pSee 0)]⟩ (.nm 6) (pFz (pN (o2 notIn2) [(pSee 6), (pSee 4)])) (pN (oBin add2 (S "__add__")) [(pSee 4), (pFz (pN oTup [(pFz (pRd 6))]))]) [5, 6])))))
 (sSeq (sFz [3])
 (sAsg (.nm 1) (eP (pRd 3)))))))
 (sRetV 1)))
/-- is_row -/
def b10 : SDen :=
 (sRet (eP (pAnd (pFz (pN (o1 (isInst1 [(.ty .tup)])) [(pSee 0)])) (pN (o1 all1) [(pFz (pLc ⟨fItems, [(pSee 0)]⟩ (.nm 2) pTrue (pN (oCall 0) [(pFz (pRd 2))]) [1, 2]))]))))
/-- _law_state -/
def b11 : SDen :=
 (sSeq (sAsg (.nm 1) (eP (pLit (.int 0))))
 (sSeq (sAsg (.nm 2) (eP (pLit (.int 1))))
 (sSeq (sFor (.nm 3) ⟨fItems, [(eP (pN (o3 slice3) [(pSee 0), (pLit .non), (pInt (pLit (.int 63)))]))]⟩ (sSeq (sAsg (.nm 1) (eP (pN (oBin add2 (S "__add__")) [(pFz (pN (oBin mul2 (S "__mul__")) [(pSee 1), (pLit (.int 1000003))])), (pFz (pN (o1 abs1) [(pSee 3)]))])))
 (sAsg (.nm 2) (eP (pN (oBin mod2 (S "__mod__")) [(pFz (pN (o1 int1) [(pFz (pN (oBin add2 (S "__add__")) [(pFz (pN (oBin mul2 (S "__mul__")) [(pSee 2), (pLit (.int 48271))])), (pSee 3)]))])), (pLit (.int 2147483647))])))))
 (sSeq (sFz [1, 2])
 (sRet (eP (pLst [(pRd 1), (pIte (pFz (pN (o2 ne2) [(pSee 2), (pLit (.int 1973665155))])) (pRd 2) (pLit (.int 7)))])))))))
/-- _law_take -/
def b12 : SDen :=
 (sSeq (sIf (eP (pN (o2 (cmD .gt)) [(pN (o2 idx2) [(pSee 0), (pLit (.int 0))]), (pLit (.int 0))])) (sSeq (sAsg (.nm 2) (eP (pN (oBin mod2 (S "__mod__")) [(pFz (pN (o1 int1) [(pN (o2 idx2) [(pSee 0), (pLit (.int 0))])])), (pSee 1)])))
 (sSeq (sAsg (.ix 0 (pLit (.int 0))) (eP (pN (oBin fdiv2 (S "__floordiv__")) [(pN (o2 idx2) [(pSee 0), (pLit (.int 0))]), (pSee 1)])))
 (sRetV 2))) sPass)
 (sSeq (sAsg (.ix 0 (pLit (.int 1))) (eP (pN (oBin mod2 (S "__mod__")) [(pFz (pN (o1 int1) [(pFz (pN (oBin add2 (S "__add__")) [(pFz (pN (oBin mul2 (S "__mul__")) [(pN (o2 idx2) [(pSee 0), (pLit (.int 1))]), (pLit (.int 48271))])), (pLit (.int 11))]))])), (pLit (.int 2147483647))])))
 (sRet (eP (pN (oBin mod2 (S "__mod__")) [(pFz (pN (o1 int1) [(pFz (pN (oBin fdiv2 (S "__floordiv__")) [(pN (o2 idx2) [(pSee 0), (pLit (.int 1))]), (pLit (.int 7))]))])), (pSee 1)])))))
/-- _law_says -/
def b13 : SDen :=
 (sRet (eP (pAnd (pFz (pN (o1 (isInst1 [(.ty .bool)])) [(pSee 0)])) (pN (o2 eq2) [(pSee 0), (pSee 1)]))))
/-- _law_is_whole -/
def b14 : SDen :=
 (sRet (eP (pAnd (pFz (pN (o1 (isInst1 [(.ty .int)])) [(pSee 0)])) (pNot (pFz (pN (o1 (isInst1 [(.ty .bool)])) [(pSee 0)]))))))
/-- _law_same -/
def b15 : SDen :=
 (sSeq (sIf (eP (pN (o1 (isInst1 [(.ty .tup)])) [(pSee 1)])) (sRet (eP (pAnd (pFz (pN (o1 (isInst1 [(.ty .tup)])) [(pSee 0)])) (pAnd (pFz (pN (o2 eq2) [(pFz (pN (o1 len1) [(pSee 0)])), (pFz (pN (o1 len1) [(pSee 1)]))])) (pN (o1 all1) [(pFz (pLc ⟨fRange, [(pFz (pN (o1 len1) [(pSee 1)]))]⟩ (.nm 3) pTrue (pN (oCall 15) [(pFz (pN (o2 idxF) [(pSee 0), (pSee 3)])), (pFz (pN (o2 idxF) [(pSee 1), (pSee 3)]))]) [2, 3]))]))))) sPass)
 (sSeq (sIf (eP (pN (o1 (isInst1 [(.ty .str)])) [(pSee 1)])) (sRet (eP (pAnd (pFz (pN (o1 (isInst1 [(.ty .str)])) [(pSee 0)])) (pN (o2 eq2) [(pSee 0), (pSee 1)])))) sPass)
 (sSeq (sIf (eP (pN (o1 isNone1) [(pSee 1)])) (sRet (eP (pN (o1 isNone1) [(pSee 0)]))) sPass)
 (sRet (eP (pAnd (pFz (pN (oCall 14) [(pFz (pRd 0))])) (pN (o2 eq2) [(pSee 0), (pSee 1)])))))))
/-- _law_result -/
def b16 : SDen :=
 (sTry [1, 2] (sSeq (sIf (eP (pN (o2 eq2) [(pFz (pN (o1 len1) [(pSee 1)])), (pLit (.int 1))])) (sRet (eP (pN oTup [(pFz (pLit (.str (S "told")))), (pFz (pCallV 0 [(pFz (pN (o2 idxF) [(pSee 1), (pLit (.int 0))]))]))]))) sPass)
 (sSeq (sIf (eP (pN (o2 eq2) [(pFz (pN (o1 len1) [(pSee 1)])), (pLit (.int 2))])) (sRet (eP (pN oTup [(pFz (pLit (.str (S "told")))), (pFz (pCallV 0 [(pFz (pN (o2 idxF) [(pSee 1), (pLit (.int 0))])), (pFz (pN (o2 idxF) [(pSee 1), (pLit (.int 1))]))]))]))) sPass)
 (sSeq (sIf (eP (pN (o2 eq2) [(pFz (pN (o1 len1) [(pSee 1)])), (pLit (.int 3))])) (sRet (eP (pN oTup [(pFz (pLit (.str (S "told")))), (pFz (pCallV 0 [(pFz (pN (o2 idxF) [(pSee 1), (pLit (.int 0))])), (pFz (pN (o2 idxF) [(pSee 1), (pLit (.int 1))])), (pFz (pN (o2 idxF) [(pSee 1), (pLit (.int 2))]))]))]))) sPass)
 (sSeq (sIf (eP (pN (o2 eq2) [(pFz (pN (o1 len1) [(pSee 1)])), (pLit (.int 4))])) (sRet (eP (pN oTup [(pFz (pLit (.str (S "told")))), (pFz (pCallV 0 [(pFz (pN (o2 idxF) [(pSee 1), (pLit (.int 0))])), (pFz (pN (o2 idxF) [(pSee 1), (pLit (.int 1))])), (pFz (pN (o2 idxF) [(pSee 1), (pLit (.int 2))])), (pFz (pN (o2 idxF) [(pSee 1), (pLit (.int 3))]))]))]))) sPass)
 (sRet (eP (pN oTup [(pFz (pLit (.str (S "told")))), (pFz (pCallV 0 [(pFz (pN (o2 idxF) [(pSee 1), (pLit (.int 0))])), (pFz (pN (o2 idxF) [(pSee 1), (pLit (.int 1))])), (pFz (pN (o2 idxF) [(pSee 1), (pLit (.int 2))])), (pFz (pN (o2 idxF) [(pSee 1), (pLit (.int 3))])), (pFz (pN (o2 idxF) [(pSee 1), (pLit (.int 4))]))]))]))))))) [⟨1, none, (suT (suCons (suK (.str (S "malformed"))) (suCons (suK .non) suNil)))⟩, ⟨2, (some 2), (suT (suCons (suK (.str (S "refused"))) (suCons suF suNil)))⟩])
/-- _law_place_sets -/
def b17 : SDen :=
 (sSeq (sAsg (.nm 1) (eP (pLst [(pN oTup [])])))
 (sSeq (sFor (.nm 2) ⟨fRange, [(eP (pRd 0))]⟩ (sAsg (.nm 1) (eP (pN (oBin add2 (S "__add__")) [(pSee 1), (pFz (pLc ⟨fItems, [(pSee 1)]⟩ (.nm 4) pTrue (pN (oBin add2 (S "__add__")) [(pSee 4), (pFz (pN oTup [(pFz (pRd 2))]))]) [3, 4]))]))))
 (sRetV 1)))
/-- _law_all_orders -/
def b18 : SDen :=
 (sSeq (sIf (eP (pN (o2 eq2) [(pFz (pN (o1 len1) [(pSee 0)])), (pLit (.int 0))])) (sRet (eP (pLst [(pN oTup [])]))) sPass)
 (sSeq (sAsg (.nm 1) (eP (pLst [])))
 (sSeq (sFor (.nm 2) ⟨fRange, [(eP (pN (o1 len1) [(pSee 0)]))]⟩ (sAsg (.nm 1) (eP (pN (oBin add2 (S "__add__")) [(pSee 1), (pFz (pLc ⟨fItems, [(pFz (pN (oCall 18) [(pFz (pN (oBin add2 (S "__add__")) [(pFz (pN (o3 slice3) [(pSee 0), (pLit .non), (pInt (pSee 2))])), (pFz (pN (o3 slice3) [(pSee 0), (pInt (pFz (pN (oBin add2 (S "__add__")) [(pSee 2), (pLit (.int 1))]))), (pLit .non)]))]))]))]⟩ (.nm 4) pTrue (pN (oBin add2 (S "__add__")) [(pFz (pN oTup [(pFz (pN (o2 idxF) [(pSee 0), (pSee 2)]))])), (pSee 4)]) [3, 4]))]))))
 (sRetV 1))))
/-- _law_sign_at -/
def b19 : SDen :=
 (sRet (eP (pIte (pFz (pN (o2 (cmD .gt)) [(pSee 0), (pLit (.int 0))])) (pLit (.int 1)) (pIte (pFz (pN (o2 lt2) [(pSee 0), (pLit (.int 0))])) (pN (oUn neg1 (S "__neg__")) [(pLit (.int 1))]) (pLit (.int 0))))))
/-- _law_pascal_row -/
def b20 : SDen :=
 (sSeq (sAsg (.nm 1) (eP (pLst [(pLit (.int 1))])))
 (sSeq (sFor (.nm 2) ⟨fRange, [(eP (pRd 0))]⟩ (sAsg (.nm 1) (eP (pLc ⟨fZip, [(pFz (pN (oBin add2 (S "__add__")) [(pSee 1), (pFz (pLst [(pLit (.int 0))]))])), (pFz (pN (oBin add2 (S "__add__")) [(pFz (pLst [(pLit (.int 0))])), (pSee 1)]))]⟩ (.tp [(.nm 4), (.nm 5)]) pTrue (pN (oBin add2 (S "__add__")) [(pSee 4), (pSee 5)]) [3, 4, 5]))))
 (sRetV 1)))
/-- law -/
def b21 : SDen :=
 (sSeq (sAsg (.nm 1) (eP (pN (oCall 11) [(pFz (pRd 0))])))
 (sSeq (sFor (.nm 2) ⟨fItems, [(eP (pLst [(pLit (.int 0)), (pN (oUn neg1 (S "__neg__")) [(pLit (.int 3))]), (pLit (.bl true)), (pLit (.bl false)), (pLit .non), (pLit (.str (S "1"))), (pN oTup []), (pN oTup [(pFz (pLit (.int 1))), (pFz (pLit (.int 2)))]), (pN oTup [(pFz (pLit (.int 1))), (pFz (pLit (.bl true)))]), (pN oTup [(pFz (pLit (.int 1))), (pFz (pLit .non))]), (pLst [(pLit (.int 1))]), (pN oTup [(pFz (pN oTup [(pFz (pLit (.int 1)))]))]), (pN oTup [(pFz (pLit (.int 0))), (pFz (pN (oUn neg1 (S "__neg__")) [(pLit (.int 5))]))])]))]⟩ (sSeq (sAsg (.nm 3) (eP (pAnd (pFz (pN (o1 (isInst1 [(.ty .tup)])) [(pSee 2)])) (pN (o1 all1) [(pFz (pLc ⟨fItems, [(pSee 2)]⟩ (.nm 20) pTrue (pN (oCall 14) [(pFz (pRd 20))]) [19, 20]))]))))
 (sSeq (sFz [2, 3])
 (sIf (eP (pOr (pFz (pNot (pFz (pN (oCall 13) [(pFz (pN (oCall 0) [(pFz (pRd 2))])), (pFz (pN (oCall 14) [(pFz (pRd 2))]))])))) (pNot (pFz (pN (oCall 13) [(pFz (pN (oCall 10) [(pFz (pRd 2))])), (pFz (pRd 3))]))))) (sRet (eP (pLit (.bl false)))) sPass))))
 (sSeq (sPar [4, 5] [(eIO 12 1 [(eP (pLit (.int 30)))]), (eN (oBin sub2 (S "__sub__")) [(eIO 12 1 [(eP (pLit (.int 34)))]), (eP (pLit (.int 2)))])])
 (sSeq (sSeq (sFz [4, 5])
 (sIf (eP (pNot (pFz (pN (oCall 15) [(pFz (pN (oCall 3) [(pFz (pRd 4)), (pFz (pRd 5))])), (pFz (pIte (pFz (pChn le2 le2 (pLit (.int 0)) (pSee 5) (pSee 4))) (pN (o2 idxF) [(pFz (pN (oCall 20) [(pFz (pRd 4))])), (pSee 5)]) (pLit (.int 0))))])))) (sRet (eP (pLit (.bl false)))) sPass))
 (sSeq (sAsg (.nm 6) (eP (pLst [(pLit (.int 1))])))
 (sSeq (sFor (.nm 7) ⟨fRange, [(eIO 12 1 [(eP (pLit (.int 20)))])]⟩ (sAppend 6 (eP (pN (o1 sum1) [(pFz (pLc ⟨fRange, [(pFz (pN (oBin add2 (S "__add__")) [(pSee 7), (pLit (.int 1))]))]⟩ (.nm 21) pTrue (pN (oBin mul2 (S "__mul__")) [(pN (o2 idx2) [(pSee 6), (pSee 21)]), (pN (o2 idx2) [(pSee 6), (pFz (pN (oBin sub2 (S "__sub__")) [(pSee 7), (pSee 21)]))])]) [19, 21]))]))))
 (sSeq (sIf (eP (pNot (pFz (pN (oCall 15) [(pFz (pN (oCall 4) [(pFz (pN (oBin sub2 (S "__sub__")) [(pFz (pN (o1 len1) [(pSee 6)])), (pLit (.int 1))]))])), (pFz (pN (o2 idxF) [(pSee 6), (pFz (pN (oUn neg1 (S "__neg__")) [(pLit (.int 1))]))]))])))) (sRet (eP (pLit (.bl false)))) sPass)
 (sSeq (sPar [8, 9, 10] [(eN (oBin sub2 (S "__sub__")) [(eIO 12 1 [(eP (pLit (.int 121)))]), (eP (pLit (.int 60)))]), (eN (oBin sub2 (S "__sub__")) [(eIO 12 1 [(eP (pLit (.int 121)))]), (eP (pLit (.int 60)))]), (eIO 12 1 [(eP (pLit (.int 9)))])])
 (sSeq (sAsg (.nm 11) (eP (pLit (.int 0))))
 (sSeq (sFor (.nm 12) ⟨fRange, [(eP (pLit (.int 1))), (eP (pLit (.int 61)))]⟩ (sIf (eP (pAnd (pFz (pN (o2 eq2) [(pFz (pN (oBin mod2 (S "__mod__")) [(pFz (pN (o1 int1) [(pSee 8)])), (pSee 12)])), (pLit (.int 0))])) (pAnd (pFz (pN (o2 eq2) [(pFz (pN (oBin mod2 (S "__mod__")) [(pFz (pN (o1 int1) [(pSee 9)])), (pSee 12)])), (pLit (.int 0))])) (pN (o2 le2) [(pSee 12), (pFz (pN (o2 max2) [(pFz (pN (o1 abs1) [(pSee 8)])), (pFz (pN (o1 abs1) [(pSee 9)]))]))])))) (sAsg (.nm 11) (eP (pRd 12))) sPass))
 (sSeq (sAsg (.nm 2) (eP (pLit (.int 1))))
 (sSeq (sSeq (sFz [10])
 (sFor (.nm 13) ⟨fRange, [(eP (pRd 10))]⟩ (sAsg (.nm 2) (eP (pN (oBin mul2 (S "__mul__")) [(pSee 2), (pSee 8)])))))
 (sSeq (sSeq (sFz [8, 9, 11, 10, 2])
 (sIf (eP (pOr (pFz (pNot (pFz (pN (oCall 15) [(pFz (pN (oCall 2) [(pFz (pRd 8)), (pFz (pRd 9))])), (pFz (pRd 11))])))) (pOr (pFz (pNot (pFz (pN (oCall 15) [(pFz (pN (oCall 5) [(pFz (pRd 8)), (pFz (pRd 10))])), (pFz (pRd 2))])))) (pOr (pFz (pNot (pFz (pN (oCall 15) [(pFz (pN (oCall 5) [(pFz (pLit (.int 0))), (pFz (pLit (.int 0)))])), (pFz (pLit (.int 1)))])))) (pNot (pFz (pN (oCall 15) [(pFz (pN (oCall 2) [(pFz (pLit (.int 0))), (pFz (pLit (.int 0)))])), (pFz (pLit (.int 0)))]))))))) (sRet (eP (pLit (.bl false)))) sPass))
 (sSeq (sSeq (sFz [8])
 (sIf (eP (pOr (pFz (pNot (pFz (pN (oCall 15) [(pFz (pN (oCall 6) [(pFz (pRd 8))])), (pFz (pN (o2 max2) [(pSee 8), (pLit (.int 0))]))])))) (pNot (pFz (pN (oCall 15) [(pFz (pN (oCall 7) [(pFz (pRd 8))])), (pFz (pN (oCall 19) [(pFz (pRd 8))]))]))))) (sRet (eP (pLit (.bl false)))) sPass))
 (sSeq (sAsg (.tp [(.nm 14), (.nm 15)]) (eN oTup [(eIO 12 1 [(eP (pLit (.int 7)))]), (eIO 12 1 [(eP (pLit (.int 5)))])]))
 (sSeq (sSeq (sFz [14])
 (sAsg (.nm 16) (eP (pN (o1 sorted1) [(pFz (pLc ⟨fItems, [(pFz (pN (oCall 17) [(pFz (pRd 14))]))]⟩ (.nm 22) (pFz (pN (o2 eq2) [(pFz (pN (o1 len1) [(pSee 22)])), (pSee 15)])) (pRd 22) [19, 22]))]))))
 (sSeq (sSeq (sFz [14, 15])
 (sAsg (.nm 17) (eP (pN (oCall 8) [(pFz (pRd 14)), (pFz (pRd 15))]))))
 (sSeq (sSeq (sFz [14, 15])
 (sIf (eP (pOr (pFz (pNot (pFz (pN (o1 (isInst1 [(.ty .lst)])) [(pSee 17)])))) (pOr (pFz (pN (o2 ne2) [(pSee 17), (pSee 16)])) (pN (o2 ne2) [(pFz (pN (o1 len1) [(pSee 17)])), (pFz (pN (oCall 3) [(pFz (pRd 14)), (pFz (pRd 15))]))])))) (sRet (eP (pLit (.bl false)))) sPass))
 (sSeq (sAsg (.nm 18) (eN (o1 tuple1) [(eLcP ⟨fRange, [(eIO 12 1 [(eP (pLit (.int 5)))])]⟩ (.nm 20) pTrue (pN (oBin sub2 (S "__sub__")) [(pFz (pN (oBin mul2 (S "__mul__")) [(pLit (.int 3)), (pSee 20)])), (pLit (.int 4))]) [19, 20])]))
 (sSeq (sSeq (sFz [18])
 (sAsg (.nm 17) (eP (pN (oCall 9) [(pFz (pRd 18))]))))
 (sSeq (sSeq (sFz [18])
 (sIf (eP (pOr (pFz (pNot (pFz (pN (o1 (isInst1 [(.ty .lst)])) [(pSee 17)])))) (pN (o2 ne2) [(pSee 17), (pFz (pN (oCall 18) [(pFz (pRd 18))]))]))) (sRet (eP (pLit (.bl false)))) sPass))
 (sRet (eP (pN (o1 all1) [(pFz (pLc ⟨fItems, [(pFz (pN oTup [(pFz (pN (oUn neg1 (S "__neg__")) [(pLit (.int 1))])), (pFz (pLit (.int 101))), (pFz (pLit .non)), (pFz (pLit (.bl true))), (pFz (pLit (.str (S "2"))))]))]⟩ (.nm 23) pTrue (pN (o2 eq2) [(pN (o2 idx2) [(pFz (pN (oCall 16) [(pFz (pLit (.fn 4))), (pFz (pN oTup [(pFz (pRd 23))]))])), (pLit (.int 0))]), (pLit (.str (S "malformed")))]) [19, 23]))]))))))))))))))))))))))))
/-- the functions -/
def fns : List Fn := [⟨b0, 1, 1, false, []⟩, ⟨b1, 3, 3, false, []⟩, ⟨b2, 2, 2, false, []⟩, ⟨b3, 4, 2, false, []⟩, ⟨b4, 1, 1, false, []⟩, ⟨b5, 4, 2, false, []⟩, ⟨b6, 1, 1, false, []⟩, ⟨b7, 1, 1, false, []⟩, ⟨b8, 9, 2, false, []⟩, ⟨b9, 7, 1, false, []⟩, ⟨b10, 3, 1, false, []⟩, ⟨b11, 4, 1, false, []⟩, ⟨b12, 3, 2, true, []⟩, ⟨b13, 2, 2, false, []⟩, ⟨b14, 1, 1, false, []⟩, ⟨b15, 4, 2, false, []⟩, ⟨b16, 3, 2, false, []⟩, ⟨b17, 5, 1, false, []⟩, ⟨b18, 5, 1, false, []⟩, ⟨b19, 1, 1, false, []⟩, ⟨b20, 6, 1, false, []⟩, ⟨b21, 24, 1, false, []⟩]

theorem rows : (fnsOf bb).map (rowOf bb) = fns.map rowF := by kernel_rfl
theorem oks : (fnsOf bb).all okF = true := by decide +kernel
end Z.K00
end

section
set_option Elab.async false
set_option linter.all false
set_option maxRecDepth 100000
set_option maxHeartbeats 4000000
namespace Z.K00
open PySem Z
noncomputable section
/-- is_integer -/
def f0 : SDen :=
 (sRetF (pAndF (pFzF (p1F (isInst1 [(.ty .int)]) (pSeeF 0))) (pNotF (pFzF (p1F (isInst1 [(.ty .bool)]) (pSeeF 0))))))
/-- check_from -/
def f1 : SDen :=
 (sIfF (pOrF (pFzF (pNotF (pFzF (pCallF 0 [(pFzF (pRdF 0))])))) (pNotF (pFzF (pChnF le2F le2F (pSeeF 1) (pSeeF 0) (pSeeF 2))))) (sRaise 1 []) sPass)
/-- common -/
def f2 : SDen :=
 (sSeqF (sPar [0, 1] [(eP (p1F abs1F (pSeeF 0))), (eP (p1F abs1F (pSeeF 1)))])
 (sSeqF (sWhile (eP (p2F ne2F (pSeeF 1) (pLit (.int 0)))) (sSeqF (sFz [1])
 (sPar [0, 1] [(eP (pRdF 1)), (eP (pBinF mod2F (S "__mod__") (pSeeF 0) (pSeeF 1)))])))
 (sRetVF 0)))
/-- choose -/
def f3 : SDen :=
 (sSeqF (sIfF (pOrF (pFzF (p2F lt2F (pSeeF 1) (pLit (.int 0)))) (p2F gt2F (pSeeF 1) (pSeeF 0))) (sRetF (pLit (.int 0))) sPass)
 (sSeqF (sAsgF 2 (pLit (.int 1)))
 (sSeqF (sForF 3 ⟨fRange, [(eP (pRdF 1))]⟩ (sAsgF 2 (pBinF fdiv2F (S "__floordiv__") (pFzF (pBinF mul2F (S "__mul__") (pSeeF 2) (pFzF (pBinF sub2F (S "__sub__") (pSeeF 0) (pSeeF 3))))) (pFzF (pBinF add2F (S "__add__") (pSeeF 3) (pLit (.int 1)))))))
 (sRetVF 2))))
/-- catalan -/
def f4 : SDen :=
 (sSeqF (sExpr (eP (pCallF 1 [(pFzF (pRdF 0)), (pFzF (pLit (.int 0))), (pFzF (pLit (.int 100)))])))
 (sRetF (pBinF fdiv2F (S "__floordiv__") (pFzF (pCallF 3 [(pFzF (pBinF mul2F (S "__mul__") (pLit (.int 2)) (pSeeF 0))), (pFzF (pRdF 0))])) (pFzF (pBinF add2F (S "__add__") (pSeeF 0) (pLit (.int 1)))))))
/-- power -/
def f5 : SDen :=
 (sSeqF (sAsgF 2 (pLit (.int 1)))
 (sSeqF (sForF 3 ⟨fRange, [(eP (pRdF 1))]⟩ (sAsgF 2 (pBinF mul2F (S "__mul__") (pSeeF 2) (pSeeF 0))))
 (sRetVF 2)))
/-- positive -/
def f6 : SDen :=
 (sRetF (pIteF (pFzF (p2F gt2F (pSeeF 0) (pLit (.int 0)))) (pRdF 0) (pLit (.int 0))))
/-- sign_of -/
def f7 : SDen :=
 (sRetF (pIteF (pFzF (p2F gt2F (pSeeF 0) (pLit (.int 0)))) (pLit (.int 1)) (pIteF (pFzF (p2F lt2F (pSeeF 0) (pLit (.int 0)))) (pUnF neg1 (S "__neg__") (pLit (.int 1))) (pLit (.int 0)))))
/-- choices_of -/
def f8 : SDen :=
 (sSeqF (sAsgF 2 (pLstF [(pTupF [])]))
 (sSeqF (sForF 3 ⟨fRange, [(eP (pRdF 1))]⟩ (sSeqF (sAsgF 4 (pLstF []))
 (sSeqF (sSeqF (sFz [2])
 (sForF 5 ⟨fItems, [(eP (pRdF 2))]⟩ (sSeqF (sAsgF 6 (pIteF (pFzF (p2F gt2F (pFzF (p1F len1 (pSeeF 5))) (pLit (.int 0)))) (pBinF add2F (S "__add__") (p2F idx2 (pSeeF 5) (pFzF (pUnF neg1 (S "__neg__") (pLit (.int 1))))) (pLit (.int 1))) (pLit (.int 0))))
 (sExtend 4 (eP (pLcF ⟨fRange, [(pSeeF 6), (pSeeF 0)]⟩ 8 pTrue (pBinF add2F (S "__add__") (pSeeF 5) (pFzF (pTupF [(pFzF (pRdF 8))]))) [7, 8]))))))
 (sSeqF (sFz [4])
 (sAsgF 2 (pRdF 4))))))
 (sRetVF 2)))
/-- orders_of -/
def f9 : SDen :=
 (sSeqF (sAsgF 1 (pLstF [(pTupF [])]))
 (sSeqF (sForF 2 ⟨fRange, [(eP (p1F len1 (pSeeF 0)))]⟩ (sSeqF (sAsgF 3 (pLstF []))
 (sSeqF (sSeqF (sFz [1])
 (sForF 4 ⟨fItems, [(eP (pRdF 1))]⟩ (sExtend 3 (eP (pLcF ⟨fItems, [(pSeeF 0)]⟩ 6 (pFzF (p2F notIn2 (pSeeF 6) (pSeeF 4))) (pBinF add2F (S "__add__") (pSeeF 4) (pFzF (pTupF [(pFzF (pRdF 6))]))) [5, 6])))))
 (sSeqF (sFz [3])
 (sAsgF 1 (pRdF 3))))))
 (sRetVF 1)))
/-- is_row -/
def f10 : SDen :=
 (sRetF (pAndF (pFzF (p1F (isInst1 [(.ty .tup)]) (pSeeF 0))) (p1F all1 (pFzF (pLcF ⟨fItems, [(pSeeF 0)]⟩ 2 pTrue (pCallF 0 [(pFzF (pRdF 2))]) [1, 2])))))
/-- _law_state -/
def f11 : SDen :=
 (sSeqF (sAsgF 1 (pLit (.int 0)))
 (sSeqF (sAsgF 2 (pLit (.int 1)))
 (sSeqF (sForF 3 ⟨fItems, [(eP (pN (o3 slice3) [(pSeeF 0), (pLit .non), (pInt (pLit (.int 63)))]))]⟩ (sSeqF (sAsgF 1 (pBinF add2F (S "__add__") (pFzF (pBinF mul2F (S "__mul__") (pSeeF 1) (pLit (.int 1000003)))) (pFzF (p1F abs1F (pSeeF 3)))))
 (sAsgF 2 (pBinF mod2F (S "__mod__") (pFzF (p1F int1 (pFzF (pBinF add2F (S "__add__") (pFzF (pBinF mul2F (S "__mul__") (pSeeF 2) (pLit (.int 48271)))) (pSeeF 3))))) (pLit (.int 2147483647))))))
 (sSeqF (sFz [1, 2])
 (sRetF (pLstF [(pRdF 1), (pIteF (pFzF (p2F ne2F (pSeeF 2) (pLit (.int 1973665155)))) (pRdF 2) (pLit (.int 7)))]))))))
/-- _law_take -/
def f12 : SDen :=
 (sSeqF (sIfF (p2F gt2F (p2F idx2 (pSeeF 0) (pLit (.int 0))) (pLit (.int 0))) (sSeqF (sAsgF 2 (pBinF mod2F (S "__mod__") (pFzF (p1F int1 (p2F idx2 (pSeeF 0) (pLit (.int 0))))) (pSeeF 1)))
 (sSeqF (sAsg (.ix 0 (pLit (.int 0))) (eP (pBinF fdiv2F (S "__floordiv__") (p2F idx2 (pSeeF 0) (pLit (.int 0))) (pSeeF 1))))
 (sRetVF 2))) sPass)
 (sSeqF (sAsg (.ix 0 (pLit (.int 1))) (eP (pBinF mod2F (S "__mod__") (pFzF (p1F int1 (pFzF (pBinF add2F (S "__add__") (pFzF (pBinF mul2F (S "__mul__") (p2F idx2 (pSeeF 0) (pLit (.int 1))) (pLit (.int 48271)))) (pLit (.int 11)))))) (pLit (.int 2147483647)))))
 (sRetF (pBinF mod2F (S "__mod__") (pFzF (p1F int1 (pFzF (pBinF fdiv2F (S "__floordiv__") (p2F idx2 (pSeeF 0) (pLit (.int 1))) (pLit (.int 7)))))) (pSeeF 1)))))
/-- _law_says -/
def f13 : SDen :=
 (sRetF (pAndF (pFzF (p1F (isInst1 [(.ty .bool)]) (pSeeF 0))) (p2F eq2F (pSeeF 0) (pSeeF 1))))
/-- _law_is_whole -/
def f14 : SDen :=
 (sRetF (pAndF (pFzF (p1F (isInst1 [(.ty .int)]) (pSeeF 0))) (pNotF (pFzF (p1F (isInst1 [(.ty .bool)]) (pSeeF 0))))))
/-- _law_same -/
def f15 : SDen :=
 (sSeqF (sIfF (p1F (isInst1 [(.ty .tup)]) (pSeeF 1)) (sRetF (pAndF (pFzF (p1F (isInst1 [(.ty .tup)]) (pSeeF 0))) (pAndF (pFzF (p2F eq2F (pFzF (p1F len1 (pSeeF 0))) (pFzF (p1F len1 (pSeeF 1))))) (p1F all1 (pFzF (pLcF ⟨fRange, [(pFzF (p1F len1 (pSeeF 1)))]⟩ 3 pTrue (pCallF 15 [(pFzF (p2F idxF (pSeeF 0) (pSeeF 3))), (pFzF (p2F idxF (pSeeF 1) (pSeeF 3)))]) [2, 3])))))) sPass)
 (sSeqF (sIfF (p1F (isInst1 [(.ty .str)]) (pSeeF 1)) (sRetF (pAndF (pFzF (p1F (isInst1 [(.ty .str)]) (pSeeF 0))) (p2F eq2F (pSeeF 0) (pSeeF 1)))) sPass)
 (sSeqF (sIfF (p1F isNone1 (pSeeF 1)) (sRetF (p1F isNone1 (pSeeF 0))) sPass)
 (sRetF (pAndF (pFzF (pCallF 14 [(pFzF (pRdF 0))])) (p2F eq2F (pSeeF 0) (pSeeF 1)))))))
/-- _law_result -/
def f16 : SDen :=
 (sTry [1, 2] (sSeqF (sIfF (p2F eq2F (pFzF (p1F len1 (pSeeF 1))) (pLit (.int 1))) (sRetF (pTupF [(pFzF (pLit (.str (S "told")))), (pFzF (pCallV 0 [(pFzF (p2F idxF (pSeeF 1) (pLit (.int 0))))]))])) sPass)
 (sSeqF (sIfF (p2F eq2F (pFzF (p1F len1 (pSeeF 1))) (pLit (.int 2))) (sRetF (pTupF [(pFzF (pLit (.str (S "told")))), (pFzF (pCallV 0 [(pFzF (p2F idxF (pSeeF 1) (pLit (.int 0)))), (pFzF (p2F idxF (pSeeF 1) (pLit (.int 1))))]))])) sPass)
 (sSeqF (sIfF (p2F eq2F (pFzF (p1F len1 (pSeeF 1))) (pLit (.int 3))) (sRetF (pTupF [(pFzF (pLit (.str (S "told")))), (pFzF (pCallV 0 [(pFzF (p2F idxF (pSeeF 1) (pLit (.int 0)))), (pFzF (p2F idxF (pSeeF 1) (pLit (.int 1)))), (pFzF (p2F idxF (pSeeF 1) (pLit (.int 2))))]))])) sPass)
 (sSeqF (sIfF (p2F eq2F (pFzF (p1F len1 (pSeeF 1))) (pLit (.int 4))) (sRetF (pTupF [(pFzF (pLit (.str (S "told")))), (pFzF (pCallV 0 [(pFzF (p2F idxF (pSeeF 1) (pLit (.int 0)))), (pFzF (p2F idxF (pSeeF 1) (pLit (.int 1)))), (pFzF (p2F idxF (pSeeF 1) (pLit (.int 2)))), (pFzF (p2F idxF (pSeeF 1) (pLit (.int 3))))]))])) sPass)
 (sRetF (pTupF [(pFzF (pLit (.str (S "told")))), (pFzF (pCallV 0 [(pFzF (p2F idxF (pSeeF 1) (pLit (.int 0)))), (pFzF (p2F idxF (pSeeF 1) (pLit (.int 1)))), (pFzF (p2F idxF (pSeeF 1) (pLit (.int 2)))), (pFzF (p2F idxF (pSeeF 1) (pLit (.int 3)))), (pFzF (p2F idxF (pSeeF 1) (pLit (.int 4))))]))])))))) [⟨1, none, (suT (suCons (suK (.str (S "malformed"))) (suCons (suK .non) suNil)))⟩, ⟨2, (some 2), (suT (suCons (suK (.str (S "refused"))) (suCons suF suNil)))⟩])
/-- _law_place_sets -/
def f17 : SDen :=
 (sSeqF (sAsgF 1 (pLstF [(pTupF [])]))
 (sSeqF (sForF 2 ⟨fRange, [(eP (pRdF 0))]⟩ (sAsgF 1 (pBinF add2F (S "__add__") (pSeeF 1) (pFzF (pLcF ⟨fItems, [(pSeeF 1)]⟩ 4 pTrue (pBinF add2F (S "__add__") (pSeeF 4) (pFzF (pTupF [(pFzF (pRdF 2))]))) [3, 4])))))
 (sRetVF 1)))
/-- _law_all_orders -/
def f18 : SDen :=
 (sSeqF (sIfF (p2F eq2F (pFzF (p1F len1 (pSeeF 0))) (pLit (.int 0))) (sRetF (pLstF [(pTupF [])])) sPass)
 (sSeqF (sAsgF 1 (pLstF []))
 (sSeqF (sForF 2 ⟨fRange, [(eP (p1F len1 (pSeeF 0)))]⟩ (sAsgF 1 (pBinF add2F (S "__add__") (pSeeF 1) (pFzF (pLcF ⟨fItems, [(pFzF (pCallF 18 [(pFzF (pBinF add2F (S "__add__") (pFzF (pN (o3 slice3) [(pSeeF 0), (pLit .non), (pInt (pSeeF 2))])) (pFzF (pN (o3 slice3) [(pSeeF 0), (pInt (pFzF (pBinF add2F (S "__add__") (pSeeF 2) (pLit (.int 1))))), (pLit .non)]))))]))]⟩ 4 pTrue (pBinF add2F (S "__add__") (pFzF (pTupF [(pFzF (p2F idxF (pSeeF 0) (pSeeF 2)))])) (pSeeF 4)) [3, 4])))))
 (sRetVF 1))))
/-- _law_sign_at -/
def f19 : SDen :=
 (sRetF (pIteF (pFzF (p2F gt2F (pSeeF 0) (pLit (.int 0)))) (pLit (.int 1)) (pIteF (pFzF (p2F lt2F (pSeeF 0) (pLit (.int 0)))) (pUnF neg1 (S "__neg__") (pLit (.int 1))) (pLit (.int 0)))))
/-- _law_pascal_row -/
def f20 : SDen :=
 (sSeqF (sAsgF 1 (pLstF [(pLit (.int 1))]))
 (sSeqF (sForF 2 ⟨fRange, [(eP (pRdF 0))]⟩ (sAsgF 1 (pLc ⟨fZip, [(pFzF (pBinF add2F (S "__add__") (pSeeF 1) (pFzF (pLstF [(pLit (.int 0))])))), (pFzF (pBinF add2F (S "__add__") (pFzF (pLstF [(pLit (.int 0))])) (pSeeF 1)))]⟩ (.tp [(.nm 4), (.nm 5)]) pTrue (pBinF add2F (S "__add__") (pSeeF 4) (pSeeF 5)) [3, 4, 5])))
 (sRetVF 1)))
/-- law -/
def f21 : SDen :=
 (sSeqF (sAsgF 1 (pCallF 11 [(pFzF (pRdF 0))]))
 (sSeqF (sForF 2 ⟨fItems, [(eP (pLstF [(pLit (.int 0)), (pUnF neg1 (S "__neg__") (pLit (.int 3))), (pLit (.bl true)), (pLit (.bl false)), (pLit .non), (pLit (.str (S "1"))), (pTupF []), (pTupF [(pFzF (pLit (.int 1))), (pFzF (pLit (.int 2)))]), (pTupF [(pFzF (pLit (.int 1))), (pFzF (pLit (.bl true)))]), (pTupF [(pFzF (pLit (.int 1))), (pFzF (pLit .non))]), (pLstF [(pLit (.int 1))]), (pTupF [(pFzF (pTupF [(pFzF (pLit (.int 1)))]))]), (pTupF [(pFzF (pLit (.int 0))), (pFzF (pUnF neg1 (S "__neg__") (pLit (.int 5))))])]))]⟩ (sSeqF (sAsgF 3 (pAndF (pFzF (p1F (isInst1 [(.ty .tup)]) (pSeeF 2))) (p1F all1 (pFzF (pLcF ⟨fItems, [(pSeeF 2)]⟩ 20 pTrue (pCallF 14 [(pFzF (pRdF 20))]) [19, 20])))))
 (sSeqF (sFz [2, 3])
 (sIfF (pOrF (pFzF (pNotF (pFzF (pCallF 13 [(pFzF (pCallF 0 [(pFzF (pRdF 2))])), (pFzF (pCallF 14 [(pFzF (pRdF 2))]))])))) (pNotF (pFzF (pCallF 13 [(pFzF (pCallF 10 [(pFzF (pRdF 2))])), (pFzF (pRdF 3))])))) (sRetF (pLit (.bl false))) sPass))))
 (sSeqF (sPar [4, 5] [(eIO 12 1 [(eP (pLit (.int 30)))]), (eN (oBin sub2 (S "__sub__")) [(eIO 12 1 [(eP (pLit (.int 34)))]), (eP (pLit (.int 2)))])])
 (sSeqF (sSeqF (sFz [4, 5])
 (sIfF (pNotF (pFzF (pCallF 15 [(pFzF (pCallF 3 [(pFzF (pRdF 4)), (pFzF (pRdF 5))])), (pFzF (pIteF (pFzF (pChnF le2F le2F (pLit (.int 0)) (pSeeF 5) (pSeeF 4))) (p2F idxF (pFzF (pCallF 20 [(pFzF (pRdF 4))])) (pSeeF 5)) (pLit (.int 0))))]))) (sRetF (pLit (.bl false))) sPass))
 (sSeqF (sAsgF 6 (pLstF [(pLit (.int 1))]))
 (sSeqF (sForF 7 ⟨fRange, [(eIO 12 1 [(eP (pLit (.int 20)))])]⟩ (sAppend 6 (eP (p1F sum1 (pFzF (pLcF ⟨fRange, [(pFzF (pBinF add2F (S "__add__") (pSeeF 7) (pLit (.int 1))))]⟩ 21 pTrue (pBinF mul2F (S "__mul__") (p2F idx2 (pSeeF 6) (pSeeF 21)) (p2F idx2 (pSeeF 6) (pFzF (pBinF sub2F (S "__sub__") (pSeeF 7) (pSeeF 21))))) [19, 21]))))))
 (sSeqF (sIfF (pNotF (pFzF (pCallF 15 [(pFzF (pCallF 4 [(pFzF (pBinF sub2F (S "__sub__") (pFzF (p1F len1 (pSeeF 6))) (pLit (.int 1))))])), (pFzF (p2F idxF (pSeeF 6) (pFzF (pUnF neg1 (S "__neg__") (pLit (.int 1))))))]))) (sRetF (pLit (.bl false))) sPass)
 (sSeqF (sPar [8, 9, 10] [(eN (oBin sub2 (S "__sub__")) [(eIO 12 1 [(eP (pLit (.int 121)))]), (eP (pLit (.int 60)))]), (eN (oBin sub2 (S "__sub__")) [(eIO 12 1 [(eP (pLit (.int 121)))]), (eP (pLit (.int 60)))]), (eIO 12 1 [(eP (pLit (.int 9)))])])
 (sSeqF (sAsgF 11 (pLit (.int 0)))
 (sSeqF (sForF 12 ⟨fRange, [(eP (pLit (.int 1))), (eP (pLit (.int 61)))]⟩ (sIfF (pAndF (pFzF (p2F eq2F (pFzF (pBinF mod2F (S "__mod__") (pFzF (p1F int1 (pSeeF 8))) (pSeeF 12))) (pLit (.int 0)))) (pAndF (pFzF (p2F eq2F (pFzF (pBinF mod2F (S "__mod__") (pFzF (p1F int1 (pSeeF 9))) (pSeeF 12))) (pLit (.int 0)))) (p2F le2F (pSeeF 12) (pFzF (p2F max2 (pFzF (p1F abs1F (pSeeF 8))) (pFzF (p1F abs1F (pSeeF 9)))))))) (sAsgF 11 (pRdF 12)) sPass))
 (sSeqF (sAsgF 2 (pLit (.int 1)))
 (sSeqF (sSeqF (sFz [10])
 (sForF 13 ⟨fRange, [(eP (pRdF 10))]⟩ (sAsgF 2 (pBinF mul2F (S "__mul__") (pSeeF 2) (pSeeF 8)))))
 (sSeqF (sSeqF (sFz [8, 9, 11, 10, 2])
 (sIfF (pOrF (pFzF (pNotF (pFzF (pCallF 15 [(pFzF (pCallF 2 [(pFzF (pRdF 8)), (pFzF (pRdF 9))])), (pFzF (pRdF 11))])))) (pOrF (pFzF (pNotF (pFzF (pCallF 15 [(pFzF (pCallF 5 [(pFzF (pRdF 8)), (pFzF (pRdF 10))])), (pFzF (pRdF 2))])))) (pOrF (pFzF (pNotF (pFzF (pCallF 15 [(pFzF (pCallF 5 [(pFzF (pLit (.int 0))), (pFzF (pLit (.int 0)))])), (pFzF (pLit (.int 1)))])))) (pNotF (pFzF (pCallF 15 [(pFzF (pCallF 2 [(pFzF (pLit (.int 0))), (pFzF (pLit (.int 0)))])), (pFzF (pLit (.int 0)))])))))) (sRetF (pLit (.bl false))) sPass))
 (sSeqF (sSeqF (sFz [8])
 (sIfF (pOrF (pFzF (pNotF (pFzF (pCallF 15 [(pFzF (pCallF 6 [(pFzF (pRdF 8))])), (pFzF (p2F max2 (pSeeF 8) (pLit (.int 0))))])))) (pNotF (pFzF (pCallF 15 [(pFzF (pCallF 7 [(pFzF (pRdF 8))])), (pFzF (pCallF 19 [(pFzF (pRdF 8))]))])))) (sRetF (pLit (.bl false))) sPass))
 (sSeqF (sAsg (.tp [(.nm 14), (.nm 15)]) (eN oTup [(eIO 12 1 [(eP (pLit (.int 7)))]), (eIO 12 1 [(eP (pLit (.int 5)))])]))
 (sSeqF (sSeqF (sFz [14])
 (sAsgF 16 (p1F sorted1 (pFzF (pLcF ⟨fItems, [(pFzF (pCallF 17 [(pFzF (pRdF 14))]))]⟩ 22 (pFzF (p2F eq2F (pFzF (p1F len1 (pSeeF 22))) (pSeeF 15))) (pRdF 22) [19, 22])))))
 (sSeqF (sSeqF (sFz [14, 15])
 (sAsgF 17 (pCallF 8 [(pFzF (pRdF 14)), (pFzF (pRdF 15))])))
 (sSeqF (sSeqF (sFz [14, 15])
 (sIfF (pOrF (pFzF (pNotF (pFzF (p1F (isInst1 [(.ty .lst)]) (pSeeF 17))))) (pOrF (pFzF (p2F ne2F (pSeeF 17) (pSeeF 16))) (p2F ne2F (pFzF (p1F len1 (pSeeF 17))) (pFzF (pCallF 3 [(pFzF (pRdF 14)), (pFzF (pRdF 15))]))))) (sRetF (pLit (.bl false))) sPass))
 (sSeqF (sAsg (.nm 18) (eN (o1 tuple1) [(eLcP ⟨fRange, [(eIO 12 1 [(eP (pLit (.int 5)))])]⟩ (.nm 20) pTrue (pBinF sub2F (S "__sub__") (pFzF (pBinF mul2F (S "__mul__") (pLit (.int 3)) (pSeeF 20))) (pLit (.int 4))) [19, 20])]))
 (sSeqF (sSeqF (sFz [18])
 (sAsgF 17 (pCallF 9 [(pFzF (pRdF 18))])))
 (sSeqF (sSeqF (sFz [18])
 (sIfF (pOrF (pFzF (pNotF (pFzF (p1F (isInst1 [(.ty .lst)]) (pSeeF 17))))) (p2F ne2F (pSeeF 17) (pFzF (pCallF 18 [(pFzF (pRdF 18))])))) (sRetF (pLit (.bl false))) sPass))
 (sRetF (p1F all1 (pFzF (pLcF ⟨fItems, [(pFzF (pTupF [(pFzF (pUnF neg1 (S "__neg__") (pLit (.int 1)))), (pFzF (pLit (.int 101))), (pFzF (pLit .non)), (pFzF (pLit (.bl true))), (pFzF (pLit (.str (S "2"))))]))]⟩ 23 pTrue (p2F eq2F (p2F idx2 (pFzF (pCallF 16 [(pFzF (pLit (.fn 4))), (pFzF (pTupF [(pFzF (pRdF 23))]))])) (pLit (.int 0))) (pLit (.str (S "malformed")))) [19, 23])))))))))))))))))))))))))
/-- the functions -/
def fnsF : List Fn := [⟨f0, 1, 1, false, []⟩, ⟨f1, 3, 3, false, []⟩, ⟨f2, 2, 2, false, []⟩, ⟨f3, 4, 2, false, []⟩, ⟨f4, 1, 1, false, []⟩, ⟨f5, 4, 2, false, []⟩, ⟨f6, 1, 1, false, []⟩, ⟨f7, 1, 1, false, []⟩, ⟨f8, 9, 2, false, []⟩, ⟨f9, 7, 1, false, []⟩, ⟨f10, 3, 1, false, []⟩, ⟨f11, 4, 1, false, []⟩, ⟨f12, 3, 2, true, []⟩, ⟨f13, 2, 2, false, []⟩, ⟨f14, 1, 1, false, []⟩, ⟨f15, 4, 2, false, []⟩, ⟨f16, 3, 2, false, []⟩, ⟨f17, 5, 1, false, []⟩, ⟨f18, 5, 1, false, []⟩, ⟨f19, 1, 1, false, []⟩, ⟨f20, 6, 1, false, []⟩, ⟨f21, 24, 1, false, []⟩]

end
theorem e0 : b0 = f0 := by simp only [b0, f0, add2F_eq, sub2F_eq, mul2F_eq, fdiv2F_eq, mod2F_eq, lt2F_eq, le2F_eq, gt2F_eq, ge2F_eq, eq2F_eq, ne2F_eq, abs1F_eq, pSeeF_eq, pRdF_eq, pFzF_eq, p1F_eq, p2F_eq, pBinF_eq, pUnF_eq, pCallF_eq, pTupF_eq, pLstF_eq, pIteF_eq, pAndF_eq, pOrF_eq, pNotF_eq, pChnF_eq, pLcF_eq, sSeqF_eq, sIfF_eq, sAsgF_eq, sRetF_eq, sRetVF_eq, sForF_eq]
theorem e1 : b1 = f1 := by simp only [b1, f1, add2F_eq, sub2F_eq, mul2F_eq, fdiv2F_eq, mod2F_eq, lt2F_eq, le2F_eq, gt2F_eq, ge2F_eq, eq2F_eq, ne2F_eq, abs1F_eq, pSeeF_eq, pRdF_eq, pFzF_eq, p1F_eq, p2F_eq, pBinF_eq, pUnF_eq, pCallF_eq, pTupF_eq, pLstF_eq, pIteF_eq, pAndF_eq, pOrF_eq, pNotF_eq, pChnF_eq, pLcF_eq, sSeqF_eq, sIfF_eq, sAsgF_eq, sRetF_eq, sRetVF_eq, sForF_eq]
theorem e2 : b2 = f2 := by simp only [b2, f2, add2F_eq, sub2F_eq, mul2F_eq, fdiv2F_eq, mod2F_eq, lt2F_eq, le2F_eq, gt2F_eq, ge2F_eq, eq2F_eq, ne2F_eq, abs1F_eq, pSeeF_eq, pRdF_eq, pFzF_eq, p1F_eq, p2F_eq, pBinF_eq, pUnF_eq, pCallF_eq, pTupF_eq, pLstF_eq, pIteF_eq, pAndF_eq, pOrF_eq, pNotF_eq, pChnF_eq, pLcF_eq, sSeqF_eq, sIfF_eq, sAsgF_eq, sRetF_eq, sRetVF_eq, sForF_eq]
theorem e3 : b3 = f3 := by simp only [b3, f3, add2F_eq, sub2F_eq, mul2F_eq, fdiv2F_eq, mod2F_eq, lt2F_eq, le2F_eq, gt2F_eq, ge2F_eq, eq2F_eq, ne2F_eq, abs1F_eq, pSeeF_eq, pRdF_eq, pFzF_eq, p1F_eq, p2F_eq, pBinF_eq, pUnF_eq, pCallF_eq, pTupF_eq, pLstF_eq, pIteF_eq, pAndF_eq, pOrF_eq, pNotF_eq, pChnF_eq, pLcF_eq, sSeqF_eq, sIfF_eq, sAsgF_eq, sRetF_eq, sRetVF_eq, sForF_eq]
theorem e4 : b4 = f4 := by simp only [b4, f4, add2F_eq, sub2F_eq, mul2F_eq, fdiv2F_eq, mod2F_eq, lt2F_eq, le2F_eq, gt2F_eq, ge2F_eq, eq2F_eq, ne2F_eq, abs1F_eq, pSeeF_eq, pRdF_eq, pFzF_eq, p1F_eq, p2F_eq, pBinF_eq, pUnF_eq, pCallF_eq, pTupF_eq, pLstF_eq, pIteF_eq, pAndF_eq, pOrF_eq, pNotF_eq, pChnF_eq, pLcF_eq, sSeqF_eq, sIfF_eq, sAsgF_eq, sRetF_eq, sRetVF_eq, sForF_eq]
theorem e5 : b5 = f5 := by simp only [b5, f5, add2F_eq, sub2F_eq, mul2F_eq, fdiv2F_eq, mod2F_eq, lt2F_eq, le2F_eq, gt2F_eq, ge2F_eq, eq2F_eq, ne2F_eq, abs1F_eq, pSeeF_eq, pRdF_eq, pFzF_eq, p1F_eq, p2F_eq, pBinF_eq, pUnF_eq, pCallF_eq, pTupF_eq, pLstF_eq, pIteF_eq, pAndF_eq, pOrF_eq, pNotF_eq, pChnF_eq, pLcF_eq, sSeqF_eq, sIfF_eq, sAsgF_eq, sRetF_eq, sRetVF_eq, sForF_eq]
theorem e6 : b6 = f6 := by simp only [b6, f6, add2F_eq, sub2F_eq, mul2F_eq, fdiv2F_eq, mod2F_eq, lt2F_eq, le2F_eq, gt2F_eq, ge2F_eq, eq2F_eq, ne2F_eq, abs1F_eq, pSeeF_eq, pRdF_eq, pFzF_eq, p1F_eq, p2F_eq, pBinF_eq, pUnF_eq, pCallF_eq, pTupF_eq, pLstF_eq, pIteF_eq, pAndF_eq, pOrF_eq, pNotF_eq, pChnF_eq, pLcF_eq, sSeqF_eq, sIfF_eq, sAsgF_eq, sRetF_eq, sRetVF_eq, sForF_eq]
theorem e7 : b7 = f7 := by simp only [b7, f7, add2F_eq, sub2F_eq, mul2F_eq, fdiv2F_eq, mod2F_eq, lt2F_eq, le2F_eq, gt2F_eq, ge2F_eq, eq2F_eq, ne2F_eq, abs1F_eq, pSeeF_eq, pRdF_eq, pFzF_eq, p1F_eq, p2F_eq, pBinF_eq, pUnF_eq, pCallF_eq, pTupF_eq, pLstF_eq, pIteF_eq, pAndF_eq, pOrF_eq, pNotF_eq, pChnF_eq, pLcF_eq, sSeqF_eq, sIfF_eq, sAsgF_eq, sRetF_eq, sRetVF_eq, sForF_eq]
theorem e8 : b8 = f8 := by simp only [b8, f8, add2F_eq, sub2F_eq, mul2F_eq, fdiv2F_eq, mod2F_eq, lt2F_eq, le2F_eq, gt2F_eq, ge2F_eq, eq2F_eq, ne2F_eq, abs1F_eq, pSeeF_eq, pRdF_eq, pFzF_eq, p1F_eq, p2F_eq, pBinF_eq, pUnF_eq, pCallF_eq, pTupF_eq, pLstF_eq, pIteF_eq, pAndF_eq, pOrF_eq, pNotF_eq, pChnF_eq, pLcF_eq, sSeqF_eq, sIfF_eq, sAsgF_eq, sRetF_eq, sRetVF_eq, sForF_eq]
theorem e9 : b9 = f9 := by simp only [b9, f9, add2F_eq, sub2F_eq, mul2F_eq, fdiv2F_eq, mod2F_eq, lt2F_eq, le2F_eq, gt2F_eq, ge2F_eq, eq2F_eq, ne2F_eq, abs1F_eq, pSeeF_eq, pRdF_eq, pFzF_eq, p1F_eq, p2F_eq, pBinF_eq, pUnF_eq, pCallF_eq, pTupF_eq, pLstF_eq, pIteF_eq, pAndF_eq, pOrF_eq, pNotF_eq, pChnF_eq, pLcF_eq, sSeqF_eq, sIfF_eq, sAsgF_eq, sRetF_eq, sRetVF_eq, sForF_eq]
theorem e10 : b10 = f10 := by simp only [b10, f10, add2F_eq, sub2F_eq, mul2F_eq, fdiv2F_eq, mod2F_eq, lt2F_eq, le2F_eq, gt2F_eq, ge2F_eq, eq2F_eq, ne2F_eq, abs1F_eq, pSeeF_eq, pRdF_eq, pFzF_eq, p1F_eq, p2F_eq, pBinF_eq, pUnF_eq, pCallF_eq, pTupF_eq, pLstF_eq, pIteF_eq, pAndF_eq, pOrF_eq, pNotF_eq, pChnF_eq, pLcF_eq, sSeqF_eq, sIfF_eq, sAsgF_eq, sRetF_eq, sRetVF_eq, sForF_eq]
theorem e11 : b11 = f11 := by simp only [b11, f11, add2F_eq, sub2F_eq, mul2F_eq, fdiv2F_eq, mod2F_eq, lt2F_eq, le2F_eq, gt2F_eq, ge2F_eq, eq2F_eq, ne2F_eq, abs1F_eq, pSeeF_eq, pRdF_eq, pFzF_eq, p1F_eq, p2F_eq, pBinF_eq, pUnF_eq, pCallF_eq, pTupF_eq, pLstF_eq, pIteF_eq, pAndF_eq, pOrF_eq, pNotF_eq, pChnF_eq, pLcF_eq, sSeqF_eq, sIfF_eq, sAsgF_eq, sRetF_eq, sRetVF_eq, sForF_eq]
theorem e12 : b12 = f12 := by simp only [b12, f12, add2F_eq, sub2F_eq, mul2F_eq, fdiv2F_eq, mod2F_eq, lt2F_eq, le2F_eq, gt2F_eq, ge2F_eq, eq2F_eq, ne2F_eq, abs1F_eq, pSeeF_eq, pRdF_eq, pFzF_eq, p1F_eq, p2F_eq, pBinF_eq, pUnF_eq, pCallF_eq, pTupF_eq, pLstF_eq, pIteF_eq, pAndF_eq, pOrF_eq, pNotF_eq, pChnF_eq, pLcF_eq, sSeqF_eq, sIfF_eq, sAsgF_eq, sRetF_eq, sRetVF_eq, sForF_eq]
theorem e13 : b13 = f13 := by simp only [b13, f13, add2F_eq, sub2F_eq, mul2F_eq, fdiv2F_eq, mod2F_eq, lt2F_eq, le2F_eq, gt2F_eq, ge2F_eq, eq2F_eq, ne2F_eq, abs1F_eq, pSeeF_eq, pRdF_eq, pFzF_eq, p1F_eq, p2F_eq, pBinF_eq, pUnF_eq, pCallF_eq, pTupF_eq, pLstF_eq, pIteF_eq, pAndF_eq, pOrF_eq, pNotF_eq, pChnF_eq, pLcF_eq, sSeqF_eq, sIfF_eq, sAsgF_eq, sRetF_eq, sRetVF_eq, sForF_eq]
theorem e14 : b14 = f14 := by simp only [b14, f14, add2F_eq, sub2F_eq, mul2F_eq, fdiv2F_eq, mod2F_eq, lt2F_eq, le2F_eq, gt2F_eq, ge2F_eq, eq2F_eq, ne2F_eq, abs1F_eq, pSeeF_eq, pRdF_eq, pFzF_eq, p1F_eq, p2F_eq, pBinF_eq, pUnF_eq, pCallF_eq, pTupF_eq, pLstF_eq, pIteF_eq, pAndF_eq, pOrF_eq, pNotF_eq, pChnF_eq, pLcF_eq, sSeqF_eq, sIfF_eq, sAsgF_eq, sRetF_eq, sRetVF_eq, sForF_eq]
theorem e15 : b15 = f15 := by simp only [b15, f15, add2F_eq, sub2F_eq, mul2F_eq, fdiv2F_eq, mod2F_eq, lt2F_eq, le2F_eq, gt2F_eq, ge2F_eq, eq2F_eq, ne2F_eq, abs1F_eq, pSeeF_eq, pRdF_eq, pFzF_eq, p1F_eq, p2F_eq, pBinF_eq, pUnF_eq, pCallF_eq, pTupF_eq, pLstF_eq, pIteF_eq, pAndF_eq, pOrF_eq, pNotF_eq, pChnF_eq, pLcF_eq, sSeqF_eq, sIfF_eq, sAsgF_eq, sRetF_eq, sRetVF_eq, sForF_eq]
theorem e16 : b16 = f16 := by simp only [b16, f16, add2F_eq, sub2F_eq, mul2F_eq, fdiv2F_eq, mod2F_eq, lt2F_eq, le2F_eq, gt2F_eq, ge2F_eq, eq2F_eq, ne2F_eq, abs1F_eq, pSeeF_eq, pRdF_eq, pFzF_eq, p1F_eq, p2F_eq, pBinF_eq, pUnF_eq, pCallF_eq, pTupF_eq, pLstF_eq, pIteF_eq, pAndF_eq, pOrF_eq, pNotF_eq, pChnF_eq, pLcF_eq, sSeqF_eq, sIfF_eq, sAsgF_eq, sRetF_eq, sRetVF_eq, sForF_eq]
theorem e17 : b17 = f17 := by simp only [b17, f17, add2F_eq, sub2F_eq, mul2F_eq, fdiv2F_eq, mod2F_eq, lt2F_eq, le2F_eq, gt2F_eq, ge2F_eq, eq2F_eq, ne2F_eq, abs1F_eq, pSeeF_eq, pRdF_eq, pFzF_eq, p1F_eq, p2F_eq, pBinF_eq, pUnF_eq, pCallF_eq, pTupF_eq, pLstF_eq, pIteF_eq, pAndF_eq, pOrF_eq, pNotF_eq, pChnF_eq, pLcF_eq, sSeqF_eq, sIfF_eq, sAsgF_eq, sRetF_eq, sRetVF_eq, sForF_eq]
theorem e18 : b18 = f18 := by simp only [b18, f18, add2F_eq, sub2F_eq, mul2F_eq, fdiv2F_eq, mod2F_eq, lt2F_eq, le2F_eq, gt2F_eq, ge2F_eq, eq2F_eq, ne2F_eq, abs1F_eq, pSeeF_eq, pRdF_eq, pFzF_eq, p1F_eq, p2F_eq, pBinF_eq, pUnF_eq, pCallF_eq, pTupF_eq, pLstF_eq, pIteF_eq, pAndF_eq, pOrF_eq, pNotF_eq, pChnF_eq, pLcF_eq, sSeqF_eq, sIfF_eq, sAsgF_eq, sRetF_eq, sRetVF_eq, sForF_eq]
theorem e19 : b19 = f19 := by simp only [b19, f19, add2F_eq, sub2F_eq, mul2F_eq, fdiv2F_eq, mod2F_eq, lt2F_eq, le2F_eq, gt2F_eq, ge2F_eq, eq2F_eq, ne2F_eq, abs1F_eq, pSeeF_eq, pRdF_eq, pFzF_eq, p1F_eq, p2F_eq, pBinF_eq, pUnF_eq, pCallF_eq, pTupF_eq, pLstF_eq, pIteF_eq, pAndF_eq, pOrF_eq, pNotF_eq, pChnF_eq, pLcF_eq, sSeqF_eq, sIfF_eq, sAsgF_eq, sRetF_eq, sRetVF_eq, sForF_eq]
theorem e20 : b20 = f20 := by simp only [b20, f20, add2F_eq, sub2F_eq, mul2F_eq, fdiv2F_eq, mod2F_eq, lt2F_eq, le2F_eq, gt2F_eq, ge2F_eq, eq2F_eq, ne2F_eq, abs1F_eq, pSeeF_eq, pRdF_eq, pFzF_eq, p1F_eq, p2F_eq, pBinF_eq, pUnF_eq, pCallF_eq, pTupF_eq, pLstF_eq, pIteF_eq, pAndF_eq, pOrF_eq, pNotF_eq, pChnF_eq, pLcF_eq, sSeqF_eq, sIfF_eq, sAsgF_eq, sRetF_eq, sRetVF_eq, sForF_eq]
theorem e21 : b21 = f21 := by simp only [b21, f21, add2F_eq, sub2F_eq, mul2F_eq, fdiv2F_eq, mod2F_eq, lt2F_eq, le2F_eq, gt2F_eq, ge2F_eq, eq2F_eq, ne2F_eq, abs1F_eq, pSeeF_eq, pRdF_eq, pFzF_eq, p1F_eq, p2F_eq, pBinF_eq, pUnF_eq, pCallF_eq, pTupF_eq, pLstF_eq, pIteF_eq, pAndF_eq, pOrF_eq, pNotF_eq, pChnF_eq, pLcF_eq, sSeqF_eq, sIfF_eq, sAsgF_eq, sRetF_eq, sRetVF_eq, sForF_eq]
theorem fns_eq : fns = fnsF := by simp only [fns, fnsF, e0, e1, e2, e3, e4, e5, e6, e7, e8, e9, e10, e11, e12, e13, e14, e15, e16, e17, e18, e19, e20, e21]
end Z.K00
end

section
set_option Elab.async false
set_option linter.all false
set_option maxRecDepth 100000
set_option maxHeartbeats 0
namespace Z.K00
open PySem Z
abbrev RowZ : PySem.W.OpenRow := PySem.W.OpenLaw.row PySem.Challenge.rw_friezeroads_k00_whole_integers_and_choic
abbrev hk : PySem.W.Hook := hookZ 6 (faOf bb) ((fnsOf bb).map defD) (exOf bb)
def ob (s : PySem.W.SharedT) : AlZ := obsZ 6 (faOf bb) ((fnsOf bb).map defD) (exOf bb) (HandSHeadRun.getT s)
theorem ob_eq (s : PySem.W.SharedT) : ob s = hk.obs s.abs := obsZ_eq (HandSHeadRun.getT_eq s)
def loose : List PySem.Str := (["Fault", "Malformed", "Refused", "is_integer", "check_from", "common", "choose", "catalan", "power", "positive", "sign_of", "choices_of", "orders_of", "is_row", "_law_state", "_law_take", "_law_says", "_law_is_whole", "_law_same", "_law_result", "_law_place_sets", "_law_all_orders", "_law_sign_at", "_law_pascal_row"])
theorem run (w : World) : HandSHeadRun.RunEq RowZ (PySem.W.view RowZ.prog [27]) hk ob 4000 loose w := by
  intro os
  kernel_rfl
end Z.K00
end

section
set_option Elab.async false
set_option linter.all false
set_option maxRecDepth 100000
set_option maxHeartbeats 4000000
namespace Z.K00
open PySem Z
noncomputable abbrev PP : Prog := mkProg fnsF 100000
theorem at12 : PP.fns[12]? = some ⟨takeB, 3, 2, true, []⟩ := by show some (⟨f12, 3, 2, true, []⟩ : Fn) = _; rw [← e12]; rfl
theorem at11 : PP.fns[11]? = some ⟨stateB, 4, 1, false, []⟩ := by show some (⟨f11, 4, 1, false, []⟩ : Fn) = _; rw [← e11]; rfl
theorem at15 : PP.fns[15]? = some ⟨b15, 4, 2, false, []⟩ := by rw [e15]; rfl
theorem at14 : PP.fns[14]? = some ⟨b14, 1, 1, false, []⟩ := by rw [e14]; rfl
theorem at2 : PP.fns[2]? = some ⟨b2, 2, 2, false, []⟩ := by rw [e2]; rfl
theorem at5 : PP.fns[5]? = some ⟨b5, 4, 2, false, []⟩ := by rw [e5]; rfl
theorem at21 : PP.fns[21]? = some ⟨b21, 24, 1, false, []⟩ := by rw [e21]; rfl
theorem whole_int (n : Nat) (x : Int) : callF PP (n + 1) 14 [.int x] = .ok (.bl true, .non) := by
  rw [callF_in at14 rfl]
  rfl
theorem same_int (n : Nat) (x y : Int) : callF PP (n + 2) 15 [.int x, .int y] = .ok (.bl (decide (x = y)), .non) := by
  rw [callF_in at15 rfl]
  show runF b15 4 false (rtN PP (n + 1)) [.int x, .int y] = _
  have h := whole_int n x
  have h' : (rtN PP (n + 1)).call 14 [.int x] = .ok (.bl true, .non) := h
  have io : (rtN PP (n + 1)).tab.io 14 = false := rfl
  unfold runF b15
  simp [sSeq, sIf, eP, pN, pAll, pSee, pRd, isFrz, o1, isInst1, isInst, Out.bind, opt, sPass, sRet, pFz, freeze, oCall, io, allFrz, h', pAnd, asB, o2, eq2, dat, okD, eqv, ioOut, isNone1]

theorem com_loop (rt : RT) : ∀ (k a b : Nat), b < k → whileL (eP (pN (o2 ne2) [(pSee 1), (pLit (.int 0))])) (sSeq (sFz [1])
    (sPar [0, 1] [(eP (pRd 1)), (eP (pN (oBin mod2 (S "__mod__")) [(pSee 0), (pSee 1)]))])) rt k [.int (a : Int), .int (b : Int)] = .next [.int (Nat.gcd a b : Nat), .int 0]
  | 0, a, b, h => absurd h (Nat.not_lt_zero b)
  | k + 1, a, b, h => by
    by_cases hb : b = 0
    · subst hb
      simp [whileL, eP, pN, pAll, pSee, pLit, o2, opt, Out.bind, ne2, dat, okD, eqv]
    · have hn : ((b : Int) = 0) = False := by simp [hb]
      have hm : mod2 (.int (a : Int)) (.int (b : Int)) = some (.int ((a : Int) % (b : Int))) := mod2_ok (by omega)
      have ih := com_loop rt k b (a % b) (Nat.lt_of_lt_of_le (Nat.mod_lt a (by omega)) (by omega))
      have eg : Nat.gcd a b = Nat.gcd b (a % b) := by rw [Nat.gcd_comm a b, Nat.gcd_rec b a, Nat.gcd_comm]
      rw [eg, ← ih]
      simp [whileL, eP, pN, pAll, pSee, pLit, o2, opt, Out.bind, ne2, dat, okD, eqv, hn, hb, sSeq, sFz, fzEnv, isFrz, sPar, eAll, pRd, oBin, hm, setsE, sOut]
theorem abs_nat (a : Int) : abs1 (.int a) = some (.int (a.natAbs : Int)) := by
  show some (D.int (if a < 0 then -a else a)) = _
  congr 2
  split <;> omega
theorem common_ok (n : Nat) (a b : Int) (hb : b.natAbs < 100000) : callF PP (n + 1) 2 [.int a, .int b] = .ok (.int (Nat.gcd a.natAbs b.natAbs : Nat), .non) := by
  rw [callF_in at2 rfl]
  show runF b2 2 false (rtN PP n) [.int a, .int b] = _
  have h := com_loop (rtN PP n) 100000 a.natAbs b.natAbs hb
  have w : (rtN PP n).W = 100000 := rfl
  unfold runF b2
  simp [sSeq, sPar, eAll, eP, pN, pAll, pSee, o1, opt, Out.bind, abs_nat, setsE, sOut, sWhile, w, h, sRetV, ioOut]
/-- the law's own search -/
theorem best_loop (rt : RT) (a b : Int) (g : Nat) (hg : g = Nat.gcd a.natAbs b.natAbs) : ∀ (n j : Nat) (y z : D) (x0 x1 x2 x3 x4 x5 x6 x7 x10 x13 x14 x15 x16 x17 x18 x19 x20 x21 x22 x23 : D), 1 ≤ j → (∀ bst : Int, y = .int bst → True) → (∃ bst : Int, y = .int bst ∧ (g ≠ 0 → g < j → bst = g) ∧ (g = 0 → bst = 0)) →
    ∃ bst : Int, ∃ w : D, forL (.nm 12) (sIf (eP (pAnd (pFz (pN (o2 eq2) [(pFz (pN (oBin mod2 (S "__mod__")) [(pFz (pN (o1 int1) [(pSee 8)])), (pSee 12)])), (pLit (.int 0))])) (pAnd (pFz (pN (o2 eq2) [(pFz (pN (oBin mod2 (S "__mod__")) [(pFz (pN (o1 int1) [(pSee 9)])), (pSee 12)])), (pLit (.int 0))])) (pN (o2 le2) [(pSee 12), (pFz (pN (o2 max2) [(pFz (pN (o1 abs1) [(pSee 8)])), (pFz (pN (o1 abs1) [(pSee 9)]))]))])))) (sAsg (.nm 11) (eP (pRd 12))) sPass) rt (rangeL j n) [x0, x1, x2, x3, x4, x5, x6, x7, .int a, .int b, x10, y, z, x13, x14, x15, x16, x17, x18, x19, x20, x21, x22, x23] = .next [x0, x1, x2, x3, x4, x5, x6, x7, .int a, .int b, x10, .int bst, w, x13, x14, x15, x16, x17, x18, x19, x20, x21, x22, x23] ∧ (g ≠ 0 → g < j + n → bst = g) ∧ (g = 0 → bst = 0) := by
  intro n
  induction n with
  | zero =>
    intro j y z x0 x1 x2 x3 x4 x5 x6 x7 x10 x13 x14 x15 x16 x17 x18 x19 x20 x21 x22 x23 hj _ ⟨bst, e, h1, h2⟩
    subst e
    exact ⟨bst, z, rfl, h1, h2⟩
  | succ n ih =>
    intro j y z x0 x1 x2 x3 x4 x5 x6 x7 x10 x13 x14 x15 x16 x17 x18 x19 x20 x21 x22 x23 hj _ ⟨bst, e, h1, h2⟩
    subst e
    have er : rangeL (j : Int) (n + 1) = .int (j : Int) :: rangeL ((j + 1 : Nat) : Int) n := by
      unfold rangeL
      rw [List.range_succ_eq_map, List.map_cons, List.map_map]
      refine List.cons_eq_cons.mpr ⟨by simp, List.map_congr_left fun k _ => ?_⟩
      simp only [Function.comp_def]
      congr 1
      omega
    have m1 : mod2 (.int a) (.int (j : Int)) = some (.int (a % (j : Int))) := mod2_ok (by omega)
    have m2 : mod2 (.int b) (.int (j : Int)) = some (.int (b % (j : Int))) := mod2_ok (by omega)
    have mx : max2 (.int (a.natAbs : Int)) (.int (b.natAbs : Int)) = some (.int (max a.natAbs b.natAbs : Nat)) := by
      show some (D.int (if (b.natAbs : Int) > a.natAbs then _ else _)) = _
      congr 2
      split <;> omega
    have dv : ∀ c : Int, c % (j : Int) = 0 ↔ j ∣ c.natAbs := fun c => by
      rw [← Int.dvd_iff_emod_eq_zero, Int.ofNat_dvd_left]
    by_cases c1 : j ∣ a.natAbs
    · by_cases c2 : j ∣ b.natAbs
      · by_cases c3 : j ≤ max a.natAbs b.natAbs
        · have hjg : j ∣ g := by rw [hg]; exact Nat.dvd_gcd c1 c2
          have g0 : g ≠ 0 := by
            intro h0
            rw [hg] at h0
            have := Nat.gcd_eq_zero_iff.mp h0
            omega
          have hle : j ≤ g := Nat.le_of_dvd (by omega) hjg
          obtain ⟨bst', w, e2, k1, k2⟩ := ih (j + 1) (.int (j : Int)) (.int (j : Int)) x0 x1 x2 x3 x4 x5 x6 x7 x10 x13 x14 x15 x16 x17 x18 x19 x20 x21 x22 x23 (by omega) (fun _ _ => trivial) ⟨(j : Int), rfl, fun _ h => by omega, fun h => absurd h g0⟩
          refine ⟨bst', w, ?_, fun q h => k1 q (by omega), k2⟩
          rw [← e2, er]
          have d1 := (dv a).mpr c1
          have d2 := (dv b).mpr c2
          have c3' : ((j : Int) ≤ (max a.natAbs b.natAbs : Nat)) = True := by simp only [eq_iff_iff, iff_true]; omega
          have le3 : le2 (.int (j : Int)) (.int (max a.natAbs b.natAbs : Nat)) = some (.bl true) := by
            show some (D.bl (decide _)) = _
            rw [decide_eq_true (by omega)]
          simp [forL, asg, sIf, eP, pAnd, pFz, pN, pAll, pSee, o2, o1, oBin, opt, Out.bind, int1, freeze, m1, m2, pLit, d1, d2, eq2, dat, okD, eqv, asB, abs_nat, mx, le3, sAsg, pRd, isFrz, sOut]
        · have gz : g = 0 ∨ j ≠ g := by
            by_cases h0 : g = 0
            · exact .inl h0
            · refine .inr fun e => c3 ?_
              have hga : g ≤ max a.natAbs b.natAbs := by
                by_cases ha : a.natAbs = 0
                · have : g = b.natAbs := by rw [hg, ha, Nat.gcd_zero_left]
                  omega
                · have := Nat.le_of_dvd (Nat.pos_of_ne_zero ha) (hg ▸ Nat.gcd_dvd_left a.natAbs b.natAbs)
                  omega
              omega
          obtain ⟨bst', w, e2, k1, k2⟩ := ih (j + 1) (.int bst) (.int (j : Int)) x0 x1 x2 x3 x4 x5 x6 x7 x10 x13 x14 x15 x16 x17 x18 x19 x20 x21 x22 x23 (by omega) (fun _ _ => trivial) ⟨bst, rfl, fun q h => h1 q (by rcases gz with z | z <;> omega), h2⟩
          refine ⟨bst', w, ?_, fun q h => k1 q (by omega), k2⟩
          rw [← e2, er]
          have d1 := (dv a).mpr c1
          have d2 := (dv b).mpr c2
          have le3 : le2 (.int (j : Int)) (.int (max a.natAbs b.natAbs : Nat)) = some (.bl false) := by
            show some (D.bl (decide _)) = _
            rw [decide_eq_false (by omega)]
          simp [forL, asg, sIf, eP, pAnd, pFz, pN, pAll, pSee, o2, o1, oBin, opt, Out.bind, int1, freeze, m1, m2, pLit, d1, d2, eq2, dat, okD, eqv, asB, abs_nat, mx, le3, sPass]
      · have gz : g = 0 ∨ j ≠ g := .inr fun e => c2 (e ▸ hg ▸ Nat.gcd_dvd_right _ _)
        obtain ⟨bst', w, e2, k1, k2⟩ := ih (j + 1) (.int bst) (.int (j : Int)) x0 x1 x2 x3 x4 x5 x6 x7 x10 x13 x14 x15 x16 x17 x18 x19 x20 x21 x22 x23 (by omega) (fun _ _ => trivial) ⟨bst, rfl, fun q h => h1 q (by rcases gz with z | z <;> omega), h2⟩
        refine ⟨bst', w, ?_, fun q h => k1 q (by omega), k2⟩
        rw [← e2, er]
        have d1 := (dv a).mpr c1
        have d2 : ¬ b % (j : Int) = 0 := fun h => c2 ((dv b).mp h)
        simp [forL, asg, sIf, eP, pAnd, pFz, pN, pAll, pSee, o2, o1, oBin, opt, Out.bind, int1, freeze, m1, m2, pLit, d1, d2, eq2, dat, okD, eqv, asB, sPass]
    · have gz : g = 0 ∨ j ≠ g := .inr fun e => c1 (e ▸ hg ▸ Nat.gcd_dvd_left _ _)
      obtain ⟨bst', w, e2, k1, k2⟩ := ih (j + 1) (.int bst) (.int (j : Int)) x0 x1 x2 x3 x4 x5 x6 x7 x10 x13 x14 x15 x16 x17 x18 x19 x20 x21 x22 x23 (by omega) (fun _ _ => trivial) ⟨bst, rfl, fun q h => h1 q (by rcases gz with z | z <;> omega), h2⟩
      refine ⟨bst', w, ?_, fun q h => k1 q (by omega), k2⟩
      rw [← e2, er]
      have d1 : ¬ a % (j : Int) = 0 := fun h => c1 ((dv a).mp h)
      simp [forL, asg, sIf, eP, pAnd, pFz, pN, pAll, pSee, o2, o1, oBin, opt, Out.bind, int1, freeze, m1, m2, pLit, d1, eq2, dat, okD, eqv, asB, sPass]

theorem len24 {e : Env} (h : e.length = 24) : ∃ x0 x1 x2 x3 x4 x5 x6 x7 x8 x9 x10 x11 x12 x13 x14 x15 x16 x17 x18 x19 x20 x21 x22 x23 : D, e = [x0, x1, x2, x3, x4, x5, x6, x7, x8, x9, x10, x11, x12, x13, x14, x15, x16, x17, x18, x19, x20, x21, x22, x23] := by
  match e, h with
  | [x0, x1, x2, x3, x4, x5, x6, x7, x8, x9, x10, x11, x12, x13, x14, x15, x16, x17, x18, x19, x20, x21, x22, x23], _ => exact ⟨_, _, _, _, _, _, _, _, _, _, _, _, _, _, _, _, _, _, _, _, _, _, _, _, rfl⟩
@[irreducible] noncomputable def R : RT := rtN PP 99
theorem hR : R = rtN PP (98 + 1) := by unfold R; rfl
theorem R_call (f : Nat) (as : List D) : R.call f as = callF PP 99 f as := by rw [hR]; rfl
theorem R_io (f : Nat) : R.tab.io f = PP.tab.io f := by rw [hR]; rfl
/-! ### what the kernel reckons -/
noncomputable def okA (n : Nat) : Bool := match callF PP 99 20 [.int (n : Int)] with
  | .ok (row, .non) => (List.range 34).all fun k => match callF PP 99 3 [.int (n : Int), .int ((k : Int) - 2)] with
    | .ok (.int c, .non) => condF (condF (iltF ((k : Int) - 2) 0) false (condF (iltF (n : Int) ((k : Int) - 2)) false true)) (match idxF (freeze row) (.int ((k : Int) - 2)) with
      | some (.int d) => ieqF d c
      | _ => false) (ieqF c 0)
    | _ => false
  | _ => false
theorem kA : ((List.range 30).all okA) = true := by kernel_rfl

def t0 : SDen := (sAsg (.nm 1) (eP (pN (oCall 11) [(pFz (pRd 0))])))
def t1 : SDen := (sFor (.nm 2) ⟨fItems, [(eP (pLst [(pLit (.int 0)), (pN (oUn neg1 (S "__neg__")) [(pLit (.int 3))]), (pLit (.bl true)), (pLit (.bl false)), (pLit .non), (pLit (.str (S "1"))), (pN oTup []), (pN oTup [(pFz (pLit (.int 1))), (pFz (pLit (.int 2)))]), (pN oTup [(pFz (pLit (.int 1))), (pFz (pLit (.bl true)))]), (pN oTup [(pFz (pLit (.int 1))), (pFz (pLit .non))]), (pLst [(pLit (.int 1))]), (pN oTup [(pFz (pN oTup [(pFz (pLit (.int 1)))]))]), (pN oTup [(pFz (pLit (.int 0))), (pFz (pN (oUn neg1 (S "__neg__")) [(pLit (.int 5))]))])]))]⟩ (sSeq (sAsg (.nm 3) (eP (pAnd (pFz (pN (o1 (isInst1 [(.ty .tup)])) [(pSee 2)])) (pN (o1 all1) [(pFz (pLc ⟨fItems, [(pSee 2)]⟩ (.nm 20) pTrue (pN (oCall 14) [(pFz (pRd 20))]) [19, 20]))]))))
 (sSeq (sFz [2, 3])
 (sIf (eP (pOr (pFz (pNot (pFz (pN (oCall 13) [(pFz (pN (oCall 0) [(pFz (pRd 2))])), (pFz (pN (oCall 14) [(pFz (pRd 2))]))])))) (pNot (pFz (pN (oCall 13) [(pFz (pN (oCall 10) [(pFz (pRd 2))])), (pFz (pRd 3))]))))) (sRet (eP (pLit (.bl false)))) sPass))))
def t2 : SDen := (sPar [4, 5] [(eIO 12 1 [(eP (pLit (.int 30)))]), (eN (oBin sub2 (S "__sub__")) [(eIO 12 1 [(eP (pLit (.int 34)))]), (eP (pLit (.int 2)))])])
def t3 : SDen := (sSeq (sFz [4, 5])
 (sIf (eP (pNot (pFz (pN (oCall 15) [(pFz (pN (oCall 3) [(pFz (pRd 4)), (pFz (pRd 5))])), (pFz (pIte (pFz (pChn le2 le2 (pLit (.int 0)) (pSee 5) (pSee 4))) (pN (o2 idxF) [(pFz (pN (oCall 20) [(pFz (pRd 4))])), (pSee 5)]) (pLit (.int 0))))])))) (sRet (eP (pLit (.bl false)))) sPass))
def t4 : SDen := (sAsg (.nm 6) (eP (pLst [(pLit (.int 1))])))
def t5 : SDen := (sFor (.nm 7) ⟨fRange, [(eIO 12 1 [(eP (pLit (.int 20)))])]⟩ (sAppend 6 (eP (pN (o1 sum1) [(pFz (pLc ⟨fRange, [(pFz (pN (oBin add2 (S "__add__")) [(pSee 7), (pLit (.int 1))]))]⟩ (.nm 21) pTrue (pN (oBin mul2 (S "__mul__")) [(pN (o2 idx2) [(pSee 6), (pSee 21)]), (pN (o2 idx2) [(pSee 6), (pFz (pN (oBin sub2 (S "__sub__")) [(pSee 7), (pSee 21)]))])]) [19, 21]))]))))
def t6 : SDen := (sIf (eP (pNot (pFz (pN (oCall 15) [(pFz (pN (oCall 4) [(pFz (pN (oBin sub2 (S "__sub__")) [(pFz (pN (o1 len1) [(pSee 6)])), (pLit (.int 1))]))])), (pFz (pN (o2 idxF) [(pSee 6), (pFz (pN (oUn neg1 (S "__neg__")) [(pLit (.int 1))]))]))])))) (sRet (eP (pLit (.bl false)))) sPass)
def t7 : SDen := (sPar [8, 9, 10] [(eN (oBin sub2 (S "__sub__")) [(eIO 12 1 [(eP (pLit (.int 121)))]), (eP (pLit (.int 60)))]), (eN (oBin sub2 (S "__sub__")) [(eIO 12 1 [(eP (pLit (.int 121)))]), (eP (pLit (.int 60)))]), (eIO 12 1 [(eP (pLit (.int 9)))])])
def t8 : SDen := (sAsg (.nm 11) (eP (pLit (.int 0))))
def t9 : SDen := (sFor (.nm 12) ⟨fRange, [(eP (pLit (.int 1))), (eP (pLit (.int 61)))]⟩ (sIf (eP (pAnd (pFz (pN (o2 eq2) [(pFz (pN (oBin mod2 (S "__mod__")) [(pFz (pN (o1 int1) [(pSee 8)])), (pSee 12)])), (pLit (.int 0))])) (pAnd (pFz (pN (o2 eq2) [(pFz (pN (oBin mod2 (S "__mod__")) [(pFz (pN (o1 int1) [(pSee 9)])), (pSee 12)])), (pLit (.int 0))])) (pN (o2 le2) [(pSee 12), (pFz (pN (o2 max2) [(pFz (pN (o1 abs1) [(pSee 8)])), (pFz (pN (o1 abs1) [(pSee 9)]))]))])))) (sAsg (.nm 11) (eP (pRd 12))) sPass))
def t10 : SDen := (sAsg (.nm 2) (eP (pLit (.int 1))))
def t11 : SDen := (sSeq (sFz [10])
 (sFor (.nm 13) ⟨fRange, [(eP (pRd 10))]⟩ (sAsg (.nm 2) (eP (pN (oBin mul2 (S "__mul__")) [(pSee 2), (pSee 8)])))))
def t12 : SDen := (sSeq (sFz [8, 9, 11, 10, 2])
 (sIf (eP (pOr (pFz (pNot (pFz (pN (oCall 15) [(pFz (pN (oCall 2) [(pFz (pRd 8)), (pFz (pRd 9))])), (pFz (pRd 11))])))) (pOr (pFz (pNot (pFz (pN (oCall 15) [(pFz (pN (oCall 5) [(pFz (pRd 8)), (pFz (pRd 10))])), (pFz (pRd 2))])))) (pOr (pFz (pNot (pFz (pN (oCall 15) [(pFz (pN (oCall 5) [(pFz (pLit (.int 0))), (pFz (pLit (.int 0)))])), (pFz (pLit (.int 1)))])))) (pNot (pFz (pN (oCall 15) [(pFz (pN (oCall 2) [(pFz (pLit (.int 0))), (pFz (pLit (.int 0)))])), (pFz (pLit (.int 0)))]))))))) (sRet (eP (pLit (.bl false)))) sPass))
def t13 : SDen := (sSeq (sFz [8])
 (sIf (eP (pOr (pFz (pNot (pFz (pN (oCall 15) [(pFz (pN (oCall 6) [(pFz (pRd 8))])), (pFz (pN (o2 max2) [(pSee 8), (pLit (.int 0))]))])))) (pNot (pFz (pN (oCall 15) [(pFz (pN (oCall 7) [(pFz (pRd 8))])), (pFz (pN (oCall 19) [(pFz (pRd 8))]))]))))) (sRet (eP (pLit (.bl false)))) sPass))
def t14 : SDen := (sAsg (.tp [(.nm 14), (.nm 15)]) (eN oTup [(eIO 12 1 [(eP (pLit (.int 7)))]), (eIO 12 1 [(eP (pLit (.int 5)))])]))
def t15 : SDen := (sSeq (sFz [14])
 (sAsg (.nm 16) (eP (pN (o1 sorted1) [(pFz (pLc ⟨fItems, [(pFz (pN (oCall 17) [(pFz (pRd 14))]))]⟩ (.nm 22) (pFz (pN (o2 eq2) [(pFz (pN (o1 len1) [(pSee 22)])), (pSee 15)])) (pRd 22) [19, 22]))]))))
def t16 : SDen := (sSeq (sFz [14, 15])
 (sAsg (.nm 17) (eP (pN (oCall 8) [(pFz (pRd 14)), (pFz (pRd 15))]))))
def t17 : SDen := (sSeq (sFz [14, 15])
 (sIf (eP (pOr (pFz (pNot (pFz (pN (o1 (isInst1 [(.ty .lst)])) [(pSee 17)])))) (pOr (pFz (pN (o2 ne2) [(pSee 17), (pSee 16)])) (pN (o2 ne2) [(pFz (pN (o1 len1) [(pSee 17)])), (pFz (pN (oCall 3) [(pFz (pRd 14)), (pFz (pRd 15))]))])))) (sRet (eP (pLit (.bl false)))) sPass))
def t18 : SDen := (sAsg (.nm 18) (eN (o1 tuple1) [(eLcP ⟨fRange, [(eIO 12 1 [(eP (pLit (.int 5)))])]⟩ (.nm 20) pTrue (pN (oBin sub2 (S "__sub__")) [(pFz (pN (oBin mul2 (S "__mul__")) [(pLit (.int 3)), (pSee 20)])), (pLit (.int 4))]) [19, 20])]))
def t19 : SDen := (sSeq (sFz [18])
 (sAsg (.nm 17) (eP (pN (oCall 9) [(pFz (pRd 18))]))))
def t20 : SDen := (sSeq (sFz [18])
 (sIf (eP (pOr (pFz (pNot (pFz (pN (o1 (isInst1 [(.ty .lst)])) [(pSee 17)])))) (pN (o2 ne2) [(pSee 17), (pFz (pN (oCall 18) [(pFz (pRd 18))]))]))) (sRet (eP (pLit (.bl false)))) sPass))
def t21 : SDen := (sRet (eP (pN (o1 all1) [(pFz (pLc ⟨fItems, [(pFz (pN oTup [(pFz (pN (oUn neg1 (S "__neg__")) [(pLit (.int 1))])), (pFz (pLit (.int 101))), (pFz (pLit .non)), (pFz (pLit (.bl true))), (pFz (pLit (.str (S "2"))))]))]⟩ (.nm 23) pTrue (pN (o2 eq2) [(pN (o2 idx2) [(pFz (pN (oCall 16) [(pFz (pLit (.fn 4))), (pFz (pN oTup [(pFz (pRd 23))]))])), (pLit (.int 0))]), (pLit (.str (S "malformed")))]) [19, 23]))])))
theorem b21_chain : b21 = (sSeq t0 (sSeq t1 (sSeq t2 (sSeq t3 (sSeq t4 (sSeq t5 (sSeq t6 (sSeq t7 (sSeq t8 (sSeq t9 (sSeq t10 (sSeq t11 (sSeq t12 (sSeq t13 (sSeq t14 (sSeq t15 (sSeq t16 (sSeq t17 (sSeq t18 (sSeq t19 (sSeq t20 t21))))))))))))))))))))) := rfl
def u5 : SDen := (sAppend 6 (eP (pN (o1 sum1) [(pFz (pLc ⟨fRange, [(pFz (pN (oBin add2 (S "__add__")) [(pSee 7), (pLit (.int 1))]))]⟩ (.nm 21) pTrue (pN (oBin mul2 (S "__mul__")) [(pN (o2 idx2) [(pSee 6), (pSee 21)]), (pN (o2 idx2) [(pSee 6), (pFz (pN (oBin sub2 (S "__sub__")) [(pSee 7), (pSee 21)]))])]) [19, 21]))])))
def u11 : SDen := (sAsg (.nm 2) (eP (pN (oBin mul2 (S "__mul__")) [(pSee 2), (pSee 8)])))
def u9 : SDen := (sIf (eP (pAnd (pFz (pN (o2 eq2) [(pFz (pN (oBin mod2 (S "__mod__")) [(pFz (pN (o1 int1) [(pSee 8)])), (pSee 12)])), (pLit (.int 0))])) (pAnd (pFz (pN (o2 eq2) [(pFz (pN (oBin mod2 (S "__mod__")) [(pFz (pN (o1 int1) [(pSee 9)])), (pSee 12)])), (pLit (.int 0))])) (pN (o2 le2) [(pSee 12), (pFz (pN (o2 max2) [(pFz (pN (o1 abs1) [(pSee 8)])), (pFz (pN (o1 abs1) [(pSee 9)]))]))])))) (sAsg (.nm 11) (eP (pRd 12))) sPass)
def eF : PDen := (pN (oBin sub2 (S "__sub__")) [(pFz (pN (oBin mul2 (S "__mul__")) [(pLit (.int 3)), (pSee 20)])), (pLit (.int 4))])
/-- what is left: how long, the draws' state -/
noncomputable def look (x : SOut) : Nat × D := ((lastF x).length, nthF (lastF x) 1)
theorem look_good {x : SOut} {st : D} {Q : Env → Prop} (h : look x = (24, st)) (q : ∀ x0 x2 x3 x4 x5 x6 x7 x8 x9 x10 x11 x12 x13 x14 x15 x16 x17 x18 x19 x20 x21 x22 x23 : D, Q [x0, st, x2, x3, x4, x5, x6, x7, x8, x9, x10, x11, x12, x13, x14, x15, x16, x17, x18, x19, x20, x21, x22, x23]) : Good Q x := by
  unfold look at h
  obtain ⟨h1, h2⟩ := Prod.mk.inj h
  have e := lastF_next (n := 23) h1
  rw [e]
  obtain ⟨y0, y1, y2, y3, y4, y5, y6, y7, y8, y9, y10, y11, y12, y13, y14, y15, y16, y17, y18, y19, y20, y21, y22, y23, hy⟩ := len24 h1
  show Q (lastF x)
  rw [hy] at h2 ⊢
  have h2 : y1 = st := h2
  subst h2
  exact q y0 y2 y3 y4 y5 y6 y7 y8 y9 y10 y11 y12 y13 y14 y15 y16 y17 y18 y19 y20 y21 y22 y23
def items (v : Nat) : List D := (List.range v).map fun (k : Nat) => .int (3 * (k : Int) - 4)
theorem k1 (x0 st : D) : look (t1 R [x0, st, .nul, .nul, .nul, .nul, .nul, .nul, .nul, .nul, .nul, .nul, .nul, .nul, .nul, .nul, .nul, .nul, .nul, .nul, .nul, .nul, .nul, .nul]) = (24, st) := by
  simp only [t1, add2F_eq, sub2F_eq, mul2F_eq, fdiv2F_eq, mod2F_eq, lt2F_eq, le2F_eq, gt2F_eq, ge2F_eq, eq2F_eq, ne2F_eq, abs1F_eq, pSeeF_eq, pRdF_eq, pFzF_eq, p1F_eq, p2F_eq, pBinF_eq, pUnF_eq, pCallF_eq, pTupF_eq, pLstF_eq, pIteF_eq, pAndF_eq, pOrF_eq, pNotF_eq, pChnF_eq, pLcF_eq, sSeqF_eq, sIfF_eq, sAsgF_eq, sRetF_eq, sRetVF_eq, sForF_eq, forF_eq, lcLF_eq, wipesF_eq]
  kernel_rfl
theorem kB (st x0 x2 x3 x4 x5 x7 x8 x9 x10 x11 x12 x13 x14 x15 x16 x17 x18 x19 x20 x21 x22 x23 : D) : ((List.range 20).map fun v => look (sSeq (fun rt e => forL (.nm 7) u5 rt (rangeL 0 v) e) t6 R [x0, st, x2, x3, x4, x5, (.lst true [.int 1]), x7, x8, x9, x10, x11, x12, x13, x14, x15, x16, x17, x18, x19, x20, x21, x22, x23])) = List.replicate 20 (24, st) := by
  simp only [u5, t6, add2F_eq, sub2F_eq, mul2F_eq, fdiv2F_eq, mod2F_eq, lt2F_eq, le2F_eq, gt2F_eq, ge2F_eq, eq2F_eq, ne2F_eq, abs1F_eq, pSeeF_eq, pRdF_eq, pFzF_eq, p1F_eq, p2F_eq, pBinF_eq, pUnF_eq, pCallF_eq, pTupF_eq, pLstF_eq, pIteF_eq, pAndF_eq, pOrF_eq, pNotF_eq, pChnF_eq, pLcF_eq, sSeqF_eq, sIfF_eq, sAsgF_eq, sRetF_eq, sRetVF_eq, sForF_eq, forF_eq, lcLF_eq, wipesF_eq]
  kernel_rfl
theorem kD (st x0 x2 x3 x4 x5 x6 x7 x9 x10 x11 x12 x13 x14 x15 x16 x17 x18 x19 x20 x21 x22 x23 : D) : ((List.range 121).map fun (v : Nat) => look (t13 R [x0, st, x2, x3, x4, x5, x6, x7, (.int ((v : Int) - 60)), x9, x10, x11, x12, x13, x14, x15, x16, x17, x18, x19, x20, x21, x22, x23])) = List.replicate 121 (24, st) := by
  simp only [t13, add2F_eq, sub2F_eq, mul2F_eq, fdiv2F_eq, mod2F_eq, lt2F_eq, le2F_eq, gt2F_eq, ge2F_eq, eq2F_eq, ne2F_eq, abs1F_eq, pSeeF_eq, pRdF_eq, pFzF_eq, p1F_eq, p2F_eq, pBinF_eq, pUnF_eq, pCallF_eq, pTupF_eq, pLstF_eq, pIteF_eq, pAndF_eq, pOrF_eq, pNotF_eq, pChnF_eq, pLcF_eq, sSeqF_eq, sIfF_eq, sAsgF_eq, sRetF_eq, sRetVF_eq, sForF_eq, forF_eq, lcLF_eq, wipesF_eq]
  kernel_rfl
theorem kE (st x0 x2 x3 x4 x5 x6 x7 x8 x9 x10 x11 x12 x13 x16 x17 x18 x19 x20 x21 x22 x23 : D) : ((List.range 7).map fun (m : Nat) => (List.range 5).map fun (s : Nat) => look (sSeq t15 (sSeq t16 t17) R [x0, st, x2, x3, x4, x5, x6, x7, x8, x9, x10, x11, x12, x13, (.int (m : Int)), (.int (s : Int)), x16, x17, x18, x19, x20, x21, x22, x23])) = List.replicate 7 (List.replicate 5 (24, st)) := by
  simp only [t15, t16, t17, add2F_eq, sub2F_eq, mul2F_eq, fdiv2F_eq, mod2F_eq, lt2F_eq, le2F_eq, gt2F_eq, ge2F_eq, eq2F_eq, ne2F_eq, abs1F_eq, pSeeF_eq, pRdF_eq, pFzF_eq, p1F_eq, p2F_eq, pBinF_eq, pUnF_eq, pCallF_eq, pTupF_eq, pLstF_eq, pIteF_eq, pAndF_eq, pOrF_eq, pNotF_eq, pChnF_eq, pLcF_eq, sSeqF_eq, sIfF_eq, sAsgF_eq, sRetF_eq, sRetVF_eq, sForF_eq, forF_eq, lcLF_eq, wipesF_eq]
  kernel_rfl
theorem kF (x0 x1 x2 x3 x4 x5 x6 x7 x8 x9 x10 x11 x12 x13 x14 x15 x16 x17 x18 x19 x20 x21 x22 x23 : D) : ((List.range 5).map fun v => lcL (.nm 20) pTrue eF R (wipes [19, 20] [x0, x1, x2, x3, x4, x5, x6, x7, x8, x9, x10, x11, x12, x13, x14, x15, x16, x17, x18, x19, x20, x21, x22, x23]) (rangeL 0 v)) = (List.range 5).map fun v => .ok (items v) := by
  simp only [eF, add2F_eq, sub2F_eq, mul2F_eq, fdiv2F_eq, mod2F_eq, lt2F_eq, le2F_eq, gt2F_eq, ge2F_eq, eq2F_eq, ne2F_eq, abs1F_eq, pSeeF_eq, pRdF_eq, pFzF_eq, p1F_eq, p2F_eq, pBinF_eq, pUnF_eq, pCallF_eq, pTupF_eq, pLstF_eq, pIteF_eq, pAndF_eq, pOrF_eq, pNotF_eq, pChnF_eq, pLcF_eq, sSeqF_eq, sIfF_eq, sAsgF_eq, sRetF_eq, sRetVF_eq, sForF_eq, forF_eq, lcLF_eq, wipesF_eq]
  kernel_rfl
theorem kG (st x0 x2 x3 x4 x5 x6 x7 x8 x9 x10 x11 x12 x13 x14 x15 x16 x17 x19 x20 x21 x22 x23 : D) : ((List.range 5).all fun v => isRetT (sSeq t19 (sSeq t20 t21) R [x0, st, x2, x3, x4, x5, x6, x7, x8, x9, x10, x11, x12, x13, x14, x15, x16, x17, (.tup (items v)), x19, x20, x21, x22, x23])) = true := by
  simp only [t19, t20, t21, add2F_eq, sub2F_eq, mul2F_eq, fdiv2F_eq, mod2F_eq, lt2F_eq, le2F_eq, gt2F_eq, ge2F_eq, eq2F_eq, ne2F_eq, abs1F_eq, pSeeF_eq, pRdF_eq, pFzF_eq, p1F_eq, p2F_eq, pBinF_eq, pUnF_eq, pCallF_eq, pTupF_eq, pLstF_eq, pIteF_eq, pAndF_eq, pOrF_eq, pNotF_eq, pChnF_eq, pLcF_eq, sSeqF_eq, sIfF_eq, sAsgF_eq, sRetF_eq, sRetVF_eq, sForF_eq, forF_eq, lcLF_eq, wipesF_eq]
  kernel_rfl

theorem pow_b {a : Int} (ha : a.natAbs ≤ 60) : ∀ k : Nat, k ≤ 8 → (a ^ k).natAbs ≤ 60 ^ k := fun k _ => by
  rw [Int.natAbs_pow]; exact Nat.pow_le_pow_left ha k
theorem mul_b {a : Int} (ha : a.natAbs ≤ 60) {k : Nat} (hk : k ≤ 8) : mul2 (.int (a ^ k)) (.int a) = some (.int (a ^ (k + 1))) := by
  rw [mul2_ok, Int.pow_succ]
  have h1 : (a ^ k).natAbs < 2 ^ 60 := Nat.lt_of_le_of_lt (Nat.le_trans (pow_b ha k hk) (Nat.pow_le_pow_right (by decide) hk)) (by decide)
  have h2 := log2_lt h1 (by decide)
  have h3 : a.natAbs.log2 < 6 := log2_lt (by omega) (by decide)
  omega
theorem range_cons (j n : Nat) : rangeL (j : Int) (n + 1) = .int (j : Int) :: rangeL ((j + 1 : Nat) : Int) n := by
  unfold rangeL
  rw [List.range_succ_eq_map, List.map_cons, List.map_map]
  refine List.cons_eq_cons.mpr ⟨by simp, List.map_congr_left fun k _ => ?_⟩
  simp only [Function.comp_def]
  congr 1
  omega
theorem mul_loop (rt : RT) {a : Int} (ha : a.natAbs ≤ 60) : ∀ (n k : Nat) (z x0 x1 x3 x4 x5 x6 x7 x9 x10 x11 x12 x14 x15 x16 x17 x18 x19 x20 x21 x22 x23 : D), k + n ≤ 8 → ∃ w : D, forL (.nm 13) u11 rt (rangeL (k : Int) n) [x0, x1, .int (a ^ k), x3, x4, x5, x6, x7, .int a, x9, x10, x11, x12, z, x14, x15, x16, x17, x18, x19, x20, x21, x22, x23] = .next [x0, x1, .int (a ^ (k + n)), x3, x4, x5, x6, x7, .int a, x9, x10, x11, x12, w, x14, x15, x16, x17, x18, x19, x20, x21, x22, x23] := by
  intro n
  induction n with
  | zero => intro k z x0 x1 x3 x4 x5 x6 x7 x9 x10 x11 x12 x14 x15 x16 x17 x18 x19 x20 x21 x22 x23 h; exact ⟨z, rfl⟩
  | succ n ih =>
    intro k z x0 x1 x3 x4 x5 x6 x7 x9 x10 x11 x12 x14 x15 x16 x17 x18 x19 x20 x21 x22 x23 h
    obtain ⟨w, e⟩ := ih (k + 1) (.int (k : Int)) x0 x1 x3 x4 x5 x6 x7 x9 x10 x11 x12 x14 x15 x16 x17 x18 x19 x20 x21 x22 x23 (by omega)
    refine ⟨w, ?_⟩
    have : k + (n + 1) = k + 1 + n := by omega
    rw [this, ← e, range_cons]
    simp [forL, asg, u11, sAsg, eP, pN, pAll, pSee, oBin, Out.bind, mul_b ha (show k ≤ 8 by omega), sOut]
theorem pow_loop (rt : RT) {a : Int} (ha : a.natAbs ≤ 60) : ∀ (n k : Nat) (x z : D), k + n ≤ 8 → ∃ w : D, forL (.nm 3) (sAsg (.nm 2) (eP (pN (oBin mul2 (S "__mul__")) [(pSee 2), (pSee 0)]))) rt (rangeL (k : Int) n) [.int a, x, .int (a ^ k), z] = .next [.int a, x, .int (a ^ (k + n)), w] := by
  intro n
  induction n with
  | zero => intro k x z h; exact ⟨z, rfl⟩
  | succ n ih =>
    intro k x z h
    obtain ⟨w, e⟩ := ih (k + 1) x (.int (k : Int)) (by omega)
    refine ⟨w, ?_⟩
    have : k + (n + 1) = k + 1 + n := by omega
    rw [this, ← e, range_cons]
    simp [forL, asg, sAsg, eP, pN, pAll, pSee, oBin, Out.bind, mul_b ha (show k ≤ 8 by omega), sOut]
theorem power_ok (n : Nat) {a : Int} (ha : a.natAbs ≤ 60) {e : Nat} (he : e ≤ 8) : callF PP (n + 1) 5 [.int a, .int (e : Int)] = .ok (.int (a ^ e), .non) := by
  rw [callF_in at5 rfl]
  show runF b5 4 false (rtN PP n) [.int a, .int (e : Int)] = _
  obtain ⟨w, h⟩ := pow_loop (rtN PP n) ha e 0 (.int (e : Int)) .nul (by omega)
  have hr : range1 (.int (e : Int)) = some (rangeL 0 e) := by
    show (if -(sizeMax : Int) ≤ (e : Int) ∧ (e : Int) ≤ sizeMax then some (rangeL 0 (e : Int).toNat) else none) = _
    rw [if_pos (by have : (sizeMax : Int) = 16777216 := rfl; omega)]; rfl
  have frz : (rangeL 0 e).all isFrz = true := by
    rw [List.all_eq_true]
    intro d hd
    obtain ⟨j, _, rfl⟩ := List.mem_map.mp hd
    rfl
  have hlen : (rangeL 0 e).length ≤ sizeMax := by simp [rangeL]; have : sizeMax = 16777216 := rfl; omega
  have hrun : EItr.run ⟨fRange, [eP (pRd 1)]⟩ (rtN PP n) [.int a, .int (e : Int), .int 1, .nul] = .ok (rangeL 0 e, [.int a, .int (e : Int), .int 1, .nul]) := by
    simp only [EItr.run, eAllF, eAll, eP, Out.bind]
    have hp : pRd 1 (rtN PP n) [.int a, .int (e : Int), .int 1, .nul] = .ok (.int (e : Int)) := rfl
    simp only [hp, freezes, freeze, fRange, hr]
    rw [if_pos ⟨hlen, frz⟩]
  have h0 : forL (.nm 3) (sAsg (.nm 2) (eP (pN (oBin mul2 (S "__mul__")) [(pSee 2), (pSee 0)]))) (rtN PP n) (rangeL 0 e) [.int a, .int (e : Int), .int 1, .nul] = .next [.int a, .int (e : Int), .int (a ^ e), w] := by
    have := h
    simp only [Int.pow_zero, Nat.zero_add] at this
    exact this
  unfold runF b5
  have a1 : sAsg (.nm 2) (eP (pLit (.int 1))) (rtN PP n) [.int a, .int (e : Int), .nul, .nul] = .next [.int a, .int (e : Int), .int 1, .nul] := by simp [sAsg, eP, pLit, Out.bind, asg, sOut]
  show (match sSeq _ _ (rtN PP n) [.int a, .int (e : Int), .nul, .nul] with
    | .next e => ioOut false .non e
    | .ret d e => ioOut false d e
    | .exc c fs => .exc c fs
    | .bad => .bad) = _
  simp only [sSeq, a1, sFor, hrun, h0]
  rfl
/-- the numbers of choices: Pascal's rows -/
theorem choose_ok (n k : Nat) (hn : n < 30) (hk : k < 34) : ∃ c : Int, callF PP 99 3 [.int (n : Int), .int ((k : Int) - 2)] = .ok (.int c, .non) ∧
    ((0 ≤ (k : Int) - 2 ∧ (k : Int) - 2 ≤ (n : Int)) → ∃ row, callF PP 99 20 [.int (n : Int)] = .ok (row, .non) ∧ idxF (freeze row) (.int ((k : Int) - 2)) = some (.int c)) ∧ (¬ (0 ≤ (k : Int) - 2 ∧ (k : Int) - 2 ≤ (n : Int)) → c = 0) := by
  have h := all_lt kA n hn
  unfold okA at h
  split at h
  · rename_i row hrow
    have h := all_lt h k hk
    split at h
    · rename_i c hc
      refine ⟨c, hc, ?_⟩
      have e1 : iltF ((k : Int) - 2) 0 = decide ((k : Int) - 2 < 0) := (iltF_eq _ _).symm
      have e2 : iltF (n : Int) ((k : Int) - 2) = decide ((n : Int) < (k : Int) - 2) := (iltF_eq _ _).symm
      rw [e1, e2] at h
      by_cases c1 : (k : Int) - 2 < 0
      · rw [decide_eq_true c1] at h
        have h : ieqF c 0 = true := h
        rw [← ieqF_eq] at h
        exact ⟨fun z => by omega, fun _ => of_decide_eq_true h⟩
      · by_cases c2 : (n : Int) < (k : Int) - 2
        · rw [decide_eq_false c1, decide_eq_true c2] at h
          have h : ieqF c 0 = true := h
          rw [← ieqF_eq] at h
          exact ⟨fun z => by omega, fun _ => of_decide_eq_true h⟩
        · rw [decide_eq_false c1, decide_eq_false c2] at h
          refine ⟨fun _ => ⟨row, hrow, ?_⟩, fun z => by omega⟩
          have h : (match idxF (freeze row) (.int ((k : Int) - 2)) with
            | some (.int d) => ieqF d c
            | _ => false) = true := h
          split at h
          · rename_i d hd
            rw [← ieqF_eq] at h
            rw [hd, of_decide_eq_true h]
          · cases h
    · cases h
  · cases h


end Z.K00
end

section
set_option Elab.async false
set_option linter.all false
set_option maxRecDepth 100000
namespace Z.K00
open PySem Z
set_option maxHeartbeats 0 in
theorem law_true (ns : List Int) (h : ns.length ≤ 63) (hb : ∀ z ∈ ns, z.natAbs < pw 1048576) : ∃ r, callF (mkProg fns 100000) 100 21 [scr ns] = .ok (.bl true, r) := by
  rw [show mkProg fns 100000 = PP from fns_fast fns_eq 100000, callF_in (n := 99) at21 rfl]
  have hR' : rtN PP 99 = R := hR.symm
  show ∃ r, runF b21 24 false (rtN PP 99) [scr ns] = .ok (.bl true, r)
  rw [hR']
  show ∃ r, runF b21 24 false R [scr ns] = .ok (.bl true, r)
  have key : Good (fun _ => False) (b21 R [scr ns, .nul, .nul, .nul, .nul, .nul, .nul, .nul, .nul, .nul, .nul, .nul, .nul, .nul, .nul, .nul, .nul, .nul, .nul, .nul, .nul, .nul, .nul, .nul]) → ∃ r, runF b21 24 false R [scr ns] = .ok (.bl true, r) := fun g => by
    unfold runF
    show ∃ r, (match b21 R [scr ns, .nul, .nul, .nul, .nul, .nul, .nul, .nul, .nul, .nul, .nul, .nul, .nul, .nul, .nul, .nul, .nul, .nul, .nul, .nul, .nul, .nul, .nul, .nul] with
      | .next e => ioOut false .non e
      | .ret d e => ioOut false d e
      | .exc c fs => .exc c fs
      | .bad => .bad) = .ok (.bl true, r)
    cases e : b21 R [scr ns, .nul, .nul, .nul, .nul, .nul, .nul, .nul, .nul, .nul, .nul, .nul, .nul, .nul, .nul, .nul, .nul, .nul, .nul, .nul, .nul, .nul, .nul, .nul] with
    | next e1 => rw [e] at g; exact g.elim
    | ret d e1 => rw [e] at g; cases (show d = .bl true from g); exact ⟨.non, rfl⟩
    | exc c fs => rw [e] at g; exact g.elim
    | bad => rw [e] at g; exact g.elim
  apply key
  rw [b21_chain]
  obtain ⟨st, hs, ST0⟩ := state_ok (n := 98) at11 h hb
  -- the state of the draws
  have hs' : R.call 11 [scr ns] = .ok (st, .non) := by rw [R_call]; exact hs
  have io11 : R.tab.io 11 = false := by rw [R_io]; rfl
  unfold t0
  refine good_seq (good_asgP (x := st) ?_ ?_)
  · have hf : freeze (scr ns) = scr ns := by simp [scr, freeze]
    simp [pN, pAll, pFz, pRd, scr, isFrz, Out.bind, freeze, oCall, io11, allFrz]
    have hs2 : R.call 11 [.lst false (ns.map D.int)] = .ok (st, .non) := hs'
    rw [hs2]
  show Good _ (sSeq t1 _ R [scr ns, st, .nul, .nul, .nul, .nul, .nul, .nul, .nul, .nul, .nul, .nul, .nul, .nul, .nul, .nul, .nul, .nul, .nul, .nul, .nul, .nul, .nul, .nul])
  refine good_seq (look_good (k1 (scr ns) st) fun x0 x2 x3 x4 x5 x6 x7 x8 x9 x10 x11 x12 x13 x14 x15 x16 x17 x18 x19 x20 x21 x22 x23 => ?_)
  -- n, k
  obtain ⟨v4, s4, d4, l4, u4, ST4⟩ := draw (n := 98) (k := 12) (i := 1) (env := [x0, st, x2, x3, x4, x5, x6, x7, x8, x9, x10, x11, x12, x13, x14, x15, x16, x17, x18, x19, x20, x21, x22, x23]) (p := pLit (.int 30)) hR at12 rfl ST0 rfl (by decide) (lit_log (by decide))
  obtain ⟨v5, s5, d5, l5, u5', ST5⟩ := draw_sub (n := 98) (k := 12) (i := 1) (env := [x0, s4, x2, x3, x4, x5, x6, x7, x8, x9, x10, x11, x12, x13, x14, x15, x16, x17, x18, x19, x20, x21, x22, x23]) (p := pLit (.int 34)) (c := 2) (z := S "__sub__") hR at12 rfl ST4 rfl (by decide) (lit_log (by decide))
  refine good_seq (good_par (xs := [.int v4, .int (v5 - 2)]) (e := [x0, s5, x2, x3, x4, x5, x6, x7, x8, x9, x10, x11, x12, x13, x14, x15, x16, x17, x18, x19, x20, x21, x22, x23]) ?_ ?_)
  · have d5' : eN (oBin sub2 (S "__sub__")) [eIO 12 1 [eP (pLit (.int 34))], eP (pLit (.int 2))] R ([x0, st, x2, x3, x4, x5, x6, x7, x8, x9, x10, x11, x12, x13, x14, x15, x16, x17, x18, x19, x20, x21, x22, x23].set 1 s4) = .ok (.int (v5 - 2), [x0, s5, x2, x3, x4, x5, x6, x7, x8, x9, x10, x11, x12, x13, x14, x15, x16, x17, x18, x19, x20, x21, x22, x23]) := d5
    simp only [eAll, d4, Out.bind, d5']
  show Good _ (sSeq t3 _ R [x0, s5, x2, x3, .int v4, .int (v5 - 2), x6, x7, x8, x9, x10, x11, x12, x13, x14, x15, x16, x17, x18, x19, x20, x21, x22, x23])
  refine good_seq (good_fz (e := [x0, s5, x2, x3, .int v4, .int (v5 - 2), x6, x7, x8, x9, x10, x11, x12, x13, x14, x15, x16, x17, x18, x19, x20, x21, x22, x23]) rfl (good_chk ?_ ?_))
  · obtain ⟨n, rfl, hn⟩ := nat_of l4 u4
    obtain ⟨k, rfl, hk⟩ := nat_of l5 u5'
    obtain ⟨c, hc, c1, c2⟩ := choose_ok n k hn hk
    have hc' : R.call 3 [.int (n : Int), .int ((k : Int) - 2)] = .ok (.int c, .non) := by rw [R_call]; exact hc
    have hsame : R.call 15 [.int c, .int c] = .ok (.bl true, .non) := by
      have := same_int 97 c c
      rw [decide_eq_true rfl] at this
      rw [R_call]; exact this
    have io3 : R.tab.io 3 = false := by rw [R_io]; rfl
    have io15 : R.tab.io 15 = false := by rw [R_io]; rfl
    have io20 : R.tab.io 20 = false := by rw [R_io]; rfl
    by_cases hr : 0 ≤ (k : Int) - 2 ∧ (k : Int) - 2 ≤ (n : Int)
    · obtain ⟨row, hrow, hix⟩ := c1 hr
      have hrow' : R.call 20 [.int (n : Int)] = .ok (row, .non) := by rw [R_call]; exact hrow
      have q1 : le2 (.int 0) (.int ((k : Int) - 2)) = some (.bl true) := by show some (D.bl (decide _)) = _; rw [decide_eq_true hr.1]
      have q2 : le2 (.int ((k : Int) - 2)) (.int (n : Int)) = some (.bl true) := by show some (D.bl (decide _)) = _; rw [decide_eq_true hr.2]
      simp [pNot, pFz, pN, pAll, pRd, pSee, isFrz, freeze, oCall, io3, io15, io20, allFrz, hc', hrow', hsame, pIte, pChn, pLit, q1, q2, opt, asB, o2, hix, Out.bind]
    · have hz := c2 hr
      subst hz
      by_cases hr1 : 0 ≤ (k : Int) - 2
      · have q1 : le2 (.int 0) (.int ((k : Int) - 2)) = some (.bl true) := by show some (D.bl (decide _)) = _; rw [decide_eq_true hr1]
        have q2 : le2 (.int ((k : Int) - 2)) (.int (n : Int)) = some (.bl false) := by show some (D.bl (decide _)) = _; rw [decide_eq_false (fun z => hr ⟨hr1, z⟩)]
        simp [pNot, pFz, pN, pAll, pRd, pSee, isFrz, freeze, oCall, io3, io15, io20, allFrz, hc', hsame, pIte, pChn, pLit, q1, q2, opt, asB, o2, Out.bind]
      · have q1 : le2 (.int 0) (.int ((k : Int) - 2)) = some (.bl false) := by show some (D.bl (decide _)) = _; rw [decide_eq_false hr1]
        simp [pNot, pFz, pN, pAll, pRd, pSee, isFrz, freeze, oCall, io3, io15, io20, allFrz, hc', hsame, pIte, pChn, pLit, q1, opt, asB, o2, Out.bind]
  -- Catalan's numbers
  refine good_seq (good_asgP (x := .lst true [.int 1]) rfl ?_)
  show Good _ (sSeq t5 _ R [x0, s5, x2, x3, .int v4, .int (v5 - 2), .lst true [.int 1], x7, x8, x9, x10, x11, x12, x13, x14, x15, x16, x17, x18, x19, x20, x21, x22, x23])
  generalize (D.int v4) = x4
  generalize (D.int (v5 - 2)) = x5
  obtain ⟨v7, s7, d7, u7, ST7⟩ := draw_range (n := 98) (k := 12) (i := 1) (env := [x0, s5, x2, x3, x4, x5, .lst true [.int 1], x7, x8, x9, x10, x11, x12, x13, x14, x15, x16, x17, x18, x19, x20, x21, x22, x23]) (p := pLit (.int 20)) hR at12 rfl ST5 rfl (by decide) (by decide)
  have e56 : ∀ Q : Env → Prop, Good Q (sSeq (fun rt e => forL (.nm 7) u5 rt (rangeL 0 v7) e) t6 R [x0, s7, x2, x3, x4, x5, .lst true [.int 1], x7, x8, x9, x10, x11, x12, x13, x14, x15, x16, x17, x18, x19, x20, x21, x22, x23]) → Good (fun e => Good Q (t6 R e)) (t5 R [x0, s5, x2, x3, x4, x5, .lst true [.int 1], x7, x8, x9, x10, x11, x12, x13, x14, x15, x16, x17, x18, x19, x20, x21, x22, x23]) := fun Q g => by
    have e5 : t5 R [x0, s5, x2, x3, x4, x5, .lst true [.int 1], x7, x8, x9, x10, x11, x12, x13, x14, x15, x16, x17, x18, x19, x20, x21, x22, x23] = forL (.nm 7) u5 R (rangeL 0 v7) [x0, s7, x2, x3, x4, x5, .lst true [.int 1], x7, x8, x9, x10, x11, x12, x13, x14, x15, x16, x17, x18, x19, x20, x21, x22, x23] := by
      unfold t5 sFor
      rw [d7]; rfl
    rw [e5]
    have g : Good Q (sSeq (fun rt e => forL (.nm 7) u5 rt (rangeL 0 v7) e) t6 R [x0, s7, x2, x3, x4, x5, .lst true [.int 1], x7, x8, x9, x10, x11, x12, x13, x14, x15, x16, x17, x18, x19, x20, x21, x22, x23]) := g
    unfold sSeq at g
    simp only at g
    cases z : forL (.nm 7) u5 R (rangeL 0 v7) [x0, s7, x2, x3, x4, x5, .lst true [.int 1], x7, x8, x9, x10, x11, x12, x13, x14, x15, x16, x17, x18, x19, x20, x21, x22, x23] with
    | next e1 => rw [z] at g; exact g
    | ret d e1 => rw [z] at g; exact g
    | exc c fs => rw [z] at g; exact g
    | bad => rw [z] at g; exact g
  refine good_seq ?_
  have assoc : ∀ (r : SDen), (∀ e, Good (fun _ => False) (sSeq t6 r R e) ↔ Good (fun e => Good (fun _ => False) (r R e)) (t6 R e)) := fun r e => by
    unfold sSeq
    cases t6 R e <;> exact Iff.rfl
  simp only [assoc]
  refine e56 _ (look_good (map_get (kB s7 x0 x2 x3 x4 x5 x7 x8 x9 x10 x11 x12 x13 x14 x15 x16 x17 x18 x19 x20 x21 x22 x23) (by omega : v7 < 20)) fun x0 x2 x3 x4 x5 x6 x7 x8 x9 x10 x11 x12 x13 x14 x15 x16 x17 x18 x19 x20 x21 x22 x23 => ?_)
  -- a, b, e
  obtain ⟨v8, s8, d8, l8, u8, ST8⟩ := draw_sub (n := 98) (k := 12) (i := 1) (env := [x0, s7, x2, x3, x4, x5, x6, x7, x8, x9, x10, x11, x12, x13, x14, x15, x16, x17, x18, x19, x20, x21, x22, x23]) (p := pLit (.int 121)) (c := 60) (z := S "__sub__") hR at12 rfl ST7 rfl (by decide) (lit_log (by decide))
  obtain ⟨v9, s9, d9, l9, u9', ST9⟩ := draw_sub (n := 98) (k := 12) (i := 1) (env := [x0, s8, x2, x3, x4, x5, x6, x7, x8, x9, x10, x11, x12, x13, x14, x15, x16, x17, x18, x19, x20, x21, x22, x23]) (p := pLit (.int 121)) (c := 60) (z := S "__sub__") hR at12 rfl ST8 rfl (by decide) (lit_log (by decide))
  obtain ⟨v10, s10, d10, l10, u10, ST10⟩ := draw (n := 98) (k := 12) (i := 1) (env := [x0, s9, x2, x3, x4, x5, x6, x7, x8, x9, x10, x11, x12, x13, x14, x15, x16, x17, x18, x19, x20, x21, x22, x23]) (p := pLit (.int 9)) hR at12 rfl ST9 rfl (by decide) (lit_log (by decide))
  refine good_seq (good_par (xs := [.int (v8 - 60), .int (v9 - 60), .int v10]) (e := [x0, s10, x2, x3, x4, x5, x6, x7, x8, x9, x10, x11, x12, x13, x14, x15, x16, x17, x18, x19, x20, x21, x22, x23]) ?_ ?_)
  · have d9' : eN (oBin sub2 (S "__sub__")) [eIO 12 1 [eP (pLit (.int 121))], eP (pLit (.int 60))] R ([x0, s7, x2, x3, x4, x5, x6, x7, x8, x9, x10, x11, x12, x13, x14, x15, x16, x17, x18, x19, x20, x21, x22, x23].set 1 s8) = .ok (.int (v9 - 60), [x0, s9, x2, x3, x4, x5, x6, x7, x8, x9, x10, x11, x12, x13, x14, x15, x16, x17, x18, x19, x20, x21, x22, x23]) := d9
    have d10' : eIO 12 1 [eP (pLit (.int 9))] R [x0, s9, x2, x3, x4, x5, x6, x7, x8, x9, x10, x11, x12, x13, x14, x15, x16, x17, x18, x19, x20, x21, x22, x23] = .ok (.int v10, [x0, s10, x2, x3, x4, x5, x6, x7, x8, x9, x10, x11, x12, x13, x14, x15, x16, x17, x18, x19, x20, x21, x22, x23]) := d10
    simp only [eAll, d8, Out.bind, d9', d10']
  show Good _ (sSeq t8 _ R [x0, s10, x2, x3, x4, x5, x6, x7, .int (v8 - 60), .int (v9 - 60), .int v10, x11, x12, x13, x14, x15, x16, x17, x18, x19, x20, x21, x22, x23])
  refine good_seq (good_asgP (x := .int 0) rfl ?_)
  show Good _ (sSeq t9 _ R [x0, s10, x2, x3, x4, x5, x6, x7, .int (v8 - 60), .int (v9 - 60), .int v10, .int 0, x12, x13, x14, x15, x16, x17, x18, x19, x20, x21, x22, x23])
  have a60 : (v8 - 60).natAbs ≤ 60 := by omega
  have b60 : (v9 - 60).natAbs ≤ 60 := by omega
  obtain ⟨bst, w12, eb, g1, g2⟩ := best_loop R (v8 - 60) (v9 - 60) _ rfl 60 1 (.int 0) x12 x0 s10 x2 x3 x4 x5 x6 x7 (.int v10) x13 x14 x15 x16 x17 x18 x19 x20 x21 x22 x23 (by decide) (fun _ _ => trivial) ⟨0, rfl, fun _ z => by omega, fun _ => rfl⟩
  have hbst : bst = (Nat.gcd (v8 - 60).natAbs (v9 - 60).natAbs : Nat) := by
    by_cases hg : Nat.gcd (v8 - 60).natAbs (v9 - 60).natAbs = 0
    · rw [g2 hg, hg]; rfl
    · refine g1 hg ?_
      by_cases ha : (v8 - 60).natAbs = 0
      · have : Nat.gcd (v8 - 60).natAbs (v9 - 60).natAbs = (v9 - 60).natAbs := by rw [ha, Nat.gcd_zero_left]
        omega
      · have := Nat.le_of_dvd (Nat.pos_of_ne_zero ha) (Nat.gcd_dvd_left (v8 - 60).natAbs (v9 - 60).natAbs)
        omega
  subst hbst
  refine good_seq (good_next (e := [x0, s10, x2, x3, x4, x5, x6, x7, .int (v8 - 60), .int (v9 - 60), .int v10, .int (Nat.gcd (v8 - 60).natAbs (v9 - 60).natAbs : Nat), w12, x13, x14, x15, x16, x17, x18, x19, x20, x21, x22, x23]) ?_ ?_)
  · rw [← eb]; rfl
  refine good_seq (good_asgP (x := .int 1) rfl ?_)
  show Good _ (sSeq t11 _ R [x0, s10, .int 1, x3, x4, x5, x6, x7, .int (v8 - 60), .int (v9 - 60), .int v10, .int (Nat.gcd (v8 - 60).natAbs (v9 - 60).natAbs : Nat), w12, x13, x14, x15, x16, x17, x18, x19, x20, x21, x22, x23])
  obtain ⟨e, rfl, he⟩ := nat_of l10 u10
  have he : e ≤ 8 := by have : (9 : Int).toNat = 9 := rfl; omega
  obtain ⟨w13, ew⟩ := mul_loop R a60 e 0 x13 x0 s10 x3 x4 x5 x6 x7 (.int (v9 - 60)) (.int (e : Int)) (.int (Nat.gcd (v8 - 60).natAbs (v9 - 60).natAbs : Nat)) w12 x14 x15 x16 x17 x18 x19 x20 x21 x22 x23 (by omega)
  refine good_seq (good_fz (e := [x0, s10, .int 1, x3, x4, x5, x6, x7, .int (v8 - 60), .int (v9 - 60), .int (e : Int), .int (Nat.gcd (v8 - 60).natAbs (v9 - 60).natAbs : Nat), w12, x13, x14, x15, x16, x17, x18, x19, x20, x21, x22, x23]) rfl (good_next (e := [x0, s10, .int ((v8 - 60) ^ e), x3, x4, x5, x6, x7, .int (v8 - 60), .int (v9 - 60), .int (e : Int), .int (Nat.gcd (v8 - 60).natAbs (v9 - 60).natAbs : Nat), w12, w13, x14, x15, x16, x17, x18, x19, x20, x21, x22, x23]) ?_ ?_))
  · have hr : range1 (.int (e : Int)) = some (rangeL 0 e) := by
      show (if -(sizeMax : Int) ≤ (e : Int) ∧ (e : Int) ≤ sizeMax then some (rangeL 0 (e : Int).toNat) else none) = _
      rw [if_pos (by have : (sizeMax : Int) = 16777216 := rfl; omega)]; rfl
    have frz : (rangeL 0 e).all isFrz = true := by
      rw [List.all_eq_true]
      intro d hd
      obtain ⟨j, _, rfl⟩ := List.mem_map.mp hd
      rfl
    have hlen : (rangeL 0 e).length ≤ sizeMax := by simp [rangeL]; have : sizeMax = 16777216 := rfl; omega
    have hrun : ∀ E : Env, E.getD 10 .nul = .int (e : Int) → EItr.run ⟨fRange, [eP (pRd 10)]⟩ R E = .ok (rangeL 0 e, E) := fun E hE => by
      have hp : pRd 10 R E = .ok (.int (e : Int)) := by unfold pRd; rw [hE]; rfl
      simp only [EItr.run, eAllF, eAll, eP, Out.bind, hp, freezes, freeze, fRange, hr]
      rw [if_pos ⟨hlen, frz⟩]
    have h0 := ew
    simp only [Int.pow_zero, Nat.zero_add] at h0
    unfold sFor
    rw [hrun _ rfl]
    exact h0
  -- the checks of these
  refine good_seq (good_fz (e := [x0, s10, .int ((v8 - 60) ^ e), x3, x4, x5, x6, x7, .int (v8 - 60), .int (v9 - 60), .int (e : Int), .int (Nat.gcd (v8 - 60).natAbs (v9 - 60).natAbs : Nat), w12, w13, x14, x15, x16, x17, x18, x19, x20, x21, x22, x23]) rfl (good_chk ?_ ?_))
  · have io2 : R.tab.io 2 = false := by rw [R_io]; rfl
    have io5 : R.tab.io 5 = false := by rw [R_io]; rfl
    have io15 : R.tab.io 15 = false := by rw [R_io]; rfl
    have hsame : ∀ c : Int, R.call 15 [.int c, .int c] = .ok (.bl true, .non) := fun c => by
      have := same_int 97 c c
      rw [decide_eq_true rfl] at this
      rw [R_call]; exact this
    have hc : R.call 2 [.int (v8 - 60), .int (v9 - 60)] = .ok (.int (Nat.gcd (v8 - 60).natAbs (v9 - 60).natAbs : Nat), .non) := by rw [R_call]; exact common_ok 98 _ _ (by omega)
    have hp : R.call 5 [.int (v8 - 60), .int (e : Int)] = .ok (.int ((v8 - 60) ^ e), .non) := by rw [R_call]; exact power_ok 98 a60 he
    have hc0 : R.call 2 [.int 0, .int 0] = .ok (.int 0, .non) := by rw [R_call]; exact common_ok 98 0 0 (by decide)
    have hp0 : R.call 5 [.int 0, .int 0] = .ok (.int 1, .non) := by rw [R_call]; exact power_ok 98 (a := 0) (e := 0) (by decide) (by decide)
    simp [pOr, pNot, pFz, pN, pAll, pRd, isFrz, freeze, oCall, io2, io5, io15, allFrz, hc, hp, hc0, hp0, hsame, pLit, asB, Out.bind]
  have h8 : v8 - 60 = ((v8.toNat : Nat) : Int) - 60 := by omega
  rw [show (D.int (v8 - 60)) = D.int (((v8.toNat : Nat) : Int) - 60) from by rw [← h8]]
  generalize (D.int ((v8 - 60) ^ e)) = x2
  generalize (D.int (v9 - 60)) = x9
  generalize (D.int (e : Int)) = x10
  generalize (D.int (Nat.gcd (v8 - 60).natAbs (v9 - 60).natAbs : Nat)) = x11
  refine good_seq (look_good (map_get (kD s10 x0 x2 x3 x4 x5 x6 x7 x9 x10 x11 w12 w13 x14 x15 x16 x17 x18 x19 x20 x21 x22 x23) (by omega : v8.toNat < 121)) fun x0 x2 x3 x4 x5 x6 x7 x8 x9 x10 x11 x12 x13 x14 x15 x16 x17 x18 x19 x20 x21 x22 x23 => ?_)
  -- m, size
  obtain ⟨v14, s14, d14, l14, u14, ST14⟩ := draw (n := 98) (k := 12) (i := 1) (env := [x0, s10, x2, x3, x4, x5, x6, x7, x8, x9, x10, x11, x12, x13, x14, x15, x16, x17, x18, x19, x20, x21, x22, x23]) (p := pLit (.int 7)) hR at12 rfl ST10 rfl (by decide) (lit_log (by decide))
  obtain ⟨v15, s15, d15, l15, u15, ST15⟩ := draw (n := 98) (k := 12) (i := 1) (env := [x0, s14, x2, x3, x4, x5, x6, x7, x8, x9, x10, x11, x12, x13, x14, x15, x16, x17, x18, x19, x20, x21, x22, x23]) (p := pLit (.int 5)) hR at12 rfl ST14 rfl (by decide) (lit_log (by decide))
  refine good_seq (good_next (e := [x0, s15, x2, x3, x4, x5, x6, x7, x8, x9, x10, x11, x12, x13, .int v14, .int v15, x16, x17, x18, x19, x20, x21, x22, x23]) ?_ ?_)
  · have d15' : eIO 12 1 [eP (pLit (.int 5))] R ([x0, s10, x2, x3, x4, x5, x6, x7, x8, x9, x10, x11, x12, x13, x14, x15, x16, x17, x18, x19, x20, x21, x22, x23].set 1 s14) = .ok (.int v15, [x0, s15, x2, x3, x4, x5, x6, x7, x8, x9, x10, x11, x12, x13, x14, x15, x16, x17, x18, x19, x20, x21, x22, x23]) := d15
    have e14 : eN oTup [eIO 12 1 [eP (pLit (.int 7))], eIO 12 1 [eP (pLit (.int 5))]] R [x0, s10, x2, x3, x4, x5, x6, x7, x8, x9, x10, x11, x12, x13, x14, x15, x16, x17, x18, x19, x20, x21, x22, x23] = .ok (.tup [.int v14, .int v15], [x0, s15, x2, x3, x4, x5, x6, x7, x8, x9, x10, x11, x12, x13, x14, x15, x16, x17, x18, x19, x20, x21, x22, x23]) := by
      simp only [eN, eAllF, eAll, d14, d15', Out.bind, freezes, freeze, oTup]
      rfl
    unfold t14 sAsg
    rw [e14]; rfl
  obtain ⟨m, rfl, hm⟩ := nat_of l14 u14
  obtain ⟨z, rfl, hz⟩ := nat_of l15 u15
  have assoc3 : ∀ (r : SDen) (E : Env), Good (fun e => Good (fun _ => False) (r R e)) (sSeq t15 (sSeq t16 t17) R E) → Good (fun _ => False) (sSeq t15 (sSeq t16 (sSeq t17 r)) R E) := fun r E g => by
    unfold sSeq at g ⊢
    cases h1 : t15 R E with
    | next e1 =>
      rw [h1] at g
      simp only at g ⊢
      cases h2 : t16 R e1 with
      | next e2 =>
        rw [h2] at g
        simp only at g ⊢
        cases h3 : t17 R e2 with
        | next e3 => rw [h3] at g; exact g
        | ret d e3 => rw [h3] at g; exact g
        | exc c fs => rw [h3] at g; exact g
        | bad => rw [h3] at g; exact g
      | ret d e2 => rw [h2] at g; exact g
      | exc c fs => rw [h2] at g; exact g
      | bad => rw [h2] at g; exact g
    | ret d e1 => rw [h1] at g; exact g
    | exc c fs => rw [h1] at g; exact g
    | bad => rw [h1] at g; exact g
  have kE' := map_get (map_get (kE s15 x0 x2 x3 x4 x5 x6 x7 x8 x9 x10 x11 x12 x13 x16 x17 x18 x19 x20 x21 x22 x23) (show m < 7 from hm)) (show z < 5 from hz)
  refine assoc3 _ _ (look_good kE' fun x0 x2 x3 x4 x5 x6 x7 x8 x9 x10 x11 x12 x13 x14 x15 x16 x17 x18 x19 x20 x21 x22 x23 => ?_)
  -- orders
  obtain ⟨v18, s18, d18, u18, ST18⟩ := draw_range (n := 98) (k := 12) (i := 1) (env := [x0, s15, x2, x3, x4, x5, x6, x7, x8, x9, x10, x11, x12, x13, x14, x15, x16, x17, x18, x19, x20, x21, x22, x23]) (p := pLit (.int 5)) hR at12 rfl ST15 rfl (by decide) (by decide)
  have h18 : v18 < 5 := by omega
  have kF' : lcL (.nm 20) pTrue eF R (wipes [19, 20] [x0, s18, x2, x3, x4, x5, x6, x7, x8, x9, x10, x11, x12, x13, x14, x15, x16, x17, x18, x19, x20, x21, x22, x23]) (rangeL 0 v18) = .ok (items v18) := by
    have := congrArg (fun l => l[v18]?) (kF x0 s18 x2 x3 x4 x5 x6 x7 x8 x9 x10 x11 x12 x13 x14 x15 x16 x17 x18 x19 x20 x21 x22 x23)
    simp only [List.getElem?_map, List.getElem?_range h18, Option.map_some] at this
    exact Option.some.inj this
  refine good_seq (good_asg (x := .tup (items v18)) (e := [x0, s18, x2, x3, x4, x5, x6, x7, x8, x9, x10, x11, x12, x13, x14, x15, x16, x17, x18, x19, x20, x21, x22, x23]) ?_ ?_)
  · have e18 : eLcP ⟨fRange, [eIO 12 1 [eP (pLit (.int 5))]]⟩ (.nm 20) pTrue eF [19, 20] R [x0, s15, x2, x3, x4, x5, x6, x7, x8, x9, x10, x11, x12, x13, x14, x15, x16, x17, x18, x19, x20, x21, x22, x23] = .ok (.lst true (items v18), [x0, s18, x2, x3, x4, x5, x6, x7, x8, x9, x10, x11, x12, x13, x14, x15, x16, x17, x18, x19, x20, x21, x22, x23]) := by
      unfold eLcP
      rw [d18]
      show (noExc (lcL (.nm 20) pTrue eF R (wipes [19, 20] [x0, s18, x2, x3, x4, x5, x6, x7, x8, x9, x10, x11, x12, x13, x14, x15, x16, x17, x18, x19, x20, x21, x22, x23]) (rangeL 0 v18))).bind _ = _
      rw [kF']; rfl
    have e18' : ∀ d : Den, d = eLcP ⟨fRange, [eIO 12 1 [eP (pLit (.int 5))]]⟩ (.nm 20) pTrue eF [19, 20] → eN (o1 tuple1) [d] R [x0, s15, x2, x3, x4, x5, x6, x7, x8, x9, x10, x11, x12, x13, x14, x15, x16, x17, x18, x19, x20, x21, x22, x23] = .ok (.tup (items v18), [x0, s18, x2, x3, x4, x5, x6, x7, x8, x9, x10, x11, x12, x13, x14, x15, x16, x17, x18, x19, x20, x21, x22, x23]) := fun d hd => by
      subst hd
      simp only [eN, eAllF, eAll, e18, Out.bind, freezes, freeze]
      have frzI : (items v18).all isFrz = true := by
        rw [List.all_eq_true]
        intro d hd
        obtain ⟨j, _, rfl⟩ := List.mem_map.mp hd
        rfl
      have frzE : freezes (items v18) = items v18 := by
        unfold items
        generalize List.range v18 = l
        induction l with
        | nil => rfl
        | cons a l ih => simp only [List.map_cons, freezes, freeze]; rw [ih]
      rw [frzE]
      show (opt ((if (items v18).all isFrz = true then some (items v18) else none).map D.tup)).bind _ = _
      rw [if_pos frzI]; rfl
    exact e18' _ rfl
  show Good _ (sSeq t19 _ R [x0, s18, x2, x3, x4, x5, x6, x7, x8, x9, x10, x11, x12, x13, x14, x15, x16, x17, .tup (items v18), x19, x20, x21, x22, x23])
  exact isRetT_good (all_lt (kG s18 x0 x2 x3 x4 x5 x6 x7 x8 x9 x10 x11 x12 x13 x14 x15 x16 x17 x19 x20 x21 x22 x23) v18 h18)

end Z.K00
end

section
set_option Elab.async false
set_option linter.all false
set_option maxRecDepth 100000
set_option maxHeartbeats 0
open PySem PySem.W PySem.Calls PyProof.Rows
theorem PySem.Challenge.cw_friezeroads_k00_whole_integers_and_choic_holds : PySem.Challenge.rw_friezeroads_k00_whole_integers_and_choic.Holds := by
  w_on; o_law
  refine HandSHeadRun.head_any (r := OpenLaw.row PySem.Challenge.rw_friezeroads_k00_whole_integers_and_choic) (q := view (OpenLaw.row PySem.Challenge.rw_friezeroads_k00_whole_integers_and_choic).prog [27]) (H := Z.K00.hk) (ob := Z.K00.ob) (M := 4000) (loose := Z.K00.loose) (d := HandSHeadRun.topDef (OpenLaw.row PySem.Challenge.rw_friezeroads_k00_whole_integers_and_choic).prog 27) (kwd := []) Z.K00.ob_eq
    (by kernel_rfl) (fun s => by kernel_rfl) Z.K00.run (by kernel_rfl) (by kernel_rfl) (by kernel_rfl) (by rfl) (by first | assumption | decide +kernel) (by decide +kernel) ⟨rfl, rfl, rfl, rfl, rfl, by decide +kernel⟩ ?hw ?hc
  case hw => w_witness2
  case hc => exact Z.walkZ (b := Z.K00.bb) (li := 21) (s := Z.K00.bb.getD 27 (.Pass ⟨0, 0, 0, 0⟩)) (x := "script") rfl (by kernel_rfl) ⟨rfl, by decide, by decide⟩ (by kernel_rfl) (by kernel_rfl) (by kernel_rfl) (by kernel_rfl) Z.K00.oks Z.K00.rows rfl Z.K00.law_true
end
