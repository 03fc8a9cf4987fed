import PyProof.Rows.All
import Wide.All
import OpenK.AllK
import Wide.FinOn
import KE.SortData
import PyProof.ReprReads
import HandS.Base
import HandS.Call
import HandS.List
import HandS.Wide
import HandS.Gcd
import HandS.Comp
import HandS.ForMost
import HandS.ForExc
import KE.KeyNested
import KE.KDictKeyed
import KE.KDictWalk
import HandS.TupAny
import HandS.TupLe
import HandS.TupMul
import HandS.Deep
import KE.SortLaws
import KE.SortCalls
import KE.KDictCopyH
import KE.KDictSum
import KE.KTupSum
import HandS.TupLen
import HandS.SortKw
import HandS.Dict
import HandS.RaiseMore
import PyProof.ListCopy
import HandS.Style
import HandS.Text
import PyProof.FactsAll.tuple_2
import PyProof.FactsAll.list_3
import PyProof.SeqIndex
import HandS.Defaults
import OpenK.KMore
import HandS.Iter
import HandS.Walk
import HandS.Zip
import HandS.IsInst
import HandS.Small
import KE.KDictPairs
import HandS.DictComp
import HandS.Conv
import HandS.Ends
import HandS.HeadEnd
import HandS.Head2
import HandS.HeadHook1
import HandS.HeadHook2
import KE.KStateDown
import HandS.More
import HandS.Words
import HandS.WordsExc
import HandS.Head3
import PySem.Challenge.RW_shufflebook_k50_whole_squares_of_orders
set_option Elab.async false
set_option linter.all false
set_option maxRecDepth 100000
set_option maxHeartbeats 4000000
/-! Ev: an intermediate form of the Python that the laws use, and its evaluator over data. -/
namespace Ev
open PySem PySem.W

/-- a value: nothing yet; data that nobody changes; a def of the module; the script; a tuple with an own thing in it; an own list, an own dict (unshared, changed in place) -/
inductive T where
  | un
  | d (x : PyData)
  | fn (i : Nat)
  | fz (xs : List PyData)
  | tup (ts : List T)
  | lst (ts : List T)
  | dct (ks : List PyData) (ts : List T)
  | lk (o : PySem.Obj) (u : L2.HO)
  deriving Inhabited

mutual
/-- as plain data -/
def T.data : T → Option PyData
  | .un => none
  | .d x => some x
  | .fn _ => none
  | .fz _ => none
  | .lk _ _ => none
  | .tup ts => match T.datas ts with | some xs => some (.tuple xs) | none => none
  | .lst ts => match T.datas ts with | some xs => some (.list xs) | none => none
  | .dct ks ts => match T.datas ts with | some xs => some (.dict (ks.zip xs)) | none => none
def T.datas : List T → Option (List PyData)
  | [] => some []
  | t :: ts => match T.data t with
    | some x => match T.datas ts with
      | some xs => some (x :: xs)
      | none => none
    | none => none
end

inductive Op where | add | sub | mul | fdiv | mod | pow
inductive Cop where | eq | ne | lt | le | gt | ge | isin | notin
inductive Ty where | int | str | bool | tuple | list | dict
inductive Blt where | len | int | tuple | list | all | any | sum | abs | min2 | max2 | sorted | sortedR | repr | gcd | dictP | str
inductive Mth where | append | pop | popAt | index | count | get1 | get2 | update | extend

mutual
inductive Tg where
  | nm (i : Nat)
  | tup (ts : Tgs)
inductive Tgs where
  | nil
  | cons (t : Tg) (ts : Tgs)
end
mutual
inductive IE where
  | bad
  | v (i : Nat)
  | mv (i : Nat)
  | k (c : PyData)
  | g (i : Nat)
  | fnv (i : Nat)
  | bin (op : Op) (a b : IE)
  | neg (a : IE)
  | not (a : IE)
  | and (a b : IE)
  | or (a b : IE)
  | ife (c a b : IE)
  | cmp (op : Cop) (a b : IE)
  | chain (o1 o2 : Cop) (a b c : IE)
  | isN (a : IE)
  | notN (a : IE)
  | tup (es : IEs)
  | lst (es : IEs)
  | dct (kvs : IEs)
  | idx (a i : IE)
  | slc (a : IE) (lo hi : IEo)
  | lrng (it : It)
  | trng (it : It)
  | rev (a : IE)
  | isi (ts : List Ty) (a : IE)
  | call (f : Nat) (es ks : IEs)
  | blt (b : Blt) (es : IEs)
  | mth (m : Mth) (o : IE) (es : IEs)
  | lc (own : List Nat) (elt : IE) (tg : Tg) (it : It) (c : IEo)
  | lc2 (own : List Nat) (elt : IE) (tg : Tg) (it : It) (tg1 : Tg) (it1 : It) (c : IEo)
  | dc (own : List Nat) (ke ve : IE) (tg : Tg) (it : It) (c : IEo)
inductive IEs where
  | nil
  | cons (e : IE) (es : IEs)
inductive IEo where
  | no
  | yes (e : IE)
inductive It where
  | seq (e : IE)
  | rng1 (a : IE)
  | rng2 (a b : IE)
  | zip2 (a b : IE)
  | enm (a : IE)
  | items (a : IE)
end

/-- targets of a parallel assignment: names, places -/
inductive Lgs where
  | nil
  | nm (i : Nat) (r : Lgs)
  | sb (o i : IE) (r : Lgs)
mutual
inductive IS where
  | bad
  | pass
  | set (tg : Tg) (e : IE)
  | sets (tgs : Lgs) (es : IEs)
  | sub (o i e : IE)
  | aug (i : Nat) (op : Op) (e : IE)
  | ex (e : IE)
  | ite (c : IE) (a b : ISs)
  | fr (tg : Tg) (it : It) (b : ISs)
  | wh (c : IE) (b : ISs)
  | ret (e : IE)
  | retN
  | brk
  | cnt
inductive ISs where
  | nil
  | cons (s : IS) (ss : ISs)
end

/-! ### answers -/
structure Ex where
  c : Nat
  f : PyData
inductive R (α : Type) where
  | ok (a : α) (δ : List T)
  | exn (e : Ex) (δ : List T)
  | no
inductive RS where
  | nx (δ : List T)
  | ret (t : T) (δ : List T)
  | bk (δ : List T)
  | ct (δ : List T)
  | exn (e : Ex) (δ : List T)
  | no
inductive CR where
  | ok (t : T) (ts : List T)
  | exn (e : Ex) (ts : List T)
  | no
structure Cf where
  call : Nat → List T → CR
  gd : List PyData
  fl : Nat → List Bool
  df : Nat → Nat → List PyData
  wf : Nat

@[reducible] def R.bind {α β : Type} (r : R α) (f : α → List T → R β) : R β := match r with
  | .ok a δ => f a δ
  | .exn e δ => .exn e δ
  | .no => .no
/-- a part that may not be there -/
@[reducible] def R.of {α : Type} (o : Option α) (δ : List T) : R α := match o with
  | some a => .ok a δ
  | none => .no

/-! ### lists -/
def nth {α : Type} : List α → Nat → Option α
  | [], _ => none
  | x :: _, 0 => some x
  | _ :: xs, n + 1 => nth xs n
def put {α : Type} : List α → Nat → α → List α
  | [], _, _ => []
  | _ :: xs, 0, y => y :: xs
  | x :: xs, n + 1, y => x :: put xs n y
def ixOf (n : Nat) : Int → Option Nat
  | .ofNat i => if i < n then some i else none
  | .negSucc i => if i < n then some (n - 1 - i) else none
def cut {α : Type} (xs : List α) (lo hi : Option Int) : List α := (xs.drop (HT.sIx xs.length 0 lo)).take (HT.sIx xs.length xs.length hi - HT.sIx xs.length 0 lo)
def whole {α : Type} (xs : List α) (lo hi : Option Int) : Bool := HT.sIx xs.length 0 lo == 0 && HT.sIx xs.length xs.length hi == xs.length

/-! ### data -/
def small (n : Nat) : Bool := Nat.ble n sizeLine
/- two keys -/
mutual
def keq : PyData → PyData → Bool
  | .int i, .int j => i == j
  | .str x, .str y => x == y
  | .tuple xs, .tuple ys => keqs xs ys
  | .none, .none => true
  | _, _ => false
def keqs : List PyData → List PyData → Bool
  | [], [] => true
  | x :: xs, y :: ys => keq x y && keqs xs ys
  | _, _ => false
end
/-- parts of a key -/
def nkOk : Nat → PyData → Bool
  | _, .int _ => true
  | _, .str _ => true
  | _, .none => true
  | n + 1, .tuple xs => xs.all (nkOk n)
  | _, _ => false
/-- what sort of key -/
def kcls : PyData → Option Bool
  | .int _ => some false
  | .str _ => some false
  | .tuple xs => if nkOk 8 (.tuple xs) then some true else none
  | _ => none
/-- a key for a dict with these keys -/
def kfit (ks : List PyData) (k : PyData) : Bool := match kcls k with
  | none => false
  | some b => match ks with
    | [] => true
    | k' :: _ => kcls k' == some b
def kix : List PyData → PyData → Option Nat
  | [], _ => none
  | k' :: ks, k => if keq k' k then some 0 else match kix ks k with
    | some n => some (n + 1)
    | none => none
def dput {α : Type} (ks : List PyData) (vs : List α) (k : PyData) (v : α) : List PyData × List α := match kix ks k with
  | some n => (ks, put vs n v)
  | none => (ks ++ [k], vs ++ [v])

def shp (x : PyData) : Bool := SeqAt.shaped x
def eqP : PyData → PyData → Option Bool
  | .int i, .int j => some (i == j)
  | .bool i, .bool j => some (i == j)
  | .str x, .str y => some (x == y)
  | .none, .none => some true
  | x, y => if shp x && shp y then some (PyData.eqv x y) else none
def intOf : PyData → Option Int
  | .int i => some i
  | _ => none
def mulOk (i j : Int) : Bool := Nat.blt (i.natAbs.log2 + j.natAbs.log2) 1000000
def divOk (j : Int) : Bool := !(j == 0) && Nat.blt j.natAbs.log2 9000
def powOk (i j : Int) : Bool := decide (0 ≤ j) && decide (j ≤ 1000000) && Nat.blt i.natAbs 18446744073709551616
def op2 : Op → PyData → PyData → Option T
  | .add, .int i, .int j => some (.d (.int (i + j)))
  | .add, .str x, .str y => if small (x.length + y.length) then some (.d (.str (x ++ y))) else none
  | .add, .tuple xs, .tuple ys => if small (xs.length + ys.length) then some (.d (.tuple (xs ++ ys))) else none
  | .add, .list xs, .list ys => if small (xs.length + ys.length) then some (.lst ((xs ++ ys).map .d)) else none
  | .sub, .int i, .int j => some (.d (.int (i - j)))
  | .mul, .int i, .int j => if mulOk i j then some (.d (.int (i * j))) else none
  | .mul, .list xs, .int j => if decide (-(2 ^ 63) ≤ j) && decide (j < 2 ^ 63) && small (xs.length * j.toNat) then some (.lst (((List.replicate j.toNat xs).flatten).map .d)) else none
  | .mul, .tuple xs, .int j => if decide (1 ≤ j) && decide (j ≤ 1000) && !xs.isEmpty && Nat.ble xs.length 1000 then some (.d (.tuple (List.replicate j.toNat xs).flatten)) else none
  | .fdiv, .int i, .int j => if divOk j then some (.d (.int (i.fdiv j))) else none
  | .mod, .int i, .int j => if !(j == 0) then some (.d (.int (i.fmod j))) else none
  | .pow, .int i, .int j => if powOk i j then some (.d (.int (i ^ j.toNat))) else none
  | _, _, _ => none
def strLt (x y : Str) : Bool := decide (x.cps.toList < y.cps.toList)
def intsOf : List PyData → Option (List Int)
  | [] => some []
  | .int b :: xs => (intsOf xs).map (b :: ·)
  | _ => none
def ltD (x y : PyData) : Option Bool := match x, y with
  | .int i, .int j => some (decide (i < j))
  | .str x, .str y => some (strLt x y)
  | .tuple xs, .tuple ys => match intsOf xs with
    | some is => match intsOf ys with
      | some js => some (HT.lexLt is js)
      | none => none
    | none => none
  | _, _ => none
def isInD (x : PyData) : PyData → Option Bool
  | .list ys => if shp x && shp (.list ys) then some (ys.any fun y => PyData.eqv y x) else none
  | .tuple ys => if shp x && shp (.tuple ys) then some (ys.any fun y => PyData.eqv y x) else none
  | .dict kvs => if kfit (kvs.map (·.1)) x then some ((kix (kvs.map (·.1)) x).isSome) else none
  | _ => none
def cmpD : Cop → PyData → PyData → Option Bool
  | .eq, x, y => eqP x y
  | .ne, x, y => (eqP x y).map (!·)
  | .lt, x, y => ltD x y
  | .gt, .int i, .int j => some (decide (j < i))
  | .le, .int i, .int j => some (decide (i ≤ j))
  | .ge, .int i, .int j => some (decide (j ≤ i))
  | .gt, _, _ => none
  | .le, _, _ => none
  | .ge, _, _ => none
  | .isin, x, y => isInD x y
  | .notin, x, y => (isInD x y).map (!·)
def isTy : Ty → PyData → Bool
  | .int, .int _ => true
  | .int, .bool _ => true
  | .bool, .bool _ => true
  | .str, .str _ => true
  | .tuple, .tuple _ => true
  | .list, .list _ => true
  | .dict, .dict _ => true
  | _, _ => false
def boolsOf : List PyData → Option (List Bool)
  | [] => some []
  | .bool b :: xs => (boolsOf xs).map (b :: ·)
  | _ => none
def seqOf : PyData → Option (List PyData)
  | .list xs => some xs
  | .tuple xs => some xs
  | _ => none
def insL (le : PyData → PyData → Bool) (x : PyData) : List PyData → List PyData
  | [] => [x]
  | y :: ys => if le x y then x :: y :: ys else y :: insL le x ys
def srtL (le : PyData → PyData → Bool) : List PyData → List PyData
  | [] => []
  | x :: xs => insL le x (srtL le xs)
def isIntD : PyData → Bool
  | .int _ => true
  | _ => false
def isStrD : PyData → Bool
  | .str _ => true
  | _ => false
def isTupI : PyData → Bool
  | .tuple (x :: xs) => (x :: xs).all isIntD
  | _ => false
def isTup1 : PyData → Bool
  | .tuple (_ :: _) => true
  | _ => false
def noTupNone : PyData → Bool
  | .none => false
  | .tuple _ => false
  | _ => true
def srtOk (xs : List PyData) : Bool := xs.all isIntD || xs.all isStrD || xs.all isTupI ||
  ((xs.all fun x => xs.all fun y => alike x y) && (xs.all isTup1 || xs.all noTupNone) && (xs.all fun x => Nat.ble x.depth 64))
def srtD (rev : Bool) (xs : List PyData) : Option (List PyData) :=
  if srtOk xs then some (srtL (dataLe rev id) xs) else none
def pairsOf : List PyData → Option (List (PyData × PyData))
  | [] => some []
  | .tuple [a, b] :: xs => (pairsOf xs).map ((a, b) :: ·)
  | _ => none
def dictOf (ps : List (PyData × PyData)) : Option (List PyData × List PyData) := ps.foldl (fun (o : Option (List PyData × List PyData)) p => match o with
  | none => none
  | some (ks, vs) => if kfit ks p.1 then some (dput ks vs p.1 p.2) else none) (some ([], []))
def lenD : List PyData → Option T
  | [.str x] => if small x.length then some (.d (.int x.length)) else none
  | [.list xs] => some (.d (.int xs.length))
  | [.tuple xs] => some (.d (.int xs.length))
  | [.dict xs] => some (.d (.int xs.length))
  | _ => none
def intD : List PyData → Option T
  | [.int i] => some (.d (.int i))
  | [.bool b] => some (.d (.int (if b then 1 else 0)))
  | _ => none
def tupD : List PyData → Option T
  | [.list xs] => some (.d (.tuple xs))
  | [.tuple xs] => some (.d (.tuple xs))
  | _ => none
def lstD : List PyData → Option T
  | [.list xs] => some (.lst (xs.map .d))
  | [.tuple xs] => some (.lst (xs.map .d))
  | _ => none
def allD : List PyData → Option T
  | [.list xs] => match boolsOf xs with
    | some bs => some (.d (.bool (bs.all id)))
    | none => none
  | _ => none
def anyD : List PyData → Option T
  | [.list xs] => match boolsOf xs with
    | some bs => some (.d (.bool (bs.any id)))
    | none => none
  | _ => none
def sumD : List PyData → Option T
  | [.list xs] => match intsOf xs with
    | some bs => some (.d (.int bs.sum))
    | none => none
  | [.tuple xs] => match intsOf xs with
    | some bs => some (.d (.int bs.sum))
    | none => none
  | _ => none
def absD : List PyData → Option T
  | [.int i] => some (.d (.int (if i < 0 then -i else i)))
  | _ => none
def minD : List PyData → Option T
  | [.int i, .int j] => some (.d (.int (if j < i then j else i)))
  | _ => none
def maxD : List PyData → Option T
  | [.int i, .int j] => some (.d (.int (if j > i then j else i)))
  | _ => none
def srdD (rev : Bool) : List PyData → Option T
  | [.list xs] => match srtD rev xs with
    | some ys => some (.lst (ys.map .d))
    | none => none
  | [.tuple xs] => match srtD rev xs with
    | some ys => some (.lst (ys.map .d))
    | none => none
  | [.dict kvs] => match srtD rev (kvs.map (·.1)) with
    | some ys => some (.lst (ys.map .d))
    | none => none
  | _ => none
def reprD : List PyData → Option T
  | [x] => if shp x && x.showable && small (PyData.shown x).length then some (.d (.str (PyData.shown x))) else none
  | _ => none
def gcdD : List PyData → Option T
  | [.int i, .int j] => some (.d (.int (Nat.gcd i.natAbs j.natAbs : Nat)))
  | _ => none
def strD : List PyData → Option T
  | [.str x] => some (.d (.str x))
  | [.int i] => if Nat.blt i.natAbs.log2 1920 then some (.d (.str (toString i))) else none
  | _ => none
/-- all rows put, one by one: keys that are tuples -/
def updF (ks : List PyData) (ts : List T) : List (PyData × PyData) → Option (List PyData × List T)
  | [] => some (ks, ts)
  | p :: kvs => if kcls p.1 == some true && kfit ks p.1 then updF (dput ks ts p.1 (.d p.2)).1 (dput ks ts p.1 (.d p.2)).2 kvs else none
def prsD : List PyData → Option (List (PyData × PyData))
  | [] => some []
  | .tuple [k, v] :: xs => match prsD xs with
    | some r => some ((k, v) :: r)
    | none => none
  | _ => none
def dctOf (xs : List PyData) : Option T := match prsD xs with
  | some kvs => if !kvs.isEmpty && small xs.length then (match updF [] [] kvs with
    | some q => some (.dct q.1 q.2)
    | none => none) else none
  | none => none
def dictD : List PyData → Option T
  | [.list xs] => dctOf xs
  | [.tuple xs] => dctOf xs
  | _ => none
def bltD : Blt → List PyData → Option T
  | .len => lenD
  | .int => intD
  | .tuple => tupD
  | .list => lstD
  | .all => allD
  | .any => anyD
  | .sum => sumD
  | .abs => absD
  | .min2 => minD
  | .max2 => maxD
  | .sorted => srdD false
  | .sortedR => srdD true
  | .repr => reprD
  | .gcd => gcdD
  | .str => strD
  | .dictP => dictD
end Ev
set_option Elab.async false
set_option linter.all false
set_option maxRecDepth 100000
set_option maxHeartbeats 4000000
namespace Ev
open PySem PySem.W

/-- an operand: a value, or the own thing in a slot -/
inductive A where
  | val (t : T)
  | sl (i : Nat)

def ds : List T → Option (List PyData)
  | [] => some []
  | .d x :: ts => match ds ts with
    | some xs => some (x :: xs)
    | none => none
  | _ => none
/-- data whose parts may go on: own things one deep -/
def T.fd : T → Option PyData
  | .d x => some x
  | .lst ts => match ds ts with
    | some xs => some (.list xs)
    | none => none
  | .dct ks ts => match ds ts with
    | some xs => some (.dict (ks.zip xs))
    | none => none
  | _ => none
def mkTup (ts : List T) : T := match ds ts with
  | some xs => .d (.tuple xs)
  | none => .tup ts
def rsv (δ : List T) : A → Option PyData
  | .val t => t.fd
  | .sl i => match nth δ i with
    | some t => t.fd
    | none => none
def rsvs (δ : List T) : List A → Option (List PyData)
  | [] => some []
  | a :: as => match rsv δ a with
    | some x => match rsvs δ as with
      | some xs => some (x :: xs)
      | none => none
    | none => none
def opdV (i : Nat) (δ : List T) : R A := match nth δ i with
  | some (.d x) => .ok (.val (.d x)) δ
  | some (.fn f) => .ok (.val (.fn f)) δ
  | some (.fz x) => .ok (.val (.fz x)) δ
  | some .un => .no
  | none => .no
  | some t => match t.fd with
    | some _ => .ok (.sl i) δ
    | none => match t.data with
      | some x => .ok (.val (.d x)) (put δ i (.d x))
      | none => .no
def opdE (r : List T → R T) (δ : List T) : R A := match r δ with
  | .ok t δ => .ok (.val t) δ
  | .exn e δ => .exn e δ
  | .no => .no
def opd (e : IE) (r : List T → R T) : List T → R A := match e with
  | .v i => opdV i
  | _ => opdE r
/-- an argument: own things stay in their slots -/
def argV (i : Nat) (δ : List T) : R A := match nth δ i with
  | some (.d x) => .ok (.val (.d x)) δ
  | some (.fn f) => .ok (.val (.fn f)) δ
  | some (.fz x) => .ok (.val (.fz x)) δ
  | some .un => .no
  | none => .no
  | some _ => .ok (.sl i) δ
def arg (e : IE) (r : List T → R T) : List T → R A := match e with
  | .v i => argV i
  | _ => opdE r

/-! ### places -/
def idxD : PyData → PyData → Option PyData
  | .list xs, .int i => match ixOf xs.length i with
    | some n => nth xs n
    | none => none
  | .tuple xs, .int i => match ixOf xs.length i with
    | some n => nth xs n
    | none => none
  | .str x, .int i => if small x.length then (match ixOf x.length i with
    | some n => match nth x.cps.toList n with
      | some c => some (.str ⟨#[c]⟩)
      | none => none
    | none => none) else none
  | .dict kvs, k => if kfit (kvs.map (·.1)) k then (match kix (kvs.map (·.1)) k with
    | some n => nth (kvs.map (·.2)) n
    | none => none) else none
  | _, _ => none
/-- which child -/
def chi : T → PyData → Option Nat
  | .lst ts, .int i => ixOf ts.length i
  | .dct ks ts, k => if kfit ks k then kix ks k else none
  | _, _ => none
def kids : T → List T
  | .lst ts => ts
  | .dct _ ts => ts
  | _ => []
def reKid : T → Nat → T → T
  | .lst ts, n, t => .lst (put ts n t)
  | .dct ks ts, n, t => .dct ks (put ts n t)
  | t, _, _ => t
def getP : T → List PyData → Option T
  | t, [] => some t
  | t, k :: p => match chi t k with
    | some n => match nth (kids t) n with
      | some t' => getP t' p
      | none => none
    | none => none
def setP : T → List PyData → T → T
  | _, [], u => u
  | t, k :: p, u => match chi t k with
    | some n => match nth (kids t) n with
      | some t' => reKid t n (setP t' p u)
      | none => t
    | none => t
def getS (δ : List T) (i : Nat) (p : List PyData) : Option T := match nth δ i with
  | some t => getP t p
  | none => none
def setS (δ : List T) (i : Nat) (p : List PyData) (u : T) : List T := match nth δ i with
  | some t => put δ i (setP t p u)
  | none => δ
def idxM (x : PyData) (as : List PyData) : Option T := match as with
  | [y] => (match x with
    | .list xs => if shp (.list xs) && shp y then (match xs.findIdx? fun z => PyData.eqv z y with
      | some n => some (.d (.int n))
      | none => none) else none
    | .tuple xs => if shp (.tuple xs) && shp y then (match xs.findIdx? fun z => PyData.eqv z y with
      | some n => some (.d (.int n))
      | none => none) else none
    | _ => none)
  | _ => none
def cntM (x : PyData) (as : List PyData) : Option T := match as with
  | [y] => (match x with
    | .list xs => if shp (.list xs) && shp y then some (.d (.int (xs.countP fun z => PyData.eqv z y))) else none
    | .tuple xs => if shp (.tuple xs) && shp y then some (.d (.int (xs.countP fun z => PyData.eqv z y))) else none
    | _ => none)
  | _ => none
def stD : PyData → Bool
  | .list _ => false
  | .dict _ => false
  | _ => true
def getM (x : PyData) (as : List PyData) : Option T := match x with
  | .dict kvs => (match as with
    | [k] => if kfit (kvs.map (·.1)) k then some (.d (((kix (kvs.map (·.1)) k).bind (nth (kvs.map (·.2)))).getD .none)) else none
    | [k, x] => if kfit (kvs.map (·.1)) k && stD x then some (.d (((kix (kvs.map (·.1)) k).bind (nth (kvs.map (·.2)))).getD x)) else none
    | _ => none)
  | _ => none
def mthD : Mth → PyData → List PyData → Option T
  | .index => idxM
  | .count => cntM
  | .get1 => getM
  | .get2 => getM
  | _ => fun _ _ => none
/-- what kind of receiver -/
def kd : PyData → Nat
  | .list _ => 1
  | .tuple _ => 2
  | .dict _ => 3
  | _ => 0
def mOk : Mth → PyData → Bool
  | .index, .list _ => true
  | .index, .tuple _ => true
  | .count, .list _ => true
  | .count, .tuple _ => true
  | .get1, .dict _ => true
  | .get2, .dict _ => true
  | _, _ => false
/-- a name's own thing, one deep, else what r tells -/
def puO (δ : List T) (e : IE) (r : Option PyData) : Option PyData := match e with
  | .v i => match nth δ i with
    | some t => t.fd
    | none => none
  | _ => r
/-- an expression that changes nothing -/
def pur (gd : List PyData) (δ : List T) : IE → Option PyData
  | .v i => match nth δ i with
    | some (.d x) => some x
    | _ => none
  | .k c => some c
  | .g i => nth gd i
  | .lst .nil => some (.list [])
  | .bin op a b => match pur gd δ a with
    | some x => match pur gd δ b with
      | some y => match op2 op x y with
        | some (.d z) => some z
        | _ => none
      | none => none
    | none => none
  | .idx a b => match puO δ a (pur gd δ a) with
    | some x => match pur gd δ b with
      | some y => idxD x y
      | none => none
    | none => none
  | .mth m o (.cons e .nil) => match puO δ o (pur gd δ o) with
    | some x => match pur gd δ e with
      | some y => match mthD m x [y] with
        | some (.d z) => some z
        | _ => none
      | none => none
    | none => none
  | _ => none
def plc (gd : List PyData) (δ : List T) : IE → Option (Nat × List PyData)
  | .v i => some (i, [])
  | .idx a k => match plc gd δ a with
    | some (i, p) => match pur gd δ k with
      | some x => some (i, p ++ [x])
      | none => none
    | none => none
  | _ => none
def isOwn : T → Bool
  | .lst _ => true
  | .dct _ _ => true
  | _ => false
/-- a[i], an own thing's child -/
def kidAt (gd : List PyData) (δ : List T) (a i : IE) : Option (Nat × List PyData × T) := match plc gd δ a with
  | none => none
  | some (s, p) => match getS δ s p with
    | none => none
    | some t => if isOwn t then (match pur gd δ i with
      | none => none
      | some k => match getP t [k] with
        | none => none
        | some u => some (s, p ++ [k], u)) else none

/-- an own thing's own child beside something simple -/
def peek (gd : List PyData) (δ : List T) (a b : IE) : Option (PyData × PyData) := match a with
  | .idx o i => match kidAt gd δ o i with
    | some (_, _, .lst ts) => match T.fd (.lst ts) with
      | some p => match pur gd δ b with
        | some q => some (p, q)
        | none => none
      | none => none
    | _ => none
  | _ => none

/-! ### arguments -/
/-- arguments of a call: lent own things leave their slots -/
def prepV (lent : Bool) (t : T) : Option T := match lent with
  | true => some t
  | false => match t with
    | .d x => some (.d x)
    | .fn f => some (.fn f)
    | .fz x => some (.fz x)
    | t => match t.data with
      | some x => some (.d x)
      | none => none
def prepA (lent : Bool) (a : A) (δ : List T) : Option (T × List T) := match a with
  | .val t => (match prepV lent t with
    | some u => some (u, δ)
    | none => none)
  | .sl i => match nth δ i with
    | none => none
    | some t => match lent with
      | true => (match t with
        | .un => none
        | t => some (t, put δ i .un))
      | false => match t.data with
        | some x => some (.d x, put δ i (.d x))
        | none => none
def hd1 : List Bool → Bool
  | b :: _ => b
  | [] => false
def prep : List T → List A → List Bool → Option (List T × List T)
  | δ, [], _ => some ([], δ)
  | δ, a :: as, fl => match prepA (hd1 fl) a δ with
    | none => none
    | some (u, δ) => match prep δ as fl.tail with
      | some (ts, δ) => some (u :: ts, δ)
      | none => none
/-- they come back -/
def backA (lent : Bool) (a : A) (t : T) (δ : List T) : List T := match lent with
  | true => (match a with
    | .sl i => put δ i t
    | _ => δ)
  | false => δ
def back : List T → List A → List Bool → List T → List T
  | δ, a :: as, fl, t :: ts => back (backA (hd1 fl) a t δ) as fl.tail ts
  | δ, _, _, _ => δ

/-! ### loops -/
def rangeI (lo : Int) : Nat → List PyData
  | 0 => []
  | n + 1 => .int lo :: rangeI (lo + 1) n
def zipD : List PyData → List PyData → List PyData
  | x :: xs, y :: ys => .tuple [x, y] :: zipD xs ys
  | _, _ => []
def enmD : Int → List PyData → List PyData
  | _, [] => []
  | i, x :: xs => .tuple [.int i, x] :: enmD (i + 1) xs
def seqI : PyData → Option (List PyData)
  | .list xs => some xs
  | .tuple xs => some xs
  | .str x => some (x.cps.toList.map fun c => .str ⟨#[c]⟩)
  | .dict kvs => some (kvs.map (·.1))
  | _ => none
def inR (i : Int) : Bool := decide (-(2 ^ 62) ≤ i) && decide (i < 2 ^ 62)
mutual
def bindT : Tg → T → List T → Option (List T)
  | .nm i, t, δ => some (put δ i t)
  | .tup tgs, .d (.tuple xs), δ => bindTs tgs (xs.map .d) δ
  | .tup tgs, .tup ts, δ => bindTs tgs ts δ
  | _, _, _ => none
def bindTs : Tgs → List T → List T → Option (List T)
  | .nil, [], δ => some δ
  | .cons g gs, t :: ts, δ => match bindT g t δ with
    | some δ => bindTs gs ts δ
    | none => none
  | _, _, _ => none
end
mutual
def tgN : Tg → List Nat
  | .nm i => [i]
  | .tup gs => tgsN gs
def tgsN : Tgs → List Nat
  | .nil => []
  | .cons g gs => tgN g ++ tgsN gs
end
def unset : List T → List Nat → List T
  | δ, [] => δ
  | δ, i :: is => unset (put δ i .un) is
def boolOf : PyData → Option Bool
  | .bool b => some b
  | _ => none
/-- a clause's test -/
def tstL (c : Option (List T → R T)) (δ : List T) : R Bool := match c with
  | none => .ok true δ
  | some c => match c δ with
    | .ok (.d (.bool b)) δ => .ok b δ
    | _ => .no
/-- the turns of a comprehension -/
def lcL (c : Option (List T → R T)) (elt : List T → R T) (tg : Tg) (own : List Nat) : List PyData → List T → R (List T)
  | [], δ => .ok [] δ
  | x :: xs, δ => match bindT tg (.d x) δ with
    | none => .no
    | some δ => match tstL c δ with
      | .ok true δ => match elt δ with
        | .ok t δ => match lcL c elt tg own xs (unset δ own) with
          | .ok ts δ => .ok (t :: ts) δ
          | _ => .no
        | _ => .no
      | .ok false δ => lcL c elt tg own xs (unset δ own)
      | _ => .no
def lc2L (inner : List T → R (List T)) (tg : Tg) (own : List Nat) : List PyData → List T → R (List T)
  | [], δ => .ok [] δ
  | x :: xs, δ => match bindT tg (.d x) δ with
    | none => .no
    | some δ => match inner δ with
      | .ok ts δ => match lc2L inner tg own xs (unset δ own) with
        | .ok us δ => .ok (ts ++ us) δ
        | _ => .no
      | _ => .no
def dcL (c : Option (List T → R T)) (ke ve : List T → R T) (tg : Tg) (own : List Nat) : List PyData → List PyData → List T → List T → R T
  | [], ks, vs, δ => .ok (.dct ks vs) δ
  | x :: xs, ks, vs, δ => match bindT tg (.d x) δ with
    | none => .no
    | some δ => match tstL c δ with
      | .ok true δ => match ke δ with
        | .ok (.d k) δ => match ve δ with
          | .ok t δ => if kfit ks k && Nat.blt ks.length sizeLine then dcL c ke ve tg own xs (dput ks vs k t).1 (dput ks vs k t).2 (unset δ own) else .no
          | _ => .no
        | _ => .no
      | .ok false δ => dcL c ke ve tg own xs ks vs (unset δ own)
      | _ => .no
def frL (body : List T → RS) (tg : Tg) : List PyData → List T → RS
  | [], δ => .nx δ
  | x :: xs, δ => match bindT tg (.d x) δ with
    | none => .no
    | some δ => match body δ with
      | .nx δ => frL body tg xs δ
      | .ct δ => frL body tg xs δ
      | .bk δ => .nx δ
      | r => r
def whL (c : List T → R T) (body : List T → RS) : Nat → List T → RS
  | 0, _ => .no
  | n + 1, δ => match c δ with
    | .ok (.d (.bool true)) δ => match body δ with
      | .nx δ => whL c body n δ
      | .ct δ => whL c body n δ
      | .bk δ => .nx δ
      | r => r
    | .ok (.d (.bool false)) δ => .nx δ
    | .exn e δ => .exn e δ
    | _ => .no

/-! ### own things changed -/
mutual
/-- a hash that all worlds tell alike -/
def hD : PyData → Option Int
  | .int i => some (hashInt i)
  | .tuple xs => match hDs xs with
    | some hs => some (reduceHash (Builtin.Tuple.tupleHashOf hs))
    | none => none
  | _ => none
def hDs : List PyData → Option (List Int)
  | [] => some []
  | x :: xs => match hD x with
    | some h => (match hDs xs with
      | some hs => some (h :: hs)
      | none => none)
    | none => none
end
def ndB : List Int → Bool
  | [] => true
  | h :: hs => !hs.elem h && ndB hs
/-- keys that go into an empty dict hash apart -/
def hOk (ks : List PyData) (kvs : List (PyData × PyData)) : Bool := !kvs.isEmpty && match ks with
  | _ :: _ => true
  | [] => match hDs (kvs.map (·.1)) with
    | some hs => ndB hs
    | none => false
def mthO : Mth → T → List T → Option (T × T)
  | .append, .lst ts, [t] => if Nat.blt ts.length sizeLine then some (.d .none, .lst (ts ++ [t])) else none
  | .pop, .lst ts, [] => match nth ts (ts.length - 1) with
    | some t => some (t, .lst ts.dropLast)
    | none => none
  | .popAt, .lst ts, [.d (.int i)] => if inR i then (match ixOf ts.length i with
    | some n => match nth ts n with
      | some t => some (t, .lst (ts.eraseIdx n))
      | none => none
    | none => none) else none
  | .popAt, .dct ks ts, [.d k] => if kfit ks k && kcls k == some false then (match kix ks k with
    | some n => match nth ts n with
      | some t => some (t, .dct (ks.eraseIdx n) (ts.eraseIdx n))
      | none => none
    | none => none) else none
  | .extend, .lst ts, [u] => match u.fd with
    | some (.list xs) => if small (ts.length + xs.length) then some (.d .none, .lst (ts ++ xs.map .d)) else none
    | _ => none
  | .update, .dct ks ts, [u] => match u.fd with
    | some (.dict kvs) => if hOk ks kvs && small (ks.length + kvs.length) then (match updF ks ts kvs with
      | some q => some (.d .none, .dct q.1 q.2)
      | none => none) else none
    | _ => none
  | _, _, _ => none
def isMut : Mth → Bool
  | .append => true
  | .pop => true
  | .popAt => true
  | .extend => true
  | .update => true
  | _ => false
def kidSet : T → PyData → T → Option T
  | .lst ts, .int i, u => match ixOf ts.length i with
    | some n => some (.lst (put ts n u))
    | none => none
  | .dct ks ts, k, u => if kfit ks k && Nat.blt ks.length sizeLine then some (.dct (dput ks ts k u).1 (dput ks ts k u).2) else none
  | _, _, _ => none
def mkDct : List PyData → List T → List T → Option T
  | ps, us, [] => some (.dct ps us)
  | ps, us, .d k :: t :: ts => if kfit ps k && Nat.blt ps.length sizeLine then mkDct (dput ps us k t).1 (dput ps us k t).2 ts else none
  | _, _, _ => none
/-! ### one part each -/
abbrev M := List T → R T
abbrev Ms := List T → R (List T)
abbrev MA := List T → R (List A)
def bind2 {α β γ : Type} (ra : List T → R α) (rb : List T → R β) (k : α → β → List T → R γ) : List T → R γ := fun δ => match ra δ with
  | .ok x δ => (match rb δ with
    | .ok y δ => k x y δ
    | .exn e δ => .exn e δ
    | .no => .no)
  | .exn e δ => .exn e δ
  | .no => .no
def bind1 {α γ : Type} (ra : List T → R α) (k : α → List T → R γ) : List T → R γ := fun δ => match ra δ with
  | .ok x δ => k x δ
  | .exn e δ => .exn e δ
  | .no => .no
def two {γ : Type} (δ : List T) (x y : A) (k : PyData → PyData → R γ) : R γ := match rsv δ x with
  | some p => (match rsv δ y with
    | some q => k p q
    | none => .no)
  | none => .no
def fromO {α : Type} (o : Option α) (δ : List T) : R α := match o with
  | some a => .ok a δ
  | none => .no
def bl (o : Option Bool) (δ : List T) : R T := match o with
  | some b => .ok (.d (.bool b)) δ
  | none => .no
def mNo : M := fun _ => .no
def mV (i : Nat) : M := fun δ => match nth δ i with
  | some (.d x) => .ok (.d x) δ
  | some (.fn f) => .ok (.fn f) δ
  | some (.fz x) => .ok (.fz x) δ
  | some .un => .no
  | none => .no
  | some t => match t.data with
    | some x => .ok (.d x) (put δ i (.d x))
    | none => .no
def mMv (i : Nat) : M := fun δ => match nth δ i with
  | some .un => .no
  | none => .no
  | some t => .ok t (put δ i .un)
def mK (c : PyData) : M := fun δ => .ok (.d c) δ
def mG (C : Cf) (i : Nat) : M := fun δ => match nth C.gd i with
  | some x => .ok (.d x) δ
  | none => .no
def mFn (i : Nat) : M := fun δ => .ok (.fn i) δ
def mBin (op : Op) (a : IE) (ra : M) (b : IE) (rb : M) : M := bind2 (opd a ra) (opd b rb) fun x y δ => two δ x y fun p q => fromO (op2 op p q) δ
def mNeg (ra : M) : M := bind1 ra fun t δ => match t with
  | .d (.int i) => .ok (.d (.int (-i))) δ
  | _ => .no
def mNot (ra : M) : M := bind1 ra fun t δ => match t with
  | .d (.bool b) => .ok (.d (.bool (!b))) δ
  | _ => .no
def mIf (rc ra rb : M) : M := bind1 rc fun t δ => match t with
  | .d (.bool true) => ra δ
  | .d (.bool false) => rb δ
  | _ => .no
def mAnd (ra rb : M) : M := mIf ra rb fun δ => .ok (.d (.bool false)) δ
def mOr (ra rb : M) : M := mIf ra (fun δ => .ok (.d (.bool true)) δ) rb
def mCmp (C : Cf) (op : Cop) (a : IE) (ra : M) (b : IE) (rb : M) : M := fun δ => match peek C.gd δ a b with
  | some (p, q) => bl (cmpD op p q) δ
  | none => bind2 (opd a ra) (opd b rb) (fun x y δ => two δ x y fun p q => bl (cmpD op p q) δ) δ
def mChain (o1 o2 : Cop) (a : IE) (ra : M) (b : IE) (rb : M) (c : IE) (rc : M) : M := bind2 (opd a ra) (opd b rb) fun x y δ => two δ x y fun p q => match cmpD o1 p q with
  | some true => bind1 (opd c rc) (fun z δ => two δ y z fun q r => bl (cmpD o2 q r) δ) δ
  | some false => .ok (.d (.bool false)) δ
  | none => .no
def isNone : PyData → Bool
  | .none => true
  | _ => false
def mIsN (b : Bool) (a : IE) (ra : M) : M := bind1 (opd a ra) fun x δ => match rsv δ x with
  | some p => .ok (.d (.bool (isNone p == b))) δ
  | none => .no
def mTup (rs : Ms) : M := bind1 rs fun ts δ => if small ts.length then .ok (mkTup ts) δ else .no
def mLst (rs : Ms) : M := bind1 rs fun ts δ => if small ts.length then .ok (.lst ts) δ else .no
def mDct (rs : Ms) : M := bind1 rs fun ts δ => fromO (mkDct [] [] ts) δ
def mIdx (C : Cf) (a : IE) (ra : M) (i : IE) (ri : M) : M := fun δ => match kidAt C.gd δ a i with
  | some (s, p, u) => (match u with
    | .d x => .ok (.d x) δ
    | .fn f => .ok (.fn f) δ
    | u => match u.data with
      | some x => .ok (.d x) (setS δ s p (.d x))
      | none => .no)
  | none => bind2 (opd a ra) (opd i ri) (fun x y δ => two δ x y fun p q => match idxD p q with
    | some z => .ok (.d z) δ
    | none => .no) δ
def slcD (x : PyData) (l h : Option Int) : Option T := match x with
  | .list xs => some (.lst ((cut xs l h).map .d))
  | .tuple xs => some (.d (.tuple (cut xs l h)))
  | .str x => if small x.length then some (.d (.str ⟨(cut x.cps.toList l h).toArray⟩)) else none
  | _ => none
def mSlc (a : IE) (ra : M) (rl rh : List T → R (Option Int)) : M := bind1 (opd a ra) fun x => bind2 rl rh fun l h δ => match rsv δ x with
  | some p => fromO (slcD p l h) δ
  | none => .no
def revD : PyData → Option T
  | .list xs => some (.lst (xs.reverse.map .d))
  | _ => none
def mRev (a : IE) (ra : M) : M := bind1 (opd a ra) fun x δ => match rsv δ x with
  | some p => fromO (revD p) δ
  | none => .no
def mLrng (r : List T → R (List PyData)) : M := bind1 r fun xs δ => if small xs.length then .ok (.lst (xs.map .d)) δ else .no
def mTrng (r : List T → R (List PyData)) : M := bind1 r fun xs δ => if small xs.length then .ok (.d (.tuple xs)) δ else .no
def mIsi (ts : List Ty) (a : IE) (ra : M) : M := bind1 (opd a ra) fun x δ => match rsv δ x with
  | some p => .ok (.d (.bool (ts.any fun t => isTy t p))) δ
  | none => .no
def mCall (C : Cf) (f : Nat) (ra rk : MA) : M := bind2 ra rk fun as bs δ => match prep δ (as ++ bs) (C.fl f) with
  | none => .no
  | some (ts, δ) => match C.call f (ts ++ (C.df f (as ++ bs).length).map .d) with
    | .ok t us => .ok t (back δ (as ++ bs) (C.fl f) us)
    | _ => .no
def isLen : Blt → Bool
  | .len => true
  | _ => false
def mBlt (b : Blt) (ra : MA) : M := bind1 ra fun as δ => match rsvs δ as with
  | some xs => fromO (bltD b xs) δ
  | none => match as with
    | [.val (.fz xs)] => if isLen b then .ok (.d (.int xs.length)) δ else .no
    | _ => .no
def purs (gd : List PyData) (δ : List T) : IEs → Option (List PyData)
  | .nil => some []
  | .cons e es => match pur gd δ e with
    | some x => match purs gd δ es with
      | some xs => some (x :: xs)
      | none => none
    | none => none
def isL : T → Bool
  | .lst _ => true
  | _ => false
def mutOk : Mth → Bool → Bool
  | .append, true => true
  | .pop, true => true
  | .popAt, _ => true
  | .extend, true => true
  | .update, false => true
  | _, _ => false
def mthAt (b : Bool) (m : Mth) (δ : List T) (s : Nat) (p : List PyData) (us : List T) : R T := match getS δ s p with
  | some t => if isL t == b then (match mthO m t us with
    | some (r, t') => .ok r (setS δ s p t')
    | none => .no) else .no
  | none => .no
def mMut (C : Cf) (m : Mth) (o : IE) (es : IEs) (rs : Ms) : M := match o with
  | .v s => fun δ => match nth δ s with
    | some u => if isOwn u && mutOk m (isL u) then bind1 rs (fun us δ => mthAt (isL u) m δ s [] us) δ else .no
    | none => .no
  | o => fun δ => match plc C.gd δ o with
    | some (s, p) => (match getS δ s p with
      | some u => if isOwn u && mutOk m (isL u) then (match purs C.gd δ es with
        | some us => mthAt (isL u) m δ s p (us.map .d)
        | none => .no) else .no
      | none => .no)
    | none => .no
def mMth (C : Cf) (m : Mth) (o : IE) (ro : M) (es : IEs) (rs : Ms) (ra : MA) : M := if isMut m then mMut C m o es rs
  else bind1 (opd o ro) fun x δ0 => match rsv δ0 x with
    | none => .no
    | some p0 => if mOk m p0 then bind1 ra (fun as δ => match rsv δ x with
      | some p => if kd p == kd p0 then (match rsvs δ as with
        | some xs => fromO (mthD m p xs) δ
        | none => .no) else .no
      | none => .no) δ0 else .no
def mLc (own : List Nat) (re : M) (tg : Tg) (ri : List T → R (List PyData)) (rc : Option M) : M := bind1 ri fun xs δ => match lcL rc re tg own xs (unset δ own) with
  | .ok ts δ => if small ts.length then .ok (.lst ts) δ else .no
  | _ => .no
def mLc2 (own : List Nat) (re : M) (tg : Tg) (ri : List T → R (List PyData)) (tg1 : Tg) (ri1 : List T → R (List PyData)) (rc : Option M) : M := bind1 ri fun xs δ => match lc2L (bind1 ri1 fun ys δ => lcL rc re tg1 (tgN tg1) ys (unset δ (tgN tg1))) tg own xs (unset δ own) with
  | .ok ts δ => if small ts.length then .ok (.lst ts) δ else .no
  | _ => .no
def mDc (own : List Nat) (rk rv : M) (tg : Tg) (ri : List T → R (List PyData)) (rc : Option M) : M := bind1 ri fun xs δ => dcL rc rk rv tg own xs [] [] (unset δ own)
def sNil {α : Type} : List T → R (List α) := fun δ => .ok [] δ
def sCons {α : Type} (r : List T → R α) (rs : List T → R (List α)) : List T → R (List α) := bind2 r rs fun t ts δ => .ok (t :: ts) δ
def oNo : List T → R (Option Int) := fun δ => .ok none δ
def oYes (r : M) : List T → R (Option Int) := bind1 r fun t δ => match t with
  | .d (.int i) => .ok (some i) δ
  | _ => .no
abbrev MI := List T → R (List PyData)
def seqT : T → Option (List PyData)
  | .fz xs => some xs
  | t => match t.data with
    | some x => seqI x
    | none => none
def iSeq (r : M) : MI := bind1 r fun t δ => fromO (seqT t) δ
def iRng1 (r : M) : MI := bind1 r fun t δ => match t with
  | .d (.int j) => if inR j then .ok (rangeI 0 j.toNat) δ else .no
  | _ => .no
def iRng2 (r r' : M) : MI := bind2 r r' fun t u δ => match t with
  | .d (.int i) => (match u with
    | .d (.int j) => if inR i && inR j then .ok (rangeI i (j - i).toNat) δ else .no
    | _ => .no)
  | _ => .no
def zipP : PyData → PyData → Option (List PyData)
  | .list xs, .list ys => some (zipD xs ys)
  | .tuple xs, .tuple ys => some (zipD xs ys)
  | _, _ => none
def zipT (t u : T) : Option (List PyData) := match t.data with
  | some x => (match u.data with
    | some y => zipP x y
    | none => none)
  | none => none
def iZip (r r' : M) : MI := bind2 r r' fun t u δ => fromO (zipT t u) δ
def enmT (t : T) : Option (List PyData) := match t.data with
  | some (.list xs) => some (enmD 0 xs)
  | _ => none
def iEnm (r : M) : MI := bind1 r fun t δ => fromO (enmT t) δ
def itemsT (t : T) : Option (List PyData) := match t.data with
  | some (.dict kvs) => some (kvs.map fun p => .tuple [p.1, p.2])
  | _ => none
def iItems (r : M) : MI := bind1 r fun t δ => fromO (itemsT t) δ

mutual
def den (C : Cf) : IE → M
  | .bad => mNo
  | .v i => mV i
  | .mv i => mMv i
  | .k c => mK c
  | .g i => mG C i
  | .fnv i => mFn i
  | .bin op a b => mBin op a (den C a) b (den C b)
  | .neg a => mNeg (den C a)
  | .not a => mNot (den C a)
  | .and a b => mAnd (den C a) (den C b)
  | .or a b => mOr (den C a) (den C b)
  | .ife c a b => mIf (den C c) (den C a) (den C b)
  | .cmp op a b => mCmp C op a (den C a) b (den C b)
  | .chain o1 o2 a b c => mChain o1 o2 a (den C a) b (den C b) c (den C c)
  | .isN a => mIsN true a (den C a)
  | .notN a => mIsN false a (den C a)
  | .tup es => mTup (dens C es)
  | .lst es => mLst (dens C es)
  | .dct es => mDct (dens C es)
  | .idx a i => mIdx C a (den C a) i (den C i)
  | .slc a lo hi => mSlc a (den C a) (deno C lo) (deno C hi)
  | .lrng it => mLrng (itm C it)
  | .trng it => mTrng (itm C it)
  | .rev a => mRev a (den C a)
  | .isi ts a => mIsi ts a (den C a)
  | .call f es ks => mCall C f (args C es) (args C ks)
  | .blt b es => mBlt b (opds C es)
  | .mth m o es => mMth C m o (den C o) es (dens C es) (opds C es)
  | .lc own elt tg it c => mLc own (den C elt) tg (itm C it) (denc C c)
  | .lc2 own elt tg it tg1 it1 c => mLc2 own (den C elt) tg (itm C it) tg1 (itm C it1) (denc C c)
  | .dc own ke ve tg it c => mDc own (den C ke) (den C ve) tg (itm C it) (denc C c)
def dens (C : Cf) : IEs → Ms
  | .nil => sNil
  | .cons e es => sCons (den C e) (dens C es)
def opds (C : Cf) : IEs → MA
  | .nil => sNil
  | .cons e es => sCons (opd e (den C e)) (opds C es)
def args (C : Cf) : IEs → MA
  | .nil => sNil
  | .cons e es => sCons (arg e (den C e)) (args C es)
def deno (C : Cf) : IEo → List T → R (Option Int)
  | .no => oNo
  | .yes e => oYes (den C e)
def denc (C : Cf) : IEo → Option M
  | .no => none
  | .yes e => some (den C e)
def itm (C : Cf) : It → MI
  | .seq e => iSeq (den C e)
  | .rng1 a => iRng1 (den C a)
  | .rng2 a b => iRng2 (den C a) (den C b)
  | .zip2 a b => iZip (den C a) (den C b)
  | .enm a => iEnm (den C a)
  | .items a => iItems (den C a)
end

/-! ### statements -/
abbrev S := List T → RS
def onR {α : Type} (r : List T → R α) (k : α → S) : S := fun δ => match r δ with
  | .ok a δ => k a δ
  | .exn e δ => .exn e δ
  | .no => .no
def sNo : S := fun _ => .no
def sPass : S := fun δ => .nx δ
def toS (o : Option (List T)) : RS := match o with
  | some δ => .nx δ
  | none => .no
def sSet (tg : Tg) (r : M) : S := onR r fun t δ => toS (bindT tg t δ)
/-- o[i] = t -/
def stSub (C : Cf) (o i : IE) (t : T) (δ : List T) : Option (List T) := match plc C.gd δ o with
  | some (s, p) => (match getS δ s p with
    | some u => (match pur C.gd δ i with
      | some k => (match kidSet u k t with
        | some u' => some (setS δ s p u')
        | none => none)
      | none => none)
    | none => none)
  | none => none
def stp (C : Cf) : Lgs → List T → List T → Option (List T)
  | .nil, [], δ => some δ
  | .nm i r, t :: ts, δ => stp C r ts (put δ i t)
  | .sb o i r, t :: ts, δ => match stSub C o i t δ with
    | some δ => stp C r ts δ
    | none => none
  | _, _, _ => none
def sSets (C : Cf) (gs : Lgs) (rs : Ms) : S := onR rs fun ts δ => toS (stp C gs ts δ)
def sSub (C : Cf) (o i : IE) (r : M) : S := onR r fun t δ => toS (stSub C o i t δ)
def augD (op : Op) (x y : PyData) : Option PyData := match x with
  | .int _ => (match op2 op x y with
    | some (.d z) => some z
    | _ => none)
  | _ => none
def sAug (i : Nat) (op : Op) (r : M) : S := fun δ => match nth δ i with
  | some (.d x) => onR r (fun t δ => match t with
    | .d y => (match augD op x y with
      | some z => .nx (put δ i (.d z))
      | none => .no)
    | _ => .no) δ
  | _ => .no
def sEx (r : M) : S := onR r fun _ δ => .nx δ
def sIte (rc : M) (a b : S) : S := onR rc fun t δ => match t with
  | .d (.bool true) => a δ
  | .d (.bool false) => b δ
  | _ => .no
def sFr (tg : Tg) (ri : MI) (b : S) : S := onR ri fun xs δ => frL b tg xs δ
def sWh (C : Cf) (rc : M) (b : S) : S := fun δ => whL rc b C.wf δ
def sRet (e : IE) (r : M) : S := match e with
  | .v i => onR (mMv i) fun t δ => .ret t δ
  | _ => onR r fun t δ => .ret t δ
def sSeq (a b : S) : S := fun δ => match a δ with
  | .nx δ => b δ
  | r => r
mutual
def exe (C : Cf) : IS → S
  | .bad => sNo
  | .pass => sPass
  | .set tg e => sSet tg (den C e)
  | .sets gs es => sSets C gs (dens C es)
  | .sub o i e => sSub C o i (den C e)
  | .aug i op e => sAug i op (den C e)
  | .ex e => sEx (den C e)
  | .ite c a b => sIte (den C c) (exes C a) (exes C b)
  | .fr tg it b => sFr tg (itm C it) (exes C b)
  | .wh c b => sWh C (den C c) (exes C b)
  | .ret e => sRet e (den C e)
  | .retN => fun δ => .ret (.d .none) δ
  | .brk => fun δ => .bk δ
  | .cnt => fun δ => .ct δ
def exes (C : Cf) : ISs → S
  | .nil => sPass
  | .cons s ss => sSeq (exe C s) (exes C ss)
end

/-! ### defs, levels -/
structure Fn where
  np : Nat
  ns : Nat
  lent : List Bool
  dfl : List PyData
  body : ISs
structure Prog where
  fns : List Fn
  gd : List PyData
  wf : Nat
def Prog.fl (P : Prog) (f : Nat) : List Bool := match nth P.fns f with
  | some F => F.lent
  | none => []
/-- what comes back of the parameters -/
def keepL : List Bool → List T → List T
  | fl, t :: ts => (match hd1 fl with
    | true => t
    | false => .un) :: keepL fl.tail ts
  | _, [] => []
def runFn (C : Cf) (F : Fn) (ts : List T) : CR :=
  if ts.length == F.np then (match exes C F.body (ts ++ List.replicate (F.ns - F.np) .un) with
    | .nx δ => .ok (.d .none) (keepL F.lent (δ.take F.np))
    | .ret t δ => .ok t (keepL F.lent (δ.take F.np))
    | _ => .no) else .no
def Prog.df (P : Prog) (f n : Nat) : List PyData := match nth P.fns f with
  | some F => F.dfl.drop (n + F.dfl.length - F.np)
  | none => []
def Prog.call (P : Prog) (k : Nat) : Nat → List T → CR := Nat.rec (fun _ _ => .no) (fun _ ih f ts => match nth P.fns f with
  | some F => runFn ⟨ih, P.gd, P.fl, P.df, P.wf⟩ F ts
  | none => .no) k
end Ev
set_option Elab.async false
set_option linter.all false
set_option maxRecDepth 100000
set_option maxHeartbeats 4000000
set_option autoImplicit false
/-! Chk: does a text say what its intermediate form says? -/
namespace Ev
open PySem PySem.W L2

structure Stat where
  N : List Str
  fx : List Nat
  con : List (Str × Nat)
  dfs : List (Str × Nat)
  shp : List (Nat × Nat × List Str)
  bln : List Str
  gcds : List Str

def vis (sc : Scope) (x : Str) : Bool := match sc.names.lookup x with
  | some .local => true
  | some .cell => true
  | some .free => true
  | _ => false
def loc (sc : Scope) (x : Str) : Bool := match sc.names.lookup x with
  | some .local => true
  | some .cell => true
  | _ => false
def gl (sc : Scope) (x : Str) : Bool := match sc.names.lookup x with
  | some .globalImplicit => true
  | _ => false
def nmOk (x : Str) : Bool := !(x == ("__debug__" : Str)) && !(x == ("__classdict__" : Str)) && !(x == ("__name__" : Str))
def atN (N : List Str) (i : Nat) (x : Str) : Bool := match N[i]? with
  | some y => y == x
  | none => false
/-- no star, no set, no slice -/
def pl : Expr → Bool
  | .Starred .. => false
  | .Set .. => false
  | .Slice .. => false
  | _ => true
def notCall : Expr → Bool
  | .Call .. => false
  | _ => true
def kB : PyData → Const → Bool
  | .int i, .int j => i == j
  | .str x, .str y => x == y
  | .bool a, .bool b => a == b
  | .none, .none => true
  | _, _ => false
def opB : Op → Operator → Bool
  | .add, .Add => true
  | .sub, .Sub => true
  | .mul, .Mult => true
  | .fdiv, .FloorDiv => true
  | .mod, .Mod => true
  | .pow, .Pow => true
  | _, _ => false
def copB : Cop → CmpOp → Bool
  | .eq, .Eq => true
  | .ne, .NotEq => true
  | .lt, .Lt => true
  | .le, .LtE => true
  | .gt, .Gt => true
  | .ge, .GtE => true
  | .isin, .In => true
  | .notin, .NotIn => true
  | _, _ => false
/-- a built-in's name, that nothing shadows -/
def biN (S : Stat) (sc : Scope) (nm x : Str) : Bool := x == nm && gl sc x && S.bln.contains x
def tyNm : Ty → Str
  | .int => "int"
  | .str => "str"
  | .bool => "bool"
  | .tuple => "tuple"
  | .list => "list"
  | .dict => "dict"
def tyE (S : Stat) (sc : Scope) (t : Ty) : Expr → Bool
  | .Name x _ => biN S sc (tyNm t) x
  | _ => false
def tyEs (S : Stat) (sc : Scope) : List Ty → List Expr → Bool
  | [], [] => true
  | t :: ts, e :: es => tyE S sc t e && tyEs S sc ts es
  | _, _ => false
def bltNm : Blt → Str
  | .len => "len"
  | .int => "int"
  | .tuple => "tuple"
  | .list => "list"
  | .all => "all"
  | .any => "any"
  | .sum => "sum"
  | .abs => "abs"
  | .min2 => "min"
  | .max2 => "max"
  | .sorted => "sorted"
  | .sortedR => "sorted"
  | .repr => "repr"
  | .gcd => "gcd"
  | .dictP => "dict"
  | .str => "str"
def mthNm : Mth → Str
  | .index => "index"
  | .count => "count"
  | .get1 => "get"
  | .get2 => "get"
  | .append => "append"
  | .pop => "pop"
  | .popAt => "pop"
  | .update => "update"
  | .extend => "extend"
def isUpd : Mth → Bool
  | .update => true
  | _ => false
/-- one keyword reverse=True -/
def revKw : List Keyword → Bool
  | [⟨some a, .Constant (.bool true) _ _, _⟩] => a == ("reverse" : Str)
  | _ => false
def kwNames : List Keyword → Option (List Str)
  | [] => some []
  | ⟨some a, _, _⟩ :: ks => match kwNames ks with
    | some r => some (a :: r)
    | none => none
  | ⟨none, _, _⟩ :: _ => none
def ownP (N : List Str) (own : List Nat) : List (Str × Nat) := own.filterMap fun i => (N[i]?).map fun x => (x, i)
def pairIt : It → Bool
  | .zip2 _ _ => true
  | .enm _ => true
  | _ => false
mutual
def ckTg (N : List Str) (sf : Scope) (okS : Nat → Bool) : Tg → Expr → Bool
  | .nm i, .Name x _ => atN N i x && loc sf x && okS i
  | .tup gs, .Tuple es _ _ => ckTgs N sf okS gs es
  | _, _ => false
def ckTgs (N : List Str) (sf : Scope) (okS : Nat → Bool) : Tgs → List Expr → Bool
  | .nil, [] => true
  | .cons g gs, e :: es => ckTg N sf okS g e && ckTgs N sf okS gs es && pl e
  | _, _ => false
end
def isTup : Tg → Bool
  | .tup _ => true
  | .nm _ => false
/-- the target of a walk, told by what is walked -/
def ckWt (N : List Str) (sf : Scope) (okS : Nat → Bool) (it : It) (tg : Tg) (e : Expr) : Bool := ckTg N sf okS tg e && (!(pairIt it) || isTup tg)
mutual
def ckE (S : Stat) : Scope → Scope → IE → Expr → Bool
  | _, _, .bad, _ => true
  | sc, _, .v i, e => match e with
    | .Name x _ => atN S.N i x && vis sc x && nmOk x
    | _ => false
  | sc, _, .mv i, e => match e with
    | .Name x _ => atN S.N i x && vis sc x && nmOk x
    | _ => false
  | _, _, .k c, e => match e with
    | .Constant k _ _ => kB c k
    | _ => false
  | sc, _, .g i, e => match e with
    | .Name x _ => gl sc x && nmOk x && (S.con.lookup x == some i)
    | _ => false
  | _, _, .fnv _, _ => false
  | sc, sf, .bin op a b, e => match e with
    | .BinOp ea o eb _ => opB op o && ckE S sc sf a ea && ckE S sc sf b eb
    | _ => false
  | sc, sf, .neg a, e => match e with
    | .UnaryOp .USub ea _ => ckE S sc sf a ea
    | _ => false
  | sc, sf, .not a, e => match e with
    | .UnaryOp .Not ea _ => ckE S sc sf a ea
    | _ => false
  | sc, sf, .and a b, e => match e with
    | .BoolOp .And [ea, eb] _ => ckE S sc sf a ea && ckE S sc sf b eb
    | .BoolOp .And (ea :: eb :: ec :: r) p => ckE S sc sf a ea && ckE S sc sf b (.BoolOp .And (eb :: ec :: r) p)
    | _ => false
  | sc, sf, .or a b, e => match e with
    | .BoolOp .Or [ea, eb] _ => ckE S sc sf a ea && ckE S sc sf b eb
    | .BoolOp .Or (ea :: eb :: ec :: r) p => ckE S sc sf a ea && ckE S sc sf b (.BoolOp .Or (eb :: ec :: r) p)
    | _ => false
  | sc, sf, .ife c a b, e => match e with
    | .IfExp ec ea eb _ => ckE S sc sf c ec && ckE S sc sf a ea && ckE S sc sf b eb
    | _ => false
  | sc, sf, .cmp op a b, e => match e with
    | .Compare ea [o] [eb] _ => copB op o && pl eb && ckE S sc sf a ea && ckE S sc sf b eb
    | _ => false
  | sc, sf, .chain o1 o2 a b c, e => match e with
    | .Compare ea [p1, p2] [eb, ec] _ => copB o1 p1 && copB o2 p2 && pl ec && ckE S sc sf a ea && ckE S sc sf b eb && ckE S sc sf c ec
    | _ => false
  | sc, sf, .isN a, e => match e with
    | .Compare ea [.Is] [.Constant .none _ _] _ => ckE S sc sf a ea
    | _ => false
  | sc, sf, .notN a, e => match e with
    | .Compare ea [.IsNot] [.Constant .none _ _] _ => ckE S sc sf a ea
    | _ => false
  | sc, sf, .tup es, e => match e with
    | .Tuple ees _ _ => ckEs S sc sf es ees
    | _ => false
  | sc, sf, .lst es, e => match e with
    | .List ees _ => ckEs S sc sf es ees
    | _ => false
  | sc, sf, .dct es, e => match e with
    | .Dict ks vs _ => Nat.ble ks.length 15 && ckD S sc sf es ks vs
    | _ => false
  | sc, sf, .idx a i, e => match e with
    | .Subscript ea ei _ => pl ei && ckE S sc sf a ea && ckE S sc sf i ei
    | _ => false
  | sc, sf, .slc a lo hi, e => match e with
    | .Subscript ea (.Slice l h none _) _ => ckE S sc sf a ea && ckO S sc sf lo l && ckO S sc sf hi h
    | _ => false
  | sc, sf, .rev a, e => match e with
    | .Subscript ea (.Slice none none (some (.UnaryOp .USub (.Constant (.int 1) _ _) _)) _) _ => ckE S sc sf a ea
    | _ => false
  | sc, sf, .isi ts a, e => match e with
    | .Call (.Name x _) [ea, et] [] _ => biN S sc "isinstance" x && pl ea && ckE S sc sf a ea && (match ts with
      | [t] => tyE S sc t et
      | ts => Nat.ble ts.length 100 && (match et with
        | .Tuple ets _ _ => tyEs S sc ts ets
        | _ => false))
    | _ => false
  | sc, sf, .call f es ks, e => match e with
    | .Call (.Name x _) ees kws _ => gl sc x && nmOk x && (S.dfs.lookup x == some f) && ees.all pl && ckEs S sc sf es ees && ckKs S sc sf ks kws && !(ees.isEmpty && kws.isEmpty) && (match kwNames kws with
      | some ns => S.shp.contains (f, ees.length, ns)
      | none => false)
    | _ => false
  | sc, sf, .blt b es, e => match e with
    | .Call (.Name x _) (ea :: ees) kws _ => (ea :: ees).all pl && ckEs S sc sf es (ea :: ees) && (match b with
      | .sortedR => biN S sc "sorted" x && ees.isEmpty && revKw kws
      | .gcd => gl sc x && nmOk x && S.gcds.contains x && kws.isEmpty
      | b => biN S sc (bltNm b) x && kws.isEmpty)
    | _ => false
  | sc, sf, .mth m o es, e => match e with
    | .Call (.Attribute eo nm apos) ees [] cpos => nm == mthNm m && (apos.endLine == cpos.line) && notCall eo && ees.all pl && Nat.ble ees.length 20 && ckE S sc sf o eo && ckEs S sc sf es ees && (isMut m || !ees.isEmpty)
    | _ => false
  | sc, sf, .lc own el tg it c, e => match e with
    | .ListComp eel [⟨etg, eit, ifs, 0⟩] scope _ => pl eit && ((ownP S.N own).map (·.2) == own) && blkC S.N sc scope (ownP S.N own) && ckI S sc sf it eit && ckWt S.N scope (fun i => own.contains i) it tg etg &&
      ckE S (relS scope sc) scope el eel && ckC S (relS scope sc) scope c ifs
    | _ => false
  | sc, sf, .lc2 own el tg it tg1 it1 c, e => match e with
    | .ListComp eel [⟨etg, eit, [], 0⟩, ⟨etg1, eit1, ifs, 0⟩] scope _ => pl eit && pl eit1 && ((ownP S.N own).map (·.2) == own) && blkC S.N sc scope (ownP S.N own) && ckI S sc sf it eit && ckWt S.N scope (fun i => own.contains i) it tg etg &&
      (tgN tg1).all (fun i => own.contains i) && ckI S (relS scope sc) scope it1 eit1 && ckWt S.N scope (fun i => (tgN tg1).contains i) it1 tg1 etg1 && ckE S (relS scope sc) scope el eel && ckC S (relS scope sc) scope c ifs
    | _ => false
  | sc, sf, .dc own ke ve tg it c, e => match e with
    | .DictComp ek ev [⟨etg, eit, ifs, 0⟩] scope _ => pl eit && ((ownP S.N own).map (·.2) == own) && blkC S.N sc scope (ownP S.N own) && ckI S sc sf it eit && ckWt S.N scope (fun i => own.contains i) it tg etg &&
      ckE S (relS scope sc) scope ke ek && ckE S (relS scope sc) scope ve ev && ckC S (relS scope sc) scope c ifs
    | _ => false
  | sc, sf, .lrng it, e => match e with
    | .Call (.Name x _) [e] [] _ => biN S sc "list" x && pl e && ckR S sc sf it e
    | _ => false
  | sc, sf, .trng it, e => match e with
    | .Call (.Name x _) [e] [] _ => biN S sc "tuple" x && pl e && ckR S sc sf it e
    | _ => false
def ckEs (S : Stat) : Scope → Scope → IEs → List Expr → Bool
  | _, _, .nil, es => es.isEmpty
  | sc, sf, .cons e es, l => match l with
    | x :: xs => pl x && ckE S sc sf e x && ckEs S sc sf es xs
    | [] => false
def ckKs (S : Stat) : Scope → Scope → IEs → List Keyword → Bool
  | _, _, .nil, l => l.isEmpty
  | sc, sf, .cons e es, l => match l with
    | ⟨_, x, _⟩ :: xs => ckE S sc sf e x && ckKs S sc sf es xs
    | [] => false
def ckD (S : Stat) : Scope → Scope → IEs → List (Option Expr) → List Expr → Bool
  | _, _, .nil, ks, vs => ks.isEmpty && vs.isEmpty
  | sc, sf, .cons k es, ks, vs => match es with
    | .nil => false
    | .cons v es => match ks, vs with
      | some ek :: ks, ev :: vs => ckE S sc sf k ek && ckE S sc sf v ev && ckD S sc sf es ks vs
      | _, _ => false
def ckO (S : Stat) : Scope → Scope → IEo → Option Expr → Bool
  | _, _, .no, o => o.isNone
  | sc, sf, .yes e, o => match o with
    | some x => ckE S sc sf e x
    | none => false
def ckC (S : Stat) : Scope → Scope → IEo → List Expr → Bool
  | _, _, .no, l => l.isEmpty
  | sc, sf, .yes e, l => match l with
    | [x] => ckE S sc sf e x
    | _ => false
/-- what is walked -/
def ckI (S : Stat) : Scope → Scope → It → Expr → Bool
  | sc, sf, .seq e, x => ckE S sc sf e x
  | sc, sf, .rng1 a, x => match x with
    | .Call (.Name x _) [ea] [] _ => biN S sc "range" x && pl ea && ckE S sc sf a ea
    | _ => false
  | sc, sf, .rng2 a b, x => match x with
    | .Call (.Name x _) [ea, eb] [] _ => biN S sc "range" x && pl ea && pl eb && ckE S sc sf a ea && ckE S sc sf b eb
    | _ => false
  | sc, sf, .zip2 a b, x => match x with
    | .Call (.Name x _) [ea, eb] [] _ => biN S sc "zip" x && pl ea && pl eb && ckE S sc sf a ea && ckE S sc sf b eb
    | _ => false
  | sc, sf, .enm a, x => match x with
    | .Call (.Name x _) [ea] [] _ => biN S sc "enumerate" x && pl ea && ckE S sc sf a ea
    | _ => false
  | _, _, .items _, _ => false
/-- a range as an argument -/
def ckR (S : Stat) : Scope → Scope → It → Expr → Bool
  | sc, sf, .rng1 a, x => match x with
    | .Call (.Name x _) [ea] [] _ => biN S sc "range" x && pl ea && ckE S sc sf a ea
    | _ => false
  | sc, sf, .rng2 a b, x => match x with
    | .Call (.Name x _) [ea, eb] [] _ => biN S sc "range" x && pl ea && pl eb && ckE S sc sf a ea && ckE S sc sf b eb
    | _ => false
  | _, _, .seq _, _ => false
  | _, _, .zip2 _ _, _ => false
  | _, _, .enm _, _ => false
  | _, _, .items _, _ => false
end
/-! ### statements -/
def isComp : Expr → Bool
  | .ListComp .. => true
  | .SetComp .. => true
  | .DictComp .. => true
  | _ => false
/-- what swapsWith answers for a name -/
def swB (sc : Scope) (e : Expr) (t : Str) (p : Pos) : Bool := match e with
  | .ListComp _ _ s _ => (sc.names.lookup t == some .local) && (p.line == e.pos.line) && !(s.names.any fun (n, k) => n == t && (k == .local || k == .cell))
  | .SetComp _ _ s _ => (sc.names.lookup t == some .local) && (p.line == e.pos.line) && !(s.names.any fun (n, k) => n == t && (k == .local || k == .cell))
  | .DictComp _ _ _ s _ => (sc.names.lookup t == some .local) && (p.line == e.pos.line) && !(s.names.any fun (n, k) => n == t && (k == .local || k == .cell))
  | _ => false
/-- what swappedStores answers: none, names, or nothing known -/
def swS (sc : Scope) (ts vs : List Expr) : Option (Option (List Str)) :=
  if !(ts.length == 2 || ts.length == 3) || vs.length != ts.length then some none
  else if vs.any fun | .Starred .. => true | _ => false then some none
  else
    let line := (ts.head?.map (·.pos.line)).getD 0
    let names := ts.filterMap fun
      | .Name id pos => if sc.names.lookup id == some .local && pos.line == line then some id else none
      | _ => none
    if names.length != ts.length || names.eraseDups.length != names.length then some none
    else if vs.all (foldedForSure 8) then some none
    else if vs.all (constantsAlone 8) then none
    else some (some names)
def swE (sc : Scope) (ts : List Expr) (e : Expr) : Option (Option (List Str)) := match e with
  | .Tuple vs _ _ => swS sc ts vs
  | _ => some none
def nmsOf : Tgs → Option (List Nat)
  | .nil => some []
  | .cons (.nm i) gs => match nmsOf gs with
    | some is => some (i :: is)
    | none => none
  | .cons (.tup _) _ => none
def ckLg (S : Stat) (sc : Scope) (okS : Nat → Bool) : Lgs → List Expr → Bool
  | .nil, [] => true
  | .nm i r, .Name x _ :: es => atN S.N i x && loc sc x && okS i && ckLg S sc okS r es
  | .sb o i r, .Subscript eo ei _ :: es => pl ei && pl eo && ckE S sc sc o eo && ckE S sc sc i ei && ckLg S sc okS r es
  | _, _ => false
mutual
def ckS (S : Stat) (sc : Scope) : IS → Stmt → Bool
  | .bad, _ => true
  | .pass, st => match st with
    | .Pass _ => true
    | _ => false
  | .set (.nm i) e, st => match st with
    | .Assign [.Name x p] ee _ => atN S.N i x && loc sc x && !(S.fx.contains i) && ckE S sc sc e ee && (!(swB sc ee x p) || (isComp ee && sc.names.lookup x == some .local))
    | _ => false
  | .set (.tup gs) e, st => match st with
    | .Assign [.Tuple ts _ _] ee _ => ckTgs S.N sc (fun i => !(S.fx.contains i)) gs ts && ckE S sc sc e ee && (match swE sc ts ee with
      | some none => true
      | some (some ns) => (match nmsOf gs with
        | some is => (is.length == ns.length) && (is.zip ns).all (fun p => atN S.N p.1 p.2 && (sc.names.lookup p.2 == some .local)) && decide is.Nodup
        | none => false)
      | none => false)
    | _ => false
  | .sets gs es, st => match st with
    | .Assign [.Tuple ts _ _] (.Tuple ees _ _) _ => ckLg S sc (fun i => !(S.fx.contains i)) gs ts && ckEs S sc sc es ees && (match swS sc ts ees with
      | some none => true
      | _ => false) && Nat.ble ts.length 100
    | _ => false
  | .sub o i e, st => match st with
    | .Assign [.Subscript eo ei _] ee _ => pl ei && pl eo && ckE S sc sc o eo && ckE S sc sc i ei && ckE S sc sc e ee
    | _ => false
  | .aug i op e, st => match st with
    | .AugAssign (.Name x _) o ee _ => atN S.N i x && loc sc x && !(S.fx.contains i) && (match op, o with
      | .add, .Add => true
      | .sub, .Sub => true
      | _, _ => false) && ckE S sc sc e ee
    | _ => false
  | .ex e, st => match st with
    | .Expr ee _ => !(isComp ee) && ckE S sc sc e ee
    | _ => false
  | .ite c a b, st => match st with
    | .If ec ea eb _ => ckE S sc sc c ec && ckSs S sc a ea && ckSs S sc b eb
    | _ => false
  | .fr tg it b, st => match st with
    | .For etg eit eb [] _ => pl eit && ckI S sc sc it eit && ckWt S.N sc (fun i => !(S.fx.contains i)) it tg etg && ckSs S sc b eb
    | _ => false
  | .wh c b, st => match st with
    | .While ec eb [] _ => ckE S sc sc c ec && ckSs S sc b eb
    | _ => false
  | .ret e, st => match st with
    | .Return (some ee) _ => ckE S sc sc e ee
    | _ => false
  | .retN, st => match st with
    | .Return none _ => true
    | _ => false
  | .brk, st => match st with
    | .Break _ => true
    | _ => false
  | .cnt, st => match st with
    | .Continue _ => true
    | _ => false
def ckSs (S : Stat) (sc : Scope) : ISs → List Stmt → Bool
  | .nil, [] => true
  | .cons s ss, x :: xs => ckS S sc s x && ckSs S sc ss xs
  | _, _ => false
end
end Ev
set_option Elab.async false
set_option linter.all false
set_option maxRecDepth 100000
set_option maxHeartbeats 4000000
set_option autoImplicit false
/-! Snd1: what a value of the evaluator is in the abstract heap. -/
namespace Ev
open PySem PySem.W PySem.Spec L2
open PyProof.Rows hiding St

def keyD : Key → PyData
  | .inl i => .int i
  | .inr x => .str x

/-- a dict with tuple keys: what its own object tells -/
def DN (P : Program) (w : World) (a : Addr) (xs : List (NestedKey × Addr)) (vs : List V) : HO := .ext fun h => (a == sysModules) = false ∧ xs.length ≤ sizeLine ∧ (∀ x ∈ xs, x.1.depth ≤ 8) ∧ (xs.map (·.1)).Nodup ∧
  ∃ us : List Value, Vals vs us ∧ us.length = xs.length ∧ ∃ o es ep, h.get? a = some o ∧ o.ExactDict ∧ o.data = .dict es ep ∧ es.toList = (xs.zip us).map fun q => entryOfKey (nestedKind P w) (q.1.1, q.1.2, q.2)
abbrev nkV (xs : List (NestedKey × Addr)) : List V := xs.map fun x => V.ref x.2
abbrev nkD (xs : List (NestedKey × Addr)) : List PyData := xs.map fun x => x.1.data

/-- a tuple whose object is known: it bears no dict of its own -/
def SqD (K : PySem.W.Frag) (H : Hp) (a : Addr) (xs : List V) : Prop :=
  (∃ o : Obj, H a = some (.frz o (.tup xs)) ∧ o.dict = none) ∨
    ∃ (o : Obj) (its : Array Value) (n : Nat), K.lookup a = some o ∧ o.cls = .type "tuple" ∧ o.dict = none ∧ o.data = .seq its n ∧ its.size ≤ sizeLine ∧ Vals xs its.toList
theorem SqD.t {K : PySem.W.Frag} {H : Hp} {a : Addr} {xs : List V} (h : SqD K H a xs) : SqT K H a xs := by
  rcases h with ⟨o, h, _⟩ | ⟨o, its, n, h1, h2, _, h3, h4, h5⟩
  · exact .inl (.inr ⟨o, h⟩)
  · exact .inr ⟨o, its, n, h1, h2, h3, h4, h5⟩
/-- the script -/
def SqZ (K : PySem.W.Frag) (H : Hp) (a : Addr) (xs : List V) : Prop :=
  (∃ o : Obj, H a = some (.frz o (.lst xs))) ∨
    ∃ (o : Obj) (its : Array Value) (n : Nat), K.lookup a = some o ∧ o.cls = .type "list" ∧ o.dict = none ∧ o.data = .seq its n ∧ its.size ≤ sizeLine ∧ Vals xs its.toList
theorem SqZ.l {K : PySem.W.Frag} {H : Hp} {a : Addr} {xs : List V} (h : SqZ K H a xs) : SqL K H a xs := by
  rcases h with ⟨o, h⟩ | h
  · exact .inl (.inr ⟨o, h⟩)
  · exact .inr h

structure Gd where
  P : Program
  w : World
  K : PySem.W.Frag
  fa : Nat → Option Addr
  xi : Ex → Value → Option Addr → Hp → Prop

mutual
inductive Rep (G : Gd) (H : Hp) (O : List Addr) : V → PyData → Prop
  | non : Rep G H O .non .none
  | bl {b} : Rep G H O (.bl b) (.bool b)
  | int {i} : Rep G H O (.int i) (.int i)
  | str {x} : Rep G H O (.str x) (.str x)
  | tup {a vs xs} : SqD G.K H a vs → Reps G H O vs xs → Rep G H O (.ref a) (.tuple xs)
  | lst {a vs xs} : a ∉ O → H a = some (.lst vs) → Reps G H O vs xs → Rep G H O (.ref a) (.list xs)
  | dK {a} {ks : List Key} {vs : List V} {xs : List PyData} : a ∉ O → Rd H a (.dK (ks.zip vs)) → ks.length = vs.length → ks.Nodup → Reps G H O vs xs → Rep G H O (.ref a) (.dict ((ks.map keyD).zip xs))
  | dN {a} {ks : List (NestedKey × Addr)} {vs : List V} {xs : List PyData} : a ∉ O → Rd H a (DN G.P G.w a ks vs) → ks.length = vs.length → (ks ≠ [] ∧ (ks.map (·.1)).Nodup) → Reps G H O (nkV ks) (nkD ks) → Reps G H O vs xs → Rep G H O (.ref a) (.dict ((nkD ks).zip xs))
inductive Reps (G : Gd) (H : Hp) (O : List Addr) : List V → List PyData → Prop
  | nil : Reps G H O [] []
  | cons {v x vs xs} : Rep G H O v x → Reps G H O vs xs → Reps G H O (v :: vs) (x :: xs)
end
mutual
inductive RepT (G : Gd) (H : Hp) (O : List Addr) : V → T → List Addr → Prop
  | un {v} : RepT G H O v .un []
  | d {v x} : Rep G H O v x → RepT G H O v (.d x) []
  | fn {a i} : G.fa i = some a → RepT G H O (.ref a) (.fn i) []
  | fz {a vs xs} : SqZ G.K H a vs → Reps G H O vs xs → RepT G H O (.ref a) (.fz xs) []
  | lk {a o u} : H a = some (.frz o u) → RepT G H O (.ref a) (.lk o u) []
  | tup {a vs ts fp} : SqD G.K H a vs → RepTs G H O vs ts fp → RepT G H O (.ref a) (.tup ts) fp
  | lst {a vs ts fp} : H a = some (.lst vs) → RepTs G H O vs ts fp → RepT G H O (.ref a) (.lst ts) (a :: fp)
  | dK {a} {ks : List Key} {vs : List V} {ts : List T} {fp : List Addr} : H a = some (.dK (ks.zip vs)) → ks.length = vs.length → ks.Nodup → RepTs G H O vs ts fp → RepT G H O (.ref a) (.dct (ks.map keyD) ts) (a :: fp)
  | dN {a} {ks : List (NestedKey × Addr)} {vs : List V} {ts : List T} {fp : List Addr} : H a = some (DN G.P G.w a ks vs) → ks.length = vs.length → (ks ≠ [] ∧ (ks.map (·.1)).Nodup) → Reps G H O (nkV ks) (nkD ks) → RepTs G H O vs ts fp → RepT G H O (.ref a) (.dct (nkD ks) ts) (a :: fp)
inductive RepTs (G : Gd) (H : Hp) (O : List Addr) : List V → List T → List Addr → Prop
  | nil : RepTs G H O [] [] []
  | cons {v t f vs ts g} : RepT G H O v t f → RepTs G H O vs ts g → RepTs G H O (v :: vs) (t :: ts) (f ++ g)
end

/-- what may change so that data stays -/
structure Up (O : List Addr) (H : Hp) (O' : List Addr) (H' : Hp) : Prop where
  lst : ∀ a vs, a ∉ O → H a = some (.lst vs) → H' a = some (.lst vs)
  out : ∀ a u, a ∉ O → Rd H a u → Rd H' a u
  fz : ∀ a o u, H a = some (.frz o u) → H' a = some (.frz o u)
  own : ∀ a, a ∈ O' → a ∈ O ∨ H a = none
section
variable {G : Gd} {H H' : Hp} {O O' : List Addr}
theorem rd_some {a : Addr} {u : HO} (h : Rd H a u) : H a ≠ none := by
  rcases h with h | ⟨o, h⟩ <;> rw [h] <;> simp
theorem Up.nin (u : Up O H O' H') {a : Addr} {o : HO} (h : a ∉ O) (r : Rd H a o) : a ∉ O' := fun z => by
  rcases u.own a z with q | q
  · exact h q
  · exact rd_some r q
theorem Up.sqt (u : Up O H O' H') {K : PySem.W.Frag} {a : Addr} {vs : List V} (h : SqD K H a vs) : SqD K H' a vs := by
  rcases h with ⟨o, h, hd⟩ | h
  · exact .inl ⟨o, u.fz _ _ _ h, hd⟩
  · exact .inr h
theorem Up.sqz (u : Up O H O' H') {K : PySem.W.Frag} {a : Addr} {vs : List V} (h : SqZ K H a vs) : SqZ K H' a vs := by
  rcases h with ⟨o, h⟩ | h
  · exact .inl ⟨o, u.fz _ _ _ h⟩
  · exact .inr h
mutual
theorem Rep.up (u : Up O H O' H') : ∀ {v x}, Rep G H O v x → Rep G H' O' v x
  | _, _, .non => .non
  | _, _, .bl => .bl
  | _, _, .int => .int
  | _, _, .str => .str
  | _, _, .tup h r => .tup (u.sqt h) (Reps.up u r)
  | _, _, .lst n h r => .lst (u.nin n (.inl h)) (u.lst _ _ n h) (Reps.up u r)
  | _, _, .dK n h l nd r => .dK (u.nin n h) (u.out _ _ n h) l nd (Reps.up u r)
  | _, _, .dN n h l nd k r => .dN (u.nin n h) (u.out _ _ n h) l nd (Reps.up u k) (Reps.up u r)
theorem Reps.up (u : Up O H O' H') : ∀ {vs xs}, Reps G H O vs xs → Reps G H' O' vs xs
  | _, _, .nil => .nil
  | _, _, .cons h r => .cons (Rep.up u h) (Reps.up u r)
end
mutual
theorem RepT.up (u : Up O H O' H') : ∀ {v t f}, RepT G H O v t f → (∀ a ∈ f, H' a = H a) → RepT G H' O' v t f
  | _, _, _, .un, _ => .un
  | _, _, _, .d h, _ => .d (h.up u)
  | _, _, _, .fn h, _ => .fn h
  | _, _, _, .fz h r, _ => .fz (u.sqz h) (Reps.up u r)
  | _, _, _, .lk h, _ => .lk (u.fz _ _ _ h)
  | _, _, _, .tup h r, k => .tup (u.sqt h) (RepTs.up u r k)
  | _, _, _, .lst h r, k => .lst ((k _ List.mem_cons_self).trans h) (RepTs.up u r fun a ha => k a (List.mem_cons_of_mem _ ha))
  | _, _, _, .dK h l nd r, k => .dK ((k _ List.mem_cons_self).trans h) l nd (RepTs.up u r fun a ha => k a (List.mem_cons_of_mem _ ha))
  | _, _, _, .dN h l nd q r, k => .dN ((k _ List.mem_cons_self).trans h) l nd (Reps.up u q) (RepTs.up u r fun a ha => k a (List.mem_cons_of_mem _ ha))
theorem RepTs.up (u : Up O H O' H') : ∀ {vs ts f}, RepTs G H O vs ts f → (∀ a ∈ f, H' a = H a) → RepTs G H' O' vs ts f
  | _, _, _, .nil, _ => .nil
  | _, _, _, .cons h r, k => .cons (RepT.up u h fun a ha => k a (List.mem_append_left _ ha)) (RepTs.up u r fun a ha => k a (List.mem_append_right _ ha))
end
theorem RepTs.length : ∀ {vs ts f}, RepTs G H O vs ts f → vs.length = ts.length
  | _, _, _, .nil => rfl
  | _, _, _, .cons _ r => congrArg (· + 1) r.length
theorem Reps.length : ∀ {vs xs}, Reps G H O vs xs → vs.length = xs.length
  | _, _, .nil => rfl
  | _, _, .cons _ r => congrArg (· + 1) r.length
theorem RepTs.append : ∀ {vs ts f vs' ts' f'}, RepTs G H O vs ts f → RepTs G H O vs' ts' f' → RepTs G H O (vs ++ vs') (ts ++ ts') (f ++ f')
  | _, _, _, _, _, _, .nil, s => s
  | _, _, _, _, _, _, .cons h r, s => by
    rw [List.append_assoc]
    exact .cons h (RepTs.append r s)
theorem RepTs.split : ∀ {ts ts' vs f}, RepTs G H O vs (ts ++ ts') f → ∃ w w' g g', vs = w ++ w' ∧ f = g ++ g' ∧ RepTs G H O w ts g ∧ RepTs G H O w' ts' g'
  | [], _, vs, f, h => ⟨[], vs, [], f, rfl, rfl, .nil, h⟩
  | t :: ts, _, _, _, .cons h r => by
    obtain ⟨w, w', g, g', e1, e2, h1, h2⟩ := RepTs.split r
    exact ⟨_ :: w, w', _ ++ g, g', by rw [e1]; rfl, by rw [e2, List.append_assoc], .cons h h1, h2⟩
theorem RepTs.splitV {vs vs' : List V} {ts ts' : List T} {f : List Addr} (h : RepTs G H O (vs ++ vs') (ts ++ ts') f) (l : vs.length = ts.length) : ∃ g g', f = g ++ g' ∧ RepTs G H O vs ts g ∧ RepTs G H O vs' ts' g' := by
  obtain ⟨w, w', g, g', e1, e2, h1, h2⟩ := h.split
  obtain ⟨rfl, rfl⟩ := List.append_inj e1 (by rw [l, h1.length])
  exact ⟨g, g', e2, h1, h2⟩
/-- the j-th of a row -/
theorem RepTs.pick : ∀ {ts vs f j t}, RepTs G H O vs ts f → nth ts j = some t → ∃ vl v vr tl tr l g r, vs = vl ++ v :: vr ∧ ts = tl ++ t :: tr ∧ f = l ++ (g ++ r) ∧ vl.length = j ∧ tl.length = j ∧
    RepTs G H O vl tl l ∧ RepT G H O v t g ∧ RepTs G H O vr tr r
  | _, _, _, 0, _, .cons h r, e => by
    cases e
    exact ⟨[], _, _, [], _, [], _, _, rfl, rfl, rfl, rfl, rfl, .nil, h, r⟩
  | _, _, _, j + 1, t, .cons h r, e => by
    obtain ⟨vl, v, vr, tl, tr, l, g, r', e1, e2, e3, n1, n2, h1, h2, h3⟩ := RepTs.pick (j := j) r e
    exact ⟨_ :: vl, v, vr, _ :: tl, tr, _ ++ l, g, r', by rw [e1]; rfl, by rw [e2]; rfl, by rw [e3, List.append_assoc], by simp [n1], by simp [n2], .cons h h1, h2, h3⟩
theorem nth_put {α : Type} : ∀ {xs ys : List α} {j : Nat} {x y : α}, xs.length = j → put (xs ++ x :: ys) j y = xs ++ y :: ys
  | [], _, _, _, _, rfl => rfl
  | _ :: xs, ys, _, _, _, rfl => by
    show _ :: put (xs ++ _) xs.length _ = _
    rw [nth_put rfl]
    rfl
theorem nth_at {α : Type} : ∀ {xs ys : List α} {j : Nat} {x : α}, xs.length = j → nth (xs ++ x :: ys) j = some x
  | [], _, _, _, rfl => rfl
  | _ :: xs, ys, _, _, rfl => by
    show nth (xs ++ _) xs.length = _
    exact nth_at rfl
theorem nth_eq {α : Type} : ∀ (xs : List α) (j : Nat), nth xs j = xs[j]?
  | [], _ => by simp [nth]
  | _ :: _, 0 => rfl
  | x :: xs, j + 1 => by
    show nth xs j = _
    rw [nth_eq xs j]
    simp
theorem put_eq {α : Type} : ∀ (xs : List α) (j : Nat) (y : α), put xs j y = xs.set j y
  | [], _, _ => by simp [put]
  | _ :: _, 0, _ => rfl
  | x :: xs, j + 1, y => by
    show x :: put xs j y = _
    rw [put_eq xs j y]
    rfl
theorem put_length {α : Type} (xs : List α) (j : Nat) (y : α) : (put xs j y).length = xs.length := by rw [put_eq]; simp
theorem nth_lt {α : Type} {xs : List α} {j : Nat} {x : α} (h : nth xs j = some x) : j < xs.length := by
  rw [nth_eq] at h
  exact (List.getElem?_eq_some_iff.mp h).1
theorem nth_put_self {α : Type} {xs : List α} {j : Nat} {y : α} (h : j < xs.length) : nth (put xs j y) j = some y := by
  rw [nth_eq, put_eq]; simp [h]
theorem nth_put_ne {α : Type} {xs : List α} {i j : Nat} {y : α} (h : i ≠ j) : nth (put xs j y) i = nth xs i := by
  rw [nth_eq, nth_eq, put_eq, List.getElem?_set_ne (Ne.symm h)]
theorem nth_app {α : Type} {xs ys : List α} {i : Nat} {x : α} (h : nth xs i = some x) : nth (xs ++ ys) i = some x := by
  have := nth_lt h
  rw [nth_eq] at h ⊢
  rw [List.getElem?_append_left this]; exact h
theorem put_app {α : Type} {xs ys : List α} {i : Nat} {x : α} (h : i < xs.length) : put (xs ++ ys) i x = put xs i x ++ ys := by
  rw [put_eq, put_eq, List.set_append_left _ _ h]

/-! ### as data -/
/-- the own things in a tree are let go: data -/
theorem Up.less (h : ∀ a, a ∈ O' → a ∈ O) : Up O H O' H := ⟨fun _ _ _ r => r, fun _ _ _ r => r, fun _ _ _ r => r, fun a z => .inl (h a z)⟩
mutual
theorem RepT.data {O1 : List Addr} (hs : ∀ a, a ∈ O1 → a ∈ O) : ∀ {v t f x}, RepT G H O v t f → (∀ a ∈ f, a ∉ O1) → t.data = some x → Rep G H O1 v x
  | _, _, _, _, .un, _, e => by simp [T.data] at e
  | _, _, _, _, .d h, _, e => by
    simp only [T.data, Option.some.injEq] at e
    subst e
    exact h.up (.less hs)
  | _, _, _, _, .fn _, _, e => by simp [T.data] at e
  | _, _, _, _, .fz _ _, _, e => by simp [T.data] at e
  | _, _, _, _, .lk _, _, e => by simp [T.data] at e
  | _, _, _, _, .tup h r, n, e => by
    unfold T.data at e
    split at e
    · rename_i xs e'
      cases e
      exact .tup h (RepTs.data hs r n e')
    · cases e
  | _, _, _, _, .lst h r, n, e => by
    unfold T.data at e
    split at e
    · rename_i xs e'
      cases e
      exact .lst (n _ List.mem_cons_self) h (RepTs.data hs r (fun a ha => n a (List.mem_cons_of_mem _ ha)) e')
    · cases e
  | _, _, _, _, .dK h l nd r, n, e => by
    unfold T.data at e
    split at e
    · rename_i xs e'
      cases e
      exact .dK (n _ List.mem_cons_self) (.inl h) l nd (RepTs.data hs r (fun a ha => n a (List.mem_cons_of_mem _ ha)) e')
    · cases e
  | _, _, _, _, .dN h l nd q r, n, e => by
    unfold T.data at e
    split at e
    · rename_i xs e'
      cases e
      exact .dN (n _ List.mem_cons_self) (.inl h) l nd (q.up (.less hs)) (RepTs.data hs r (fun a ha => n a (List.mem_cons_of_mem _ ha)) e')
    · cases e
theorem RepTs.data {O1 : List Addr} (hs : ∀ a, a ∈ O1 → a ∈ O) : ∀ {vs ts f xs}, RepTs G H O vs ts f → (∀ a ∈ f, a ∉ O1) → T.datas ts = some xs → Reps G H O1 vs xs
  | _, _, _, _, .nil, _, e => by
    simp only [T.datas, Option.some.injEq] at e
    subst e
    exact .nil
  | _, _, _, _, .cons h r, n, e => by
    unfold T.datas at e
    split at e
    · rename_i x e1
      split at e
      · rename_i xs e2
        cases e
        exact .cons (RepT.data hs h (fun a ha => n a (List.mem_append_left _ ha)) e1) (RepTs.data hs r (fun a ha => n a (List.mem_append_right _ ha)) e2)
      · cases e
    · cases e
end
theorem RepTs.ds : ∀ {vs ts f xs}, RepTs G H O vs ts f → Ev.ds ts = some xs → Reps G H O vs xs ∧ f = []
  | _, _, _, _, .nil, e => by
    simp only [Ev.ds, Option.some.injEq] at e
    subst e
    exact ⟨.nil, rfl⟩
  | _, _, _, _, .cons h r, e => by
    unfold Ev.ds at e
    split at e
    · rename_i heq
      cases heq
    · rename_i x ts' heq
      split at e
      · rename_i xs' e2
        cases e
        cases heq
        obtain ⟨r1, e1⟩ := RepTs.ds r e2
        cases h with
        | d h => exact ⟨.cons h r1, by rw [e1]; rfl⟩
      · cases e
    · cases e
theorem Reps.toT : ∀ {vs xs}, Reps G H O vs xs → RepTs G H O vs (xs.map .d) []
  | _, _, .nil => .nil
  | _, _, .cons h r => RepTs.cons (.d h) (Reps.toT r)

/-! ### the world -/
def Hold (G : Gd) (H : Hp) (vs : List V) (ts : List T) : Prop := ∃ O : List Addr, O.Nodup ∧ RepTs G H O vs ts O
theorem Same.rd (s : Same H H') {a : Addr} {u : HO} (h : Rd H a u) : Rd H' a u := by
  rcases h with h | ⟨o, h⟩
  · exact .inl (s _ _ h)
  · exact .inr ⟨o, s _ _ h⟩
/-- new own things at fp -/
theorem Up.grow (s : Same H H') {fp : List Addr} (h : ∀ a ∈ fp, H a = none) (h' : ∀ a, a ∈ O' → a ∈ O ∨ a ∈ fp) : Up O H O' H' :=
  ⟨fun _ _ _ r => s _ _ r, fun _ _ _ r => Same.rd s r, fun _ _ _ r => s _ _ r, fun a z => (h' a z).imp id (h a)⟩
theorem Up.same (s : Same H H') : Up O H O H' := ⟨fun _ _ _ r => s _ _ r, fun _ _ _ r => Same.rd s r, fun _ _ _ r => s _ _ r, fun _ z => .inl z⟩
/-- each own thing stands -/
theorem RepTs.there : ∀ {vs ts f}, RepTs G H O vs ts f → ∀ a ∈ f, H a ≠ none := by
  have aux : ∀ {vs ts f}, RepTs G H O vs ts f → ∀ a ∈ f, H a ≠ none := by
    intro vs ts f h
    refine RepTs.rec (motive_1 := fun v t f _ => ∀ a ∈ f, H a ≠ none) (motive_2 := fun vs ts f _ => ∀ a ∈ f, H a ≠ none) ?_ ?_ ?_ ?_ ?_ ?_ ?_ ?_ ?_ ?_ ?_ h
    · simp
    · simp
    · simp
    · simp
    · simp
    · intros; rename_i ih a ha; exact ih a ha
    · intro a vs ts fp h r ih b hb
      rcases List.mem_cons.mp hb with rfl | hb
      · rw [h]; simp
      · exact ih b hb
    · intro a ks vs ts fp h l _ r ih b hb
      rcases List.mem_cons.mp hb with rfl | hb
      · rw [h]; simp
      · exact ih b hb
    · intro a ks vs ts fp h l _ _ r ih b hb
      rcases List.mem_cons.mp hb with rfl | hb
      · rw [h]; simp
      · exact ih b hb
    · simp
    · intro v t f vs ts g h r ih1 ih2 a ha
      rcases List.mem_append.mp ha with q | q
      · exact ih1 a q
      · exact ih2 a q
  intro vs ts f h; exact aux h
theorem Hold.same {vs : List V} {ts : List T} (h : Hold G H vs ts) (s : Same H H') : Hold G H' vs ts := by
  obtain ⟨O, nd, r⟩ := h
  refine ⟨O, nd, r.up (.same s) fun a ha => ?_⟩
  have := r.there a ha
  cases e : H a with
  | none => exact absurd e this
  | some o => exact s _ _ e
/-- a result: over the world's own things O a tree with its own things fp, all new -/
def Res (G : Gd) (H : Hp) (O : List Addr) (H' : Hp) (v : V) (t : T) : Prop := ∃ fp, fp.Nodup ∧ (∀ a ∈ fp, H a = none) ∧ RepT G H' (fp ++ O) v t fp
theorem Res.d {v : V} {x : PyData} (h : Rep G H' O v x) : Res G H O H' v (.d x) := ⟨[], .nil, (fun _ z => nomatch z), .d h⟩
theorem disj_of {fp O : List Addr} (h : ∀ a ∈ fp, H a = none) (h' : ∀ a ∈ O, H a ≠ none) : ∀ a ∈ fp, ∀ b ∈ O, a ≠ b := fun a ha b hb e => h' b hb (e ▸ h a ha)
theorem Hold.push {vs : List V} {ts : List T} {v : V} {t : T} (nd : O.Nodup) (r : RepTs G H O vs ts O) (s : Same H H') (q : Res G H O H' v t) : Hold G H' (v :: vs) (t :: ts) := by
  obtain ⟨fp, nf, hn, q⟩ := q
  refine ⟨fp ++ O, List.nodup_append.mpr ⟨nf, nd, disj_of hn r.there⟩, .cons q (r.up (.grow s hn fun a ha => (List.mem_append.mp ha).symm) fun a ha => ?_)⟩
  have := r.there a ha
  cases e : H a with
  | none => exact absurd e this
  | some o => exact s _ _ e
theorem Hold.perm {a b c d : List V} {a' b' c' d' : List T} (h : Hold G H (a ++ b ++ c ++ d) (a' ++ b' ++ c' ++ d')) (ha : a.length = a'.length) (hb : b.length = b'.length) (hc : c.length = c'.length) : Hold G H (a ++ c ++ b ++ d) (a' ++ c' ++ b' ++ d') := by
  obtain ⟨O, nd, r⟩ := h
  obtain ⟨g3, g4, rfl, r3, r4⟩ := r.splitV (by simp [ha, hb, hc])
  obtain ⟨g2, gc, rfl, r2, rc⟩ := r3.splitV (by simp [ha, hb])
  obtain ⟨ga, gb, rfl, ra, rb⟩ := r2.splitV ha
  have hm : ∀ x, x ∈ ga ++ gc ++ gb ++ g4 → x ∈ ga ++ gb ++ gc ++ g4 := fun x hx => by
    simp only [List.mem_append] at hx ⊢
    rcases hx with ((h | h) | h) | h <;> simp [h]
  have nd' : (ga ++ gc ++ gb ++ g4).Nodup := by
    refine (List.Perm.nodup_iff ?_).mp nd
    refine List.Perm.append_right _ ?_
    rw [List.append_assoc, List.append_assoc]
    exact List.Perm.append_left _ List.perm_append_comm
  refine ⟨ga ++ gc ++ gb ++ g4, nd', ?_⟩
  have := ((ra.append rc).append rb).append r4
  exact this.up (.less hm) fun _ _ => rfl
theorem Hold.drop {a b c : List V} {a' b' c' : List T} (h : Hold G H (a ++ b ++ c) (a' ++ b' ++ c')) (ha : a.length = a'.length) (hb : b.length = b'.length) : Hold G H (a ++ c) (a' ++ c') := by
  obtain ⟨O, nd, r⟩ := h
  obtain ⟨g3, g4, rfl, r3, r4⟩ := r.splitV (by simp [ha, hb])
  obtain ⟨ga, gb, rfl, ra, rb⟩ := r3.splitV ha
  have nd' : (ga ++ g4).Nodup := by
    refine nd.sublist ?_
    exact List.Sublist.append (List.sublist_append_left _ _) (List.Sublist.refl _)
  refine ⟨ga ++ g4, nd', (ra.append r4).up (.less fun x hx => ?_) fun _ _ => rfl⟩
  simp only [List.mem_append] at hx ⊢
  rcases hx with h | h <;> simp [h]
end
end Ev
set_option Elab.async false
set_option linter.all false
set_option maxRecDepth 100000
set_option maxHeartbeats 4000000
set_option autoImplicit false
/-! Snd2: the state beside the evaluator's slots; readings of its answers. -/
namespace Ev
open PySem PySem.W PySem.Spec L2
open PyProof.Rows hiding St

def sv (σ : St) : List V := σ.map fun o => o.getD .non
structure EnvOk (σ : St) (δ : List T) : Prop where
  len : σ.length = δ.length
  has : ∀ i t, nth δ i = some t → t ≠ .un → ∃ v, σ[i]? = some (some v)
structure At (G : Gd) (σ : St) (H : Hp) (δ : List T) (gv : List V) (gt : List T) : Prop where
  env : EnvOk σ δ
  len : gv.length = gt.length
  hold : Hold G H (gv ++ sv σ) (gt ++ δ)

section
variable {G : Gd} {H H' : Hp} {σ : St} {δ : List T} {gv : List V} {gt : List T}
theorem sv_len : (sv σ).length = σ.length := by simp [sv]
theorem sv_at {i : Nat} {v : V} (h : σ[i]? = some (some v)) : (sv σ)[i]? = some v := by simp [sv, h]
theorem EnvOk.put {i : Nat} {t : T} {v : V} (h : EnvOk σ δ) (e : σ[i]? = some (some v)) : EnvOk σ (put δ i t) := by
  refine ⟨by rw [put_length]; exact h.len, fun j u e' n => ?_⟩
  by_cases hj : j = i
  · subst hj; exact ⟨v, e⟩
  · rw [nth_put_ne hj] at e'
    exact h.has j u e' n
theorem EnvOk.un {i : Nat} (h : EnvOk σ δ) : EnvOk σ (Ev.put δ i .un) := by
  refine ⟨by rw [put_length]; exact h.len, fun j u e' n => ?_⟩
  by_cases hj : j = i
  · subst hj
    by_cases hl : j < δ.length
    · rw [nth_put_self hl] at e'
      exact absurd (Option.some.inj e').symm n
    · have := nth_lt e'
      rw [put_length] at this
      exact absurd this hl
  · rw [nth_put_ne hj] at e'
    exact h.has j u e' n
/-- a slot is set -/
theorem EnvOk.store {i : Nat} {t : T} {v : V} (h : EnvOk σ δ) : EnvOk (σ.set i (some v)) (Ev.put δ i t) := by
  refine ⟨by rw [put_length, List.length_set]; exact h.len, fun j u e' n => ?_⟩
  by_cases hj : j = i
  · subst hj
    have hl := nth_lt e'
    rw [put_length] at hl
    exact ⟨v, by rw [List.getElem?_set_self (by rw [h.len]; exact hl)]⟩
  · rw [nth_put_ne hj] at e'
    rw [List.getElem?_set_ne (Ne.symm hj)]
    exact h.has j u e' n
theorem sv_set {i : Nat} {v : V} : sv (σ.set i (some v)) = (sv σ).set i v := by simp [sv, List.map_set]

theorem At.same (h : At G σ H δ gv gt) (s : Same H H') : At G σ H' δ gv gt := ⟨h.env, h.len, h.hold.same s⟩
/-- the world's own things, for what an operation tells -/
theorem At.push {O : List Addr} {v : V} {t : T} (h : At G σ H δ gv gt) (nd : O.Nodup) (r : RepTs G H O (gv ++ sv σ) (gt ++ δ) O) (s : Same H H') (q : Res G H O H' v t) : At G σ H' δ (v :: gv) (t :: gt) :=
  ⟨h.env, by simp [h.len], Hold.push nd r s q⟩
theorem At.drop1 {v : V} {t : T} (h : At G σ H δ (v :: gv) (t :: gt)) : At G σ H δ gv gt := by
  refine ⟨h.env, by simpa using h.len, ?_⟩
  have := h.hold
  exact Hold.drop (a := []) (a' := []) (b := [v]) (b' := [t]) this rfl rfl
theorem At.dropL {vs : List V} {ts : List T} (h : At G σ H δ (vs ++ gv) (ts ++ gt)) (l : vs.length = ts.length) : At G σ H δ gv gt := by
  refine ⟨h.env, by have := h.len; simp at this; omega, ?_⟩
  have := h.hold
  rw [List.append_assoc, List.append_assoc] at this
  exact Hold.drop (a := []) (a' := []) (b := vs) (b' := ts) this rfl l
theorem At.drop2 {v w : V} {t u : T} (h : At G σ H δ (v :: w :: gv) (t :: u :: gt)) : At G σ H δ (v :: gv) (t :: gt) := by
  refine ⟨h.env, by simpa using h.len, ?_⟩
  have := h.hold
  exact Hold.drop (a := [v]) (a' := [t]) (b := [w]) (b' := [u]) this rfl rfl
theorem At.drop3 {v w z : V} {t u y : T} (h : At G σ H δ (v :: w :: z :: gv) (t :: u :: y :: gt)) : At G σ H δ (v :: gv) (t :: gt) := by
  refine ⟨h.env, by simpa using h.len, ?_⟩
  have := h.hold
  exact Hold.drop (a := [v]) (a' := [t]) (b := [w, z]) (b' := [u, y]) this rfl rfl
theorem At.dropM {v : V} {t : T} {vs : List V} {ts : List T} (h : At G σ H δ (v :: (vs ++ gv)) (t :: (ts ++ gt))) (l : vs.length = ts.length) : At G σ H δ (v :: gv) (t :: gt) := by
  refine ⟨h.env, by have := h.len; simp at this ⊢; omega, ?_⟩
  have := h.hold
  have e1 : v :: (vs ++ gv) ++ sv σ = [v] ++ vs ++ (gv ++ sv σ) := by simp
  have e2 : t :: (ts ++ gt) ++ δ = [t] ++ ts ++ (gt ++ δ) := by simp
  rw [e1, e2] at this
  exact Hold.drop (a := [v]) (a' := [t]) (b := vs) (b' := ts) this rfl l
/-- the last of a row is its first -/
theorem At.turn {vs : List V} {ts : List T} {v : V} {t : T} (h : At G σ H δ (vs ++ v :: gv) (ts ++ t :: gt)) (l : vs.length = ts.length) : At G σ H δ ((v :: vs) ++ gv) ((t :: ts) ++ gt) := by
  refine ⟨h.env, by have := h.len; simp at this ⊢; omega, ?_⟩
  have := h.hold
  have e1 : vs ++ v :: gv ++ sv σ = [] ++ vs ++ [v] ++ (gv ++ sv σ) := by simp
  have e2 : ts ++ t :: gt ++ δ = [] ++ ts ++ [t] ++ (gt ++ δ) := by simp
  rw [e1, e2] at this
  have := Hold.perm this rfl l rfl
  simpa using this
theorem At.turn' {vs : List V} {ts : List T} {v : V} {t : T} (h : At G σ H δ ((v :: vs) ++ gv) ((t :: ts) ++ gt)) (l : vs.length = ts.length) : At G σ H δ (vs ++ v :: gv) (ts ++ t :: gt) := by
  refine ⟨h.env, by have := h.len; simp at this ⊢; omega, ?_⟩
  have := h.hold
  have e1 : (v :: vs) ++ gv ++ sv σ = [] ++ [v] ++ vs ++ (gv ++ sv σ) := by simp
  have e2 : (t :: ts) ++ gt ++ δ = [] ++ [t] ++ ts ++ (gt ++ δ) := by simp
  rw [e1, e2] at this
  have := Hold.perm this rfl rfl l
  simpa using this
/-- the i-th slot's tree, the rest around it -/
structure Foc (G : Gd) (σ : St) (H : Hp) (δ : List T) (gv : List V) (gt : List T) (i : Nat) (t : T) (v : V) (l g r : List Addr) (vl vr : List V) (tl tr : List T) : Prop where
  sl : σ[i]? = some (some v)
  ev : gv ++ sv σ = vl ++ v :: vr
  et : gt ++ δ = tl ++ t :: tr
  nl : vl.length = gt.length + i
  nt : tl.length = gt.length + i
  nd : (l ++ (g ++ r)).Nodup
  rl : RepTs G H (l ++ (g ++ r)) vl tl l
  rm : RepT G H (l ++ (g ++ r)) v t g
  rr : RepTs G H (l ++ (g ++ r)) vr tr r
theorem At.focus (h : At G σ H δ gv gt) {i : Nat} {t : T} (e : nth δ i = some t) (n : t ≠ .un) : ∃ v l g r vl vr tl tr, Foc G σ H δ gv gt i t v l g r vl vr tl tr := by
  obtain ⟨v, hv⟩ := h.env.has i t e n
  obtain ⟨O, nd, R⟩ := h.hold
  have e' : nth (gt ++ δ) (gt.length + i) = some t := by
    rw [nth_eq] at e ⊢
    rw [List.getElem?_append_right (by omega)]
    simpa using e
  obtain ⟨vl, w, vr, tl, tr, l, g, r, e1, e2, e3, n1, n2, h1, h2, h3⟩ := R.pick e'
  have hw : w = v := by
    have q : (gv ++ sv σ)[gt.length + i]? = some w := by rw [e1, ← n1]; simp
    rw [← h.len, List.getElem?_append_right (by omega)] at q
    have q2 := sv_at hv
    simp only [Nat.add_sub_cancel_left] at q
    rw [q2] at q
    exact (Option.some.inj q).symm
  subst hw
  subst e3
  exact ⟨w, l, g, r, vl, vr, tl, tr, hv, e1, e2, n1, n2, nd, h1, h2, h3⟩
variable {i : Nat} {t : T} {v : V} {l g r : List Addr} {vl vr : List V} {tl tr : List T}
theorem Foc.puts (F : Foc G σ H δ gv gt i t v l g r vl vr tl tr) (t' : T) : gt ++ put δ i t' = tl ++ t' :: tr := by
  have e := F.et
  have n := F.nt
  have : put (gt ++ δ) (gt.length + i) t' = gt ++ put δ i t' := by
    rw [put_eq, put_eq, List.set_append_right _ _ (by omega)]
    simp
  rw [← this, e, nth_put n]
/-- the i-th slot's tree is another one now -/
theorem Foc.back (F : Foc G σ H δ gv gt i t v l g r vl vr tl tr) (h : At G σ H δ gv gt) {t' : T} {g' : List Addr} (u : Up (l ++ (g ++ r)) H (l ++ (g' ++ r)) H') (k : ∀ a, a ∈ l ++ r → H' a = H a) (nd : (l ++ (g' ++ r)).Nodup)
    (q : RepT G H' (l ++ (g' ++ r)) v t' g') : RepTs G H' (l ++ (g' ++ r)) (gv ++ sv σ) (gt ++ put δ i t') (l ++ (g' ++ r)) := by
  rw [F.puts t', F.ev]
  exact (F.rl.up u fun a ha => k a (List.mem_append_left _ ha)).append (.cons q (F.rr.up u fun a ha => k a (List.mem_append_right _ ha)))
theorem Foc.at (F : Foc G σ H δ gv gt i t v l g r vl vr tl tr) (h : At G σ H δ gv gt) {t' : T} {g' : List Addr} (u : Up (l ++ (g ++ r)) H (l ++ (g' ++ r)) H') (k : ∀ a, a ∈ l ++ r → H' a = H a) (nd : (l ++ (g' ++ r)).Nodup)
    (q : RepT G H' (l ++ (g' ++ r)) v t' g') : At G σ H' (put δ i t') gv gt :=
  ⟨h.env.put F.sl, h.len, _, nd, F.back h u k nd q⟩
theorem nodup_less {l g r : List Addr} (nd : (l ++ (g ++ r)).Nodup) : (l ++ ([] ++ r)).Nodup := by
  refine nd.sublist ?_
  exact List.Sublist.append (List.Sublist.refl _) (List.Sublist.append (List.nil_sublist _) (List.Sublist.refl _))
theorem less_mem {l g r : List Addr} {a : Addr} (h : a ∈ l ++ ([] ++ r)) : a ∈ l ++ (g ++ r) := by
  simp only [List.mem_append, List.nil_append] at h ⊢
  rcases h with h | h <;> simp [h]
theorem less_nin {l g r : List Addr} (nd : (l ++ (g ++ r)).Nodup) {a : Addr} (h : a ∈ g) : a ∉ l ++ ([] ++ r) := by
  obtain ⟨_, n2, n3⟩ := List.nodup_append.mp nd
  obtain ⟨_, _, n4⟩ := List.nodup_append.mp n2
  simp only [List.mem_append, List.nil_append]
  rintro (q | q)
  · exact n3 a q a (List.mem_append_left _ h) rfl
  · exact n4 a h a q rfl
/-- an own thing is let go and read -/
theorem At.leak (h : At G σ H δ gv gt) {x : PyData} (e : nth δ i = some t) (ex : t.data = some x) : ∃ v, σ[i]? = some (some v) ∧ At G σ H (put δ i (.d x)) (v :: gv) (.d x :: gt) := by
  have n : t ≠ .un := by rintro rfl; simp [T.data] at ex
  obtain ⟨v, l, g, r, vl, vr, tl, tr, F⟩ := h.focus e n
  refine ⟨v, F.sl, ?_⟩
  have rx : Rep G H (l ++ ([] ++ r)) v x := F.rm.data (fun a ha => less_mem ha) (fun a ha => less_nin F.nd ha) ex
  have nd := nodup_less F.nd
  have R := F.back h (t' := .d x) (g' := []) (.less fun a ha => less_mem ha) (fun _ _ => rfl) nd (.d rx)
  have A : At G σ H (put δ i (.d x)) gv gt := ⟨h.env.put F.sl, h.len, _, nd, R⟩
  exact A.push nd R (Same.refl _) (.d rx)
/-- a slot's data read -/
theorem At.getD (h : At G σ H δ gv gt) {x : PyData} (e : nth δ i = some (.d x)) : ∃ v, σ[i]? = some (some v) ∧ At G σ H δ (v :: gv) (.d x :: gt) := by
  obtain ⟨v, hv, A⟩ := h.leak e (x := x) (by simp [T.data])
  refine ⟨v, hv, ?_⟩
  have : put δ i (.d x) = δ := by
    rw [put_eq]
    rw [nth_eq] at e
    apply List.ext_getElem?
    intro j
    rw [List.getElem?_set]
    split
    · rename_i hj; subst hj
      split
      · exact e.symm
      · rename_i hl
        rw [List.getElem?_eq_none (by omega)]
    · rfl
  rw [this] at A
  exact A
theorem At.getFn (h : At G σ H δ gv gt) {f : Nat} (e : nth δ i = some (.fn f)) : ∃ v, σ[i]? = some (some v) ∧ At G σ H δ (v :: gv) (.fn f :: gt) := by
  obtain ⟨v, l, g, r, vl, vr, tl, tr, F⟩ := h.focus e (by simp)
  refine ⟨v, F.sl, ?_⟩
  have rm := F.rm
  cases rm with
  | fn hf =>
    have R : RepTs G H (l ++ ([] ++ r)) (gv ++ sv σ) (gt ++ δ) (l ++ ([] ++ r)) := by
      rw [F.et, F.ev]
      exact F.rl.append (.cons (.fn hf) F.rr)
    exact h.push F.nd R (Same.refl _) ⟨[], .nil, (fun _ z => nomatch z), .fn hf⟩
theorem At.getFz (h : At G σ H δ gv gt) {xs : List PyData} (e : nth δ i = some (.fz xs)) : ∃ v, σ[i]? = some (some v) ∧ At G σ H δ (v :: gv) (.fz xs :: gt) := by
  obtain ⟨v, l, g, r, vl, vr, tl, tr, F⟩ := h.focus e (by simp)
  refine ⟨v, F.sl, ?_⟩
  have rm := F.rm
  cases rm with
  | fz hf hr =>
    have R : RepTs G H (l ++ ([] ++ r)) (gv ++ sv σ) (gt ++ δ) (l ++ ([] ++ r)) := by
      rw [F.et, F.ev]
      exact F.rl.append (.cons (.fz hf hr) F.rr)
    exact h.push F.nd R (Same.refl _) ⟨[], .nil, (fun _ z => nomatch z), .fz hf hr⟩
/-- an own thing leaves its slot -/
theorem At.take (h : At G σ H δ gv gt) (e : nth δ i = some t) (n : t ≠ .un) : ∃ v, σ[i]? = some (some v) ∧ At G σ H (put δ i .un) (v :: gv) (t :: gt) := by
  obtain ⟨v, l, g, r, vl, vr, tl, tr, F⟩ := h.focus e n
  refine ⟨v, F.sl, h.env.un, by simp [h.len], ?_⟩
  have nd' : (g ++ (l ++ r)).Nodup := by
    refine (List.Perm.nodup_iff ?_).mp F.nd
    rw [← List.append_assoc, ← List.append_assoc]
    exact List.Perm.append_right _ List.perm_append_comm
  have hm : ∀ a, a ∈ g ++ (l ++ r) → a ∈ l ++ (g ++ r) := fun a ha => by
    simp only [List.mem_append] at ha ⊢
    rcases ha with q | q | q <;> simp [q]
  refine ⟨g ++ (l ++ r), nd', ?_⟩
  show RepTs G H (g ++ (l ++ r)) (v :: (gv ++ sv σ)) (t :: (gt ++ put δ i .un)) (g ++ (l ++ r))
  rw [F.puts .un, F.ev]
  have u : Up (l ++ (g ++ r)) H (g ++ (l ++ r)) H := .less hm
  refine .cons (F.rm.up u fun _ _ => rfl) ((F.rl.up u fun _ _ => rfl).append ?_)
  exact RepTs.cons (f := []) .un (F.rr.up u fun _ _ => rfl)
/-- a slot is set -/
theorem At.store (h : At G σ H δ (v :: gv) (t :: gt)) (hi : i < δ.length) : At G (σ.set i (some v)) H (put δ i t) gv gt := by
  refine ⟨h.env.store, by simpa using h.len, ?_⟩
  obtain ⟨O, nd, R⟩ := h.hold
  obtain ⟨u, hu⟩ : ∃ u, nth δ i = some u := by
    rw [nth_eq]; exact ⟨δ[i], by simp [hi]⟩
  have R' : RepTs G H O (v :: (gv ++ sv σ)) (t :: (gt ++ δ)) O := R
  have hlen : gv.length = gt.length := by simpa using h.len
  have e' : nth (gt ++ δ) (gt.length + i) = some u := by
    rw [nth_eq] at hu ⊢
    rw [List.getElem?_append_right (by omega)]
    simpa using hu
  generalize hO : O = O' at R'
  cases R' with
  | cons h1 h2 =>
    rename_i f g
    obtain ⟨vl, w, vr, tl, tr, l, g2, r, e1, e2, e3, n1, n2, k1, k2, k3⟩ := h2.pick e'
    subst e3
    have ev : gv ++ sv (σ.set i (some v)) = vl ++ v :: vr := by
      rw [sv_set]
      have : gv ++ (sv σ).set i v = (gv ++ sv σ).set (gv.length + i) v := by
        rw [List.set_append_right _ _ (by omega)]; simp
      rw [this, e1, hlen, ← put_eq, nth_put n1]
    have et : gt ++ put δ i t = tl ++ t :: tr := by
      have : gt ++ put δ i t = put (gt ++ δ) (gt.length + i) t := by
        rw [put_eq, put_eq, List.set_append_right _ _ (by omega)]; simp
      rw [this, e2, nth_put n2]
    subst hO
    have hm : ∀ a, a ∈ l ++ (f ++ r) → a ∈ f ++ (l ++ (g2 ++ r)) := fun a ha => by
      simp only [List.mem_append] at ha ⊢
      rcases ha with q | q | q <;> simp [q]
    have nd' : (l ++ (f ++ r)).Nodup := by
      have p : (f ++ (l ++ r)).Nodup := nd.sublist (List.Sublist.append (List.Sublist.refl _) (List.Sublist.append (List.Sublist.refl _) (List.sublist_append_right _ _)))
      refine (List.Perm.nodup_iff ?_).mp p
      rw [← List.append_assoc, ← List.append_assoc]
      exact List.Perm.append_right _ List.perm_append_comm
    refine ⟨l ++ (f ++ r), nd', ?_⟩
    rw [ev, et]
    have u : Up (f ++ (l ++ (g2 ++ r))) H (l ++ (f ++ r)) H := .less hm
    exact (k1.up u fun _ _ => rfl).append (.cons (h1.up u fun _ _ => rfl) (k3.up u fun _ _ => rfl))
/-- a slot is emptied -/
theorem At.unput (h : At G σ H δ gv gt) : At G σ H (put δ i .un) gv gt := by
  by_cases hi : i < δ.length
  · obtain ⟨u, hu⟩ : ∃ u, nth δ i = some u := by
      rw [nth_eq]; exact ⟨δ[i], by simp [hi]⟩
    by_cases n : u = .un
    · subst n
      have : put δ i .un = δ := by
        rw [put_eq]
        rw [nth_eq] at hu
        apply List.ext_getElem?
        intro j
        rw [List.getElem?_set]
        split
        · rename_i hj; subst hj
          exact hu.symm
        · rfl
      rw [this]; exact h
    · obtain ⟨v, _, A⟩ := h.take hu n
      exact A.drop1
  · have : put δ i .un = δ := by
      rw [put_eq, List.set_eq_of_length_le (by omega)]
    rw [this]; exact h
theorem At.unset (h : At G σ H δ gv gt) (is : List Nat) : At G σ H (Ev.unset δ is) gv gt := by
  induction is generalizing δ with
  | nil => exact h
  | cons i is ih => exact ih h.unput
/-- slots forgotten -/
theorem At.wipe (h : At G σ H δ gv gt) (is : List Nat) : At G (wipe σ is) H (Ev.unset δ is) gv gt := by
  have A := h.unset is
  have hu : ∀ (is : List Nat) (δ : List T) i, i ∈ is → i < δ.length → nth (Ev.unset δ is) i = some .un := by
    intro is
    induction is with
    | nil => intro _ _ h; cases h
    | cons j js ih =>
      intro δ i hi hl
      have hl' : i < (put δ j .un).length := by rw [put_length]; exact hl
      by_cases hm : i ∈ js
      · exact ih _ i hm hl'
      · rcases List.mem_cons.mp hi with rfl | q
        · have keep : ∀ (js : List Nat) (δ : List T), i ∉ js → nth (Ev.unset δ js) i = nth δ i := by
            intro js
            induction js with
            | nil => intros; rfl
            | cons k ks ih2 =>
              intro δ hn
              show nth (Ev.unset (put δ k .un) ks) i = _
              rw [ih2 _ fun z => hn (List.mem_cons_of_mem _ z), nth_put_ne fun z => hn (by rw [z]; exact List.mem_cons_self)]
          show nth (Ev.unset (put δ i .un) js) i = _
          rw [keep _ _ hm, nth_put_self hl]
        · exact absurd q hm
  have hσl : (L2.wipe σ is).length = σ.length := wipe_length σ is
  have hev : ∀ i t, nth (Ev.unset δ is) i = some t → t ≠ .un → i ∉ is := fun i t e n hm => by
    have hl := nth_lt e
    have hl2 : i < δ.length := by
      have := A.env.len
      have := h.env.len
      omega
    rw [hu is δ i hm hl2] at e
    exact n (Option.some.inj e).symm
  refine ⟨⟨hσl.trans A.env.len, fun i t e n => ?_⟩, A.len, ?_⟩
  · obtain ⟨v, hv⟩ := A.env.has i t e n
    exact ⟨v, by rw [wipe_out (hev i t e n)]; exact hv⟩
  · obtain ⟨O, nd, R⟩ := A.hold
    refine ⟨O, nd, ?_⟩
    obtain ⟨g1, g2, rfl, r1, r2⟩ := R.splitV A.len
    refine r1.append ?_
    have swap : ∀ {vs ws : List V} {ts : List T} {f : List Addr} {O : List Addr}, RepTs G H O vs ts f → vs.length = ws.length → (∀ i t, nth ts i = some t → t ≠ .un → vs[i]? = ws[i]?) → RepTs G H O ws ts f := by
      intro vs
      induction vs with
      | nil =>
        intro ws ts f O h l _
        cases h
        cases ws with
        | nil => exact .nil
        | cons _ _ => simp at l
      | cons v vs ih =>
        intro ws ts f O h l k
        cases h with
        | cons h1 h2 =>
          cases ws with
          | nil => simp at l
          | cons w ws =>
            rename_i t f1 ts g1
            have h2' := ih h2 (by simpa using l) fun i u e n => by have := k (i + 1) u e n; simpa using this
            by_cases n : t = .un
            · subst n
              cases h1 with
              | un => exact .cons .un h2'
            · have e := k 0 t rfl n
              simp at e
              subst e
              exact .cons h1 h2'
    refine swap r2 (by rw [sv_len, sv_len, hσl]) fun i t e n => ?_
    simp only [sv, List.getElem?_map]
    rw [wipe_out (hev i t e n)]
end
end Ev
set_option Elab.async false
set_option linter.all false
set_option maxRecDepth 100000
set_option maxHeartbeats 4000000
set_option autoImplicit false
/-! Snd3: readings of the evaluator's answers; operators. -/
namespace Ev
open PySem PySem.W PySem.Spec L2
open PyProof.Rows hiding St

/-- how an answer lies beside the values -/
structure El (α : Type) where
  t : α → T
  ok : St → α → V → Prop
def elT : El T := ⟨id, fun _ _ _ => True⟩
def elA : El A := ⟨fun a => match a with
  | .val t => t
  | .sl _ => .un, fun σ a v => match a with
  | .val _ => True
  | .sl i => σ[i]? = some (some v)⟩
/-- what is wanted of exceptions -/
abbrev Wx := WX
section
variable {G : Gd} {W : WX} {X : Cx} {α β : Type} {E : El α} {E' : El β}
def post1 (G : Gd) (W : WX) (E : El α) (σ : St) (gv : List V) (gt : List T) (r : R α) (Q : VK) : Prop := match r with
  | .ok a δ => ∀ v H, At G σ H δ (v :: gv) (E.t a :: gt) → E.ok σ a v → Q v H
  | .exn e δ => ∀ c d H, G.xi e c d H → At G σ H δ gv gt → W c d σ H
  | .no => False
def t1 (G : Gd) (W : WX) (E : El α) (m : List T → R α) : TE := fun σ H Q => ∃ δ gv gt, At G σ H δ gv gt ∧ post1 G W E σ gv gt (m δ) Q
inductive Oks (E : El α) (σ : St) : List α → List V → Prop
  | nil : Oks E σ [] []
  | cons {a v as vs} : E.ok σ a v → Oks E σ as vs → Oks E σ (a :: as) (v :: vs)
theorem Oks.length {σ : St} : ∀ {as : List α} {vs : List V}, Oks E σ as vs → as.length = vs.length
  | _, _, .nil => rfl
  | _, _, .cons _ r => congrArg (· + 1) r.length
def postL (G : Gd) (W : WX) (E : El α) (σ : St) (gv : List V) (gt : List T) (r : R (List α)) (Q : List V → Hp → Prop) : Prop := match r with
  | .ok as δ => ∀ vs H, At G σ H δ (vs ++ gv) (as.map E.t ++ gt) → Oks E σ as vs → Q vs H
  | .exn e δ => ∀ c d H, G.xi e c d H → At G σ H δ gv gt → W c d σ H
  | .no => False
def tL (G : Gd) (W : WX) (E : El α) (m : List T → R (List α)) : TA := fun σ H Q => ∃ δ gv gt, At G σ H δ gv gt ∧ postL G W E σ gv gt (m δ) Q

theorem PE.imp {e : Expr} {t t' : TE} (h : PE X e t) (k : ∀ σ H Q, t' σ H Q → t σ H Q) : PE X e t' := ⟨fun pins s σ H Q I q => h.run pins s σ H Q I (k σ H Q q)⟩
theorem PA.imp {e : List Expr} {t t' : TA} (h : PA X e t) (k : ∀ σ H Q, t' σ H Q → t σ H Q) : PA X e t' := ⟨fun pos pins s σ H Q I q => h.run pos pins s σ H Q I (k σ H Q q)⟩
theorem PT.imp {e : Expr} {t t' : TT} (h : PT X e t) (k : ∀ σ H Q, t' σ H Q → t σ H Q) : PT X e t' := ⟨fun pins s σ H Q I q => h.run pins s σ H Q I (k σ H Q q)⟩
theorem PS.imp {e : Stmt} {t t' : TS} (h : PS X e t) (k : ∀ D σ H, t' D σ H → t D σ H) : PS X e t' := ⟨fun pins s σ H D I q => h.run pins s σ H D I (k D σ H q)⟩
theorem PSs.imp {e : List Stmt} {t t' : TS} (h : PSs X e t) (k : ∀ D σ H, t' D σ H → t D σ H) : PSs X e t' := ⟨fun pins s σ H D I q => h.run pins s σ H D I (k D σ H q)⟩

/-- from one part's reading to another's -/
theorem t1.run {σ : St} {H : Hp} {Q : VK} {m : List T → R α} {δ : List T} {gv : List V} {gt : List T} (A : At G σ H δ gv gt) (h : post1 G W E σ gv gt (m δ) Q) : t1 G W E m σ H Q := ⟨δ, gv, gt, A, h⟩
/-- the first of two: what the second wants -/
theorem post1.mono {σ : St} {gv : List V} {gt : List T} {r : R α} {Q Q' : VK} (h : post1 G W E σ gv gt r Q) (k : ∀ v H, Q v H → Q' v H) : post1 G W E σ gv gt r Q' := by
  cases r with
  | ok a δ => exact fun v H A o => k v H (h v H A o)
  | exn e δ => exact h
  | no => exact h
/-- an answer's exceptions pass behind a further value -/
theorem exn1 {σ : St} {gv : List V} {gt : List T} {e : Ex} {δ : List T} {v : V} {t : T} (h : ∀ c d H, G.xi e c d H → At G σ H δ gv gt → W c d σ H) : ∀ c d H, G.xi e c d H → At G σ H δ (v :: gv) (t :: gt) → W c d σ H :=
  fun c d H x A => h c d H x A.drop1
theorem b1_in {γ : Type} {E'' : El γ} {σ : St} {gv : List V} {gt : List T} {ra : List T → R α} {k : α → List T → R γ} {Q : VK} {δ : List T} (h : post1 G W E'' σ gv gt (bind1 ra k δ) Q) :
    post1 G W E σ gv gt (ra δ) fun v H => ∃ a δ1, At G σ H δ1 (v :: gv) (E.t a :: gt) ∧ E.ok σ a v ∧ post1 G W E'' σ gv gt (k a δ1) Q := by
  unfold bind1 at h
  cases e : ra δ with
  | ok a δ1 =>
    rw [e] at h
    exact fun v H A o => ⟨a, δ1, A, o, h⟩
  | exn e' δ1 =>
    rw [e] at h
    exact h
  | no => rw [e] at h; exact h
theorem b2_in {γ : Type} {E'' : El γ} {σ : St} {gv : List V} {gt : List T} {ra : List T → R α} {rb : List T → R β} {k : α → β → List T → R γ} {Q : VK} {δ : List T} (h : post1 G W E'' σ gv gt (bind2 ra rb k δ) Q) :
    post1 G W E σ gv gt (ra δ) fun v H => ∃ a δ1, At G σ H δ1 (v :: gv) (E.t a :: gt) ∧ E.ok σ a v ∧
      post1 G W E' σ (v :: gv) (E.t a :: gt) (rb δ1) fun w H2 => ∃ b δ2, At G σ H2 δ2 (w :: v :: gv) (E'.t b :: E.t a :: gt) ∧ E'.ok σ b w ∧ E.ok σ a v ∧ post1 G W E'' σ gv gt (k a b δ2) Q := by
  unfold bind2 at h
  cases e : ra δ with
  | ok a δ1 =>
    rw [e] at h
    refine fun v H A o => ⟨a, δ1, A, o, ?_⟩
    cases e2 : rb δ1 with
    | ok b δ2 =>
      simp only [e2] at h
      exact fun w H2 A2 o2 => ⟨b, δ2, A2, o2, o, h⟩
    | exn e' δ2 =>
      simp only [e2] at h
      exact exn1 h
    | no => simp only [e2] at h; exact h
  | exn e' δ1 =>
    rw [e] at h
    exact h
  | no => rw [e] at h; exact h
/-- lists of parts -/
theorem sCons_in {σ : St} {gv : List V} {gt : List T} {r : List T → R α} {rs : List T → R (List α)} {Q : List V → Hp → Prop} {δ : List T} (h : postL G W E σ gv gt (sCons r rs δ) Q) :
    post1 G W E σ gv gt (r δ) fun v H => ∃ a δ1, At G σ H δ1 (v :: gv) (E.t a :: gt) ∧ postL G W E σ (v :: gv) (E.t a :: gt) (rs δ1) fun vs H2 => Q (v :: vs) H2 := by
  unfold sCons bind2 at h
  cases e : r δ with
  | ok a δ1 =>
    rw [e] at h
    refine fun v H A o => ⟨a, δ1, A, ?_⟩
    cases e2 : rs δ1 with
    | ok as δ2 =>
      simp only [e2] at h
      exact fun vs H2 A2 o2 => h (v :: vs) H2 (A2.turn (by rw [List.length_map]; exact o2.length.symm)) (.cons o o2)
    | exn e' δ2 =>
      simp only [e2] at h
      exact exn1 h
    | no => simp only [e2] at h; exact h
  | exn e' δ1 =>
    rw [e] at h
    exact h
  | no => rw [e] at h; exact h
theorem pa_sNil : PA X [] (tL G W E sNil) := PA.imp pa_nil fun σ H Q ⟨δ, gv, gt, A, h⟩ => h [] H A .nil
theorem pa_sCons {e : Expr} {es : List Expr} {r : List T → R α} {rs : List T → R (List α)} (he : PE X e (t1 G W E r)) (hes : PA X es (tL G W E rs)) (hs : starEach (e :: es) X.env = (false, eval e X.env) :: starEach es X.env) :
    PA X (e :: es) (tL G W E (sCons r rs)) := PA.imp (pa_cons he hes hs) fun σ H Q ⟨δ, gv, gt, A, h⟩ => by
  refine ⟨δ, gv, gt, A, (sCons_in h).mono fun v H1 q => ?_⟩
  obtain ⟨a, δ1, A1, q⟩ := q
  exact ⟨δ1, v :: gv, E.t a :: gt, A1, q⟩
end

/-! ### flat views -/
inductive RepF (G : Gd) (H : Hp) (O : List Addr) : V → PyData → Prop
  | st {v x} : Rep G H O v x → RepF G H O v x
  | lst {a vs xs} : H a = some (.lst vs) → Reps G H O vs xs → RepF G H O (.ref a) (.list xs)
  | dK {a} {ks : List Key} {vs : List V} {xs : List PyData} : Rd H a (.dK (ks.zip vs)) → ks.length = vs.length → ks.Nodup → Reps G H O vs xs → RepF G H O (.ref a) (.dict ((ks.map keyD).zip xs))
  | dN {a} {ks : List (NestedKey × Addr)} {vs : List V} {xs : List PyData} : Rd H a (DN G.P G.w a ks vs) → ks.length = vs.length → (ks ≠ [] ∧ (ks.map (·.1)).Nodup) → Reps G H O (nkV ks) (nkD ks) → Reps G H O vs xs → RepF G H O (.ref a) (.dict ((nkD ks).zip xs))
section
variable {G : Gd} {H H' : Hp} {O : List Addr} {v : V} {X : Cx}
theorem RepF.nonI (h : RepF G H O v .none) : v = .non := by cases h; rename_i h; cases h; rfl
theorem RepF.intI {i : Int} (h : RepF G H O v (.int i)) : v = .int i := by cases h; rename_i h; cases h; rfl
theorem RepF.blI {i : Bool} (h : RepF G H O v (.bool i)) : v = .bl i := by cases h; rename_i h; cases h; rfl
theorem RepF.strI {i : Str} (h : RepF G H O v (.str i)) : v = .str i := by cases h; rename_i h; cases h; rfl
theorem RepF.tupI {xs : List PyData} (h : RepF G H O v (.tuple xs)) : ∃ a vs, v = .ref a ∧ SqD G.K H a vs ∧ Reps G H O vs xs ∧ Rep G H O v (.tuple xs) := by
  cases h with
  | st h => cases h with
    | tup h r => exact ⟨_, _, rfl, h, r, .tup h r⟩
theorem RepF.lstI {xs : List PyData} (h : RepF G H O v (.list xs)) : ∃ a vs, v = .ref a ∧ H a = some (.lst vs) ∧ Reps G H O vs xs := by
  cases h with
  | st h => cases h with
    | lst n h r => exact ⟨_, _, rfl, h, r⟩
  | lst h r => exact ⟨_, _, rfl, h, r⟩
theorem RepF.dctI {kvs : List (PyData × PyData)} (h : RepF G H O v (.dict kvs)) : ∃ a, v = .ref a ∧
    ((∃ (ks : List Key) (vs : List V) (xs : List PyData), kvs = (ks.map keyD).zip xs ∧ Rd H a (.dK (ks.zip vs)) ∧ ks.length = vs.length ∧ ks.Nodup ∧ Reps G H O vs xs) ∨
      ∃ (ks : List (NestedKey × Addr)) (vs : List V) (xs : List PyData), kvs = (nkD ks).zip xs ∧ Rd H a (DN G.P G.w a ks vs) ∧ ks.length = vs.length ∧ (ks ≠ [] ∧ (ks.map (·.1)).Nodup) ∧ Reps G H O (nkV ks) (nkD ks) ∧ Reps G H O vs xs) := by
  cases h with
  | st h => cases h with
    | dK n h l nd r => exact ⟨_, rfl, .inl ⟨_, _, _, rfl, h, l, nd, r⟩⟩
    | dN n h l nd k r => exact ⟨_, rfl, .inr ⟨_, _, _, rfl, h, l, nd, k, r⟩⟩
  | dK h l nd r => exact ⟨_, rfl, .inl ⟨_, _, _, rfl, h, l, nd, r⟩⟩
  | dN h l nd k r => exact ⟨_, rfl, .inr ⟨_, _, _, rfl, h, l, nd, k, r⟩⟩
theorem ds_map : ∀ {ts : List T} {xs : List PyData}, ds ts = some xs → ts = xs.map .d
  | [], _, e => by simp only [ds, Option.some.injEq] at e; subst e; rfl
  | .d x :: ts, ys, e => by
    unfold ds at e
    split at e
    · rename_i xs e2
      cases e
      rw [ds_map e2]; rfl
    · cases e
  | .un :: _, _, e => by simp [ds] at e
  | .fn _ :: _, _, e => by simp [ds] at e
  | .fz _ :: _, _, e => by simp [ds] at e
  | .lk _ _ :: _, _, e => by simp [ds] at e
  | .tup _ :: _, _, e => by simp [ds] at e
  | .lst _ :: _, _, e => by simp [ds] at e
  | .dct _ _ :: _, _, e => by simp [ds] at e
theorem RepT.fd {t : T} {g : List Addr} {x : PyData} (h : RepT G H O v t g) (e : t.fd = some x) : RepF G H O v x := by
  cases h with
  | un => simp [T.fd] at e
  | d h => simp only [T.fd, Option.some.injEq] at e; subst e; exact .st h
  | fn _ => simp [T.fd] at e
  | fz _ _ => simp [T.fd] at e
  | lk _ => simp [T.fd] at e
  | tup _ _ => simp [T.fd] at e
  | lst h r =>
    simp only [T.fd] at e
    split at e
    · rename_i xs e2
      cases e
      exact .lst h (r.ds e2).1
    · cases e
  | dK h l nd r =>
    simp only [T.fd] at e
    split at e
    · rename_i xs e2
      cases e
      exact .dK (.inl h) l nd (r.ds e2).1
    · cases e
  | dN h l nd k r =>
    simp only [T.fd] at e
    split at e
    · rename_i xs e2
      cases e
      exact .dN (.inl h) l nd k (r.ds e2).1
    · cases e
theorem RepTs.at {vs : List V} {ts : List T} {f : List Addr} {j : Nat} {t : T} (h : RepTs G H O vs ts f) (e : nth ts j = some t) : ∃ v g, vs[j]? = some v ∧ RepT G H O v t g := by
  obtain ⟨vl, v, vr, tl, tr, l, g, r, e1, e2, e3, n1, n2, h1, h2, h3⟩ := h.pick e
  exact ⟨v, g, by rw [e1, ← n1]; simp, h2⟩
/-- an operand's data -/
theorem rsv_ok {σ : St} {δ : List T} {a : A} {p : PyData} {gv : List V} {gt : List T} {g : List Addr} (env : EnvOk σ δ) (len : gv.length = gt.length) (R : RepTs G H O (gv ++ sv σ) (gt ++ δ) g) (ok : elA.ok σ a v)
    (h : a.casesOn (motive := fun _ => Prop) (fun t => ∃ f, RepT G H O v t f) (fun _ => True)) (e : rsv δ a = some p) : RepF G H O v p := by
  cases a with
  | val t =>
    obtain ⟨f, h⟩ := h
    exact h.fd e
  | sl i =>
    unfold rsv at e
    cases q : nth δ i with
    | none => simp only [q] at e; cases e
    | some t =>
      simp only [q] at e
      obtain ⟨g1, g2, rfl, r1, r2⟩ := R.splitV len
      obtain ⟨w, g3, e1, r3⟩ := r2.at q
      have hw : w = v := by
        have hv : σ[i]? = some (some v) := ok
        rw [sv_at hv] at e1
        exact (Option.some.inj e1).symm
      subst hw
      exact r3.fd e
/-- two operands on top of the world -/
theorem two_in {W : WX} {σ : St} {δ : List T} {a b : A} {x y : V} {gv : List V} {gt : List T} {k : PyData → PyData → R T} {Q : VK} (A : At G σ H δ (y :: x :: gv) (elA.t b :: elA.t a :: gt)) (ob : elA.ok σ b y) (oa : elA.ok σ a x)
    (h : post1 G W elT σ gv gt (two δ a b k) Q) : ∃ O p q, O.Nodup ∧ RepTs G H O (y :: x :: (gv ++ sv σ)) (elA.t b :: elA.t a :: (gt ++ δ)) O ∧ RepF G H O x p ∧ RepF G H O y q ∧ rsv δ a = some p ∧ rsv δ b = some q ∧ post1 G W elT σ gv gt (k p q) Q := by
  obtain ⟨O, nd, R⟩ := A.hold
  have hl : gv.length = gt.length := by have := A.len; simpa using this
  unfold two at h
  cases e1 : rsv δ a with
  | none => simp only [e1] at h; exact h.elim
  | some p =>
    simp only [e1] at h
    cases e2 : rsv δ b with
    | none => simp only [e2] at h; exact h.elim
    | some q =>
      simp only [e2] at h
      have R' : RepTs G H O (y :: x :: (gv ++ sv σ)) (elA.t b :: elA.t a :: (gt ++ δ)) O := R
      have sub : ∃ f1 f2 f3, RepT G H O y (elA.t b) f1 ∧ RepT G H O x (elA.t a) f2 ∧ RepTs G H O (gv ++ sv σ) (gt ++ δ) f3 := by
        cases R' with
        | cons h1 h2 => cases h2 with
          | cons h3 h4 => exact ⟨_, _, _, h1, h3, h4⟩
      obtain ⟨f1, f2, f3, h1, h2, h3⟩ := sub
      refine ⟨O, p, q, nd, R', rsv_ok A.env hl h3 oa ?_ e1, rsv_ok A.env hl h3 ob ?_ e2, rfl, rfl, h⟩
      · cases a with
        | val t => exact ⟨_, h2⟩
        | sl i => exact trivial
      · cases b with
        | val t => exact ⟨_, h1⟩
        | sl i => exact trivial

/-! ### results -/
theorem same_upd {p : Addr} {o : HO} (h : H p = none) : Same H (upd H p o) := fun b u e => by rw [upd_ne (ne_of_none e h)]; exact e
theorem Res.lst {p : Addr} {vs : List V} {xs : List PyData} (h : H p = none) (r : Reps G H O vs xs) : Res G H O (upd H p (.lst vs)) (.ref p) (.lst (xs.map .d)) := by
  refine ⟨[p], by simp, by simpa using h, ?_⟩
  refine .lst upd_same (Reps.toT (r.up ?_))
  exact .grow (same_upd h) (fp := [p]) (by simpa using h) fun a ha => (List.mem_append.mp ha).symm
theorem Res.tup {p : Addr} {o : Obj} {vs : List V} {xs : List PyData} (h : H p = none) (hd : o.dict = none) (r : Reps G H O vs xs) : Res G H O (upd H p (.frz o (.tup vs))) (.ref p) (.d (.tuple xs)) :=
  .d (.tup (.inl ⟨o, upd_same, hd⟩) (r.up (.same (same_upd h))))
theorem Reps.append : ∀ {vs ws : List V} {xs ys : List PyData}, Reps G H O vs xs → Reps G H O ws ys → Reps G H O (vs ++ ws) (xs ++ ys)
  | _, _, _, _, .nil, s => s
  | _, _, _, _, .cons h r, s => .cons h (Reps.append r s)
theorem Reps.rep {vs : List V} {xs : List PyData} (r : Reps G H O vs xs) : ∀ n : Nat, Reps G H O (List.replicate n vs).flatten (List.replicate n xs).flatten
  | 0 => .nil
  | n + 1 => by
    rw [List.replicate_succ, List.replicate_succ, List.flatten_cons, List.flatten_cons]
    exact r.append (Reps.rep r n)
theorem Reps.nilI {vs : List V} (r : Reps G H O vs []) : vs = [] := by cases r; rfl
theorem Reps.nil_of {xs : List PyData} (r : Reps G H O [] xs) : xs = [] := by cases r; rfl
mutual
theorem Rep.dp : ∀ {v : V} {x : PyData}, Rep G H O v x → x.canLay0 = true → Dp G.K H v x
  | _, _, .non, _ => .non
  | _, _, .bl, _ => .bl _
  | _, _, .int, _ => .int _
  | _, _, .str, _ => .str _
  | _, _, .tup h r, c => .tup h.t (Reps.dp r (by simpa [PyData.canLay0] using c))
  | _, _, .lst _ h r, c => .lst (SqL.of h) (Reps.dp r (by simpa [PyData.canLay0] using c))
  | _, _, .dK _ _ _ _ _, c => by simp [PyData.canLay0] at c
  | _, _, .dN _ _ _ _ _ _, c => by simp [PyData.canLay0] at c
theorem Reps.dp : ∀ {vs : List V} {xs : List PyData}, Reps G H O vs xs → PyData.canLayAll0 xs = true → DpAll G.K H vs xs
  | _, _, .nil, _ => .nil
  | _, _, .cons h r, c => by
    simp only [PyData.canLayAll0, Bool.and_eq_true] at c
    exact .cons (Rep.dp h c.1) (Reps.dp r c.2)
end
theorem RepF.dp {x : PyData} (h : RepF G H O v x) (c : x.canLay0 = true) : Dp G.K H v x := by
  cases h with
  | st h => exact h.dp c
  | lst h r => exact .lst (SqL.of h) (r.dp (by simpa [PyData.canLay0] using c))
  | dK _ _ _ _ => simp [PyData.canLay0] at c
  | dN _ _ _ _ _ => simp [PyData.canLay0] at c
theorem shp_lay {x : PyData} (h : shp x = true) : x.canLay0 = true := SeqAt.canLay_of_shaped h

/-! ### new tuples, known to their objects -/
abbrev tupO (us : List Value) : Obj := { cls := .type "tuple", data := .seq us.toArray }
theorem laid_tup {pins : List (Addr × Obj)} {σ : St} {s : Shared} (I : Inv X pins σ H s) {vs : List V} {us : List Value} (r : Vals vs us) (hz : vs.length ≤ sizeLine) (t' : Nat) :
    Inv X pins σ (upd H s.heap.objs.size (.frz (tupO us) (.tup vs))) { s with heap := s.heap.push (tupO us), toks := t' } :=
  I.laid (fun b u q => Heap.get?_push_of_some _ q) (Nat.le_refl _) ⟨Heap.get?_push_size _ rfl, hz, us, r, _, Heap.get?_push_size _ rfl, rfl, _, rfl⟩
/-- t + u of tuples -/
def rCatD (K : PySem.W.Frag) : R2 := fun x y H Q => ∃ a b xs ys, x = .ref a ∧ y = .ref b ∧ SqD K H a xs ∧ SqD K H b ys ∧ xs.length + ys.length ≤ sizeLine ∧
  (xs = [] → Q (.ref b) H) ∧ (xs ≠ [] → ys = [] → Q (.ref a) H) ∧ (∀ p o, o.dict = none → H p = none → Q (.ref p) (upd H p (.frz o (.tup (xs ++ ys)))))
theorem op_catK : OpR X (binaryOp .Add) (rCatD X.K) := by
  intro pins s σ H x y v u Q I rx ry h
  obtain ⟨a, b, xs, ys, rfl, rfl, ha, hb, hz, q0, q1, q2⟩ := h
  cases rx
  cases ry
  obtain ⟨us, r1, p1, _⟩ := I.tuple ha.t
  obtain ⟨ws, r2, p2, _⟩ := I.tuple hb.t
  have l1 := r1.length
  have l2 := r2.length
  by_cases hx : xs = []
  · subst hx
    cases r1
    exact cat_tup0 p1 p2 ⟨.ref b, H, I, rfl, q0 rfl⟩
  · have hu : us ≠ [] := fun z => hx (by subst z; cases xs with | nil => rfl | cons _ _ => simp at l1)
    refine HT.cat_tup p1 p2 hu (fun e => ?_) (fun _ => ?_) (by omega)
    · have : ys = [] := by subst e; cases ys with | nil => rfl | cons _ _ => simp at l2
      exact ⟨.ref a, H, I, rfl, q1 hx this⟩
    · exact ⟨.ref _, _, laid_tup (t' := s.toks) I (r1.append r2) (by rw [List.length_append]; exact hz), rfl, q2 _ _ rfl (I.hok.fresh (Nat.le_refl _))⟩

theorem tuple_mul1 (l : Addr) (items : Array Value) (n : Nat) (dd : Option Addr) (sl : Array (Option Value)) (u : Tok) :
    Meets (Builtin.«tuple.__mul__» ⟨[.ref l, .int 1 u], []⟩) (fun _ R s => s.heap.get? l = some { cls := .type "tuple", dict := dd, data := .seq items n, slots := sl } ∧
      R (.ok (.ret (Value.ref l))) s) :=
  .of_wp fun prog w A R s h => by
    obtain ⟨hp, g, d, tk, os⟩ := s
    obtain ⟨hl, h⟩ := h
    have f1 := AutoSeq1.idx_int
    have c1 : (items.isEmpty || (1 : Int) == 1) = true := by simp
    wp_walk using wpAny_loadPart' hl
    repeat (first
      | (refine wpAny_ite_true (by rw [c1]) ?_; wp_walk using wpAny_loadPart' hl)
      | (refine wpAny_ite_false (decide_eq_false (by decide)) ?_; wp_walk using wpAny_loadPart' hl))
    exact ⟨_, rfl, h⟩
/-- a tuple by a count from 1 on -/
def rRepD (K : PySem.W.Frag) : R2 := fun x y H Q => ∃ l j xs, x = .ref l ∧ y = .int j ∧ SqD K H l xs ∧ xs ≠ [] ∧ 1 ≤ j ∧ j ≤ 1000 ∧ xs.length ≤ 1000 ∧ (j = 1 → Q (.ref l) H) ∧
  ∀ p o, o.dict = none → H p = none → Q (.ref p) (upd H p (.frz o (.tup (List.replicate j.toNat xs).flatten)))
theorem op_repK : OpR X (binaryOp .Mult) (rRepD X.K) := by
  intro pins s σ H x y v u Q I rx ry ⟨l, j, xs, ex, ey, hT, hne, j1, j2, hz, q1, q2⟩
  subst ex ey
  cases rx
  obtain ⟨t, rfl⟩ := ry
  obtain ⟨its, r, ⟨ob, ho, hc, n, hd⟩, _⟩ := I.tuple hT.t
  obtain ⟨cls, dd, data, sl⟩ := ob
  simp only at hc hd
  subst hc hd
  have hle := r.length
  have ty : s.TypeIs (.ref l) "tuple" := ⟨_, ho, rfl⟩
  have tyj := typeIs_int s j t
  have enter : ∀ {Q' : Value → Shared → Prop}, wpAny (model X.prog X.w) X.A (call (.builtin "tuple.__mul__") [.ref l, .int j t]) Q' X.xe s → wpAny (model X.prog X.w) X.A (binaryOp .Mult (.ref l) (.int j t)) Q' X.xe s := fun h =>
    wpAny_binaryOp_repeat_ref (T := "tuple") (U := "int") (by decide) ty (fun s' => typeIs_int s' j t) noFill_tuple_mul F.fills_int_mul F.slot_int_rmul repeat_tuple F.slot_int_index.lookup
      (call_meets F.slot_int_rmul tyj F.entry_int_rmul (F.args_int_rmul_2 _ _) (int_rmul_tuple j t l its.toArray n dd sl) ⟨ho, rfl, ty, h⟩)
  by_cases h1 : j = 1
  · subst h1
    exact enter (call_meets F.slot_tuple_mul ty F.entry_tuple_mul (F.args_tuple_mul_2 _ _) (tuple_mul1 l its.toArray n dd sl t) ⟨ho, .ref l, H, I, rfl, q1 rfl⟩)
  · have hn : its ≠ [] := fun z => hne (by subst z; exact List.eq_nil_of_length_eq_zero (by simpa using hle))
    have hi : its.toArray.isEmpty = false := by
      cases its with
      | nil => exact absurd rfl hn
      | cons _ _ => rfl
    have bound : j.toNat * xs.length ≤ 1000 * 1000 := Nat.mul_le_mul (by omega) hz
    have flen : (List.replicate j.toNat its).flatten.length ≤ sizeLine := by
      rw [lm_len_rep_flat, ← hle, sizeLine_eq]
      omega
    have prod : ((its.toArray.size : Nat) : Int) * j ≤ 1000000 := by
      have e : ((its.toArray.size : Nat) : Int) * j = ((j.toNat * xs.length : Nat) : Int) := by
        rw [List.size_toArray, ← hle, Nat.mul_comm]
        push_cast
        rw [Int.toNat_of_nonneg (by omega)]
      rw [e]
      omega
    have c0 : (decide (j < -(2 ^ 63)) || decide (j ≥ 2 ^ 63)) = false := by
      simp only [Bool.or_eq_false_iff, decide_eq_false_iff_not]
      omega
    have c1 : (its.toArray.isEmpty || j == 1) = false := by simp [hi, h1]
    have c2 : (decide (j ≤ 0) || its.toArray.isEmpty) = false := by
      simp only [hi, Bool.or_false, decide_eq_false_iff_not]
      omega
    have c4 : Builtin.Tuple.tupleTooMany (((its.toArray.size : Nat) : Int) * j) = false := by
      simp only [Builtin.Tuple.tupleTooMany, sizeLine_eq, decide_eq_false_iff_not]
      omega
    have size : (List.foldl (fun a b => a ++ b) #[] (List.replicate j.toNat its.toArray)).size ≤ sizeLine := by
      rw [size_rep]
      simpa using flen
    refine enter (call_meets F.slot_tuple_mul ty F.entry_tuple_mul (F.args_tuple_mul_2 _ _) (tuple_mulW l its.toArray n dd sl j t c0 c1 c2 (by omega) c4 size) ⟨ho, ?_⟩)
    rw [size_rep]
    refine ⟨.ref s.heap.objs.size, _, laid_tup (t' := s.toks) I (r.rep j.toNat) ?_, rfl, q2 _ _ rfl (I.hok.fresh (Nat.le_refl _))⟩
    rw [lm_len_rep_flat, sizeLine_eq]
    omega
/-! ### two operands -/
/-- the reading of an operator that the evaluator's f tells -/
def rO2 (G : Gd) (f : PyData → PyData → Option T) : R2 := fun x y H Q => ∃ O p q t, RepF G H O x p ∧ RepF G H O y q ∧ f p q = some t ∧ ∀ v H', Same H H' → Res G H O H' v t → Q v H'
def rB2 (G : Gd) (f : PyData → PyData → Option Bool) : R2 := fun x y H Q => ∃ O p q b, RepF G H O x p ∧ RepF G H O y q ∧ f p q = some b ∧ Q (.bl b) H
theorem small_le {n : Nat} (h : small n = true) : n ≤ sizeLine := Nat.le_of_ble_eq_true h
theorem opr_add (hK : G.K = X.K) : OpR X (binaryOp .Add) (rO2 G (op2 .add)) := by
  intro pins s σ H x y v u Q I rx ry h
  obtain ⟨O, p, q, t, hp, hq, e, k⟩ := h
  cases p <;> cases q <;> simp only [op2, reduceCtorEq] at e
  case int.int i j =>
    cases e
    exact op_add pins s σ H x y v u Q I rx ry ⟨i, j, hp.intI, hq.intI, k _ _ (Same.refl _) (.d .int)⟩
  case str.str i j =>
    split at e
    · rename_i hs
      cases e
      exact op_add_str pins s σ H x y v u Q I rx ry ⟨i, j, hp.strI, hq.strI, small_le hs, k _ _ (Same.refl _) (.d .str)⟩
    · cases e
  case list.list xs ys =>
    split at e
    · rename_i hs
      cases e
      obtain ⟨a, vs, rfl, ha, ra⟩ := hp.lstI
      obtain ⟨b, ws, rfl, hb, rb⟩ := hq.lstI
      exact op_cat pins s σ H _ _ v u Q I rx ry ⟨a, b, vs, ws, rfl, rfl, ha, hb, by rw [ra.length, rb.length]; exact small_le hs, fun p hp => k _ _ (same_upd hp) (.lst hp (ra.append rb))⟩
    · cases e
  case tuple.tuple xs ys =>
    split at e
    · rename_i hs
      cases e
      obtain ⟨a, vs, rfl, ha, ra, sa⟩ := hp.tupI
      obtain ⟨b, ws, rfl, hb, rb, sb⟩ := hq.tupI
      rw [hK] at ha hb
      refine op_catK pins s σ H _ _ v u Q I rx ry ⟨a, b, vs, ws, rfl, rfl, ha, hb, by rw [ra.length, rb.length]; exact small_le hs, fun e0 => ?_, fun e0 e1 => ?_, fun p o hd hp => k _ _ (same_upd hp) (.tup hp hd (ra.append rb))⟩
      · subst e0
        have := ra.nil_of
        subst this
        exact k _ _ (Same.refl _) (.d sb)
      · subst e1
        have := rb.nil_of
        subst this
        exact k _ _ (Same.refl _) (.d (by rw [List.append_nil]; exact sa))
    · cases e
theorem opr_sub : OpR X (binaryOp .Sub) (rO2 G (op2 .sub)) := by
  intro pins s σ H x y v u Q I rx ry h
  obtain ⟨O, p, q, t, hp, hq, e, k⟩ := h
  cases p <;> cases q <;> simp only [op2, reduceCtorEq] at e
  case int.int i j =>
    cases e
    exact op_sub pins s σ H x y v u Q I rx ry ⟨i, j, hp.intI, hq.intI, k _ _ (Same.refl _) (.d .int)⟩
theorem opr_mul (hK : G.K = X.K) : OpR X (binaryOp .Mult) (rO2 G (op2 .mul)) := by
  intro pins s σ H x y v u Q I rx ry h
  obtain ⟨O, p, q, t, hp, hq, e, k⟩ := h
  cases p <;> cases q <;> simp only [op2, reduceCtorEq] at e
  case int.int i j =>
    split at e
    · rename_i hs
      cases e
      exact op_mulW pins s σ H x y v u Q I rx ry ⟨i, j, hp.intI, hq.intI, Nat.le_of_ble_eq_true hs, k _ _ (Same.refl _) (.d .int)⟩
    · cases e
  case list.int xs j =>
    split at e
    · rename_i hs
      simp only [Bool.and_eq_true, decide_eq_true_eq] at hs
      cases e
      obtain ⟨a, vs, rfl, ha, ra⟩ := hp.lstI
      exact op_rep pins s σ H _ _ v u Q I rx ry ⟨a, j, vs, rfl, hq.intI, ha, hs.1.1, hs.1.2, by rw [ra.length]; exact small_le hs.2, fun p hp => k _ _ (same_upd hp) (.lst hp (ra.rep _))⟩
    · cases e
  case tuple.int xs j =>
    split at e
    · rename_i hs
      simp only [Bool.and_eq_true, decide_eq_true_eq, Bool.not_eq_true'] at hs
      cases e
      obtain ⟨a, vs, rfl, ha, ra, sa⟩ := hp.tupI
      rw [hK] at ha
      refine op_repK pins s σ H _ _ v u Q I rx ry ⟨a, j, vs, rfl, hq.intI, ha, ?_, hs.1.1.1, hs.1.1.2, by rw [ra.length]; exact Nat.le_of_ble_eq_true hs.2, fun z => ?_, fun p o hd hp => k _ _ (same_upd hp) (.tup hp hd (ra.rep _))⟩
      · rintro rfl
        have := ra.nil_of
        subst this
        simp at hs
      · subst z
        refine k _ _ (Same.refl _) (.d ?_)
        have : (List.replicate (1 : Int).toNat xs).flatten = xs := by simp [List.replicate]
        rw [this]
        exact sa
    · cases e
theorem opr_fdiv : OpR X (binaryOp .FloorDiv) (rO2 G (op2 .fdiv)) := by
  intro pins s σ H x y v u Q I rx ry h
  obtain ⟨O, p, q, t, hp, hq, e, k⟩ := h
  cases p <;> cases q <;> simp only [op2, reduceCtorEq] at e
  case int.int i j =>
    split at e
    · rename_i hs
      cases e
      have hs' : (!(j == 0) && Nat.blt j.natAbs.log2 9000) = true := hs
      rw [Bool.and_eq_true] at hs'
      have h0 : j ≠ 0 := fun z => by subst z; simp at hs'
      have h9 : j.natAbs.log2 < 9000 := Nat.le_of_ble_eq_true hs'.2
      have e1 := hp.intI
      have e2 := hq.intI
      subst e1 e2
      obtain ⟨t, rfl⟩ := rx
      obtain ⟨t', rfl⟩ := ry
      exact floordiv_int h0 ⟨.int (i.fdiv j), H, I.tok _, ⟨_, rfl⟩, k _ _ (Same.refl _) (.d .int)⟩ (.inl (PyProof.noPylong_of_log2 h9))
    · cases e
theorem opr_mod : OpR X (binaryOp .Mod) (rO2 G (op2 .mod)) := by
  intro pins s σ H x y v u Q I rx ry h
  obtain ⟨O, p, q, t, hp, hq, e, k⟩ := h
  cases p <;> cases q <;> simp only [op2, reduceCtorEq] at e
  case int.int i j =>
    split at e
    · rename_i hs
      cases e
      exact op_modN pins s σ H x y v u Q I rx ry ⟨i, j, hp.intI, hq.intI, by simpa using hs, k _ _ (Same.refl _) (.d .int)⟩
    · cases e
theorem opr_pow : OpR X (binaryOp .Pow) (rO2 G (op2 .pow)) := by
  intro pins s σ H x y v u Q I rx ry h
  obtain ⟨O, p, q, t, hp, hq, e, k⟩ := h
  cases p <;> cases q <;> simp only [op2, reduceCtorEq] at e
  case int.int i j =>
    split at e
    · rename_i hs
      cases e
      unfold powOk at hs
      simp only [Bool.and_eq_true, decide_eq_true_eq] at hs
      have h3 : i.natAbs < 18446744073709551616 := Nat.le_of_ble_eq_true hs.2
      exact op_pow pins s σ H x y v u Q I rx ry ⟨i, j, hp.intI, hq.intI, ⟨hs.1.1, hs.1.2, h3⟩, k _ _ (Same.refl _) (.d .int)⟩
    · cases e
end
end Ev
set_option Elab.async false
set_option linter.all false
set_option maxRecDepth 100000
set_option maxHeartbeats 4000000
set_option autoImplicit false
/-! Snd4: keys, dicts at the heap, comparisons. -/
namespace Ev
open PySem PySem.W PySem.Spec L2
open PyProof.Rows hiding St

structure Ok0 (G : Gd) (X : Cx) : Prop where
  hK : G.K = X.K
  hP : G.P = X.prog
  hw : G.w = X.w
  hu : X.A.units + 80 < cLine
  hc : X.calm = true
  hg : X.A.guards = some []

/-! ### keys -/
theorem keq_keyD : ∀ a b : Key, keq (keyD a) (keyD b) = decide (a = b)
  | .inl i, .inl j => by show (i == j) = _; rw [key_ll]
  | .inr i, .inr j => by
    show (i == j) = _
    rw [key_rr]
    by_cases h : i = j
    · subst h; simp
    · rw [decide_eq_false h]; exact beq_eq_false_iff_ne.mpr h
  | .inl i, .inr j => by show false = _; rw [key_lr]
  | .inr i, .inl j => by show false = _; rw [key_rl]
mutual
theorem keq_data : ∀ a b : NestedKey, keq a.data b.data = NestedKey.beq a b
  | .none, .none => rfl
  | .none, .num _ => rfl
  | .none, .text _ => rfl
  | .none, .tup _ => rfl
  | .num _, .none => rfl
  | .num i, .num j => by
    show (i == j) = decide (i = j)
    rw [Bool.eq_iff_iff]; simp
  | .num _, .text _ => rfl
  | .num _, .tup _ => rfl
  | .text _, .none => rfl
  | .text _, .num _ => rfl
  | .text i, .text j => by
    show (i == j) = decide (i = j)
    rw [Bool.eq_iff_iff]; simp
  | .text _, .tup _ => rfl
  | .tup _, .none => rfl
  | .tup _, .num _ => rfl
  | .tup _, .text _ => rfl
  | .tup xs, .tup ys => by
    show keqs (NestedKey.datas xs) (NestedKey.datas ys) = NestedKey.beqAll xs ys
    exact keqs_data xs ys
theorem keqs_data : ∀ xs ys : List NestedKey, keqs (NestedKey.datas xs) (NestedKey.datas ys) = NestedKey.beqAll xs ys
  | [], [] => rfl
  | [], _ :: _ => rfl
  | _ :: _, [] => rfl
  | x :: xs, y :: ys => by
    show (keq x.data y.data && keqs (NestedKey.datas xs) (NestedKey.datas ys)) = (NestedKey.beq x y && NestedKey.beqAll xs ys)
    rw [keq_data x y, keqs_data xs ys]
end
theorem keq_data' (a b : NestedKey) : keq a.data b.data = decide (a = b) := by rw [keq_data, NestedKey.decide_eq]
mutual
theorem nk_of : ∀ (n : Nat) (x : PyData), nkOk n x = true → ∃ κ : NestedKey, κ.data = x ∧ κ.depth ≤ n
  | n, .int i, _ => ⟨.num i, rfl, Nat.zero_le _⟩
  | n, .str i, _ => ⟨.text i, rfl, Nat.zero_le _⟩
  | n, .none, _ => ⟨.none, rfl, Nat.zero_le _⟩
  | n + 1, .tuple xs, h => by
    obtain ⟨ks, e, d⟩ := nks_of n xs (by
      intro x hx
      have h' : xs.all (nkOk n) = true := by simpa [nkOk] using h
      exact List.all_eq_true.mp h' x hx)
    refine ⟨.tup ks, by show PyData.tuple (NestedKey.datas ks) = _; rw [e], ?_⟩
    show NestedKey.depthAll ks + 1 ≤ n + 1
    omega
  | 0, .tuple xs, h => by simp [nkOk] at h
  | n, .bool b, h => by simp [nkOk] at h
  | n, .list b, h => by simp [nkOk] at h
  | n, .dict b, h => by simp [nkOk] at h
theorem nks_of : ∀ (n : Nat) (xs : List PyData), (∀ x ∈ xs, nkOk n x = true) → ∃ κs : List NestedKey, NestedKey.datas κs = xs ∧ NestedKey.depthAll κs ≤ n
  | n, [], _ => ⟨[], rfl, Nat.zero_le _⟩
  | n, x :: xs, h => by
    obtain ⟨κ, e, d⟩ := nk_of n x (h x List.mem_cons_self)
    obtain ⟨κs, e', d'⟩ := nks_of n xs fun y hy => h y (List.mem_cons_of_mem _ hy)
    refine ⟨κ :: κs, by show κ.data :: NestedKey.datas κs = _; rw [e, e'], ?_⟩
    show max κ.depth (NestedKey.depthAll κs) ≤ n
    omega
end
theorem kcls_f {k : PyData} (h : kcls k = some false) : ∃ κ : Key, k = keyD κ := by
  cases k with
  | int i => exact ⟨.inl i, rfl⟩
  | str i => exact ⟨.inr i, rfl⟩
  | tuple xs =>
    simp only [kcls] at h
    split at h <;> simp at h
  | _ => simp [kcls] at h
theorem kcls_t {k : PyData} (h : kcls k = some true) : ∃ κ : NestedKey, κ.data = k ∧ κ.depth ≤ 8 ∧ ∃ xs, k = .tuple xs := by
  cases k with
  | tuple xs =>
    simp only [kcls] at h
    split at h
    · rename_i h'
      obtain ⟨κ, e, d⟩ := nk_of 8 _ h'
      exact ⟨κ, e, d, xs, rfl⟩
    · simp at h
  | _ => simp [kcls] at h
theorem kcls_keyD (κ : Key) : kcls (keyD κ) = some false := by cases κ <;> rfl

/-- a row of keys and values -/
def look {K α : Type} [DecidableEq K] (kvs : List (K × α)) (k : K) : Option α := (kvs.find? fun kv => decide (kv.1 = k)).map (·.2)
theorem look_cons {K α : Type} [DecidableEq K] (p : K × α) (kvs : List (K × α)) (k : K) : look (p :: kvs) k = if p.1 = k then some p.2 else look kvs k := by
  unfold look
  by_cases h : p.1 = k <;> simp [List.find?_cons, h]
section
variable {K α : Type} [DecidableEq K] {f : K → PyData}
theorem kix_look (hf : ∀ a b, keq (f a) (f b) = decide (a = b)) : ∀ (ks : List K) (ws : List α) (k : K), ks.length = ws.length → (kix (ks.map f) (f k)).bind (nth ws) = look (ks.zip ws) k
  | [], [], k, _ => rfl
  | a :: ks, w :: ws, k, l => by
    show (kix (f a :: ks.map f) (f k)).bind (nth (w :: ws)) = look ((a, w) :: ks.zip ws) k
    rw [look_cons]
    unfold kix
    rw [hf]
    by_cases h : a = k
    · simp [h, nth]
    · have ih := kix_look hf ks ws k (by simpa using l)
      simp only [h, decide_false, Bool.false_eq_true, if_false]
      rw [← ih]
      cases kix (ks.map f) (f k) <;> rfl
  | [], _ :: _, _, l => by simp at l
  | _ :: _, [], _, l => by simp at l
theorem kix_some (hf : ∀ a b, keq (f a) (f b) = decide (a = b)) {ks : List K} {k : K} {n : Nat} (h : kix (ks.map f) (f k) = some n) : n < ks.length ∧ ks[n]? = some k := by
  induction ks generalizing n with
  | nil => simp [kix] at h
  | cons a ks ih =>
    simp only [List.map_cons] at h
    unfold kix at h
    rw [hf] at h
    by_cases e : a = k
    · simp [e] at h
      subst h
      simp [e]
    · simp only [e, decide_false, Bool.false_eq_true, if_false] at h
      cases q : kix (ks.map f) (f k) with
      | none => rw [q] at h; simp at h
      | some m =>
        rw [q] at h
        simp at h
        subst h
        obtain ⟨h1, h2⟩ := ih q
        exact ⟨by simp; omega, by simpa using h2⟩
theorem kix_none (hf : ∀ a b, keq (f a) (f b) = decide (a = b)) {ks : List K} {k : K} (h : kix (ks.map f) (f k) = none) : k ∉ ks := by
  induction ks with
  | nil => simp
  | cons a ks ih =>
    simp only [List.map_cons] at h
    unfold kix at h
    rw [hf] at h
    by_cases e : a = k
    · simp [e] at h
    · simp only [e, decide_false, Bool.false_eq_true, if_false] at h
      cases q : kix (ks.map f) (f k) with
      | none =>
        simp only [List.mem_cons, not_or]
        exact ⟨Ne.symm e, ih q⟩
      | some m => rw [q] at h; simp at h
theorem look_isSome (hf : ∀ a b, keq (f a) (f b) = decide (a = b)) (ks : List K) (ws : List α) (k : K) (l : ks.length = ws.length) : (look (ks.zip ws) k).isSome = (kix (ks.map f) (f k)).isSome := by
  rw [← kix_look hf ks ws k l]
  cases q : kix (ks.map f) (f k) with
  | none => rfl
  | some n =>
    have := (kix_some hf q).1
    simp only [Option.bind_some, nth_eq, Option.isSome_some]
    rw [List.getElem?_eq_getElem (by omega)]
    rfl
end

/-! ### keys in the heap -/
section
variable {G : Gd} {X : Cx} {pins : List (Addr × Obj)} {σ : St} {H : Hp} {s : Shared} {O : List Addr}
mutual
theorem nested_is (hK : G.K = X.K) (I : Inv X pins σ H s) : ∀ (κ : NestedKey) (v : V) (u : Value), Rep G H O v κ.data → RelV v u → NestedIs s.heap κ u
  | .none, _, _, h, r => by cases h; cases r; exact .none
  | .num i, _, _, h, r => by cases h; obtain ⟨t, rfl⟩ := r; exact .int _ _
  | .text i, _, _, h, r => by cases h; obtain ⟨t, rfl⟩ := r; exact .text _ _
  | .tup ks, _, _, h, r => by
    cases h with
    | tup hs hr =>
      cases r
      rw [hK] at hs
      obtain ⟨its, rv, ⟨o, ho, hc, n, hd⟩, _⟩ := I.tuple hs.t
      exact .tup ho hc hd (by simpa using nested_all hK I ks _ its hr rv)
theorem nested_all (hK : G.K = X.K) (I : Inv X pins σ H s) : ∀ (κs : List NestedKey) (vs : List V) (us : List Value), Reps G H O vs (NestedKey.datas κs) → Vals vs us → NestedAll s.heap κs us
  | [], _, _, h, r => by cases h; cases r; exact .nil
  | κ :: κs, _, _, h, r => by
    cases h with
    | cons h1 h2 => cases r with
      | cons r1 r2 => exact .cons (nested_is hK I κ _ _ h1 r1) (nested_all hK I κs _ _ h2 r2)
end
abbrev nkX (ks : List (NestedKey × Addr)) (us : List Value) : List (NestedKey × Addr × Value) := (ks.zip us).map fun q => (q.1.1, q.1.2, q.2)
theorem nkX_keys : ∀ {ks : List (NestedKey × Addr)} {us : List Value}, us.length = ks.length → (nkX ks us).map (·.1) = ks.map (·.1)
  | [], _, _ => by simp [nkX]
  | k :: ks, [], h => by simp at h
  | k :: ks, u :: us, h => by
    have := nkX_keys (ks := ks) (us := us) (by simpa using h)
    simp only [nkX, List.zip_cons_cons, List.map_cons] at this ⊢
    rw [this]
theorem nkX_pairs : ∀ {ks : List (NestedKey × Addr)} {us : List Value}, us.length = ks.length → pairsH (nkX ks us) = (ks.map (·.1)).zip us
  | [], _, _ => by simp [nkX, pairsH]
  | k :: ks, [], h => by simp at h
  | k :: ks, u :: us, h => by
    have := nkX_pairs (ks := ks) (us := us) (by simpa using h)
    simp only [nkX, pairsH, List.zip_cons_cons, List.map_cons] at this ⊢
    rw [this]
/-- a dict with nested keys, in the heap -/
theorem dn_rd (ok : Ok0 G X) (I : Inv X pins σ H s) {a : Addr} {ks : List (NestedKey × Addr)} {vs : List V} (h : Rd H a (DN G.P G.w a ks vs)) (hk : Reps G H O (nkV ks) (nkD ks)) :
    (a == sysModules) = false ∧ ks.length ≤ sizeLine ∧ (∀ x ∈ ks, x.1.depth ≤ 8) ∧ ∃ us, Vals vs us ∧ us.length = ks.length ∧ s.heap.DictOfH (nestedKind X.prog X.w) a (nkX ks us) := by
  obtain ⟨⟨h1, h2, h3, h4, us, rv, l, o, es, ep, ho, hc, hd, he⟩, _⟩ := h.ok I.hok
  rw [ok.hP, ok.hw] at he
  refine ⟨h1, h2, h3, us, rv, l, o, es, ep, ho, hc, hd, by rw [he]; simp [nkX], ?_, by rw [nkX_keys l]; exact h4⟩
  intro x hx
  simp only [nkX, List.mem_map] at hx
  obtain ⟨q, hq, rfl⟩ := hx
  have hq1 : q.1 ∈ ks := (List.of_mem_zip (a := q.1) (b := q.2) hq).1
  refine ⟨?_, h3 _ hq1⟩
  have aux : ∀ {ks : List (NestedKey × Addr)} {z : NestedKey × Addr}, Reps G H O (nkV ks) (nkD ks) → z ∈ ks → Rep G H O (.ref z.2) z.1.data := by
    intro ks z h hz
    induction ks with
    | nil => cases hz
    | cons y ks ih =>
      cases h with
      | cons h1 h2 =>
        rcases List.mem_cons.mp hz with rfl | hz
        · exact h1
        · exact ih h2 hz
  exact nested_is ok.hK I _ _ _ (aux hk hq1) rfl
theorem look_val {α : Type} [DecidableEq α] (kvs : List (α × V)) (k : α) : valV kvs k = look kvs k := rfl
theorem look_at {α : Type} [DecidableEq α] (kvs : List (α × Value)) (k : α) : valueAt kvs k = look kvs k := by
  unfold valueAt look
  rfl
theorem zip_keys {α β : Type} : ∀ {ks : List α} {vs : List β}, ks.length = vs.length → (ks.zip vs).map (·.1) = ks
  | [], [], _ => rfl
  | _ :: _, _ :: _, h => by
    simp only [List.zip_cons_cons, List.map_cons]
    rw [zip_keys (by simpa using h)]
  | [], _ :: _, h => by simp at h
  | _ :: _, [], h => by simp at h
theorem zip_vals {α β : Type} : ∀ {ks : List α} {vs : List β}, ks.length = vs.length → (ks.zip vs).map (·.2) = vs
  | [], [], _ => rfl
  | _ :: _, _ :: _, h => by
    simp only [List.zip_cons_cons, List.map_cons]
    rw [zip_vals (by simpa using h)]
  | [], _ :: _, h => by simp at h
  | _ :: _, [], h => by simp at h
/-- an empty dict is one with nested keys -/
theorem nil_keyed (I : Inv X pins σ H s) {a : Addr} (h : Rd H a (.dK [])) : (a == sysModules) = false ∧ s.heap.DictOfH (nestedKind X.prog X.w) a [] := by
  obtain ⟨z, hd, vs, rel, dd⟩ := dk_rd I.hok h
  cases rel
  obtain ⟨o, es, ep, e, hc, hdt, r⟩ := dd
  refine ⟨hd, o, es, ep, e, hc, hdt, ?_, by simp, by simp⟩
  have r2 := r.2.1
  generalize es.toList = l at r2
  cases r2
  rfl
end


/-! ### a key in a dict -/
/-- what is known of a key y beside a dict a: kept apart by the kind of keys -/
inductive KeyIn (G : Gd) (H : Hp) (O : List Addr) (a : Addr) (y : V) (k : PyData) : List PyData → List V → Prop
  | s {κ : Key} {ks : List Key} {vs : List V} : y = kV κ → k = keyD κ → Rd H a (.dK (ks.zip vs)) → ks.length = vs.length → ks.Nodup → KeyIn G H O a y k (ks.map keyD) vs
  | t {κ : NestedKey} {b : Addr} {ks : List (NestedKey × Addr)} {vs : List V} : y = .ref b → k = κ.data → κ.depth ≤ 8 → Rep G H O y k → (Rd H a (DN G.P G.w a ks vs) ∧ ks ≠ [] ∨ Rd H a (.dK []) ∧ ks = []) → ks.length = vs.length → (ks.map (·.1)).Nodup →
      Reps G H O (nkV ks) (nkD ks) → KeyIn G H O a y k (nkD ks) vs
section
variable {G : Gd} {X : Cx} {pins : List (Addr × Obj)} {σ : St} {H : Hp} {s : Shared} {O : List Addr}
theorem kV_of {O : List Addr} {y : V} {κ : Key} (h : Rep G H O y (keyD κ)) : y = kV κ := by
  cases κ with
  | inl i => cases h; rfl
  | inr i => cases h; rfl
theorem RepF.key {y : V} {k : PyData} {b : Bool} (h : RepF G H O y k) (e : kcls k = some b) : Rep G H O y k := by
  cases h with
  | st h => exact h
  | lst _ _ => simp [kcls] at e
  | dK _ _ _ _ => simp [kcls] at e
  | dN _ _ _ _ _ => simp [kcls] at e
/-- a key beside a dict of simple keys -/
theorem key_inK {a : Addr} {y : V} {k : PyData} {ks : List Key} {vs : List V} (hd : Rd H a (.dK (ks.zip vs))) (l : ks.length = vs.length) (nd : ks.Nodup) (ry : RepF G H O y k) (hf : kfit (ks.map keyD) k = true) : KeyIn G H O a y k (ks.map keyD) vs := by
  unfold kfit at hf
  cases ec : kcls k with
  | none => rw [ec] at hf; simp at hf
  | some b =>
    simp only [ec] at hf
    have ry := ry.key ec
    cases b with
    | false =>
      obtain ⟨κ, rfl⟩ := kcls_f ec
      exact .s (kV_of ry) rfl hd l nd
    | true =>
      obtain ⟨κ, rfl, d, zs, ez⟩ := kcls_t ec
      cases ks with
      | cons κ' ks' =>
        simp only [List.map_cons] at hf
        rw [kcls_keyD] at hf
        simp at hf
      | nil =>
        have : vs = [] := by cases vs; rfl; simp at l
        subst this
        have hy : ∃ b, y = .ref b := by
          rw [ez] at ry
          cases ry
          exact ⟨_, rfl⟩
        obtain ⟨b, hb⟩ := hy
        have := KeyIn.t (ks := []) (vs := []) hb rfl d ry (.inr ⟨hd, rfl⟩) rfl (by simp) .nil
        exact this
theorem key_inN {a : Addr} {y : V} {k : PyData} {ks : List (NestedKey × Addr)} {vs : List V} (hd : Rd H a (DN G.P G.w a ks vs)) (l : ks.length = vs.length) (nd : ks ≠ [] ∧ (ks.map (·.1)).Nodup) (rk : Reps G H O (nkV ks) (nkD ks)) (ry : RepF G H O y k)
    (hf : kfit (nkD ks) k = true) : KeyIn G H O a y k (nkD ks) vs := by
  unfold kfit at hf
  cases ec : kcls k with
  | none => rw [ec] at hf; simp at hf
  | some b =>
    simp only [ec] at hf
    have ry := ry.key ec
    cases b with
    | false =>
      cases ks with
      | nil => exact absurd rfl nd.1
      | cons κ' ks' =>
        simp only [nkD, List.map_cons] at hf
        have : ∃ κ : Key, κ'.1.data = keyD κ := by
          cases e : kcls κ'.1.data with
          | none => rw [e] at hf; simp at hf
          | some c => rw [e] at hf; simp at hf; subst hf; exact kcls_f e
        obtain ⟨κ, e⟩ := this
        cases rk with
        | cons h1 h2 =>
          have h1' : Rep G H O (.ref κ'.2) κ'.1.data := h1
          rw [e] at h1'
          cases κ with
          | inl i => cases h1'
          | inr i => cases h1'
    | true =>
      obtain ⟨κ, rfl, d, zs, ez⟩ := kcls_t ec
      have hy : ∃ b, y = .ref b := by
        rw [ez] at ry
        cases ry
        exact ⟨_, rfl⟩
      obtain ⟨b, hb⟩ := hy
      exact .t hb rfl d ry (.inl ⟨hd, nd.1⟩) l nd.2 rk
theorem key_in {v y : V} {k : PyData} {kvs : List (PyData × PyData)} (r : RepF G H O v (.dict kvs)) (ry : RepF G H O y k) (hf : kfit (kvs.map (·.1)) k = true) :
    ∃ a vs, v = .ref a ∧ KeyIn G H O a y k (kvs.map (·.1)) vs ∧ Reps G H O vs (kvs.map (·.2)) := by
  obtain ⟨a, rfl, ⟨ks, vs, xs, rfl, hd, l, nd, rr⟩ | ⟨ks, vs, xs, rfl, hd, l, nd, rk, rr⟩⟩ := r.dctI
  · have l2 := rr.length
    rw [zip_keys (by simp; omega)] at hf ⊢
    rw [zip_vals (by simp; omega)]
    exact ⟨a, vs, rfl, key_inK hd l nd ry hf, rr⟩
  · have l2 := rr.length
    rw [zip_keys (by simp; omega)] at hf ⊢
    rw [zip_vals (by simp; omega)]
    exact ⟨a, vs, rfl, key_inN hd l nd rk ry hf, rr⟩
/-! ### comparisons -/
theorem opr_eq (ok : Ok0 G X) : OpR X (compareOp .Eq) (rB2 G eqP) := by
  intro pins s σ H x y v u Q I rx ry h
  obtain ⟨O, p, q, b, hp, hq, e, k⟩ := h
  unfold eqP at e
  split at e
  · rename_i i j
    cases e
    have e1 := hp.intI
    have e2 := hq.intI
    subst e1 e2
    exact op_eq pins s σ H _ _ v u Q I rx ry ⟨rfl, by rw [dec_int]; exact k⟩
  · rename_i i j
    cases e
    have e1 := hp.blI
    have e2 := hq.blI
    subst e1 e2
    exact op_eq pins s σ H _ _ v u Q I rx ry ⟨rfl, by rw [dec_bl]; exact k⟩
  · rename_i i j
    cases e
    have e1 := hp.strI
    have e2 := hq.strI
    subst e1 e2
    exact op_eq pins s σ H _ _ v u Q I rx ry ⟨rfl, by rw [dec_str]; exact k⟩
  · cases e
    have e1 := hp.nonI
    have e2 := hq.nonI
    subst e1 e2
    exact op_eq pins s σ H _ _ v u Q I rx ry ⟨rfl, k⟩
  · split at e
    · rename_i hs
      rw [Bool.and_eq_true] at hs
      cases e
      have d1 := hp.dp (shp_lay hs.1)
      have d2 := hq.dp (shp_lay hs.2)
      rw [ok.hK] at d1 d2
      exact op_eqD (by have := ok.hu; omega) pins s σ H x y v u Q I rx ry ⟨p, q, d1, d2, hs.1, hs.2, k⟩
    · cases e
theorem opr_ne (ok : Ok0 G X) : OpR X (compareOp .NotEq) (rB2 G fun x y => (eqP x y).map (!·)) := by
  intro pins s σ H x y v u Q I rx ry h
  obtain ⟨O, p, q, b', hp, hq, e', k⟩ := h
  obtain ⟨b, e, rfl⟩ := Option.map_eq_some_iff.mp e'
  unfold eqP at e
  split at e
  · rename_i i j
    cases e
    have e1 := hp.intI
    have e2 := hq.intI
    subst e1 e2
    exact op_ne pins s σ H _ _ v u Q I rx ry ⟨rfl, by rw [dec_int]; exact k⟩
  · rename_i i j
    cases e
    have e1 := hp.blI
    have e2 := hq.blI
    subst e1 e2
    exact op_ne pins s σ H _ _ v u Q I rx ry ⟨rfl, by rw [dec_bl]; exact k⟩
  · rename_i i j
    cases e
    have e1 := hp.strI
    have e2 := hq.strI
    subst e1 e2
    exact op_ne pins s σ H _ _ v u Q I rx ry ⟨rfl, by rw [dec_str]; exact k⟩
  · cases e
    have e1 := hp.nonI
    have e2 := hq.nonI
    subst e1 e2
    exact op_ne pins s σ H _ _ v u Q I rx ry ⟨rfl, k⟩
  · split at e
    · rename_i hs
      rw [Bool.and_eq_true] at hs
      cases e
      have d1 := hp.dp (shp_lay hs.1)
      have d2 := hq.dp (shp_lay hs.2)
      rw [ok.hK] at d1 d2
      exact op_neD (by have := ok.hu; omega) pins s σ H x y v u Q I rx ry ⟨p, q, d1, d2, hs.1, hs.2, k⟩
    · cases e
theorem ints_of : ∀ {xs : List PyData} {vs : List V} {is : List Int}, Reps G H O vs xs → intsOf xs = some is → vs = is.map V.int
  | [], _, _, r, e => by
    cases r
    simp only [intsOf, Option.some.injEq] at e
    subst e
    rfl
  | .int i :: xs, _, _, r, e => by
    cases r with
    | cons h1 h2 =>
      cases h1
      simp only [intsOf] at e
      obtain ⟨js, e', rfl⟩ := Option.map_eq_some_iff.mp e
      rw [ints_of h2 e']
      rfl
  | .none :: _, _, _, _, e => by simp [intsOf] at e
  | .bool _ :: _, _, _, _, e => by simp [intsOf] at e
  | .str _ :: _, _, _, _, e => by simp [intsOf] at e
  | .list _ :: _, _, _, _, e => by simp [intsOf] at e
  | .tuple _ :: _, _, _, _, e => by simp [intsOf] at e
  | .dict _ :: _, _, _, _, e => by simp [intsOf] at e
theorem bools_of : ∀ {xs : List PyData} {vs : List V} {is : List Bool}, Reps G H O vs xs → boolsOf xs = some is → vs = is.map V.bl
  | [], _, _, r, e => by
    cases r
    simp only [boolsOf, Option.some.injEq] at e
    subst e
    rfl
  | .bool i :: xs, _, _, r, e => by
    cases r with
    | cons h1 h2 =>
      cases h1
      simp only [boolsOf] at e
      obtain ⟨js, e', rfl⟩ := Option.map_eq_some_iff.mp e
      rw [bools_of h2 e']
      rfl
  | .none :: _, _, _, _, e => by simp [boolsOf] at e
  | .int _ :: _, _, _, _, e => by simp [boolsOf] at e
  | .str _ :: _, _, _, _, e => by simp [boolsOf] at e
  | .list _ :: _, _, _, _, e => by simp [boolsOf] at e
  | .tuple _ :: _, _, _, _, e => by simp [boolsOf] at e
  | .dict _ :: _, _, _, _, e => by simp [boolsOf] at e
theorem opr_lt (ok : Ok0 G X) : OpR X (compareOp .Lt) (rB2 G ltD) := by
  intro pins s σ H x y v u Q I rx ry h
  obtain ⟨O, p, q, b, hp, hq, e, k⟩ := h
  unfold ltD at e
  split at e
  · cases e
    exact op_lt pins s σ H _ _ v u Q I rx ry ⟨_, _, hp.intI, hq.intI, k⟩
  · cases e
    exact op_lt_str pins s σ H _ _ v u Q I rx ry ⟨_, _, hp.strI, hq.strI, k⟩
  · rename_i xs ys
    split at e
    · rename_i is e1
      split at e
      · rename_i js e2
        cases e
        obtain ⟨a, vs, rfl, ha, ra, _⟩ := hp.tupI
        obtain ⟨b, ws, rfl, hb, rb, _⟩ := hq.tupI
        have := ints_of ra e1
        subst this
        have := ints_of rb e2
        subst this
        rw [ok.hK] at ha hb
        exact op_ltT (by have := ok.hu; omega) pins s σ H _ _ v u Q I rx ry ⟨_, _, _, _, rfl, rfl, ha.t, hb.t, k⟩
      · cases e
    · cases e
  · cases e
theorem opr_gt (ok : Ok0 G X) : OpR X (compareOp .Gt) (rB2 G (cmpD .gt)) := by
  intro pins s σ H x y v u Q I rx ry h
  obtain ⟨O, p, q, b, hp, hq, e, k⟩ := h
  cases p <;> cases q <;> simp only [cmpD, reduceCtorEq] at e
  case int.int i j =>
    cases e
    exact op_gt pins s σ H _ _ v u Q I rx ry ⟨_, _, hp.intI, hq.intI, k⟩
theorem opr_le (ok : Ok0 G X) : OpR X (compareOp .LtE) (rB2 G (cmpD .le)) := by
  intro pins s σ H x y v u Q I rx ry h
  obtain ⟨O, p, q, b, hp, hq, e, k⟩ := h
  cases p <;> cases q <;> simp only [cmpD, reduceCtorEq] at e
  case int.int i j =>
    cases e
    exact op_le pins s σ H _ _ v u Q I rx ry ⟨_, _, hp.intI, hq.intI, k⟩
theorem opr_ge (ok : Ok0 G X) : OpR X (compareOp .GtE) (rB2 G (cmpD .ge)) := by
  intro pins s σ H x y v u Q I rx ry h
  obtain ⟨O, p, q, b, hp, hq, e, k⟩ := h
  cases p <;> cases q <;> simp only [cmpD, reduceCtorEq] at e
  case int.int i j =>
    cases e
    exact op_ge pins s σ H _ _ v u Q I rx ry ⟨_, _, hp.intI, hq.intI, k⟩
/-- y in a dict -/
theorem KeyIn.len {a : Addr} {y : V} {k : PyData} {ks : List PyData} {vs : List V} (h : KeyIn G H O a y k ks vs) : ks.length = vs.length := by
  cases h with
  | s _ _ _ l _ => simpa using l
  | t _ _ _ _ _ l _ _ => simpa using l
theorem nkD_map (ks : List (NestedKey × Addr)) : nkD ks = (ks.map (·.1)).map NestedKey.data := by simp
/-- the rows of a dict with nested keys -/
theorem KeyIn.rows (ok : Ok0 G X) (I : Inv X pins σ H s) {a : Addr} {ks : List (NestedKey × Addr)} {vs : List V} (h : Rd H a (DN G.P G.w a ks vs) ∧ ks ≠ [] ∨ Rd H a (.dK []) ∧ ks = []) (l : ks.length = vs.length) (rk : Reps G H O (nkV ks) (nkD ks)) :
    (a == sysModules) = false ∧ ks.length ≤ sizeLine ∧ (∀ x ∈ ks, x.1.depth ≤ 8) ∧ ∃ us, Vals vs us ∧ us.length = ks.length ∧ s.heap.DictOfH (nestedKind X.prog X.w) a (nkX ks us) := by
  rcases h with ⟨h, _⟩ | ⟨h, rfl⟩
  · exact dn_rd ok I h rk
  · obtain ⟨h1, h2⟩ := nil_keyed I h
    have : vs = [] := by cases vs; rfl; simp at l
    subst this
    exact ⟨h1, Nat.zero_le _, (fun x hx => nomatch hx), [], .nil, rfl, by simpa [nkX] using h2⟩
theorem keyed_of {h : Heap} {P : Program} {w : World} {a : Addr} {ks : List (NestedKey × Addr)} {us : List Value} (x : h.DictOfH (nestedKind P w) a (nkX ks us)) (l : us.length = ks.length) : h.DictKeyed (nestedKind P w) a ((ks.map (·.1)).zip us) := ⟨_, x, nkX_pairs l⟩
theorem opr_in (ok : Ok0 G X) : OpR X (compareOp .In) (rB2 G isInD) := by
  intro pins s σ H x y v u Q I rx ry h
  obtain ⟨O, p, q, b, hp, hq, e, k⟩ := h
  unfold isInD at e
  split at e
  · split at e
    · rename_i hs
      rw [Bool.and_eq_true] at hs
      cases e
      have d1 := hp.dp (shp_lay hs.1)
      have d2 := hq.dp (shp_lay hs.2)
      rw [ok.hK] at d1 d2
      exact op_inD (by have := ok.hu; omega) pins s σ H x y v u Q I rx ry ⟨p, _, d1, d2, hs.1, hs.2, k⟩
    · cases e
  · split at e
    · rename_i ys hs
      rw [Bool.and_eq_true] at hs
      cases e
      have d1 := hp.dp (shp_lay hs.1)
      have d2 := hq.dp (shp_lay hs.2)
      rw [ok.hK] at d1 d2
      obtain ⟨as, r1⟩ := Dp.reads I _ _ _ d1 rx
      obtain ⟨bs, r2⟩ := Dp.reads I _ _ _ d2 ry
      have l2 : PyData.canLayAll0 ys = true := by simpa [PyData.canLay0] using SeqAt.canLay_of_shaped hs.2
      exact SeqAt.in_tuple_reads r2 r1 l2 (SeqAt.canLay_of_shaped hs.1) (room_in_shaped hs.1 (by have := ok.hu; omega)) ⟨.bl _, H, I, rfl, k⟩
    · cases e
  · rename_i kvs
    split at e
    · rename_i hf
      cases e
      obtain ⟨a, vs, rfl, ki, _⟩ := key_in hq hp hf
      cases ry
      generalize hks : kvs.map (·.1) = ks at ki k
      cases ki with
      | s ey ek hd l nd =>
        subst ey ek
        rw [← look_isSome keq_keyD _ _ _ l] at k
        exact d_in (by have := ok.hu; omega) I (.inl ⟨_, _, hd, rfl, rfl⟩) rx fun s' I' => ⟨.bl _, H, I', rfl, k⟩
      | t ey ek d ryk hd l nd rk =>
        rename_i κ b ks'
        subst ey ek
        cases rx
        obtain ⟨h1, h2, h3, us, rv, l2, dd⟩ := KeyIn.rows ok I hd l rk
        rw [nkD_map, ← look_isSome (f := NestedKey.data) keq_data' _ us _ (by simp [l2])] at k
        refine in_keyed (knd := nestedKind X.prog X.w) (by show _ + 8 < cLine; have := ok.hu; have : (Around.in1 X.A).units ≤ X.A.units + 1 := Nat.le_refl _; omega) ⟨nested_is ok.hK I _ _ _ ryk rfl, d⟩ h1 (keyed_of dd l2) ?_
        rw [look_at]
        exact ⟨.bl _, H, I.tok _, rfl, k⟩
    · cases e
  · cases e
theorem opr_notin (ok : Ok0 G X) : OpR X (compareOp .NotIn) (rB2 G fun x y => (isInD x y).map (!·)) := by
  intro pins s σ H x y v u Q I rx ry h
  obtain ⟨O, p, q, b', hp, hq, e', k⟩ := h
  obtain ⟨b, e, rfl⟩ := Option.map_eq_some_iff.mp e'
  unfold isInD at e
  split at e
  · split at e
    · rename_i hs
      rw [Bool.and_eq_true] at hs
      cases e
      have d1 := hp.dp (shp_lay hs.1)
      have d2 := hq.dp (shp_lay hs.2)
      rw [ok.hK] at d1 d2
      exact op_notInD (by have := ok.hu; omega) pins s σ H x y v u Q I rx ry ⟨p, _, d1, d2, hs.1, hs.2, k⟩
    · cases e
  · split at e
    · rename_i ys hs
      rw [Bool.and_eq_true] at hs
      cases e
      have d1 := hp.dp (shp_lay hs.1)
      have d2 := hq.dp (shp_lay hs.2)
      rw [ok.hK] at d1 d2
      obtain ⟨as, r1⟩ := Dp.reads I _ _ _ d1 rx
      obtain ⟨bs, r2⟩ := Dp.reads I _ _ _ d2 ry
      have l2 : PyData.canLayAll0 ys = true := by simpa [PyData.canLay0] using SeqAt.canLay_of_shaped hs.2
      exact SeqAt.notIn_tuple_reads r2 r1 l2 (SeqAt.canLay_of_shaped hs.1) (room_in_shaped hs.1 (by have := ok.hu; omega)) ⟨.bl _, H, I, rfl, k⟩
    · cases e
  · rename_i kvs
    split at e
    · rename_i hf
      cases e
      obtain ⟨a, vs, rfl, ki, _⟩ := key_in hq hp hf
      cases ry
      generalize hks : kvs.map (·.1) = ks at ki k
      cases ki with
      | s ey ek hd l nd =>
        subst ey ek
        rw [← look_isSome keq_keyD _ _ _ l] at k
        exact d_notIn (by have := ok.hu; omega) I (.inl ⟨_, _, hd, rfl, rfl⟩) rx fun s' I' => ⟨.bl _, H, I', rfl, k⟩
      | t ey ek d ryk hd l nd rk =>
        rename_i κ b ks'
        subst ey ek
        cases rx
        obtain ⟨h1, h2, h3, us, rv, l2, dd⟩ := KeyIn.rows ok I hd l rk
        rw [nkD_map, ← look_isSome (f := NestedKey.data) keq_data' _ us _ (by simp [l2])] at k
        refine notIn_keyed (knd := nestedKind X.prog X.w) (by show _ + 8 < cLine; have := ok.hu; have : (Around.in1 X.A).units ≤ X.A.units + 1 := Nat.le_refl _; omega) ⟨nested_is ok.hK I _ _ _ ryk rfl, d⟩ h1 (keyed_of dd l2) ?_
        rw [look_at]
        exact ⟨.bl _, H, I.tok _, rfl, k⟩
    · cases e
  · cases e
end
end Ev
set_option Elab.async false
set_option linter.all false
set_option maxRecDepth 100000
set_option maxHeartbeats 4000000
set_option autoImplicit false
/-! Snd5: sorted. -/
namespace Ev
open PySem PySem.W PySem.Spec L2
open PyProof.Rows hiding St

/-! ### the plain sort is the one -/
section
variable {le : PyData → PyData → Bool}
theorem ins_pair (h : TotalLe le) (x : PyData) : ∀ l : List PyData, l.Pairwise (fun a b => le a b = true) → (insL le x l).Pairwise (fun a b => le a b = true) ∧ ∀ y ∈ insL le x l, y = x ∨ y ∈ l
  | [], _ => ⟨by simp [insL], by simp [insL]⟩
  | z :: l, p => by
    obtain ⟨p1, p2⟩ := List.pairwise_cons.mp p
    unfold insL
    cases hz : le x z with
    | true =>
      simp only [if_true]
      refine ⟨List.pairwise_cons.mpr ⟨fun y hy => ?_, p⟩, fun y hy => List.mem_cons.mp hy⟩
      rcases List.mem_cons.mp hy with rfl | hy
      · exact hz
      · exact h.trans _ _ _ hz (p1 y hy)
    | false =>
      simp only [Bool.false_eq_true, if_false]
      obtain ⟨q1, q2⟩ := ins_pair h x l p2
      refine ⟨List.pairwise_cons.mpr ⟨fun y hy => ?_, q1⟩, fun y hy => ?_⟩
      · rcases q2 y hy with rfl | hy
        · rcases h.total y z with k | k
          · rw [hz] at k; cases k
          · exact k
        · exact p1 y hy
      · rcases List.mem_cons.mp hy with rfl | hy
        · exact .inr List.mem_cons_self
        · rcases q2 y hy with rfl | hy
          · exact .inl rfl
          · exact .inr (List.mem_cons_of_mem _ hy)
theorem ins_filter (h : TotalLe le) (x c : PyData) : ∀ l : List PyData, (insL le x l).filter (sameRank le c) = (x :: l).filter (sameRank le c)
  | [] => rfl
  | z :: l => by
    unfold insL
    cases hz : le x z with
    | true => simp only [if_true]
    | false =>
      simp only [Bool.false_eq_true, if_false]
      have ih := ins_filter h x c l
      rw [List.filter_cons, ih]
      by_cases hx : sameRank le c x = true
      · have hc : sameRank le c z = false := by
          cases q : sameRank le c z with
          | false => rfl
          | true =>
            unfold sameRank at hx q
            rw [Bool.and_eq_true] at hx q
            have := h.trans x c z hx.2 q.1
            rw [hz] at this; cases this
        simp [hc, hx, List.filter_cons]
      · simp only [Bool.not_eq_true] at hx
        simp [hx, List.filter_cons]
theorem srt_pair (h : TotalLe le) : ∀ l : List PyData, (srtL le l).Pairwise (fun a b => le a b = true)
  | [] => .nil
  | x :: l => (ins_pair h x _ (srt_pair h l)).1
theorem srt_filter (h : TotalLe le) (c : PyData) : ∀ l : List PyData, (srtL le l).filter (sameRank le c) = l.filter (sameRank le c)
  | [] => rfl
  | x :: l => by
    show (insL le x (srtL le l)).filter _ = _
    rw [ins_filter h, List.filter_cons, List.filter_cons, srt_filter h c l]
theorem srt_eq (h : TotalLe le) (l : List PyData) : srtL le l = l.mergeSort le := sort_unique h (srt_pair h l) fun c => srt_filter h c l
end
theorem dataLe_total (rev : Bool) : TotalLe (dataLe rev (id : PyData → PyData)) := sortLe_total _ _ _

/-! ### what may be sorted -/
theorem isInt_alike {x y : PyData} (h : isIntD x = true) (h' : isIntD y = true) : alike x y = true := by
  cases x <;> simp [isIntD] at h
  cases y <;> simp [isIntD] at h'
  simp [alike]
theorem isInts_alike : ∀ xs ys : List PyData, xs.all isIntD = true → ys.all isIntD = true → alikeAll xs ys = true
  | [], _, _, _ => by simp [alikeAll]
  | _ :: _, [], _, _ => by simp [alikeAll]
  | x :: xs, y :: ys, h, h' => by
    simp only [List.all_cons, Bool.and_eq_true] at h h'
    simp [alikeAll, isInt_alike h.1 h'.1, isInts_alike xs ys h.2 h'.2]
theorem isInts_depth : ∀ xs : List PyData, xs.all isIntD = true → PyData.depthAll xs = 0
  | [], _ => by simp [PyData.depthAll]
  | x :: xs, h => by
    simp only [List.all_cons, Bool.and_eq_true] at h
    have h1 : PyData.depth x = 0 := by
      cases x <;> simp [isIntD] at h
      simp [PyData.depth]
    simp [PyData.depthAll, h1, isInts_depth xs h.2]
theorem srtOk_is {xs : List PyData} (h : srtOk xs = true) : AllAlike xs ∧ Sortable xs ∧ ∀ x ∈ xs, x.depth ≤ 64 := by
  unfold srtOk at h
  simp only [Bool.or_eq_true] at h
  rcases h with ((h | h) | h) | h
  · have hm := fun x hx => List.all_eq_true.mp h x hx
    refine ⟨fun d hd d' hd' => isInt_alike (hm d hd) (hm d' hd'), .inr fun d hd => ?_, fun x hx => ?_⟩
    · have := hm d hd
      cases d <;> simp [isIntD] at this ⊢
    · have := hm x hx
      cases x <;> simp [isIntD] at this
      simp [PyData.depth]
  · have hm := fun x hx => List.all_eq_true.mp h x hx
    refine ⟨fun d hd d' hd' => ?_, .inr fun d hd => ?_, fun x hx => ?_⟩
    · have h1 := hm d hd
      have h2 := hm d' hd'
      cases d <;> simp [isStrD] at h1
      cases d' <;> simp [isStrD] at h2
      simp [alike]
    · have := hm d hd
      cases d <;> simp [isStrD] at this ⊢
    · have := hm x hx
      cases x <;> simp [isStrD] at this
      simp [PyData.depth]
  · have hm : ∀ x ∈ xs, ∃ y ys, x = .tuple (y :: ys) ∧ (y :: ys).all isIntD = true := fun x hx => by
      have := List.all_eq_true.mp h x hx
      unfold isTupI at this
      split at this
      · exact ⟨_, _, rfl, this⟩
      · cases this
    refine ⟨fun d hd d' hd' => ?_, .inl fun d hd => ?_, fun x hx => ?_⟩
    · obtain ⟨y, ys, rfl, h1⟩ := hm d hd
      obtain ⟨y', ys', rfl, h2⟩ := hm d' hd'
      rw [alike]
      exact isInts_alike _ _ h1 h2
    · obtain ⟨y, ys, rfl, h1⟩ := hm d hd
      exact ⟨_, _, rfl⟩
    · obtain ⟨y, ys, rfl, h1⟩ := hm x hx
      simp only [PyData.depth, isInts_depth _ h1]
      omega
  · simp only [Bool.and_eq_true, Bool.or_eq_true] at h
    obtain ⟨⟨h1, h2⟩, h3⟩ := h
    refine ⟨fun d hd d' hd' => List.all_eq_true.mp (List.all_eq_true.mp h1 d hd) d' hd', ?_, fun x hx => Nat.le_of_ble_eq_true (List.all_eq_true.mp h3 x hx)⟩
    rcases h2 with h2 | h2
    · refine .inl fun d hd => ?_
      have := List.all_eq_true.mp h2 d hd
      unfold isTup1 at this
      split at this
      · exact ⟨_, _, rfl⟩
      · cases this
    · refine .inr fun d hd => ?_
      have := List.all_eq_true.mp h2 d hd
      cases d <;> simp [noTupNone] at this ⊢

/-! ### the call -/
section
variable {G : Gd} {X : Cx} {pins : List (Addr × Obj)} {σ : St} {H : Hp} {s : Shared} {O : List Addr}
/-- items beside values: each with what it stands for -/
abbrev Sb := List (V × PyData)
theorem each_of : ∀ {vs : List V} {xs : List PyData} {us : List Value}, Reps G H O vs xs → Vals vs us → EachIs (fun u (b : V × PyData) => RelV b.1 u) us (vs.zip xs)
  | _, _, _, .nil, .nil => .nil
  | _, _, _, .cons _ h, .cons r rr => .cons r (each_of h rr)
theorem zip_rep : ∀ {vs : List V} {xs : List PyData}, Reps G H O vs xs → ∀ b ∈ vs.zip xs, Rep G H O b.1 b.2
  | _, _, .nil, b, hb => by simp at hb
  | _, _, .cons h r, b, hb => by
    simp only [List.zip_cons_cons, List.mem_cons] at hb
    rcases hb with rfl | hb
    · exact h
    · exact zip_rep r b hb
theorem reps_of : ∀ {bs : Sb}, (∀ b ∈ bs, Rep G H O b.1 b.2) → Reps G H O (bs.map (·.1)) (bs.map (·.2))
  | [], _ => .nil
  | b :: bs, h => .cons (h b List.mem_cons_self) (reps_of fun c hc => h c (List.mem_cons_of_mem _ hc))
theorem vals_each : ∀ {bs : Sb} {us : List Value}, EachIs (fun u (b : V × PyData) => RelV b.1 u) us bs → Vals (bs.map (·.1)) us
  | _, _, .nil => .nil
  | _, _, .cons h r => .cons h (vals_each r)
theorem each_and {α β : Type} {R R' : α → β → Prop} : ∀ {as : List α} {bs : List β}, EachIs R as bs → (∀ a b, b ∈ bs → R a b → R' a b) → EachIs R' as bs
  | _, _, .nil, _ => .nil
  | _, _, .cons h r, k => .cons (k _ _ List.mem_cons_self h) (each_and r fun a b hb => k a b (List.mem_cons_of_mem _ hb))
mutual
theorem Rep.dpA : ∀ {v : V} {x : PyData}, Rep G H O v x → alike x x = true → Dp G.K H v x
  | _, _, .non, _ => .non
  | _, _, .bl, _ => .bl _
  | _, _, .int, _ => .int _
  | _, _, .str, _ => .str _
  | _, _, .tup h r, c => .tup h.t (Reps.dpA r (by simpa [alike] using c))
  | _, _, .lst _ h r, c => .lst (SqL.of h) (Reps.dpA r (by simpa [alike] using c))
  | _, _, .dK _ _ _ _ _, c => by simp [alike] at c
  | _, _, .dN _ _ _ _ _ _, c => by simp [alike] at c
theorem Reps.dpA : ∀ {vs : List V} {xs : List PyData}, Reps G H O vs xs → alikeAll xs xs = true → DpAll G.K H vs xs
  | _, _, .nil, _ => .nil
  | _, _, .cons h r, c => .cons (Rep.dpA h (alike_all_cons c).1) (Reps.dpA r (alike_all_cons c).2)
end
theorem seqObj_is (us : List Value) : (seqObj "list" us.toArray 0 : Obj) = { cls := .type "list", data := .seq us.toArray } := rfl
/-- list.sort of a new list of the items -/
theorem sort_new (ok : Ok0 G X) (I : Inv X pins σ H s) {h' : Heap} {tk : Nat} {vs : List V} {xs ys : List PyData} {us : List Value} {Q : VK} {rev : Bool} {kw : List (Str × Value)} (hkw : (rev = false ∧ kw = []) ∨ kw = [(Str.ofString "reverse", .bool rev)])
    (keep : ∀ b o, s.heap.get? b = some o → h'.get? b = some o) (r : Reps G H O vs xs) (rv : Vals vs us) (hz : vs.length ≤ sizeLine) (e : srtD rev xs = some ys) (q : ∀ v H', Same H H' → Res G H O H' v (.lst (ys.map .d)) → Q v H') :
    wpAny (model X.prog X.w) X.A.in1 (call (.builtin "list.sort") [.ref h'.objs.size] kw) (fun _ s' => EP X pins σ Q (.ref h'.objs.size) s') X.xe { s with heap := h'.push (seqObj "list" us.toArray 0), toks := tk } := by
  unfold srtD at e
  split at e
  case isFalse => cases e
  rename_i hs
  cases e
  obtain ⟨hal, hso, hdp⟩ := srtOk_is hs
  have hl := r.length
  have emap : (vs.zip xs).map (fun b : V × PyData => b.2) = xs := zip_vals hl
  have I1 : Inv X pins σ H { s with heap := h', toks := tk } := I.kept keep
  have E1 := each_of r rv
  have ho : (h'.push (seqObj "list" us.toArray 0)).get? h'.objs.size = some (seqObj "list" us.toArray 0) := Heap.get?_push_size _ rfl
  have er : EachIs (fun u (b : V × PyData) => ∃ as, Reads (h'.push (seqObj "list" us.toArray 0)) u b.2 as ∧ h'.objs.size ∉ as) us (vs.zip xs) := by
    refine each_and E1 fun u b hb rb => ?_
    have rp := zip_rep r b hb
    have hm : b.2 ∈ xs := (List.of_mem_zip (a := b.1) (b := b.2) hb).2
    have dp := rp.dpA (hal _ hm _ hm)
    rw [ok.hK] at dp
    obtain ⟨as, rd⟩ := Dp.reads I1 _ _ _ dp rb
    refine ⟨as, PyProof.Rows.Reads.keeps (fun c o ec => Heap.get?_push_of_some _ ec) rd, fun hm => ?_⟩
    obtain ⟨o, eo⟩ := PyProof.On.reads_mem_get rd _ hm
    exact absurd (Heap.lt_size eo) (Nat.lt_irrefl _)
  have hal' : AllAlike ((vs.zip xs).map fun b : V × PyData => b.2) := by rw [emap]; exact hal
  have hso' : Sortable ((vs.zip xs).map fun b : V × PyData => b.2) := by rw [emap]; exact hso
  have hlz : (vs.zip xs).length = vs.length := by rw [List.length_zip]; omega
  have hu : ∀ b, b ∈ vs.zip xs → X.A.in1.units + 1 + (b.2 : PyData).depth < cLine := fun b hb => by
    have hm : b.2 ∈ xs := (List.of_mem_zip (a := b.1) (b := b.2) hb).2
    have := hdp _ hm
    have := ok.hu
    show X.A.units + 1 + 1 + b.2.depth < cLine
    omega
  have fin : ∀ out : List Value, out.length = (vs.zip xs).length → EachIs (fun u (b : V × PyData) => RelV b.1 u) out ((vs.zip xs).mergeSort (dataLe rev fun b => b.2)) →
      EP X pins σ Q (.ref h'.objs.size) { s with heap := sortedHeap (h'.push (seqObj "list" us.toArray 0)) h'.objs.size us out.toArray, toks := tk } := fun out hlo ho' => by
    have hv := vals_each ho'
    have hp : ((vs.zip xs).mergeSort (dataLe rev fun b => b.2)).Perm (vs.zip xs) := List.mergeSort_perm _ _
    have hr := reps_of (bs := (vs.zip xs).mergeSort (dataLe rev fun b => b.2)) fun b hb => zip_rep r b (hp.mem_iff.mp hb)
    have e2 : ((vs.zip xs).mergeSort (dataLe rev fun b => b.2)).map (fun b : V × PyData => b.2) = srtL (dataLe rev id) xs := by
      rw [srt_eq (dataLe_total rev)]
      have := sort_maps (r := dataLe rev fun b : V × PyData => b.2) (s := dataLe rev (id : PyData → PyData)) (fun b : V × PyData => b.2) (l := vs.zip xs) (fun a _ b _ => rfl)
      rw [emap] at this
      exact this
    rw [e2] at hr
    obtain ⟨ep, he'⟩ := sortedHeap_at (vs := us) (out := out.toArray) ho
    have hlen : (((vs.zip xs).mergeSort (dataLe rev fun b => b.2)).map (fun b : V × PyData => b.1)).length ≤ sizeLine := by
      rw [List.length_map, hp.length_eq, hlz]; exact hz
    have k2 : ∀ b u, h'.get? b = some u → (sortedHeap (h'.push (seqObj "list" us.toArray 0)) h'.objs.size us out.toArray).get? b = some u := fun b u eb => by
      have hlt : b < h'.objs.size := Heap.lt_size eb
      rw [sortedHeap_old (Nat.ne_of_lt hlt) (by rw [size_push']; exact Nat.lt_succ_of_lt hlt)]
      exact Heap.get?_push_of_some _ eb
    have hn : H h'.objs.size = none := I1.hok.fresh (Nat.le_refl _)
    exact ⟨.ref h'.objs.size, upd H h'.objs.size (.lst _), I1.laid (t' := tk) k2 (Nat.le_refl _) ⟨hlen, out, ep, hv, he'⟩, rfl, q _ _ (same_upd hn) (.lst hn hr)⟩
  rcases hkw with ⟨rfl, rfl⟩ | rfl
  · exact list_sort_data (s := { s with heap := h'.push (seqObj "list" us.toArray 0), toks := tk }) ho E1 er hal' hso' (by rw [hlz]; exact hz) hu fin
  · exact list_sort_rev_data (s := { s with heap := h'.push (seqObj "list" us.toArray 0), toks := tk }) ho E1 er hal' hso' (by rw [hlz]; exact hz) hu fin
/-- sorted(r), sorted(r, reverse=b) where the walk over r gives values of vs -/
theorem sorted_by (ok : Ok0 G X) (I : Inv X pins σ H s) {a : Value} {vs : List V} {xs ys : List PyData} {Q : VK} {rev : Bool} {kw : List (Str × Value)} (hkw : (rev = false ∧ kw = []) ∨ kw = [(Str.ofString "reverse", .bool rev)])
    (coll : ∀ R : List Value → Shared → Prop, (∀ h' tk us, (∀ b o, s.heap.get? b = some o → h'.get? b = some o) → Vals vs us → R us { s with heap := h', toks := tk }) → wpAny (model X.prog X.w) X.A.in1 (collect a) R X.xe s)
    (r : Reps G H O vs xs) (hz : vs.length ≤ sizeLine) (e : srtD rev xs = some ys) (q : ∀ v H', Same H H' → Res G H O H' v (.lst (ys.map .d)) → Q v H') :
    wpAny (model X.prog X.w) X.A (call (.builtin "sorted") [a] kw) (EP X pins σ Q) X.xe s := by
  have ha : argsOk "sorted" ⟨[a], kw⟩ := by
    rcases hkw with ⟨_, rfl⟩ | rfl
    · exact args_sorted1 _
    · exact args_sorted_rev _ _
  refine call_function_entry_kw kind_sorted plain_sorted entry_sorted ha ?_
  unfold Builtin.«sorted»
  refine wpAny_bind (m := checkCount "sorted" 1 1 _) (wpAny_pure (wpAny_bind (coll _ fun h' tk us keep rv => ?_)))
  have hl2 : us.length ≤ sizeLine := by rw [← rv.length]; exact hz
  refine wpAny_bind (wpAny_newList (wpAny_bind (wpAny_holding (thn (sort_new ok I hkw keep r rv hz e q) fun _ s' x => ?_))) hl2)
  exact wpAny_pure ⟨_, rfl, x⟩
end
end Ev
set_option Elab.async false
set_option linter.all false
set_option maxRecDepth 100000
set_option maxHeartbeats 4000000
set_option autoImplicit false
/-! Snd6: built-in functions. -/
namespace Ev
open PySem PySem.W PySem.Spec L2
open PyProof.Rows hiding St

/-- a tuple's items, collected -/
theorem col_seq {prog : Program} {w : World} {A : Around} {E : Value → Shared → Prop} {s : Shared} {l : Addr} {T : String} {o : Obj} {vs : List Value} {n : Nat} {Q : List Value → Shared → Prop} (hT : T = "list" ∨ T = "tuple")
    (ho : s.heap.get? l = some o) (hc : o.cls = .type T) (hd : o.data = .seq vs.toArray n) (hz : vs.length ≤ sizeLine) (h : ∀ h', (∀ b o, s.heap.get? b = some o → h'.get? b = some o) → Q vs { s with heap := h' }) : wpAny (model prog w) A (collect (.ref l)) Q E s := by
  have ho2 : (s.heap.push (seqObj "list" #[] 0)).get? l = some o := Heap.get?_push_of_some _ ho
  have hn2 : (s.heap.push (seqObj "list" #[] 0)).get? s.heap.objs.size = some (seqObj "list" #[] 0) := Heap.get?_push_size _ rfl
  have hs3 := get?_update_seq hn2 (· ++ vs.toArray)
  unfold collect
  refine wpAny_bind ?_
  refine wpAny_runValue (codeAny_builtin entry_proto_collect' ?_)
  rw [Around.under_plainId PySem.F.plain_proto_collect _]
  show wpAny _ A.in1 (newList [] >>= fun l' => again (.builtin "list.__iadd__" ⟨[l', .ref l], []⟩)) _ _ s
  refine wpAny_bind (wpAny_newList ?_)
  refine wpAny_pure ⟨plainId_quiet PySem.F.plain_list_iadd _, ?_⟩
  refine codeAny_builtin entry_list_iadd' ?_
  rw [Around.under_plainId PySem.F.plain_list_iadd _]
  show wpAny _ A.in1 (Builtin.List.listExtendWith (.ref s.heap.objs.size) (.ref l) _) _ _ _
  have key := wpAny_extend_seq (prog := prog) (w := w) (A := A) (R := fun q s' => q = .ok (.ret (.ref s.heap.objs.size)) ∧ s' = { s with heap := (s.heap.push (seqObj "list" #[] 0)).update s.heap.objs.size (Obj.mapSeq (· ++ vs.toArray)) })
    (s := { s with heap := s.heap.push (seqObj "list" #[] 0) }) s.heap.objs.size l (.ref s.heap.objs.size) 0 hT hn2 ho2 hc hd ⟨rfl, rfl⟩ (by rw [List.size_toArray]; exact hz)
  have e : ((#[] : Array Value) ++ vs.toArray).toList = vs := by simp
  have last : wpAny (model prog w) A (pure ((#[] : Array Value) ++ vs.toArray).toList) Q E { s with heap := (s.heap.push (seqObj "list" #[] 0)).update s.heap.objs.size (Obj.mapSeq (· ++ vs.toArray)) } := by
    rw [e]
    refine wpAny_pure (h _ fun b u eb => ?_)
    have hb : b ≠ s.heap.objs.size := fun z => Nat.lt_irrefl _ (z ▸ Heap.lt_size eb)
    exact (Heap.get?_update_other _ _ (Ne.symm hb)).trans (Heap.get?_push_of_some _ eb)
  refine wpAny_mono key (fun fin s1 x => ?_) fun _ s1 x => nomatch x.1
  match fin, x with
  | .done f, ⟨e1, e2⟩ =>
    cases e1
    subst e2
    show wpAny _ A (load s.heap.objs.size >>= _) _ _ _
    exact wpAny_bind (wpAny_load hs3 last)
  | .again c, ⟨q1, q2⟩ =>
    refine ⟨q1, codeAny_mono q2 fun q s2 y => ?_⟩
    obtain ⟨y1, y2⟩ := y
    subst y1 y2
    show wpAny _ A (load s.heap.objs.size >>= _) _ _ _
    exact wpAny_bind (wpAny_load hs3 last)

/-! ### a row of operands -/
inductive RepFs (G : Gd) (H : Hp) (O : List Addr) : List V → List PyData → Prop
  | nil : RepFs G H O [] []
  | cons {v x vs xs} : RepF G H O v x → RepFs G H O vs xs → RepFs G H O (v :: vs) (x :: xs)
section
variable {G : Gd} {X : Cx} {H : Hp} {O : List Addr}
theorem RepFs.one {vs : List V} {x : PyData} (h : RepFs G H O vs [x]) : ∃ v, vs = [v] ∧ RepF G H O v x := by
  cases h with
  | cons h r => cases r; exact ⟨_, rfl, h⟩
theorem RepFs.two {vs : List V} {x y : PyData} (h : RepFs G H O vs [x, y]) : ∃ v w, vs = [v, w] ∧ RepF G H O v x ∧ RepF G H O w y := by
  cases h with
  | cons h r => cases r with
    | cons h2 r => cases r; exact ⟨_, _, rfl, h, h2⟩
def rC (G : Gd) (f : List PyData → Option T) : List V → Hp → VK → Prop := fun vs H Q => ∃ O ps t, RepFs G H O vs ps ∧ f ps = some t ∧ ∀ v H', Same H H' → Res G H O H' v t → Q v H'
theorem cr_len (ok : Ok0 G X) : CallR X (.builtin "len") (rC G lenD) := by
  intro pins s σ H vs us Q I r h
  obtain ⟨O, ps, t, hp, e, k⟩ := h
  unfold lenD at e
  split at e
  · split at e
    · rename_i hs
      cases e
      obtain ⟨v, rfl, h1⟩ := hp.one
      obtain rfl := h1.strI
      exact call_len_str pins s σ H _ us Q I r ⟨_, rfl, small_le hs, k _ _ (Same.refl _) (.d .int)⟩
    · cases e
  · cases e
    obtain ⟨v, rfl, h1⟩ := hp.one
    obtain ⟨a, ws, rfl, ha, ra⟩ := h1.lstI
    exact call_len_seq pins s σ H _ us Q I r ⟨_, ws, rfl, .inl (.of ha), by rw [ra.length]; exact k _ _ (Same.refl _) (.d .int)⟩
  · cases e
    obtain ⟨v, rfl, h1⟩ := hp.one
    obtain ⟨a, ws, rfl, ha, ra, _⟩ := h1.tupI
    rw [ok.hK] at ha
    exact call_len_seq pins s σ H _ us Q I r ⟨_, ws, rfl, .inr ha.t, by rw [ra.length]; exact k _ _ (Same.refl _) (.d .int)⟩
  · cases e
    obtain ⟨v, rfl, h1⟩ := hp.one
    obtain ⟨a, rfl, ⟨ks, ws, xs, rfl, hd, l, nd, rr⟩ | ⟨ks, ws, xs, rfl, hd, l, nd, rk, rr⟩⟩ := h1.dctI
    · rw [Vals.ref1 r]
      have l2 := rr.length
      have e1 : ((ks.map keyD).zip xs).length = (ks.zip ws).length := by simp; omega
      rw [e1] at k
      exact d_len I hd fun t s' I' => ⟨.int _, H, I', ⟨_, rfl⟩, k _ _ (Same.refl _) (.d .int)⟩
    · rw [Vals.ref1 r]
      have l2 := rr.length
      obtain ⟨h1, h2, h3, us', rv, l3, dd⟩ := dn_rd ok I hd rk
      have e1 : ((nkD ks).zip xs).length = (nkX ks us').length := by simp [nkX]; omega
      rw [e1] at k
      have hsz := sizeLine_eq
      exact call_len_dictH h1 dd (by simp [nkX]; omega) ⟨.int _, H, I.tok _, ⟨_, rfl⟩, k _ _ (Same.refl _) (.d .int)⟩
  · cases e
theorem cr_int (ok : Ok0 G X) : CallR X (.type "int") (rC G intD) := by
  intro pins s σ H vs us Q I r h
  obtain ⟨O, ps, t, hp, e, k⟩ := h
  unfold intD at e
  split at e
  · cases e
    obtain ⟨v, rfl, h1⟩ := hp.one
    obtain rfl := h1.intI
    exact call_int1 pins s σ H _ us Q I r (.inl ⟨_, rfl, k _ _ (Same.refl _) (.d .int)⟩)
  · cases e
    obtain ⟨v, rfl, h1⟩ := hp.one
    obtain rfl := h1.blI
    exact call_int1 pins s σ H _ us Q I r (.inr ⟨_, rfl, k _ _ (Same.refl _) (.d .int)⟩)
  · cases e
theorem cr_tuple (ok : Ok0 G X) : CallR X (.type "tuple") (rC G tupD) := by
  intro pins s σ H vs us Q I r h
  obtain ⟨O, ps, t, hp, e, k⟩ := h
  unfold tupD at e
  split at e
  · cases e
    obtain ⟨v, rfl, h1⟩ := hp.one
    obtain ⟨a, ws, rfl, ha, ra⟩ := h1.lstI
    rw [Vals.ref1 r]
    obtain ⟨its, rv, pl, hz⟩ := I.list (.of ha)
    have hlen := rv.length
    refine call_tuple_list pl.isList (fun h' kp => ?_) (by rw [List.size_toArray]; omega)
    have I1 : Inv X pins σ H { s with heap := h' } := I.kept (t' := s.toks) kp
    exact ⟨.ref h'.objs.size, _, laid_tup (t' := s.toks) I1 rv hz, rfl, k _ _ (same_upd (I1.hok.fresh (Nat.le_refl _))) (.tup (I1.hok.fresh (Nat.le_refl _)) rfl ra)⟩
  · cases e
    obtain ⟨v, rfl, h1⟩ := hp.one
    obtain ⟨a, ws, rfl, ha, ra, hr⟩ := h1.tupI
    rw [ok.hK] at ha
    exact call_tuple_of pins s σ H _ us Q I r ⟨_, ws, rfl, .inr ⟨ha.t, k _ _ (Same.refl _) (.d hr)⟩⟩
  · cases e
theorem cr_list (ok : Ok0 G X) : CallR X (.type "list") (rC G lstD) := by
  intro pins s σ H vs us Q I r h
  obtain ⟨O, ps, t, hp, e, k⟩ := h
  unfold lstD at e
  split at e
  · cases e
    obtain ⟨v, rfl, h1⟩ := hp.one
    obtain ⟨a, ws, rfl, ha, ra⟩ := h1.lstI
    exact call_list_of pins s σ H _ us Q I r ⟨_, ws, rfl, .inl (.of ha), fun l hl => k _ _ (same_upd hl) (.lst hl ra)⟩
  · cases e
    obtain ⟨v, rfl, h1⟩ := hp.one
    obtain ⟨a, ws, rfl, ha, ra, hr⟩ := h1.tupI
    rw [ok.hK] at ha
    exact call_list_of pins s σ H _ us Q I r ⟨_, ws, rfl, .inr ha.t, fun l hl => k _ _ (same_upd hl) (.lst hl ra)⟩
  · cases e
theorem cr_allG (ok : Ok0 G X) : CallR X (.builtin "all") (rC G allD) := by
  intro pins s σ H vs us Q I r h
  obtain ⟨O, ps, t, hp, e, k⟩ := h
  unfold allD at e
  split at e
  · split at e
    · rename_i bs hb
      cases e
      obtain ⟨v, rfl, h1⟩ := hp.one
      obtain ⟨a, ws, rfl, ha, ra⟩ := h1.lstI
      obtain rfl := bools_of ra hb
      exact cr_all ok.hc pins s σ H _ us Q I r ⟨_, _, rfl, .of ha, k _ _ (Same.refl _) (.d .bl)⟩
    · cases e
  · cases e
theorem cr_anyG (ok : Ok0 G X) : CallR X (.builtin "any") (rC G anyD) := by
  intro pins s σ H vs us Q I r h
  obtain ⟨O, ps, t, hp, e, k⟩ := h
  unfold anyD at e
  split at e
  · split at e
    · rename_i bs hb
      cases e
      obtain ⟨v, rfl, h1⟩ := hp.one
      obtain ⟨a, ws, rfl, ha, ra⟩ := h1.lstI
      obtain rfl := bools_of ra hb
      exact cr_any ok.hc pins s σ H _ us Q I r ⟨_, _, rfl, .of ha, k _ _ (Same.refl _) (.d .bl)⟩
    · cases e
  · cases e
theorem cr_sumG (ok : Ok0 G X) : CallR X (.builtin "sum") (rC G sumD) := by
  intro pins s σ H vs us Q I r h
  obtain ⟨O, ps, t, hp, e, k⟩ := h
  unfold sumD at e
  split at e
  · split at e
    · rename_i bs hb
      cases e
      obtain ⟨v, rfl, h1⟩ := hp.one
      obtain ⟨a, ws, rfl, ha, ra⟩ := h1.lstI
      obtain rfl := ints_of ra hb
      exact cr_sum ok.hc pins s σ H _ us Q I r ⟨_, _, rfl, .of ha, k _ _ (Same.refl _) (.d .int)⟩
    · cases e
  · split at e
    · rename_i bs hb
      cases e
      obtain ⟨v, rfl, h1⟩ := hp.one
      obtain ⟨a, ws, rfl, ha, ra, _⟩ := h1.tupI
      obtain rfl := ints_of ra hb
      rw [ok.hK] at ha
      rw [Vals.ref1 r]
      obtain ⟨its, rv, ht, _⟩ := I.tuple ha.t
      have hi := rv.ints
      obtain ⟨xs, hx⟩ := hi.allInts.items
      have hn : numsOf its.toArray.toList = bs := by rw [show its.toArray.toList = its from rfl, hi.numsOf]
      rw [hx] at ht hn
      rw [nums_intItems] at hn
      refine ktm_sumG (I.ok.hd ok.hc) (show s.heap.IsTuple a (intItems xs) from ht) fun h' tk t' hk => ?_
      have e1 : preSum (numAt xs) xs.size = bs.sum := by rw [preSum_eq, List.take_of_length_le (by simp), hn]
      rw [e1]
      exact ⟨.int bs.sum, H, I.kept hk, ⟨_, rfl⟩, k _ _ (Same.refl _) (.d .int)⟩
    · cases e
  · cases e
theorem cr_abs (ok : Ok0 G X) : CallR X (.builtin "abs") (rC G absD) := by
  intro pins s σ H vs us Q I r h
  obtain ⟨O, ps, t, hp, e, k⟩ := h
  unfold absD at e
  split at e
  · cases e
    obtain ⟨v, rfl, h1⟩ := hp.one
    obtain rfl := h1.intI
    exact call_abs pins s σ H _ us Q I r ⟨_, rfl, k _ _ (Same.refl _) (.d .int)⟩
  · cases e
theorem cr_min (ok : Ok0 G X) : CallR X (.builtin "min") (rC G minD) := by
  intro pins s σ H vs us Q I r h
  obtain ⟨O, ps, t, hp, e, k⟩ := h
  unfold minD at e
  split at e
  · cases e
    obtain ⟨v, w, rfl, h1, h2⟩ := hp.two
    obtain rfl := h1.intI
    obtain rfl := h2.intI
    exact call_min2 ok.hc pins s σ H _ us Q I r ⟨_, _, rfl, k _ _ (Same.refl _) (.d .int)⟩
  · cases e
theorem cr_max (ok : Ok0 G X) : CallR X (.builtin "max") (rC G maxD) := by
  intro pins s σ H vs us Q I r h
  obtain ⟨O, ps, t, hp, e, k⟩ := h
  unfold maxD at e
  split at e
  · cases e
    obtain ⟨v, w, rfl, h1, h2⟩ := hp.two
    obtain rfl := h1.intI
    obtain rfl := h2.intI
    exact call_max2 ok.hc pins s σ H _ us Q I r ⟨_, _, rfl, k _ _ (Same.refl _) (.d .int)⟩
  · cases e
theorem cr_gcdG (ok : Ok0 G X) : CallR X (.builtin "math.gcd") (rC G gcdD) := by
  intro pins s σ H vs us Q I r h
  obtain ⟨O, ps, t, hp, e, k⟩ := h
  unfold gcdD at e
  split at e
  · cases e
    obtain ⟨v, w, rfl, h1, h2⟩ := hp.two
    obtain rfl := h1.intI
    obtain rfl := h2.intI
    exact cr_gcd pins s σ H _ us Q I r ⟨_, _, rfl, k _ _ (Same.refl _) (.d .int)⟩
  · cases e
theorem cr_strG (ok : Ok0 G X) : CallR X (.type "str") (rC G strD) := by
  intro pins s σ H vs us Q I r h
  obtain ⟨O, ps, t, hp, e, k⟩ := h
  unfold strD at e
  split at e
  · cases e
    obtain ⟨v, rfl, h1⟩ := hp.one
    obtain rfl := h1.strI
    exact SkE.call_str_str pins s σ H _ us Q I r ⟨_, rfl, k _ _ (Same.refl _) (.d .str)⟩
  · split at e
    · rename_i hb
      cases e
      obtain ⟨v, rfl, h1⟩ := hp.one
      obtain rfl := h1.intI
      exact call_str_int pins s σ H _ us Q I r ⟨_, rfl, Nat.le_of_ble_eq_true hb, k _ _ (Same.refl _) (.d .str)⟩
    · cases e
  · cases e
theorem shp_depth {x : PyData} (h : shp x = true) : x.depth ≤ 64 := by
  have h' : (x.canLay0 && decide (x.depth ≤ 64)) = true := h
  rw [Bool.and_eq_true] at h'
  exact of_decide_eq_true h'.2
theorem cr_repr (ok : Ok0 G X) : CallR X (.builtin "repr") (rC G reprD) := by
  intro pins s σ H vs us Q I r h
  obtain ⟨O, ps, t, hp, e, k⟩ := h
  unfold reprD at e
  split at e
  · rename_i x
    split at e
    · rename_i hb
      cases e
      simp only [Bool.and_eq_true] at hb
      obtain ⟨⟨hs, hw⟩, hz⟩ := hb
      have hz := small_le hz
      obtain ⟨v, rfl, h1⟩ := hp.one
      obtain ⟨u, rfl, ru⟩ := vals1 r
      have dp := h1.dp (shp_lay hs)
      rw [ok.hK] at dp
      obtain ⟨as, rd⟩ := Dp.reads I _ _ _ dp ru
      have hd : x.hasDict = false := PyData.hasDict_of_canLay _ (shp_lay hs)
      have hdep := shp_depth hs
      have hu := ok.hu
      have fin : ∀ h' tk u', (∀ b o, s.heap.get? b = some o → h'.get? b = some o) → EP X pins σ Q (.str (PyData.shown x) u') { s with heap := h', toks := tk } := fun h' tk u' hk =>
        ⟨.str _, H, I.kept hk, ⟨_, rfl⟩, k _ _ (Same.refl _) (.d .str)⟩
      have refs : ∀ a, u = .ref a → wpAny (model X.prog X.w) X.A (call (.builtin "repr") [u]) (EP X pins σ Q) X.xe s := by
        rintro a rfl
        exact repr_of_reads' rd hw (PyData.noDict_hsm hd) ok.hg (by omega) (fun _ _ q => q) (fun h' u' tk hk => fin h' tk u' hk) hz
      cases x with
      | none => obtain rfl := h1.nonI; cases ru; exact PySem.P.repr_of_none (by have := fin s.heap (s.toks + 1) s.toks fun _ _ q => q; simpa [PyData.shown] using this)
      | bool b => obtain rfl := h1.blI; cases ru; exact PySem.P.repr_of_bool (by have := fin s.heap (s.toks + 1) s.toks fun _ _ q => q; simpa [PyData.shown] using this)
      | int i =>
        obtain rfl := h1.intI
        obtain ⟨t, rfl⟩ := ru
        exact PySem.P.repr_of_int (by simpa [PyData.showable] using hw) (by have := fin s.heap (s.toks + 1) s.toks fun _ _ q => q; simpa [PyData.shown] using this)
      | str i =>
        obtain rfl := h1.strI
        obtain ⟨t, rfl⟩ := ru
        exact PySem.P.repr_of_str (by have := fin s.heap (s.toks + 1) s.toks fun _ _ q => q; simpa [PyData.shown] using this) (by simpa [PyData.shown] using hz)
      | list xs => obtain ⟨a, _, rfl, _⟩ := h1.lstI; exact refs a ru
      | tuple xs => obtain ⟨a, _, rfl, _⟩ := h1.tupI; exact refs a ru
      | dict kvs => exact absurd hd (by simp [PyData.hasDict])
    · cases e
  · cases e
/-- a dict's keys as values, in the heap -/
theorem dict_ws (ok : Ok0 G X) {v : V} {kvs : List (PyData × PyData)} (h : RepF G H O v (.dict kvs)) :
    ∃ a u ws zs, v = .ref a ∧ Rd H a u ∧ Mut (some u) ∧ Reps G H O ws (kvs.map (·.1)) ∧ Reps G H O zs (kvs.map (·.2)) ∧ ∀ (pins : List (Addr × Obj)) (σ : St) (s : Shared), Inv X pins σ H s →
      (a == sysModules) = false ∧ ∃ es ep, s.heap.DictRaw a es ep ∧ es.size ≤ sizeLine ∧ Vals ws (es.toList.map (·.key)) ∧ Vals zs (es.toList.map (·.val)) := by
  obtain ⟨a, rfl, ⟨ks, ws, xs, rfl, hd, l, nd, rr⟩ | ⟨ks, ws, xs, rfl, hd, l, nd, rk, rr⟩⟩ := h.dctI
  · have l2 := rr.length
    have aux : ∀ {es : List DictEntry} {kvs : List (Key × Value)} {ks : List Key} {ws : List V}, Pairs (mixKind X.prog X.w) es kvs → KV (ks.zip ws) kvs → ks.length = ws.length → Vals (ks.map kV) (es.map (·.key)) ∧ Vals ws (es.map (·.val)) := by
      intro es
      induction es with
      | nil =>
        intro kvs ks ws hp rel l
        cases hp
        cases ks with
        | nil => cases ws with
          | nil => exact ⟨.nil, .nil⟩
          | cons _ _ => simp at l
        | cons _ _ => cases ws with
          | nil => simp at l
          | cons _ _ => cases rel
      | cons en es ih =>
        intro kvs ks ws hp rel l
        cases hp with
        | cons h1 h2 h3 =>
          cases ks with
          | nil => cases rel
          | cons κ ks => cases ws with
            | nil => simp at l
            | cons y ws =>
              cases rel with
              | cons r1 r2 =>
                obtain ⟨i1, i2⟩ := ih h3 r2 (by simpa using l)
                obtain ⟨q1, q2⟩ := r1
                refine ⟨.cons ?_ i1, .cons (by show RelV y en.val; rw [h2]; exact q2) i2⟩
                have h1' : keyIs κ en.key = true := by
                  have : κ = _ := q1
                  rw [this]
                  exact h1
                rcases keyIs_shape h1' with ⟨i, t, rfl, e⟩ | ⟨x, t, rfl, e⟩
                · exact ⟨t, e⟩
                · exact ⟨t, e⟩
    have hk : Reps G H O (ks.map kV) (ks.map keyD) := by
      have : ∀ ks : List Key, Reps G H O (ks.map kV) (ks.map keyD) := by
        intro ks
        induction ks with
        | nil => exact .nil
        | cons κ ks ih =>
          refine .cons ?_ ih
          cases κ with
          | inl i => exact .int
          | inr i => exact .str
      exact this ks
    rw [zip_keys (by simp; omega), zip_vals (by simp; omega)]
    refine ⟨a, _, _, ws, rfl, hd, trivial, hk, rr, fun pins σ s I => ?_⟩
    obtain ⟨z, hs, vs, rel, o, es, ep, ho, hc, hdt, hk, hp, hnd⟩ := dk_rd I.hok hd
    obtain ⟨v1, v2⟩ := aux hp rel l
    have hlen := v2.length
    refine ⟨hs, es, ep, ⟨o, ho, hc, hdt⟩, ?_, v1, v2⟩
    have : es.toList.length = ws.length := by simpa using hlen.symm
    rw [Array.length_toList] at this
    have hz : (ks.zip ws).length ≤ sizeLine := z
    simp at hz
    omega
  · have l2 := rr.length
    have aux : ∀ {ks : List (NestedKey × Addr)} {us : List Value} {ws : List V}, us.length = ks.length → Vals ws us → Vals (nkV ks) (((nkX ks us).map (entryOfKey (nestedKind X.prog X.w))).map (·.key)) ∧ Vals ws (((nkX ks us).map (entryOfKey (nestedKind X.prog X.w))).map (·.val)) := by
      intro ks
      induction ks with
      | nil =>
        intro us ws l r
        have : us = [] := by cases us; rfl; simp at l
        subst this
        cases r
        exact ⟨.nil, .nil⟩
      | cons κ ks ih =>
        intro us ws l r
        cases r with
        | nil => simp at l
        | cons r1 r2 =>
          obtain ⟨i1, i2⟩ := ih (by simpa using l) r2
          exact ⟨.cons rfl i1, .cons r1 i2⟩
    rw [zip_keys (by simp; omega), zip_vals (by simp; omega)]
    refine ⟨a, _, _, ws, rfl, hd, trivial, rk, rr, fun pins σ s I => ?_⟩
    obtain ⟨h1, h2, h3, us', rv, l3, o, es, ep, ho, hc, hdt, he, hi, hn⟩ := dn_rd ok I hd rk
    obtain ⟨v1, v2⟩ := aux l3 rv
    rw [← he] at v1 v2
    have hlen := v1.length
    refine ⟨h1, es, ep, ⟨o, ho, hc, hdt⟩, ?_, v1, v2⟩
    have : es.toList.length = ks.length := by simpa using hlen.symm
    rw [Array.length_toList] at this
    omega
theorem dict_keys (ok : Ok0 G X) {pins : List (Addr × Obj)} {σ : St} {s : Shared} (I : Inv X pins σ H s) {v : V} {kvs : List (PyData × PyData)} (h : RepF G H O v (.dict kvs)) :
    ∃ a es ep ws, v = .ref a ∧ (a == sysModules) = false ∧ s.heap.DictRaw a es ep ∧ es.size ≤ sizeLine ∧ Reps G H O ws (kvs.map (·.1)) ∧ Vals ws (es.toList.map (·.key)) ∧ ∃ zs, Reps G H O zs (kvs.map (·.2)) ∧ Vals zs (es.toList.map (·.val)) := by
  obtain ⟨a, u, ws, zs, rfl, _, _, r1, r2, k⟩ := dict_ws ok h
  obtain ⟨h1, es, ep, h2, h3, h4, h5⟩ := k pins σ s I
  exact ⟨a, es, ep, ws, rfl, h1, h2, h3, r1, h4, zs, r2, h5⟩
theorem vals_keys {es : Array DictEntry} {acc : Array Value} (h : ItemsOf (fun i v => ∃ hi : i < es.size, v = es[i].key) acc es.size) : acc.toList = es.toList.map (·.key) := by
  obtain ⟨h1, h2⟩ := h
  apply List.ext_getElem?
  intro i
  rw [Array.getElem?_toList, List.getElem?_map, Array.getElem?_toList]
  by_cases hi : i < es.size
  · have e : acc[i]? = some acc[i] := by simp
    obtain ⟨hi', e'⟩ := h2 i _ e
    rw [e, e']
    simp [hi]
  · rw [Array.getElem?_eq_none (by omega), Array.getElem?_eq_none (by omega)]
    rfl
theorem cr_srd_kw (ok : Ok0 G X) {rev : Bool} {kw : List (Str × Value)} (hkw : (rev = false ∧ kw = []) ∨ kw = [(Str.ofString "reverse", .bool rev)]) {pins : List (Addr × Obj)} {s : Shared} {σ : St} {vs : List V} {us : List Value} {Q : VK}
    (I : Inv X pins σ H s) (r : Vals vs us) (h : rC G (srdD rev) vs H Q) : wpAny (model X.prog X.w) X.A (call (.builtin "sorted") us kw) (EP X pins σ Q) X.xe s := by
  obtain ⟨O, ps, t, hp, e, k⟩ := h
  unfold srdD at e
  split at e
  · split at e
    · rename_i ys hb
      cases e
      obtain ⟨v, rfl, h1⟩ := hp.one
      obtain ⟨a, ws, rfl, ha, ra⟩ := h1.lstI
      rw [Vals.ref1 r]
      obtain ⟨hz, its, n, rv, _, hl⟩ := I.lstM ha
      exact sorted_by ok I hkw (fun R hR => col_seq (n := n) (.inl rfl) hl rfl rfl (by rw [← rv.length]; exact hz) fun h' hk => hR h' s.toks its hk rv) ra hz hb k
    · cases e
  · split at e
    · rename_i ys hb
      cases e
      obtain ⟨v, rfl, h1⟩ := hp.one
      obtain ⟨a, ws, rfl, ha, ra, _⟩ := h1.tupI
      rw [ok.hK] at ha
      rw [Vals.ref1 r]
      obtain ⟨its, rv, ⟨o, ho, hc, n, hdt⟩, hz⟩ := I.tuple ha.t
      exact sorted_by ok I hkw (fun R hR => col_seq (n := n) (.inr rfl) ho hc hdt (by rw [← rv.length]; exact hz) fun h' hk => hR h' s.toks its hk rv) ra hz hb k
    · cases e
  · split at e
    · rename_i ys hb
      cases e
      obtain ⟨v, rfl, h1⟩ := hp.one
      obtain ⟨a, es, ep, ws, rfl, hs, hr, hz, hk, hv, _⟩ := dict_keys ok I h1
      rw [Vals.ref1 r]
      have hl : ws.length = es.size := by rw [hv.length]; simp
      refine sorted_by ok I hkw (fun R hR => ?_) hk (by omega) hb k
      exact kdu_collect (KdlSrc.rawDict hs) (I.ok.hd ok.hc) hr hz fun h' tk acc kp hi => by
        rw [vals_keys hi]
        exact hR h' tk _ kp hv
    · cases e
  · cases e
theorem cr_sortedG (ok : Ok0 G X) : CallR X (.builtin "sorted") (rC G (srdD false)) := fun pins s σ H vs us Q I r h => cr_srd_kw ok (.inl ⟨rfl, rfl⟩) I r h
theorem cr_sortedRG (ok : Ok0 G X) : CallRK X (.builtin "sorted") [Str.ofString "reverse"] (fun vs zs H Q => zs = [.bl true] ∧ rC G (srdD true) vs H Q) := by
  intro pins s σ H vs zs us ws Q I r rz h
  obtain ⟨rfl, h⟩ := h
  obtain ⟨w1, rfl, e1⟩ := vals1 rz
  obtain rfl : w1 = Value.bool true := e1
  exact cr_srd_kw ok (.inr rfl) I r h
end
end Ev
set_option Elab.async false
set_option linter.all false
set_option maxRecDepth 100000
set_option maxHeartbeats 4000000
set_option autoImplicit false
/-! Snd7: displays of tuples, subscripts, slices, methods that change nothing. -/
namespace Ev
open PySem PySem.W PySem.Spec L2
open PyProof.Rows hiding St

def tTupD (t : TA) : TE := fun σ H Q => t σ H fun xs H1 => xs.length ≤ sizeLine ∧ ∀ p o, o.dict = none → H1 p = none → Q (.ref p) (upd H1 p (.frz o (.tup xs)))
theorem pe_tupD {X : Cx} {es : List Expr} {t : TA} {x1} {pos : Pos} (h : PA X es t) : PE X (.Tuple es x1 pos) (tTupD t) :=
  ⟨fun pins s σ H Q I hq => wpAny_Tuple_spliced (thn (h.run pos pins s σ H _ I hq) fun us s1 ⟨xs, H1, I1, r, z, q⟩ =>
    ⟨by rw [← r.length]; exact z, ⟨.ref s1.heap.objs.size, _, laid_tup (t' := s1.toks) I1 r z, rfl, q _ _ rfl (I1.hok.fresh (Nat.le_refl _))⟩⟩)⟩

/-! ### places -/
theorem ixOf_ixN (n : Nat) (i : Int) : ixOf n i = ixN n i := by
  unfold ixN
  cases i with
  | ofNat i =>
    show (if i < n then some i else none) = _
    rw [if_pos (show (0 : Int) ≤ Int.ofNat i from Int.natCast_nonneg i)]
    by_cases h : i < n
    · rw [if_pos h, if_pos (show Int.ofNat i < (n : Int) by have : Int.ofNat i = (i : Int) := rfl; omega)]; rfl
    · rw [if_neg h, if_neg (show ¬ Int.ofNat i < (n : Int) by have : Int.ofNat i = (i : Int) := rfl; omega)]
  | negSucc i =>
    show (if i < n then some (n - 1 - i) else none) = _
    have h0 : ¬ (0 : Int) ≤ Int.negSucc i := by omega
    rw [if_neg h0]
    by_cases h : i < n
    · rw [if_pos h, if_pos (by omega)]
      congr 1
      omega
    · rw [if_neg h, if_neg (by omega)]
theorem ixOf_lt {n j : Nat} {i : Int} (h : ixOf n i = some j) : j < n := by
  cases i with
  | ofNat i =>
    simp only [ixOf] at h
    split at h
    · cases h; assumption
    · cases h
  | negSucc i =>
    simp only [ixOf] at h
    split at h
    · cases h; omega
    · cases h
section
variable {G : Gd} {X : Cx} {H : Hp} {O : List Addr}
theorem Reps.at : ∀ {vs : List V} {xs : List PyData}, Reps G H O vs xs → ∀ {n : Nat} {x : PyData}, nth xs n = some x → ∃ v, vs[n]? = some v ∧ Rep G H O v x
  | _, _, .nil, _, _, h => by simp [nth] at h
  | _, _, .cons h1 _, 0, _, h => by cases h; exact ⟨_, rfl, h1⟩
  | _, _, .cons _ h2, n + 1, _, h => by
    obtain ⟨v, e, q⟩ := Reps.at h2 (n := n) h
    exact ⟨v, by simpa using e, q⟩
theorem Reps.drop : ∀ {vs : List V} {xs : List PyData}, Reps G H O vs xs → ∀ n, Reps G H O (vs.drop n) (xs.drop n)
  | _, _, .nil, n => by simp; exact .nil
  | _, _, .cons h1 h2, 0 => .cons h1 h2
  | _, _, .cons _ h2, n + 1 => Reps.drop h2 n
theorem Reps.take : ∀ {vs : List V} {xs : List PyData}, Reps G H O vs xs → ∀ n, Reps G H O (vs.take n) (xs.take n)
  | _, _, .nil, n => by simp; exact .nil
  | _, _, .cons _ _, 0 => .nil
  | _, _, .cons h1 h2, n + 1 => .cons h1 (Reps.take h2 n)
theorem at_of {vs : List V} {n : Nat} {v : V} {m : Nat} {i : Int} (l : vs.length = m) (h : ixOf m i = some n) (e : vs[n]? = some v) : atI vs i = some v := by
  unfold atI
  rw [l, ← ixOf_ixN, h]
  exact e
/-- the reading of a place that the evaluator's f tells: the heap stays -/
def rX2 (G : Gd) (f : PyData → PyData → Option PyData) : R2 := fun x y H Q => ∃ O p q z, RepF G H O x p ∧ RepF G H O y q ∧ f p q = some z ∧ ∀ v, Rep G H O v z → Q v H
/-- a key's value in a dict -/
def rIxKey (G : Gd) : R2 := fun x y H Q => ∃ a ks k vs n w O, x = .ref a ∧ KeyIn G H O a y k ks vs ∧ kix ks k = some n ∧ vs[n]? = some w ∧ Q w H
theorem ix_key (ok : Ok0 G X) : IxR X (rIxKey G) := by
  intro value slice pins s σ H x y v u Q I rx ry h hs
  obtain ⟨a, ks, k', vs, n, w, O, rfl, ki, hn, ew, k⟩ := h
  cases rx
  cases ki with
  | s ey ek hd l nd =>
    rename_i κ ks'
    subst ey ek
    have hv : valV (ks'.zip vs) κ = some w := by
      rw [look_val, ← kix_look keq_keyD _ _ _ l, hn]
      simp only [Option.bind_some, nth_eq]
      exact ew
    obtain ⟨z0, hd0, us, rel, dd⟩ := dk_rd I.hok hd
    obtain ⟨w', hw, rw2⟩ := RelO.some_of (v := w) (o := valueAt us κ) (by rw [← hv]; exact rel.val κ)
    exact subscriptTail_builtinR (x := w') dd.typeIs PySem.F.slot_dict_getitem.lookup (wpAny_getItem_of (kV_is ry) dd.mapOf hw ⟨rfl, w, H, I.tok _, rw2, k⟩) hs
  | t ey ek d ryk hd l nd rk =>
    rename_i κ b ks'
    subst ey ek
    cases ry
    obtain ⟨h1, h2, h3, us, rv, l2, dd⟩ := KeyIn.rows ok I hd l rk
    obtain ⟨u', eu, ru⟩ := rv.get ew
    have hv : valueAt ((ks'.map (·.1)).zip us) κ = some u' := by
      rw [nkD_map] at hn
      rw [look_at, ← kix_look (f := NestedKey.data) keq_data' _ _ _ (by simp [l2]), hn]
      simp only [Option.bind_some, nth_eq]
      exact eu
    refine subscriptTail_builtinR (x := u') (keyed_of dd l2).typeIs PySem.F.slot_dict_getitem.lookup (getItem_keyed (knd := nestedKind X.prog X.w) ?_ ⟨nested_is ok.hK I _ _ _ ryk rfl, d⟩ (keyed_of dd l2) hv ⟨rfl, w, H, I.tok _, ru, k⟩) hs
    show X.A.units + 1 + 8 < cLine
    have := ok.hu
    omega
theorem ixr (ok : Ok0 G X) : IxR X (rX2 G idxD) := by
  intro value slice pins s σ H x y v u Q I rx ry h hs
  obtain ⟨O, p, q, z, hp, hq, e, k⟩ := h
  unfold idxD at e
  split at e
  · rename_i xs i
    split at e
    · rename_i n hn
      obtain ⟨a, vs, rfl, ha, ra⟩ := hp.lstI
      obtain rfl := hq.intI
      obtain ⟨w, ew, rw'⟩ := ra.at e
      exact ix_list value slice pins s σ H _ _ v u Q I rx ry ⟨a, vs, i, w, rfl, rfl, .of ha, at_of ra.length hn ew, k _ rw'⟩ hs
    · cases e
  · rename_i xs i
    split at e
    · rename_i n hn
      obtain ⟨a, vs, rfl, ha, ra, _⟩ := hp.tupI
      obtain rfl := hq.intI
      obtain ⟨w, ew, rw'⟩ := ra.at e
      rw [ok.hK] at ha
      exact ix_tup value slice pins s σ H _ _ v u Q I rx ry ⟨a, vs, i, w, rfl, rfl, ha.t, at_of ra.length hn ew, k _ rw'⟩ hs
    · cases e
  · rename_i xs i
    split at e
    · rename_i hz
      split at e
      · rename_i n hn
        split at e
        · rename_i c hc
          cases e
          obtain rfl := hp.strI
          obtain rfl := hq.intI
          have hl : xs.cps.toList.length = xs.length := by simp [Str.length]
          refine ix_str value slice pins s σ H _ _ v u Q I rx ry ⟨xs, i, c, rfl, rfl, small_le hz, ?_, k _ .str⟩ hs
          unfold atI
          rw [hl, ← ixOf_ixN, hn]
          rw [nth_eq] at hc
          exact hc
        · cases e
      · cases e
    · cases e
  · rename_i kvs
    split at e
    · rename_i hf
      split at e
      · rename_i n hn
        obtain ⟨a, vs, rfl, ki, rr⟩ := key_in hp hq hf
        obtain ⟨w, ew, rw'⟩ := rr.at e
        exact ix_key ok value slice pins s σ H _ _ v u Q I rx ry ⟨a, _, _, vs, n, w, O, rfl, ki, hn, ew, k _ rw'⟩ hs
      · cases e
    · cases e
  · cases e
/-! ### slices -/
theorem cut_reps {vs : List V} {xs : List PyData} (r : Reps G H O vs xs) (lo hi : Option Int) : Reps G H O (cutV vs lo hi) (cut xs lo hi) := by
  unfold cutV cut
  rw [r.length]
  exact (r.drop _).take _
theorem cut_whole {α : Type} (xs : List α) (lo hi : Option Int) (h1 : HT.sIx xs.length 0 lo = 0) (h2 : HT.sIx xs.length xs.length hi = xs.length) : cut xs lo hi = xs := by
  unfold cut
  rw [h1, h2]
  simp
def rS (G : Gd) : V → Option Int → Option Int → Hp → VK → Prop := fun x lo hi H Q => ∃ O p t, RepF G H O x p ∧ slcD p lo hi = some t ∧ ∀ v H', Same H H' → Res G H O H' v t → Q v H'
theorem slr (ok : Ok0 G X) : SlR X (rS G) := by
  intro pins s σ H x v vl vu lo hi sl Q I rx hs pl pu h
  obtain ⟨O, p, t, hp, e, k⟩ := h
  unfold slcD at e
  split at e
  · cases e
    obtain ⟨a, vs, rfl, ha, ra⟩ := hp.lstI
    exact sl_list pins s σ H _ v vl vu lo hi sl Q I rx hs pl pu ⟨a, vs, rfl, .of ha, fun p hp => k _ _ (same_upd hp) (.lst hp (cut_reps ra lo hi))⟩
  · cases e
    rename_i xs
    obtain ⟨a, vs, rfl, ha, ra, sa⟩ := hp.tupI
    rw [ok.hK] at ha
    have hl := ra.length
    cases rx
    obtain ⟨its, rv, ht, hz⟩ := I.tuple ha.t
    have hlen : its.toArray.size = vs.length := by rw [List.size_toArray]; exact rv.length.symm
    by_cases hw : HT.sIx vs.length 0 lo = 0 ∧ HT.sIx vs.length vs.length hi = vs.length
    · refine ⟨"tuple", _, PyProof.Rows.slot_tuple_getitem.lookup, ht.typeIs, ?_⟩
      refine getItem_tuple_whole ht hs pl pu (by rw [hlen]; exact hw) ⟨.ref a, H, I, rfl, k _ _ (Same.refl _) (.d ?_)⟩
      rw [cut_whole xs lo hi (by rw [← hl]; exact hw.1) (by rw [← hl]; exact hw.2)]
      exact sa
    · refine ⟨"tuple", _, PyProof.Rows.slot_tuple_getitem.lookup, ht.typeIs, ?_⟩
      refine HT.getItem_tuple_cut ht hs pl pu (by rw [hlen]; exact hw) ?_ (by rw [hlen]; exact hz)
      have rc : Vals (cutV vs lo hi) ((its.toArray.toList.drop (HT.sIx its.toArray.size 0 lo)).take (HT.sIx its.toArray.size its.toArray.size hi - HT.sIx its.toArray.size 0 lo)) := by
        unfold cutV
        rw [hlen]
        exact (rv.drop _).take _
      exact ⟨.ref _, _, laid_tup (t' := s.toks) I rc (Nat.le_trans (cutV_length _ _ _) hz), rfl, k _ _ (same_upd (I.hok.fresh (Nat.le_refl _))) (.tup (I.hok.fresh (Nat.le_refl _)) rfl (cut_reps ra lo hi))⟩
  · split at e
    · rename_i hz
      cases e
      obtain rfl := hp.strI
      exact sl_str pins s σ H _ v vl vu lo hi sl Q I rx hs pl pu ⟨_, rfl, small_le hz, k _ _ (Same.refl _) (.d .str)⟩
    · cases e
  · cases e
end
end Ev
set_option Elab.async false
set_option linter.all false
set_option maxRecDepth 100000
set_option maxHeartbeats 4000000
set_option autoImplicit false
/-! Snd8: methods that change nothing. -/
namespace Ev
open PySem PySem.W PySem.Spec L2
open PyProof.Rows hiding St

/-- a value is of that built-in type, and bears no dict -/
def TyIs (X : Cx) (H : Hp) (x : V) (T : String) : Prop := ∀ (pins : List (Addr × Obj)) (σ : St) (s : Shared) (v : Value), Inv X pins σ H s → RelV x v → s.TypeIs v T ∧ ∀ a, v = .ref a → ∃ ob, s.heap.get? a = some ob ∧ ob.dict = none
def tMG (X : Cx) (name : Str) (to : TE) (t : TA) : TE := fun σ H Q => to σ H fun x H1 => ∃ T id r, PlainAttrs T ∧ Slot T name id ∧ typeOf (.builtin id) = pure (.type "method_descriptor") ∧ MtR X id r ∧ TyIs X H1 x T ∧ t σ H1 fun xs H2 => r x xs H2 Q
def tMG0 (X : Cx) (name : Str) (to : TE) : TE := fun σ H Q => to σ H fun x H1 => ∃ T id r, PlainAttrs T ∧ Slot T name id ∧ typeOf (.builtin id) = pure (.type "method_descriptor") ∧ MtR X id r ∧ TyIs X H1 x T ∧ r x [] H1 Q
section
variable {X : Cx} {o e : Expr} {es : List Expr} {to : TE} {t : TA} {name : Str} {apos cpos : Pos}
theorem pe_mG0 (ho : PE X o to) (hbase : attributeBase o name X.env (eval o X.env) = eval o X.env) (hline : (apos.endLine == cpos.line) = true) : PE X (.Call (.Attribute o name apos) [] [] cpos) (tMG0 X name to) :=
  ⟨fun pins s σ H Q I h => wpAny_Call_method0_late hbase hline (thn (ho.run pins s σ H _ I h) fun v s1 q => by
    obtain ⟨x, H1, I1, r1, T, id, r, pa, slot, hty, hm, ty, q1⟩ := q
    obtain ⟨h1, h2⟩ := ty pins σ s1 v I1 r1
    exact ⟨T, id, pa, slot, hty, h1, h2, Calls.callWith_builtin rfl (PySem.evalArgs_none (hm pins s1 σ H1 x [] v [] Q I1 r1 .nil q1))⟩)⟩
theorem pe_mG (ho : PE X o to) (ha : PA X (e :: es) t) (hbase : attributeBase o name X.env (eval o X.env) = eval o X.env)
    (hfew : ((backTo cpos (starEach (e :: es) X.env)).all (fun x => !x.1) && (backToKw cpos (keywordEach [] X.env)).all (fun x => x.1.isSome) && decide ((e :: es).length + ([] : List Keyword).length + (if ([] : List Keyword).isEmpty then 0 else 1) < 30)) = true)
    (hline : (apos.endLine == cpos.line) = true) (hs : starEach (e :: es) X.env = (false, eval e X.env) :: starEach es X.env) (hplain : (backTo cpos (starEach es X.env)).any (·.1) = false) :
    PE X (.Call (.Attribute o name apos) (e :: es) [] cpos) (tMG X name to t) :=
  ⟨fun pins s σ H Q I h => wpAny_Call_method_late hbase hfew hline rfl (thn (ho.run pins s σ H _ I h) fun v s1 q => by
    obtain ⟨x, H1, I1, r1, T, id, r, pa, slot, hty, hm, ty, q1⟩ := q
    obtain ⟨h1, h2⟩ := ty pins σ s1 v I1 r1
    refine ⟨T, id, pa, slot, hty, h1, h2, ?_⟩
    have hA := ha.run cpos pins s1 σ H1 _ I1 q1
    rw [hs] at hA ⊢
    have hp : (backTo cpos ((false, eval e X.env) :: starEach es X.env)).any (·.1) = false := by
      show (false || (backTo cpos (starEach es X.env)).any (·.1)) = false
      rw [hplain]; rfl
    exact Calls.callWith_builtin hp (Calls.evalArgs_plain (thn hA fun us s2 ⟨vs, H2, I2, r2, q2⟩ => hm pins s2 σ H2 x vs v us Q I2 r1 r2 q2)))⟩
end
section
variable {G : Gd} {X : Cx} {H : Hp} {O : List Addr}
theorem ty_list {a : Addr} {vs : List V} (h : SqL X.K H a vs) : TyIs X H (.ref a) "list" := by
  intro pins σ s v I r
  cases r
  obtain ⟨its, _, ⟨o, n, e, c, hd, hdt⟩, _⟩ := I.list h
  refine ⟨⟨o, e, c⟩, fun b eb => ?_⟩
  cases eb
  exact ⟨o, e, hd⟩
theorem ty_tup {a : Addr} {vs : List V} (h : SqD X.K H a vs) : TyIs X H (.ref a) "tuple" := by
  intro pins σ s v I r
  cases r
  rcases h with ⟨o, h, hd⟩ | ⟨o, its, n, h1, h2, hd, _⟩
  · obtain ⟨e, _, its, _, ⟨o', e', c, _⟩⟩ := I.hok a _ h
    rw [e] at e'
    cases e'
    refine ⟨⟨o, e, c⟩, fun b eb => ?_⟩
    cases eb
    exact ⟨o, e, hd⟩
  · refine ⟨⟨o, I.kIn _ _ h1, h2⟩, fun b eb => ?_⟩
    cases eb
    exact ⟨o, I.kIn _ _ h1, hd⟩
theorem ty_dict (ok : Ok0 G X) {v : V} {kvs : List (PyData × PyData)} (h : RepF G H O v (.dict kvs)) : TyIs X H v "dict" := by
  intro pins σ s u I r
  obtain ⟨a, es, ep, ws, rfl, hs, ⟨o, ho, hc, _⟩, _⟩ := dict_keys ok I h
  cases r
  refine ⟨⟨o, ho, hc.1⟩, fun b eb => ?_⟩
  cases eb
  exact ⟨o, ho, hc.2.1⟩
/-- the reading of a method that the evaluator's f tells -/
def rM (G : Gd) (f : PyData → List PyData → Option T) : V → List V → Hp → VK → Prop := fun x vs H Q => ∃ O p ps t, RepF G H O x p ∧ RepFs G H O vs ps ∧ f p ps = some t ∧ ∀ v H', Same H H' → Res G H O H' v t → Q v H'
/-- of a list, of a tuple -/
def rMl (G : Gd) (f : PyData → List PyData → Option T) : V → List V → Hp → VK → Prop := fun x vs H Q => ∃ O xs ps t, RepF G H O x (.list xs) ∧ RepFs G H O vs ps ∧ f (.list xs) ps = some t ∧ ∀ v H', Same H H' → Res G H O H' v t → Q v H'
def rMt (G : Gd) (f : PyData → List PyData → Option T) : V → List V → Hp → VK → Prop := fun x vs H Q => ∃ O xs ps t, RepF G H O x (.tuple xs) ∧ RepFs G H O vs ps ∧ f (.tuple xs) ps = some t ∧ ∀ v H', Same H H' → Res G H O H' v t → Q v H'
def rMd (G : Gd) (f : PyData → List PyData → Option T) : V → List V → Hp → VK → Prop := fun x vs H Q => ∃ O xs ps t, RepF G H O x (.dict xs) ∧ RepFs G H O vs ps ∧ f (.dict xs) ps = some t ∧ ∀ v H', Same H H' → Res G H O H' v t → Q v H'
theorem find_idx {α : Type} {p : α → Bool} {xs : List α} {n : Nat} (h : xs.findIdx? p = some n) : ∃ z, xs[n]? = some z ∧ p z = true ∧ ∀ (m : Nat) (z' : α), m < n → xs[m]? = some z' → p z' = false := by
  rw [List.findIdx?_eq_some_iff_getElem] at h
  obtain ⟨hl, hp, hn⟩ := h
  refine ⟨xs[n], by simp [hl], hp, fun m z' hm e => ?_⟩
  obtain ⟨hl', e'⟩ := List.getElem?_eq_some_iff.mp e
  have := hn m hm
  rw [e'] at this
  simpa using this
theorem mt_idxL (ok : Ok0 G X) : MtR X "list.index" (rMl G idxM) := by
  intro pins s σ H x xs v us Q I rx rxs h
  obtain ⟨O, ys, ps, t, hx, hps, e, k⟩ := h
  unfold idxM at e
  split at e
  · rename_i y
    simp only at e
    split at e
    · rename_i hs
      rw [Bool.and_eq_true] at hs
      split at e
      · rename_i n hn
        cases e
        obtain ⟨w, rfl, h1⟩ := hps.one
        have d1 := hx.dp (shp_lay hs.1)
        have d2 := h1.dp (shp_lay hs.2)
        rw [ok.hK] at d1 d2
        obtain ⟨a, vs, rfl, _⟩ := hx.lstI
        obtain ⟨z, q1, q2, q3⟩ := find_idx hn
        exact mt_indexD (by have := ok.hu; omega) pins s σ H _ _ v us Q I rx rxs ⟨a, w, y, ys, n, z, rfl, rfl, d1, d2, hs.1, hs.2, q1, q2, q3, k _ _ (Same.refl _) (.d .int)⟩
      · cases e
    · cases e
  · cases e
theorem mt_idxT (ok : Ok0 G X) : MtR X "tuple.index" (rMt G idxM) := by
  intro pins s σ H x xs v us Q I rx rxs h
  obtain ⟨O, ys, ps, t, hx, hps, e, k⟩ := h
  unfold idxM at e
  split at e
  · rename_i y
    simp only at e
    split at e
    · rename_i hs
      rw [Bool.and_eq_true] at hs
      split at e
      · rename_i n hn
        cases e
        obtain ⟨w, rfl, h1⟩ := hps.one
        have d1 := hx.dp (shp_lay hs.1)
        have d2 := h1.dp (shp_lay hs.2)
        rw [ok.hK] at d1 d2
        obtain ⟨a, vs, rfl, ha, ra, _⟩ := hx.tupI
        rw [ok.hK] at ha
        cases rx
        obtain ⟨u, rfl, ru⟩ := vals1 rxs
        obtain ⟨bs, rb⟩ := Dp.reads I _ _ _ d2 ru
        obtain ⟨z, q1, q2, q3⟩ := find_idx hn
        cases d1 with
        | tup hd1 hall =>
          obtain ⟨its, rv, ⟨⟨cls, dd, data, sl⟩, ho, hc, m, hdt⟩, hz⟩ := I.tuple hd1
          simp only at hc hdt
          subst hc hdt
          obtain ⟨as, h4⟩ := Dp.readsAll I ys _ its hall rv
          have hxs : PyData.canLayAll0 ys = true := by simpa [PyData.canLay0] using shp_lay hs.1
          have hlen : its.length = ys.length := SeqAt.ReadsAll.length ys its as h4
          have hmap : its.map (SeqAt.readOf s.heap) = ys := SeqAt.readsAll_map ys its as hxs h4
          have hroom : X.A.units + 1 + min (PyData.depthAll ys) (PyData.depth y) < cLine := by
            have := shp_depth hs.2
            have := ok.hu
            omega
          have hnl : n < its.toArray.size := by
            obtain ⟨hl, _⟩ := List.getElem?_eq_some_iff.mp q1
            rw [List.size_toArray]; omega
          have at_ : ∀ (j : Nat) (hj : j < its.toArray.size), ys[j]? = some (SeqAt.readOf s.heap its.toArray[j]) := fun j hj => by
            have hj' : j < its.length := by simpa using hj
            rw [← hmap, List.getElem?_map, List.getElem?_eq_getElem hj']
            simp
          refine call_meets PySem.F.slot_tuple_index ⟨_, ho, rfl⟩ PySem.F.entry_tuple_index (PySem.F.args_tuple_index_2 _ _)
            (PySem.SeqAt.tuple_index2_found a its.toArray m dd sl u (fun j => PyData.eqv (ys.getD j .none) y) n hnl (Nat.zero_le _) hnl ?_ ?_) ⟨ho, fun j hj => ?_, ⟨.int (n : Nat), H, I.tok _, ⟨_, rfl⟩, k _ _ (Same.refl _) (.d .int)⟩⟩
          · rw [List.getD_eq_getElem?_getD, q1]
            exact q2
          · intro j hj _ hjn
            have e1 := at_ j hj
            show PyData.eqv (ys.getD j .none) y = false
            rw [List.getD_eq_getElem?_getD, e1]
            exact q3 j _ hjn e1
          · have := SeqAt.items_eqAt (A := X.A) (vs := its.toArray) (show ReadsAll s.heap its.toArray.toList ys as from h4) rb hxs (shp_lay hs.2) hroom its.toArray[j] (by simp)
            rw [List.getD_eq_getElem?_getD, at_ j hj]
            exact this
      · cases e
    · cases e
  · cases e
theorem mt_cntL (ok : Ok0 G X) : MtR X "list.count" (rMl G cntM) := by
  intro pins s σ H x xs v us Q I rx rxs h
  obtain ⟨O, ys, ps, t, hx, hps, e, k⟩ := h
  unfold cntM at e
  split at e
  · rename_i y
    simp only at e
    split at e
    · rename_i hs
      rw [Bool.and_eq_true] at hs
      cases e
      obtain ⟨w, rfl, h1⟩ := hps.one
      have d1 := hx.dp (shp_lay hs.1)
      have d2 := h1.dp (shp_lay hs.2)
      rw [ok.hK] at d1 d2
      obtain ⟨a, vs, rfl, _⟩ := hx.lstI
      cases rx
      obtain ⟨u, rfl, ru⟩ := vals1 rxs
      obtain ⟨bs, rb⟩ := Dp.reads I _ _ _ d2 ru
      cases d1 with
      | lst hd1 hall =>
        obtain ⟨its, rv, ⟨⟨cls, dd, data, sl⟩, m, ho, hc, hdn, hdt⟩, hz⟩ := I.list hd1
        simp only at hc hdt
        subst hc hdt
        obtain ⟨as, h4⟩ := Dp.readsAll I ys _ its hall rv
        have hxs : PyData.canLayAll0 ys = true := by simpa [PyData.canLay0] using shp_lay hs.1
        have hmap : its.map (SeqAt.readOf s.heap) = ys := SeqAt.readsAll_map ys its as hxs h4
        have hroom : X.A.units + 1 + min (PyData.depthAll ys) (PyData.depth y) < cLine := by
          have := shp_depth hs.2
          have := ok.hu
          omega
        have hcnt : its.toArray.toList.countP (fun u => PyData.eqv (SeqAt.readOf s.heap u) y) = ys.countP fun z => PyData.eqv z y := by
          rw [← hmap, List.countP_map]
          rfl
        refine call_meets PySem.F.slot_list_count ⟨_, ho, rfl⟩ PySem.F.entry_list_count (PySem.F.args_list_count_2 _ _)
          (SeqAt.list_countAt a its.toArray m dd sl u fun u => PyData.eqv (SeqAt.readOf s.heap u) y) ⟨ho, SeqAt.items_eqAt (A := X.A) (vs := its.toArray) (show ReadsAll s.heap its.toArray.toList ys as from h4) rb hxs (shp_lay hs.2) hroom, ?_⟩
        rw [hcnt]
        exact ⟨.int _, H, I.tok _, ⟨_, rfl⟩, k _ _ (Same.refl _) (.d .int)⟩
    · cases e
  · cases e
theorem mt_cntT (ok : Ok0 G X) : MtR X "tuple.count" (rMt G cntM) := by
  intro pins s σ H x xs v us Q I rx rxs h
  obtain ⟨O, ys, ps, t, hx, hps, e, k⟩ := h
  unfold cntM at e
  split at e
  · rename_i y
    simp only at e
    split at e
    · rename_i hs
      rw [Bool.and_eq_true] at hs
      cases e
      obtain ⟨w, rfl, h1⟩ := hps.one
      have d1 := hx.dp (shp_lay hs.1)
      have d2 := h1.dp (shp_lay hs.2)
      rw [ok.hK] at d1 d2
      obtain ⟨a, vs, rfl, _⟩ := hx.tupI
      cases rx
      obtain ⟨u, rfl, ru⟩ := vals1 rxs
      obtain ⟨bs, rb⟩ := Dp.reads I _ _ _ d2 ru
      cases d1 with
      | tup hd1 hall =>
        obtain ⟨its, rv, ⟨⟨cls, dd, data, sl⟩, ho, hc, m, hdt⟩, hz⟩ := I.tuple hd1
        simp only at hc hdt
        subst hc hdt
        obtain ⟨as, h4⟩ := Dp.readsAll I ys _ its hall rv
        have hxs : PyData.canLayAll0 ys = true := by simpa [PyData.canLay0] using shp_lay hs.1
        have hmap : its.map (SeqAt.readOf s.heap) = ys := SeqAt.readsAll_map ys its as hxs h4
        have hroom : X.A.units + 1 + min (PyData.depthAll ys) (PyData.depth y) < cLine := by
          have := shp_depth hs.2
          have := ok.hu
          omega
        have hcnt : its.toArray.toList.countP (fun u => PyData.eqv (SeqAt.readOf s.heap u) y) = ys.countP fun z => PyData.eqv z y := by
          rw [← hmap, List.countP_map]
          rfl
        refine call_meets PySem.F.slot_tuple_count ⟨_, ho, rfl⟩ PySem.F.entry_tuple_count (PySem.F.args_tuple_count_2 _ _)
          (SeqAt.tuple_countAt a its.toArray m dd sl u fun u => PyData.eqv (SeqAt.readOf s.heap u) y) ⟨ho, SeqAt.items_eqAt (A := X.A) (vs := its.toArray) (show ReadsAll s.heap its.toArray.toList ys as from h4) rb hxs (shp_lay hs.2) hroom, ?_⟩
        rw [hcnt]
        exact ⟨.int _, H, I.tok _, ⟨_, rfl⟩, k _ _ (Same.refl _) (.d .int)⟩
    · cases e
  · cases e
theorem getD_at {vs : List V} {xs : List PyData} (r : Reps G H O vs xs) {o : Option Nat} {y : V} {z : PyData} (hy : Rep G H O y z) : Rep G H O ((o.bind fun n => vs[n]?).getD y) ((o.bind (nth xs)).getD z) := by
  cases o with
  | none => exact hy
  | some n =>
    simp only [Option.bind_some]
    cases e : nth xs n with
    | none =>
      rw [nth_eq] at e
      have : vs[n]? = none := by
        rw [List.getElem?_eq_none_iff] at e ⊢
        rw [r.length]; exact e
      rw [this]; exact hy
    | some x =>
      obtain ⟨v, e', q⟩ := r.at e
      rw [e']; exact q
/-- d.get of a key: what stands there, or y -/
theorem get_key (ok : Ok0 G X) {pins : List (Addr × Obj)} {σ : St} {s : Shared} (I : Inv X pins σ H s) {a : Addr} {y z : V} {k : PyData} {ks : List PyData} {vs : List V} {u r : Value} {more : List Value} {Q : VK} (ki : KeyIn G H O a y k ks vs) (ry : RelV y u) (rz : RelV z r)
    (hm : (more = [] ∧ z = .non) ∨ more = [r]) (q : Q (((kix ks k).bind fun n => vs[n]?).getD z) H) : wpAny (model X.prog X.w) X.A (call (.builtin "dict.get") (.ref a :: u :: more)) (EP X pins σ Q) X.xe s := by
  cases ki with
  | s ey ek hd l nd =>
    rename_i κ ks'
    subst ey ek
    have e : ((kix (ks'.map keyD) (keyD κ)).bind fun n => vs[n]?) = valV (ks'.zip vs) κ := by
      rw [look_val, ← kix_look keq_keyD _ _ _ l]
      cases kix (ks'.map keyD) (keyD κ) with
      | none => rfl
      | some n => simp [nth_eq]
    rw [e] at q
    have hu : X.A.units + 1 < cLine := by have := ok.hu; omega
    rcases hm with ⟨rfl, rfl⟩ | rfl
    · exact d_get1 hu I (.inl ⟨_, _, hd, rfl, rfl⟩) ry fun w' s' I' rw' => ⟨_, H, I', rw', q⟩
    · exact d_get2 hu I (.inl ⟨_, _, hd, rfl, rfl⟩) ry rz fun w' s' I' rw' => ⟨_, H, I', rw', q⟩
  | t ey ek d ryk hd l nd rk =>
    rename_i κ b ks'
    subst ey ek
    cases ry
    obtain ⟨h1, h2, h3, us, rv, l2, dd⟩ := KeyIn.rows ok I hd l rk
    have hu : X.A.units + 1 + 8 < cLine := by have := ok.hu; omega
    have hrel : RelV (((kix (nkD ks') κ.data).bind fun n => vs[n]?).getD z) ((valueAt ((ks'.map (·.1)).zip us) κ).getD r) := by
      rw [look_at, nkD_map, ← kix_look (f := NestedKey.data) keq_data' _ us _ (by simp [l2])]
      cases e : kix ((ks'.map (·.1)).map NestedKey.data) κ.data with
      | none => exact rz
      | some n =>
        have hn := (kix_some (f := NestedKey.data) keq_data' e).1
        have hv : n < vs.length := by rw [← l]; simpa using hn
        simp only [Option.bind_some, nth_eq]
        have e1 : vs[n]? = some vs[n] := by simp
        obtain ⟨u', eu, ru⟩ := rv.get e1
        rw [e1, eu]
        exact ru
    rcases hm with ⟨rfl, rfl⟩ | rfl
    · cases rz
      exact get_keyed (knd := nestedKind X.prog X.w) hu ⟨nested_is ok.hK I _ _ _ ryk rfl, d⟩ h1 (keyed_of dd l2) ⟨_, H, I.tok _, hrel, q⟩
    · exact getOr_keyed (knd := nestedKind X.prog X.w) hu ⟨nested_is ok.hK I _ _ _ ryk rfl, d⟩ h1 (keyed_of dd l2) ⟨_, H, I.tok _, hrel, q⟩
theorem RepF.st_of {v : V} {x : PyData} (h : RepF G H O v x) (e : stD x = true) : Rep G H O v x := by
  cases h with
  | st h => exact h
  | lst _ _ => cases e
  | dK _ _ _ _ => cases e
  | dN _ _ _ _ _ => cases e
theorem mt_get (ok : Ok0 G X) : MtR X "dict.get" (rMd G getM) := by
  intro pins s σ H x xs v us Q I rx rxs h
  obtain ⟨O, kvs, ps, t, hx, hps, e, k⟩ := h
  unfold getM at e
  simp only at e
  split at e
  · split at e
    · rename_i hf
      cases e
      obtain ⟨w, rfl, h1⟩ := hps.one
      obtain ⟨a, vs, rfl, ki, rr⟩ := key_in hx h1 hf
      cases rx
      obtain ⟨u, rfl, ru⟩ := vals1 rxs
      exact get_key ok I (z := .non) (r := .none) ki ru rfl (.inl ⟨rfl, rfl⟩) (k _ _ (Same.refl _) (.d (getD_at rr .non)))
    · cases e
  · split at e
    · rename_i hf
      rw [Bool.and_eq_true] at hf
      cases e
      obtain ⟨w, w2, rfl, h1, h2⟩ := hps.two
      obtain ⟨a, vs, rfl, ki, rr⟩ := key_in hx h1 hf.1
      cases rx
      obtain ⟨u, u2, rfl, ru, ru2⟩ := vals2 rxs
      exact get_key ok I (z := w2) (r := u2) ki ru ru2 (.inr rfl) (k _ _ (Same.refl _) (.d (getD_at rr (h2.st_of hf.2))))
    · cases e
  · cases e
end
end Ev
set_option Elab.async false
set_option linter.all false
set_option maxRecDepth 100000
set_option maxHeartbeats 4000000
set_option autoImplicit false
/-! Snd9: places in own things. -/
namespace Ev
open PySem PySem.W PySem.Spec L2
open PyProof.Rows hiding St

/-! ### paths -/
theorem getP_snoc : ∀ (t : T) (p : List PyData) (k : PyData), getP t (p ++ [k]) = (getP t p).bind fun u => getP u [k]
  | _, [], _ => rfl
  | t, j :: p, k => by
    show getP t (j :: (p ++ [k])) = _
    unfold getP
    cases chi t j with
    | none => rfl
    | some n =>
      simp only
      cases nth (kids t) n with
      | none => rfl
      | some t' => exact getP_snoc t' p k
theorem setP_snoc : ∀ (t : T) (p : List PyData) (k : PyData) (u u' w : T) (n : Nat), getP t p = some u → chi u k = some n → nth (kids u) n = some u' → setP t (p ++ [k]) w = setP t p (reKid u n w)
  | t, [], k, u, u', w, n, h, hc, hn => by
    cases h
    show setP t [k] w = reKid t n w
    simp only [setP, hc, hn]
  | t, j :: p, k, u, u', w, n, h, hc, hn => by
    show setP t (j :: (p ++ [k])) w = _
    unfold getP at h
    simp only [setP]
    cases e : chi t j with
    | none => rfl
    | some m =>
      simp only [e] at h ⊢
      cases e2 : nth (kids t) m with
      | none => rfl
      | some t' =>
        simp only [e2] at h ⊢
        rw [setP_snoc t' p k u u' w n h hc hn]
/-- what is held beside a place, the rest around it -/
def Hole (G : Gd) (σ : St) (H : Hp) (δ : List T) (ws : List V) (us : List T) (gv : List V) (gt : List T) (i : Nat) (p : List PyData) (u : T) (v : V) (ft l g r : List Addr) : Prop :=
  (ft ++ (l ++ (g ++ r))).Nodup ∧ RepTs G H (ft ++ (l ++ (g ++ r))) ws us ft ∧ RepT G H (ft ++ (l ++ (g ++ r))) v u g ∧ (∀ a ∈ ft ++ (l ++ (g ++ r)), H a ≠ none) ∧
    ∀ H' O' u' g', Up (ft ++ (l ++ (g ++ r))) H O' H' → (∀ a ∈ l ++ r, H' a = H a) → RepT G H' O' v u' g' → RepTs G H' O' (gv ++ sv σ) (gt ++ setS δ i p u') (l ++ (g' ++ r))
/-- a place in a slot's own thing: what is held beside it, the rest around it -/
structure FocP (G : Gd) (σ : St) (H : Hp) (δ : List T) (ws : List V) (us : List T) (gv : List V) (gt : List T) (i : Nat) (p : List PyData) (u : T) (v : V) : Prop where
  env : EnvOk σ δ
  len : gv.length = gt.length
  lws : ws.length = us.length
  root : ∃ t v0, nth δ i = some t ∧ t ≠ .un ∧ getP t p = some u ∧ σ[i]? = some (some v0)
  hole : ∃ ft l g r, Hole G σ H δ ws us gv gt i p u v ft l g r
section
variable {G : Gd} {H H' : Hp} {σ : St} {δ : List T} {ws gv : List V} {us gt : List T} {i : Nat} {p : List PyData} {u : T} {v : V}
theorem setS_nil {t t' : T} (h : nth δ i = some t) : setS δ i [] t' = put δ i t' := by simp [setS, h, setP]
theorem At.focP {t : T} (h : At G σ H δ (ws ++ gv) (us ++ gt)) (lw : ws.length = us.length) (e : nth δ i = some t) (n : t ≠ .un) : ∃ v, σ[i]? = some (some v) ∧ FocP G σ H δ ws us gv gt i [] t v := by
  obtain ⟨v, hv⟩ := h.env.has i t e n
  have hlen : gv.length = gt.length := by have := h.len; simp at this; omega
  obtain ⟨O, nd, R⟩ := h.hold
  rw [List.append_assoc, List.append_assoc] at R
  obtain ⟨ft, fr, rfl, r1, r2⟩ := R.splitV lw
  have e' : nth (gt ++ δ) (gt.length + i) = some t := by
    rw [nth_eq] at e ⊢
    rw [List.getElem?_append_right (by omega)]
    simpa using e
  obtain ⟨vl, w, vr, tl, tr, l, g, r, e1, e2, e3, n1, n2, h1, h2, h3⟩ := r2.pick e'
  have hw : w = v := by
    have q : (gv ++ sv σ)[gt.length + i]? = some w := by rw [e1, ← n1]; simp
    rw [← hlen, List.getElem?_append_right (by omega)] at q
    have q2 := sv_at hv
    simp only [Nat.add_sub_cancel_left] at q
    rw [q2] at q
    exact (Option.some.inj q).symm
  subst hw
  subst e3
  refine ⟨w, hv, h.env, hlen, lw, ⟨t, w, e, n, rfl, hv⟩, ft, l, g, r, nd, r1, h2, R.there, fun H' O' u' g' up k q => ?_⟩
  have hp : gt ++ put δ i u' = tl ++ u' :: tr := by
    have : put (gt ++ δ) (gt.length + i) u' = gt ++ put δ i u' := by
      rw [put_eq, put_eq, List.set_append_right _ _ (by omega)]
      simp
    rw [← this, e2, nth_put n2]
  rw [setS_nil e, hp, e1]
  exact (h1.up up fun a ha => k a (List.mem_append_left _ ha)).append (.cons q (h3.up up fun a ha => k a (List.mem_append_right _ ha)))
theorem put_same {α : Type} {xs : List α} {n : Nat} {x : α} (h : nth xs n = some x) : put xs n x = xs := by
  rw [put_eq]
  rw [nth_eq] at h
  apply List.ext_getElem?
  intro j
  rw [List.getElem?_set]
  split
  · rename_i hj; subst hj
    split
    · exact h.symm
    · rename_i hl
      rw [List.getElem?_eq_none (by omega)]
  · rfl
theorem reKid_same {t u : T} {n : Nat} (h : nth (kids t) n = some u) : reKid t n u = t := by
  cases t <;> simp only [kids, nth] at h <;> try cases h
  · rename_i ts
    show T.lst (put ts n u) = _
    rw [put_same h]
  · rename_i ks ts
    show T.dct ks (put ts n u) = _
    rw [put_same h]
theorem setP_same : ∀ {t : T} {p : List PyData} {u : T}, getP t p = some u → setP t p u = t
  | _, [], _, h => by cases h; rfl
  | t, k :: p, u, h => by
    unfold getP at h
    simp only [setP]
    cases e : chi t k with
    | none => rfl
    | some n =>
      simp only [e] at h ⊢
      cases e2 : nth (kids t) n with
      | none => rfl
      | some t' =>
        simp only [e2] at h ⊢
        rw [setP_same h]
        exact reKid_same e2
theorem setS_same (h : getS δ i p = some u) : setS δ i p u = δ := by
  unfold getS at h
  unfold setS
  cases e : nth δ i with
  | none => rfl
  | some t =>
    simp only [e] at h ⊢
    rw [setP_same h]
    exact put_same e
theorem FocP.getS (F : FocP G σ H δ ws us gv gt i p u v) : Ev.getS δ i p = some u := by
  obtain ⟨t, v0, e, _, h, _⟩ := F.root
  simp [Ev.getS, e, h]
theorem EnvOk.setS {u' : T} (h : EnvOk σ δ) {v0 : V} (hv : σ[i]? = some (some v0)) : EnvOk σ (Ev.setS δ i p u') := by
  unfold Ev.setS
  cases e : nth δ i with
  | none => exact h
  | some t => exact h.put hv
theorem Hole.same {ft l g r : List Addr} (h : Hole G σ H δ ws us gv gt i p u v ft l g r) (s : Same H H') : Hole G σ H' δ ws us gv gt i p u v ft l g r := by
  obtain ⟨nd, r1, r2, th, k⟩ := h
  have keep : ∀ a ∈ ft ++ (l ++ (g ++ r)), H' a = H a := fun a ha => by
    cases e : H a with
    | none => exact absurd e (th a ha)
    | some o => exact s _ _ e
  refine ⟨nd, r1.up (.same s) fun a ha => keep a (List.mem_append_left _ ha), r2.up (.same s) fun a ha => keep a (by simp [ha]), fun a ha => by rw [keep a ha]; exact th a ha, fun H2 O' u' g' up kk q => ?_⟩
  refine k H2 O' u' g' ⟨fun a o n h => up.lst a o n (s _ _ h), fun a o n h => up.out a o n (Same.rd s h), fun a o u h => up.fz a o u (s _ _ h), fun a ha => ?_⟩ (fun a ha => ?_) q
  · rcases up.own a ha with h | h
    · exact .inl h
    · refine .inr ?_
      cases e : H a with
      | none => rfl
      | some o => rw [s _ _ e] at h; cases h
  · rw [kk a ha]
    exact keep a (by simp only [List.mem_append] at ha ⊢; rcases ha with h | h <;> simp [h])
theorem FocP.same (F : FocP G σ H δ ws us gv gt i p u v) (s : Same H H') : FocP G σ H' δ ws us gv gt i p u v := by
  obtain ⟨ft, l, g, r, h⟩ := F.hole
  exact ⟨F.env, F.len, F.lws, F.root, ft, l, g, r, h.same s⟩
/-- the state again, what is held kept; the place as it is or with a new tree -/
theorem FocP.set (F : FocP G σ H δ ws us gv gt i p u v) {u' : T} (k : ∀ ft l g r, (ft ++ (l ++ (g ++ r))).Nodup → RepTs G H (ft ++ (l ++ (g ++ r))) ws us ft → RepT G H (ft ++ (l ++ (g ++ r))) v u g → (∀ a ∈ ft ++ (l ++ (g ++ r)), H a ≠ none) →
    ∃ g', (l ++ (g' ++ r)).Nodup ∧ Up (ft ++ (l ++ (g ++ r))) H (l ++ (g' ++ r)) H' ∧ (∀ a ∈ l ++ r, H' a = H a) ∧ RepT G H' (l ++ (g' ++ r)) v u' g') : At G σ H' (Ev.setS δ i p u') gv gt := by
  obtain ⟨ft, l, g, r, nd, r1, r2, th, kk⟩ := F.hole
  obtain ⟨g', nd', up, ke, q⟩ := k ft l g r nd r1 r2 th
  obtain ⟨t, v0, _, _, _, hv⟩ := F.root
  exact ⟨F.env.setS hv, F.len, _, nd', kk H' _ u' g' up ke q⟩
/-- with what is held kept -/
theorem FocP.at (F : FocP G σ H δ ws us gv gt i p u v) : At G σ H δ (ws ++ gv) (us ++ gt) := by
  obtain ⟨ft, l, g, r, nd, r1, r2, th, kk⟩ := F.hole
  have := kk H _ u g (.less fun a h => h) (fun _ _ => rfl) r2
  rw [setS_same F.getS] at this
  refine ⟨F.env, by simp [F.len, F.lws], _, nd, ?_⟩
  rw [List.append_assoc, List.append_assoc]
  exact r1.append this
/-- a place's child, as values -/
def ChV (G : Gd) (H : Hp) (O : List Addr) (v : V) (k : PyData) (w : V) : Prop := ∃ a, v = .ref a ∧ ((∃ i vs, k = .int i ∧ H a = some (.lst vs) ∧ atI vs i = some w) ∨ ∃ ks vs n, kix ks k = some n ∧ vs[n]? = some w ∧ ∀ y, RepF G H O y k → KeyIn G H O a y k ks vs)
theorem pick_at {O : List Addr} {vs : List V} {ts : List T} {f : List Addr} {n : Nat} {u : T} (r : RepTs G H O vs ts f) (e : nth ts n = some u) :
    ∃ w l g r', f = l ++ (g ++ r') ∧ vs[n]? = some w ∧ RepT G H O w u g ∧ ∀ H' O' u' g', Up O H O' H' → (∀ a ∈ l ++ r', H' a = H a) → RepT G H' O' w u' g' → RepTs G H' O' vs (put ts n u') (l ++ (g' ++ r')) := by
  obtain ⟨vl, w, vr, tl, tr, l, g, r', e1, e2, e3, n1, n2, h1, h2, h3⟩ := r.pick e
  refine ⟨w, l, g, r', e3, by rw [e1, ← n1]; simp, h2, fun H' O' u' g' up k q => ?_⟩
  rw [e1, e2, nth_put n2]
  exact (h1.up up fun a ha => k a (List.mem_append_left _ ha)).append (.cons q (h3.up up fun a ha => k a (List.mem_append_right _ ha)))
theorem child {O : List Addr} {u u' : T} {g : List Addr} {k : PyData} {n : Nat} (r : RepT G H O v u g) (hc : chi u k = some n) (hn : nth (kids u) n = some u') :
    ∃ w l g' r', g = l ++ (g' ++ r') ∧ ChV G H O v k w ∧ RepT G H O w u' g' ∧ ∀ H' O' u'' g'', Up O H O' H' → (∀ a ∈ l ++ r', H' a = H a) → RepT G H' O' w u'' g'' → RepT G H' O' v (reKid u n u'') (l ++ (g'' ++ r')) := by
  cases r with
  | un => simp [chi] at hc
  | d _ => simp [chi] at hc
  | fn _ => simp [chi] at hc
  | fz _ _ => simp [chi] at hc
  | lk _ => simp [chi] at hc
  | tup _ _ => simp [chi] at hc
  | lst ha rr =>
    rename_i a vs ts fp
    cases k with
    | int i =>
      have hc' : ixOf ts.length i = some n := hc
      obtain ⟨w, l, g', r', e, ew, rw', up⟩ := pick_at rr hn
      refine ⟨w, a :: l, g', r', by rw [e]; rfl, ⟨a, rfl, .inl ⟨i, vs, rfl, ha, at_of rr.length hc' ew⟩⟩, rw', fun H' O' u'' g'' U kk q => ?_⟩
      exact .lst ((kk a (by simp)).trans ha) (up H' O' u'' g'' U (fun b hb => kk b (by simp only [List.cons_append, List.mem_cons]; exact .inr hb)) q)
    | _ => simp [chi] at hc
  | dK ha l0 nd rr =>
    rename_i a ks vs ts fp
    have hc' : (if kfit (ks.map keyD) k then kix (ks.map keyD) k else none) = some n := hc
    split at hc'
    · rename_i hf
      obtain ⟨w, l, g', r', e, ew, rw', up⟩ := pick_at rr hn
      refine ⟨w, a :: l, g', r', by rw [e]; rfl, ⟨a, rfl, .inr ⟨_, vs, n, hc', ew, fun y ry => key_inK (.inl ha) l0 nd ry hf⟩⟩, rw', fun H' O' u'' g'' U kk q => ?_⟩
      exact .dK ((kk a (by simp)).trans ha) l0 nd (up H' O' u'' g'' U (fun b hb => kk b (by simp only [List.cons_append, List.mem_cons]; exact .inr hb)) q)
    · cases hc'
  | dN ha l0 nd rk rr =>
    rename_i a ks vs ts fp
    have hc' : (if kfit (nkD ks) k then kix (nkD ks) k else none) = some n := hc
    split at hc'
    · rename_i hf
      obtain ⟨w, l, g', r', e, ew, rw', up⟩ := pick_at rr hn
      refine ⟨w, a :: l, g', r', by rw [e]; rfl, ⟨a, rfl, .inr ⟨_, vs, n, hc', ew, fun y ry => key_inN (.inl ha) l0 nd rk ry hf⟩⟩, rw', fun H' O' u'' g'' U kk q => ?_⟩
      exact .dN ((kk a (by simp)).trans ha) l0 nd (rk.up U) (up H' O' u'' g'' U (fun b hb => kk b (by simp only [List.cons_append, List.mem_cons]; exact .inr hb)) q)
    · cases hc'
theorem setS_snoc {u' w : T} {k : PyData} {n : Nat} (h : getS δ i p = some u) (hc : chi u k = some n) (hn : nth (kids u) n = some u') : setS δ i (p ++ [k]) w = setS δ i p (reKid u n w) := by
  unfold getS at h
  unfold setS
  cases e : nth δ i with
  | none => rfl
  | some t =>
    simp only [e] at h ⊢
    rw [setP_snoc t p k u u' w n h hc hn]
/-- a place's view, for reading -/
structure View (G : Gd) (σ : St) (H : Hp) (O : List Addr) (δ : List T) : Prop where
  env : EnvOk σ δ
  there : ∀ a ∈ O, H a ≠ none
  get : ∀ j t, nth δ j = some t → t ≠ .un → ∃ w g, σ[j]? = some (some w) ∧ RepT G H O w t g
theorem View.same {O : List Addr} (h : View G σ H O δ) (s : Same H H') : View G σ H' O δ := by
  refine ⟨h.env, fun a ha => ?_, fun j t e n => ?_⟩
  · cases e : H a with
    | none => exact absurd e (h.there a ha)
    | some o => rw [s _ _ e]; simp
  · obtain ⟨w, g, e1, r⟩ := h.get j t e n
    refine ⟨w, g, e1, r.up (.same s) fun a ha => ?_⟩
    have := RepTs.there (RepTs.cons r .nil) a (by simpa using ha)
    cases e : H a with
    | none => exact absurd e this
    | some o => exact s _ _ e
theorem view_of {O f : List Addr} (env : EnvOk σ δ) (len : gv.length = gt.length) (R : RepTs G H O (gv ++ sv σ) (gt ++ δ) f) (th : ∀ a ∈ O, H a ≠ none) : View G σ H O δ := by
  refine ⟨env, th, fun j t e n => ?_⟩
  obtain ⟨g1, g2, rfl, r1, r2⟩ := R.splitV len
  obtain ⟨w, g3, e1, r3⟩ := r2.at e
  obtain ⟨v, hv⟩ := env.has j t e n
  have hw : w = v := by
    rw [sv_at hv] at e1
    exact (Option.some.inj e1).symm
  subst hw
  exact ⟨w, g3, hv, r3⟩
theorem At.view (h : At G σ H δ gv gt) : ∃ O, O.Nodup ∧ RepTs G H O (gv ++ sv σ) (gt ++ δ) O ∧ View G σ H O δ := by
  obtain ⟨O, nd, R⟩ := h.hold
  exact ⟨O, nd, R, view_of h.env h.len R R.there⟩
/-- a place's child, also in a heap that has grown -/
theorem FocP.step (F : FocP G σ H δ ws us gv gt i p u v) {k : PyData} {n : Nat} {u' : T} (hc : chi u k = some n) (hn : nth (kids u) n = some u') :
    ∃ O, View G σ H O δ ∧ ∀ H2, Same H H2 → ∃ w, ChV G H2 O v k w ∧ FocP G σ H2 δ ws us gv gt i (p ++ [k]) u' w := by
  obtain ⟨ft, l, g, r, hole⟩ := F.hole
  have R : RepTs G H (ft ++ (l ++ (g ++ r))) (gv ++ sv σ) (gt ++ δ) (l ++ (g ++ r)) := by
    have := hole.2.2.2.2 H (ft ++ (l ++ (g ++ r))) u g (.less fun a h => h) (fun _ _ => rfl) hole.2.2.1
    rwa [setS_same F.getS] at this
  refine ⟨_, view_of F.env F.len R hole.2.2.2.1, fun H2 s => ?_⟩
  obtain ⟨nd, r1, r2, th, kk⟩ := hole.same s
  obtain ⟨w, l', g', r', e, cv, rw', up⟩ := child r2 hc hn
  have eq : ft ++ (l ++ (g ++ r)) = ft ++ ((l ++ l') ++ (g' ++ (r' ++ r))) := by rw [e]; simp
  refine ⟨w, cv, F.env, F.len, F.lws, ?_, ft, l ++ l', g', r' ++ r, eq ▸ nd, eq ▸ r1, eq ▸ rw', eq ▸ th, fun H' O' u'' g'' U k' q => ?_⟩
  · obtain ⟨t, v0, e1, e2, e3, e4⟩ := F.root
    refine ⟨t, v0, e1, e2, ?_, e4⟩
    rw [getP_snoc, e3]
    show getP u [k] = some u'
    simp only [getP, hc, hn]
  · rw [← eq] at U
    have := kk H' O' (reKid u n u'') (l' ++ (g'' ++ r')) U (fun a ha => k' a (by simp only [List.mem_append] at ha ⊢; rcases ha with h | h <;> simp [h])) (up H' O' u'' g'' U (fun a ha => k' a (by simp only [List.mem_append] at ha ⊢; rcases ha with h | h <;> simp [h])) q)
    rw [setS_snoc F.getS hc hn]
    have e3 : l ++ (l' ++ (g'' ++ r') ++ r) = l ++ l' ++ (g'' ++ (r' ++ r)) := by simp
    rw [← e3]
    exact this
theorem getP_one {u u' : T} {k : PyData} (h : getP u [k] = some u') : ∃ n, chi u k = some n ∧ nth (kids u) n = some u' := by
  unfold getP at h
  cases e : chi u k with
  | none => simp [e] at h
  | some n =>
    simp only [e] at h
    cases e2 : nth (kids u) n with
    | none => simp [e2] at h
    | some t => simp only [e2, getP] at h; cases h; exact ⟨n, rfl, e2⟩
theorem getS_snoc {k : PyData} {u' : T} (h : getS δ i (p ++ [k]) = some u') : ∃ u n, getS δ i p = some u ∧ chi u k = some n ∧ nth (kids u) n = some u' := by
  unfold getS at h
  cases e : nth δ i with
  | none => simp [e] at h
  | some t =>
    simp only [e] at h
    rw [getP_snoc] at h
    cases e2 : getP t p with
    | none => rw [e2] at h; cases h
    | some u =>
      rw [e2] at h
      obtain ⟨n, h1, h2⟩ := getP_one (u := u) h
      exact ⟨u, n, by simp [getS, e, e2], h1, h2⟩
/-- a child, subscripted -/
theorem ix_ch {X : Cx} (ok : Ok0 G X) : IxR X (fun x y H Q => ∃ O k w, RepF G H O y k ∧ ChV G H O x k w ∧ Q w H) := by
  intro value slice pins s σ H x y v u Q I rx ry h hs
  obtain ⟨O, k, w, hy, ⟨a, rfl, ⟨i, vs, rfl, ha, hw⟩ | ⟨ks, vs, n, h1, h2, h3⟩⟩, q⟩ := h
  · obtain rfl := hy.intI
    exact ix_list value slice pins s σ H _ _ v u Q I rx ry ⟨a, vs, i, w, rfl, rfl, .of ha, hw, q⟩ hs
  · exact ix_key ok value slice pins s σ H _ _ v u Q I rx ry ⟨a, _, _, vs, n, w, O, rfl, h3 y hy, h1, h2, q⟩ hs
end
end Ev
set_option Elab.async false
set_option linter.all false
set_option maxRecDepth 100000
set_option maxHeartbeats 4000000
set_option autoImplicit false
/-! Snd10: defs that are called while no repr is under way. -/
namespace Ev
open PySem PySem.W PySem.Spec L2
open PyProof.Rows hiding St

abbrev SpG := List V → Hp → VK → Prop
/-- nothing is let out -/
abbrev CXn : CXT := fun _ _ _ _ _ _ => False
/-- a def's promise, of calls in which no repr is under way -/
structure FnG (P : Program) (w : World) (K : PySem.W.Frag) (mg : Str → Option Value) (base : Heap) (k : Nat) (f : Addr) (fd : FuncData) (ps : List Str) (sp : SpG) : Prop where
  len : ∀ vs H Q, sp vs H Q → vs.length = ps.length
  run : ∀ (A : Around) (outer : List Env) (s : Shared) (H : Hp) (args : Args) (us : List Value) (vs : List V) (Q : VK), Room k A → A.guards = some [] → Env0 P w K mg base A outer s H →
    BindsTo s fd args (ps.zip us) → Vals vs us → sp vs H Q → codeAny (model P w) A (.call (.ref f) args) (fun r s' => ∃ u, r = .ok (.ret u) ∧ CE outer P w H s Q u s') s
section
variable {P : Program} {w : World} {K : PySem.W.Frag} {mg : Str → Option Value} {base : Heap} {k : Nat} {f : Addr} {fd : FuncData} {ps : List Str} {sp : SpG}
theorem FnG.mono {j : Nat} (F : FnG P w K mg base j f fd ps sp) (h : j ≤ k) : FnG P w K mg base k f fd ps sp :=
  ⟨F.len, fun A outer s H args us vs Q hr => F.run A outer s H args us vs Q (hr.mono h)⟩
/-- the body's frame -/
abbrev cxG (P : Program) (w : World) (K : PySem.W.Frag) (mg : Str → Option Value) (base : Heap) (N : List Str) (qual : Str) (scope : Scope) (f : Addr) (cd : Value) (A : Around) (outer : List Env) (s : Shared) (H : Hp) : Cx :=
  (cxOf CXn P w K mg base N qual scope f cd A outer s H fun _ _ _ => False).nox
/-- a def of the text, by its body -/
theorem fnG_of {x qual : Str} {params : Arguments} {body : List Stmt} {scope : Scope} {dvs : List V} {kws : List (Str × V)} {N : List Str} (F : FunD K x qual params body scope dvs kws f fd) (S : FnScope N ps scope) (hlen : ∀ vs H Q, sp vs H Q → vs.length = ps.length)
    (hb : ∀ (cdv : Value) (A : Around) (outer : List Env) (s : Shared) (H : Hp) (vs : List V) (Q : VK), Room k (A.deeper (envOfC qual scope s.heap.objs.size f cdv)) → A.guards = some [] → sp vs H Q →
      ∃ t, PSs (cxG P w K mg base N qual scope f cdv A outer s H) body t ∧ t { nx := fun _ H' => Q .non H', rt := Q } (start N vs) H) : FnG P w K mg base (k + 1) f fd ps sp := by
  obtain ⟨oc, od, dV, kV, doc, pm, an, cdv, ct, osl, rfl, lk, hcd, _, _⟩ := F.ex
  refine ⟨hlen, ?_⟩
  intro A outer s H args us vs Q room hg e0 bind rv hsp
  have lvs := hlen _ _ _ hsp
  have inK : K.In s.heap := e0.mod.kin.keeps (fun b o q => (e0.bs b o q).1)
  have nolim : s.heap.NoLimit := e0.mod.nolimit.keeps (fun b o q => (e0.bs b o q).1)
  have kinds : ∀ y ∈ ps.zip us, scope.names.lookup y.1 = some .local ∨ (scope.names.lookup y.1 = some .cell ∧ ((cellsFrom (s.heap.objs.size + 1) scope.names []).lookup y.1).isSome = true) := by
    rintro ⟨n, v⟩ hy
    rcases S.par n (List.of_mem_zip hy).1 with c | c
    · exact Or.inl c
    · exact Or.inr ⟨c, PySem.W.cellsFrom_some _ _ _ (Or.inl c)⟩
  have inner : ∀ (s1 : Shared), InCallC s s.heap.objs.size (bindL (envOfC qual scope s.heap.objs.size f cdv).kindOf (ps.zip us) fun _ => none) (cellsFrom (s.heap.objs.size + 1) scope.names []) (bindC (envOfC qual scope s.heap.objs.size f cdv).kindOf (ps.zip us) fun _ => none) s1 →
      wpAny (model P w) (A.deeper (envOfC qual scope s.heap.objs.size f cdv)) (PySem.execs body (envOfC qual scope s.heap.objs.size f cdv))
        (fun fl s' => SP (cxG P w K mg base N qual scope f cdv A outer s H) [] { nx := fun _ H' => Q .non H', rt := Q } fl s') (fun _ _ => False) s1 := by
    intro s1 x
    obtain ⟨t, ht, hq⟩ := hb cdv A outer s H vs Q (room.deeper _) hg hsp
    have h1 := ht.run [] s1 (start N vs) H _ ((inv_start (CX := CXn) (E := fun _ _ _ => False) S room.hd e0 lvs rv x).wish _) hq
    exact wpAny_mono h1 (fun _ _ q => q) (fun _ _ z => z)
  refine codeAny_call_function room.depth (inK _ _ lk) rfl S.co S.gen rfl (PySem.W.codeRec_of inK hcd) ?_
  refine bind _ _ _ _ ?_
  refine wpAny_newFunctionEnv_cells S.kind kinds (fun env he s1 x => ?_)
  subst he
  refine ⟨nolim.keeps x.toInCall.keep, ?_⟩
  refine codeAny_func (wpAny_mono (inner s1 x) ?_ (fun _ _ z => z.elim))
  intro fl s' hs
  match fl, hs with
  | .ret u, ⟨v, σ', H', J, rr, q⟩ => exact ⟨u, rfl, v, H', J.os, J.bare, J.base, J.hok, rr, q⟩
  | .next, ⟨σ', H', J, q⟩ => exact ⟨.none, rfl, .non, H', J.os, J.bare, J.base, J.hok, rfl, q⟩
  | .brk, ⟨_, _, _, q⟩ => exact q.elim
  | .cont, ⟨_, _, _, q⟩ => exact q.elim
end
/-- how a call binds: n positional values, keywords ks, the defaults ds behind them -/
def BindsG (K : PySem.W.Frag) (fd : FuncData) (ps : List Str) (n : Nat) (ks : List Str) (ds : List Value) : Prop :=
  ∀ (s : Shared) (us ws : List Value), K.In s.heap → us.length = n → ws.length = ks.length → BindsTo s fd ⟨us, ks.zip ws⟩ (ps.zip (us ++ ws ++ ds))
section
variable {X : Cx} {k n : Nat} {f : Addr} {fd : FuncData} {ps ks : List Str} {sp : SpG} {dvs : List V} {ds : List Value} {x : Str} {p pos : Pos} {e : Expr} {es : List Expr} {kws : List Keyword} {t tk : TA}
theorem run_fnG {pins : List (Addr × Obj)} {σ : St} {H : Hp} {s : Shared} {Q : VK} {us ws : List Value} {vs zs : List V} (F : FnG X.prog X.w X.K X.mg X.base k f fd ps sp) (room : Room k X.A) (hg : X.A.guards = some []) (hb : BindsG X.K fd ps n ks ds) (hd : Vals dvs ds)
    (I : Inv X pins σ H s) (r : Vals vs us) (rz : Vals zs ws) (l1 : vs.length = n) (l2 : zs.length = ks.length) (h : sp (vs ++ zs ++ dvs) H Q) : wpAny (model X.prog X.w) X.A (call (.ref f) us (ks.zip ws)) (EP X pins σ Q) X.xe s := by
  have bind := hb s us ws I.kIn (by rw [← r.length]; exact l1) (by rw [← rz.length]; exact l2)
  have code := F.run X.A X.stack s H _ _ _ Q room hg I.env0 bind ((r.append rz).append hd) h
  refine wpAny_call (codeAny_mono code ?_)
  rintro res s' ⟨u, rfl, ce⟩
  exact I.after ce
def tCallG (n m : Nat) (sp : SpG) (dvs : List V) (t tk : TA) : TE := fun σ H Q => t σ H fun vs H1 => tk σ H1 fun zs H2 => vs.length = n ∧ zs.length = m ∧ sp (vs ++ zs ++ dvs) H2 Q
theorem pe_callG (F : FnG X.prog X.w X.K X.mg X.base k f fd ps sp) (room : Room k X.A) (hg : X.A.guards = some []) (gl : Gl X x) (hm : X.mg x = some (.ref f)) (hk : PySem.W.keepIn X.K (.ref f) = true) (hb : BindsG X.K fd ps n [] ds) (hd : Vals dvs ds) (ha : PA X (e :: es) t)
    (hdb : (x == ("__debug__" : Str)) = false) (he : starEach (e :: es) X.env = (false, eval e X.env) :: starEach es X.env) (hpl : (backTo pos (starEach es X.env)).any (·.1) = false) : PE X (.Call (.Name x p) (e :: es) [] pos) (tCallG n 0 sp dvs t tNil) := by
  refine ⟨fun pins s σ H Q I h => wpAny_Call_Name_kw (ld_glob I gl hm ?_ hdb)⟩
  refine PySem.W.callWith_K (h₀ := X.base) I.ok.mod.kin hk ?_ he hpl
  refine thn (ha.run pos pins s σ H _ I h) ?_
  rintro us s1 ⟨vs, H1, I1, r, l1, l2, q⟩
  exact ⟨I1.kIn, run_fnG (ks := []) (ws := []) (zs := []) F room hg hb hd I1 r .nil l1 rfl q⟩
theorem pe_callGK (F : FnG X.prog X.w X.K X.mg X.base k f fd ps sp) (room : Room k X.A) (hg : X.A.guards = some []) (gl : Gl X x) (hm : X.mg x = some (.ref f)) (hk : PySem.W.keepIn X.K (.ref f) = true) (hb : BindsG X.K fd ps n ks ds) (hd : Vals dvs ds) (ha : PA X (e :: es) t) (hkw : PK X kws tk)
    (hall : (backToKw pos (keywordEach kws X.env)).all (·.1.isSome) = true) (hks : (backToKw pos (keywordEach kws X.env)).filterMap (·.1) = ks)
    (hdb : (x == ("__debug__" : Str)) = false) (he : starEach (e :: es) X.env = (false, eval e X.env) :: starEach es X.env) (hpl : ((backTo pos (starEach (e :: es) X.env)).any (·.1) || (backToKw pos (keywordEach kws X.env)).any (·.1.isNone)) = false) :
    PE X (.Call (.Name x p) (e :: es) kws pos) (tCallG n ks.length sp dvs t tk) := by
  refine ⟨fun pins s σ H Q I h => wpAny_Call_Name_kw (ld_glob I gl hm ?_ hdb)⟩
  refine PySem.W.callWith_KW (h₀ := X.base) I.ok.mod.kin hk hall ?_ hpl he
  refine thn (ha.run pos pins s σ H _ I h) ?_
  rintro us s1 ⟨vs, H1, I1, r, q⟩
  refine thn (hkw.run pos pins s1 σ H1 _ I1 q) ?_
  rintro ws s2 ⟨zs, H2, I2, rz, l1, l2, q2⟩
  refine ⟨I2.kIn, ?_⟩
  rw [hks]
  exact run_fnG F room hg hb hd I2 r rz l1 l2 q2
theorem pe_callGK0 (F : FnG X.prog X.w X.K X.mg X.base k f fd ps sp) (room : Room k X.A) (hg : X.A.guards = some []) (gl : Gl X x) (hm : X.mg x = some (.ref f)) (hk : PySem.W.keepIn X.K (.ref f) = true) (hb : BindsG X.K fd ps 0 ks ds) (hd : Vals dvs ds) (hkw : PK X kws tk)
    (hall : (backToKw pos (keywordEach kws X.env)).all (·.1.isSome) = true) (hks : (backToKw pos (keywordEach kws X.env)).filterMap (·.1) = ks) (hdb : (x == ("__debug__" : Str)) = false)
    (hpl : ((backTo pos (starEach [] X.env)).any (·.1) || (backToKw pos (keywordEach kws X.env)).any (·.1.isNone)) = false) : PE X (.Call (.Name x p) [] kws pos) (tCallG 0 ks.length sp dvs tNil tk) := by
  refine ⟨fun pins s σ H Q I h => wpAny_Call_Name_kw (ld_glob I gl hm ?_ hdb)⟩
  refine PySem.W.callWith_KW0 (h₀ := X.base) I.ok.mod.kin hk hall ?_ hpl
  refine thn (hkw.run pos pins s σ H _ I h) ?_
  rintro ws s2 ⟨zs, H2, I2, rz, l1, l2, q2⟩
  refine ⟨I2.kIn, ?_⟩
  rw [hks]
  exact run_fnG (us := []) (vs := []) F room hg hb hd I2 .nil rz l1 l2 q2
end
end Ev
set_option Elab.async false
set_option linter.all false
set_option maxRecDepth 100000
set_option maxHeartbeats 4000000
set_option autoImplicit false
/-! Snd11: what is walked. -/
namespace Ev
open PySem PySem.W PySem.Spec L2
open PyProof.Rows hiding St

/-- the keys of a dict that is known to its object -/
def Itw (d : Addr) (o : Obj) (u : HO) (ws : List V) : L2.It := ⟨fun i H => H d = some (.frz o u) ∧ i < ws.length, fun i H x H' => H' = H ∧ ws[i]? = some x, fun i H => H d = some (.frz o u) ∧ ws.length ≤ i⟩
theorem turn_raw {P : Program} {w : World} {K : PySem.W.Frag} {tg : Expr} {d : Addr} {o : Obj} {u : HO} {ws : List V} {es : Array DictEntry} {ep : Nat} (it : Addr) (hdt : o.data = .dict es ep) (hv : Vals ws (es.toList.map (·.key))) :
    Turn P w K tg (Itw d o u ws) [it] it (fun i h => h.IsKeyIter it d i es.size ep) where
  mem := List.mem_singleton.mpr rfl
  obj := fun i h st b hb => by
    obtain rfl := List.mem_singleton.mp hb
    obtain ⟨oi, e, c, dd⟩ := st
    exact ⟨oi, e, fun v z => nomatch dd.symm.trans z⟩
  keep := fun i h h' st k => st.at fun oi e => k it (List.mem_singleton.mpr rfl) oi e
  item := by
    intro X hP hw hK hc i pins s σ H E I hf st hg
    subst hP hw hK
    obtain ⟨hd, hi⟩ := hg
    obtain ⟨f0, f1, f2, f3, f4, f5⟩ := hf it (List.mem_singleton.mpr rfl)
    have hgd : s.heap.get? d = some o := (I.hok d _ hd).1
    have e1 : ws[i]? = some ws[i] := by simp [hi]
    obtain ⟨uu, eu, ru⟩ := hv.get e1
    have hlen := hv.length
    have hi2 : i < es.size := by have q1 : es.toList.length = es.size := Array.length_toList; rw [List.length_map] at hlen; omega
    have ek : uu = es[i].key := by
      rw [List.getElem?_map, Array.getElem?_toList] at eu
      simp [hi2] at eu
      exact eu.symm
    refine next_key_item st hgd hdt rfl (by simp [hi2] : es[i]? = some es[i]) fun h' st' sb => ?_
    have I1 : Inv X pins σ H { s with heap := h' } := I.turned (t' := s.toks) (fun b ob hb q => (sb.2 b hb).trans q) f0 f1 f3 f4 f5
    obtain ⟨oi, e, c, dd⟩ := id st'
    exact ⟨es[i].key, rfl, go_of (s := { s with heap := h' }) e c dd (by decide) ⟨ws[i], H, I1, ek ▸ ru, ⟨rfl, e1⟩, st', fun b hb => (hf b hb).1⟩⟩
  done := by
    intro X hP hw hK hc i pins s σ H E I hf st hg
    subst hP hw hK
    obtain ⟨hd, hi⟩ := hg
    obtain ⟨f0, f1, f2, f3, f4, f5⟩ := hf it (List.mem_singleton.mpr rfl)
    have hgd : s.heap.get? d = some o := (I.hok d _ hd).1
    have hlen := hv.length
    have hi2 : es.size ≤ i := by have q1 : es.toList.length = es.size := Array.length_toList; rw [List.length_map] at hlen; omega
    exact next_key_end (I.ok.hd hc) st hgd hdt rfl hi2 fun h' eb => ⟨rfl, I.turned (t' := s.toks) (fun b ob hb q => eb b ob hb q) f0 f1 f3 f4 f5⟩
  self := fun _ _ _ _ _ st h => wpAny_pyIter_keyiter st h
/-- a dict is locked, or known already -/
theorem lock_any {X : Cx} {pins : List (Addr × Obj)} {σ : St} {H : Hp} {s : Shared} {d : Addr} {u : HO} (I : Inv X pins σ H s) (h : Rd H d u) (mu : Mut (some u)) : ∃ o H', Inv X pins σ H' s ∧ H' d = some (.frz o u) ∧ (H' = H ∨ (H d = some u ∧ H' = upd H d (.frz o u))) := by
  rcases h with h | ⟨o, h⟩
  · obtain ⟨o, I'⟩ := I.lock h mu
    exact ⟨o, _, I', upd_same, .inr ⟨h, rfl⟩⟩
  · exact ⟨o, H, I, h, .inl rfl⟩
/-- a list, a tuple, a text, a dict: walked -/
def iAny (X : Cx) (te : TE) : TI := fun σ H R => te σ H fun x H1 =>
  (∃ a vs, x = .ref a ∧ SqL X.K H1 a vs ∧ R (Itl X.K a) H1) ∨ (∃ a vs, x = .ref a ∧ SqT X.K H1 a vs ∧ R (Itt X.K a) H1) ∨ (∃ z, x = .str z ∧ R (Its z) H1) ∨
  ∃ d u ws, x = .ref d ∧ Rd H1 d u ∧ Mut (some u) ∧ (∀ pins s, Inv X pins σ H1 s → (d == sysModules) = false ∧ ∃ es ep, s.heap.DictRaw d es ep ∧ Vals ws (es.toList.map (·.key))) ∧
    ∀ o H2, H2 d = some (.frz o u) → (H2 = H1 ∨ (H1 d = some u ∧ H2 = upd H1 d (.frz o u))) → R (Itw d o u ws) H2
theorem pi_any {X : Cx} {tg e : Expr} {te : TE} (he : PE X e te) : PI X tg e (iAny X te) := by
  refine ⟨fun pins s σ H R I h => ?_⟩
  refine thn (he.run pins s σ H _ I h) ?_
  rintro v s1 ⟨x, H1, I1, r1, q⟩
  rcases q with ⟨a, vs, rfl, hq, q⟩ | ⟨a, vs, rfl, hq, q⟩ | ⟨z, rfl, q⟩ | ⟨d, u, ws, rfl, hr, mu, hf, q⟩
  · cases r1
    obtain ⟨its, rv, p, hz⟩ := I1.list hq
    exact wpAny_pyIter_list p.isList (pi_one (tk := s1.toks) I1 _ (turn_list a _) ⟨_, Heap.get?_push_size _ rfl, rfl, rfl⟩ q)
  · cases r1
    obtain ⟨its, rv, p, hz⟩ := I1.tuple hq
    exact wpAny_pyIter_tuple (show s1.heap.IsTuple a its.toArray from p) (pi_one (tk := s1.toks) I1 _ (turn_tuple a _) ⟨_, Heap.get?_push_size _ rfl, rfl, rfl⟩ q)
  · obtain ⟨t, rfl⟩ := r1
    cases ha : z.cps.all (· < 128)
    · exact wpAny_pyIter_wide ha (pi_one (tk := s1.toks) I1 _ (turn_str _ z t "str_iterator" (Or.inr rfl)) ⟨_, Heap.get?_push_size _ rfl, rfl, rfl⟩ q)
    · exact wpAny_pyIter_ascii ha (pi_one (tk := s1.toks) I1 _ (turn_str _ z t "str_ascii_iterator" (Or.inl rfl)) ⟨_, Heap.get?_push_size _ rfl, rfl, rfl⟩ q)
  · cases r1
    obtain ⟨o, H2, I2, hd, hor⟩ := lock_any I1 hr mu
    have hgd : s1.heap.get? d = some o := (I2.hok d _ hd).1
    obtain ⟨hs, es, ep, ⟨o', ho', hx, hdt⟩, hv⟩ := hf pins s1 I1
    rw [hgd] at ho'
    cases ho'
    exact wpAny_pyIter_dict_raw hs ⟨o, hgd, hx, hdt⟩ (pi_one (tk := s1.toks) I2 _ (turn_raw _ hdt hv) ⟨_, Heap.get?_push_size _ rfl, rfl, rfl⟩ (q o H2 hd hor))
end Ev
set_option Elab.async false
set_option linter.all false
set_option maxRecDepth 100000
set_option maxHeartbeats 4000000
set_option autoImplicit false
/-! Snd12: walks beside the evaluator's lists. -/
namespace Ev
open PySem PySem.W PySem.Spec L2
open PyProof.Rows hiding St

section
variable {G : Gd} {H H' : Hp} {σ : St} {δ : List T} {gv : List V} {gt : List T}
/-- the first held is data -/
theorem At.leakTop {v : V} {t : T} {x : PyData} (h : At G σ H δ (v :: gv) (t :: gt)) (e : t.data = some x) : At G σ H δ (v :: gv) (.d x :: gt) := by
  obtain ⟨O, nd, R⟩ := h.hold
  have R' : RepTs G H O (v :: (gv ++ sv σ)) (t :: (gt ++ δ)) O := R
  generalize hO : O = O' at R'
  cases R' with
  | cons h1 h2 =>
    rename_i f g
    subst hO
    have nd2 : g.Nodup := (List.nodup_append.mp nd).2.1
    have hd := (List.nodup_append.mp nd).2.2
    have r1 : Rep G H g v x := h1.data (fun a ha => List.mem_append_right _ ha) (fun a ha hb => hd a ha a hb rfl) e
    exact ⟨h.env, h.len, g, nd2, .cons (f := []) (.d r1) (h2.up (.less fun a ha => List.mem_append_right _ ha) fun _ _ => rfl)⟩
/-- what is held, seen -/
theorem At.held {vs : List V} {ts : List T} (h : At G σ H δ (vs ++ gv) (ts ++ gt)) (l : vs.length = ts.length) : ∃ O f, O.Nodup ∧ RepTs G H O (vs ++ gv ++ sv σ) (ts ++ gt ++ δ) O ∧ RepTs G H O vs ts f := by
  obtain ⟨O, nd, R⟩ := h.hold
  have R2 := R
  rw [List.append_assoc, List.append_assoc] at R2
  obtain ⟨g1, g2, e, r1, r2⟩ := R2.splitV l
  exact ⟨O, g1, nd, R, r1⟩
/-- data beside what is held -/
theorem At.pushD {v : V} {x : PyData} (h : At G σ H δ gv gt) (k : ∀ O, O.Nodup → RepTs G H O (gv ++ sv σ) (gt ++ δ) O → Rep G H O v x) : At G σ H δ (v :: gv) (.d x :: gt) := by
  obtain ⟨O, nd, R⟩ := h.hold
  exact h.push nd R (Same.refl _) (.d (k O nd R))
theorem At.pushDs {vs : List V} {xs : List PyData} (h : At G σ H δ gv gt) (k : ∀ O, O.Nodup → RepTs G H O (gv ++ sv σ) (gt ++ δ) O → Reps G H O vs xs) : At G σ H δ (vs ++ gv) (xs.map .d ++ gt) := by
  obtain ⟨O, nd, R⟩ := h.hold
  have r := k O nd R
  refine ⟨h.env, by simp [h.len, r.length], O, nd, ?_⟩
  rw [List.append_assoc, List.append_assoc]
  have := r.toT.append R
  simpa using this
/-- how a walk goes beside a list of data -/
structure Wl (G : Gd) (J : L2.It) (pr : Bool) (srcs : List V) (tss : List T) (xs : List PyData) : Prop where
  go : ∀ i H O f, RepTs G H O srcs tss f → i < xs.length → J.go i H
  yld : ∀ i H O f x H', RepTs G H O srcs tss f → i < xs.length → J.yld i H x H' → ∃ d, xs[i]? = some d ∧ ((pr = false ∧ H' = H ∧ Rep G H O x d) ∨
    (pr = true ∧ ∃ T u v du dv, x = .ref T ∧ H T = none ∧ H' = upd H T (.tup [u, v]) ∧ d = .tuple [du, dv] ∧ Rep G H O u du ∧ Rep G H O v dv))
  stop : ∀ H O f, RepTs G H O srcs tss f → J.stop xs.length H
theorem Reps.getI {O : List Addr} {vs : List V} {xs : List PyData} (r : Reps G H O vs xs) {i : Nat} {v : V} (h : vs[i]? = some v) : ∃ x, xs[i]? = some x ∧ Rep G H O v x := by
  have hl := r.length
  obtain ⟨hi, _⟩ := List.getElem?_eq_some_iff.mp h
  have e : nth xs i = some (xs[i]'(by omega)) := by rw [nth_eq]; simp
  obtain ⟨w, ew, q⟩ := r.at e
  rw [h] at ew
  cases ew
  exact ⟨_, by simp, q⟩
theorem lt_get {α : Type} {xs : List α} {i : Nat} (h : i < xs.length) : xs[i]? = some xs[i] := by simp
theorem RepTs.one {O : List Addr} {v : V} {t : T} {f : List Addr} (h : RepTs G H O [v] [t] f) : ∃ g, RepT G H O v t g := by
  cases h with
  | cons h _ => exact ⟨_, h⟩
theorem wl_list {a : Addr} {xs : List PyData} : Wl G (Itl G.K a) false [.ref a] [.d (.list xs)] xs := by
  have key : ∀ {H O f}, RepTs G H O [.ref a] [.d (.list xs)] f → ∃ vs, SqL G.K H a vs ∧ Reps G H O vs xs := by
    intro H O f r
    obtain ⟨g, r⟩ := r.one
    cases r with
    | d r => cases r with
      | lst n h rr => exact ⟨_, .of h, rr⟩
  refine ⟨fun i H O f r hi => ?_, fun i H O f x H' r hi y => ?_, fun H O f r => ?_⟩
  · obtain ⟨vs, h, rr⟩ := key r
    have := rr.length
    exact ⟨vs, vs[i], h, lt_get (by omega)⟩
  · obtain ⟨vs, h, rr⟩ := key r
    obtain ⟨e, y⟩ := y
    obtain ⟨d, e1, q⟩ := rr.getI (y vs h)
    exact ⟨d, e1, .inl ⟨rfl, e, q⟩⟩
  · obtain ⟨vs, h, rr⟩ := key r
    exact ⟨vs, h, by rw [rr.length]; exact Nat.le_refl _⟩
theorem wl_fz {a : Addr} {xs : List PyData} : Wl G (Itl G.K a) false [.ref a] [.fz xs] xs := by
  have key : ∀ {H O f}, RepTs G H O [.ref a] [.fz xs] f → ∃ vs, SqL G.K H a vs ∧ Reps G H O vs xs := by
    intro H O f r
    obtain ⟨g, r⟩ := r.one
    cases r with
    | fz h rr => exact ⟨_, h.l, rr⟩
  refine ⟨fun i H O f r hi => ?_, fun i H O f x H' r hi y => ?_, fun H O f r => ?_⟩
  · obtain ⟨vs, h, rr⟩ := key r
    have := rr.length
    exact ⟨vs, vs[i], h, lt_get (by omega)⟩
  · obtain ⟨vs, h, rr⟩ := key r
    obtain ⟨e, y⟩ := y
    obtain ⟨d, e1, q⟩ := rr.getI (y vs h)
    exact ⟨d, e1, .inl ⟨rfl, e, q⟩⟩
  · obtain ⟨vs, h, rr⟩ := key r
    exact ⟨vs, h, by rw [rr.length]; exact Nat.le_refl _⟩
theorem wl_tup {a : Addr} {xs : List PyData} : Wl G (Itt G.K a) false [.ref a] [.d (.tuple xs)] xs := by
  have key : ∀ {H O f}, RepTs G H O [.ref a] [.d (.tuple xs)] f → ∃ vs, SqT G.K H a vs ∧ Reps G H O vs xs := by
    intro H O f r
    obtain ⟨g, r⟩ := r.one
    cases r with
    | d r => cases r with
      | tup h rr => exact ⟨_, h.t, rr⟩
  refine ⟨fun i H O f r hi => ?_, fun i H O f x H' r hi y => ?_, fun H O f r => ?_⟩
  · obtain ⟨vs, h, rr⟩ := key r
    have := rr.length
    exact ⟨vs, vs[i], h, lt_get (by omega)⟩
  · obtain ⟨vs, h, rr⟩ := key r
    obtain ⟨e, y⟩ := y
    obtain ⟨d, e1, q⟩ := rr.getI (y vs h)
    exact ⟨d, e1, .inl ⟨rfl, e, q⟩⟩
  · obtain ⟨vs, h, rr⟩ := key r
    exact ⟨vs, h, by rw [rr.length]; exact Nat.le_refl _⟩
theorem wl_str {z : Str} : Wl G (Its z) false [] [] (z.cps.toList.map fun c => .str ⟨#[c]⟩) := by
  have hl : (z.cps.toList.map fun c => PyData.str ⟨#[c]⟩).length = z.cps.size := by simp
  refine ⟨fun i H O f r hi => ?_, fun i H O f x H' r hi y => ?_, fun H O f r => ?_⟩
  · exact walk_str.goes i H (by omega) trivial
  · obtain ⟨e, c, hc, rfl⟩ := walk_str.yields i H x H' (by omega) trivial y
    refine ⟨.str ⟨#[c]⟩, ?_, .inl ⟨rfl, e, .str⟩⟩
    rw [List.getElem?_map, Array.getElem?_toList, hc]
    rfl
  · rw [hl]
    exact walk_str.stops H trivial
theorem rangeI_len : ∀ (n : Nat) (lo : Int), (rangeI lo n).length = n
  | 0, _ => rfl
  | n + 1, lo => congrArg (· + 1) (rangeI_len n (lo + 1))
theorem rangeI_at : ∀ (n : Nat) (lo : Int) (i : Nat), i < n → (rangeI lo n)[i]? = some (.int (lo + i))
  | n + 1, lo, 0, _ => by simp [rangeI]
  | n + 1, lo, i + 1, h => by
    show (rangeI (lo + 1) n)[i]? = _
    rw [rangeI_at n (lo + 1) i (by omega)]
    congr 2
    omega
  | 0, _, _, h => by omega
theorem wl_range {lo : Int} {n : Nat} : Wl G (Itr lo n) false [] [] (rangeI lo n) := by
  refine ⟨fun i H O f r hi => ?_, fun i H O f x H' r hi y => ?_, fun H O f r => ?_⟩
  · rw [rangeI_len] at hi; exact hi
  · rw [rangeI_len] at hi
    obtain ⟨e, rfl⟩ := y
    exact ⟨_, rangeI_at n lo i hi, .inl ⟨rfl, e, .int⟩⟩
  · show n ≤ _
    rw [rangeI_len]
    exact Nat.le_refl _
theorem wl_keys {d : Addr} {o : Obj} {u : HO} {ws : List V} {xs : List PyData} (hl : ws.length = xs.length) : Wl G (Itw d o u ws) false (.ref d :: ws) (.lk o u :: xs.map .d) xs := by
  have key : ∀ {H O f}, RepTs G H O (.ref d :: ws) (.lk o u :: xs.map .d) f → H d = some (.frz o u) ∧ Reps G H O ws xs := by
    intro H O f r
    cases r with
    | cons h1 h2 => cases h1 with
      | lk h =>
        refine ⟨h, ?_⟩
        have : ∀ {ws : List V} {xs : List PyData} {f}, RepTs G H O ws (xs.map .d) f → Reps G H O ws xs := by
          intro ws xs
          induction xs generalizing ws with
          | nil => intro f r; cases r; exact .nil
          | cons x xs ih =>
            intro f r
            cases r with
            | cons h1 h2 => cases h1 with
              | d h => exact .cons h (ih h2)
        exact this h2
  refine ⟨fun i H O f r hi => ?_, fun i H O f x H' r hi y => ?_, fun H O f r => ?_⟩
  · obtain ⟨h, rr⟩ := key r
    exact ⟨h, by omega⟩
  · obtain ⟨h, rr⟩ := key r
    obtain ⟨e, y⟩ := y
    obtain ⟨d, e1, q⟩ := rr.getI y
    exact ⟨d, e1, .inl ⟨rfl, e, q⟩⟩
  · obtain ⟨h, rr⟩ := key r
    exact ⟨h, by omega⟩
theorem zipD_len : ∀ xs ys : List PyData, (zipD xs ys).length = min xs.length ys.length
  | [], _ => by simp [zipD]
  | _ :: _, [] => by simp [zipD]
  | x :: xs, y :: ys => by
    show (zipD xs ys).length + 1 = _
    rw [zipD_len xs ys]
    simp only [List.length_cons]
    omega
theorem zipD_at : ∀ (xs ys : List PyData) (i : Nat) (x y : PyData), xs[i]? = some x → ys[i]? = some y → (zipD xs ys)[i]? = some (.tuple [x, y])
  | [], _, _, _, _, h, _ => by simp at h
  | _ :: _, [], _, _, _, _, h => by simp at h
  | a :: xs, b :: ys, 0, x, y, h, h' => by
    simp at h h'
    subst h h'
    rfl
  | a :: xs, b :: ys, i + 1, x, y, h, h' => by
    show (zipD xs ys)[i]? = _
    exact zipD_at xs ys i x y (by simpa using h) (by simpa using h')
theorem RepTs.two {O : List Addr} {v w : V} {t u : T} {f : List Addr} (h : RepTs G H O [v, w] [t, u] f) : ∃ g g', RepT G H O v t g ∧ RepT G H O w u g' := by
  cases h with
  | cons h1 h => cases h with
    | cons h2 _ => exact ⟨_, _, h1, h2⟩
theorem wl_zipL {a b : Addr} {xs ys : List PyData} : Wl G (Itz G.K a b) true [.ref a, .ref b] [.d (.list xs), .d (.list ys)] (zipD xs ys) := by
  have key : ∀ {H O f}, RepTs G H O [.ref a, .ref b] [.d (.list xs), .d (.list ys)] f → ∃ vs ws, SqL G.K H a vs ∧ SqL G.K H b ws ∧ Reps G H O vs xs ∧ Reps G H O ws ys := by
    intro H O f r
    obtain ⟨g, g', r1, r2⟩ := r.two
    cases r1 with
    | d r1 => cases r1 with
      | lst _ h1 rr1 => cases r2 with
        | d r2 => cases r2 with
          | lst _ h2 rr2 => exact ⟨_, _, .of h1, .of h2, rr1, rr2⟩
  refine ⟨fun i H O f r hi => ?_, fun i H O f x H' r hi y => ?_, fun H O f r => ?_⟩
  · obtain ⟨vs, ws, h1, h2, rr1, rr2⟩ := key r
    have := rr1.length
    have := rr2.length
    rw [zipD_len] at hi
    exact ⟨vs, ws, vs[i], ws[i], h1, h2, lt_get (by omega), lt_get (by omega)⟩
  · obtain ⟨vs, ws, h1, h2, rr1, rr2⟩ := key r
    obtain ⟨T, p, q, e1, e2, e3, k1, k2⟩ := y
    obtain ⟨d1, m1, q1⟩ := rr1.getI (k1 vs h1)
    obtain ⟨d2, m2, q2⟩ := rr2.getI (k2 ws h2)
    exact ⟨_, zipD_at xs ys i d1 d2 m1 m2, .inr ⟨rfl, T, p, q, d1, d2, e1, e2, e3, rfl, q1, q2⟩⟩
  · obtain ⟨vs, ws, h1, h2, rr1, rr2⟩ := key r
    have := rr1.length
    have := rr2.length
    refine ⟨vs, ws, h1, h2, ?_⟩
    rw [zipD_len]
    omega
theorem wl_zipT {a b : Addr} {xs ys : List PyData} : Wl G (RZ.ItzT G.K a b) true [.ref a, .ref b] [.d (.tuple xs), .d (.tuple ys)] (zipD xs ys) := by
  have key : ∀ {H O f}, RepTs G H O [.ref a, .ref b] [.d (.tuple xs), .d (.tuple ys)] f → ∃ vs ws, SqT G.K H a vs ∧ SqT G.K H b ws ∧ Reps G H O vs xs ∧ Reps G H O ws ys := by
    intro H O f r
    obtain ⟨g, g', r1, r2⟩ := r.two
    cases r1 with
    | d r1 => cases r1 with
      | tup h1 rr1 => cases r2 with
        | d r2 => cases r2 with
          | tup h2 rr2 => exact ⟨_, _, h1.t, h2.t, rr1, rr2⟩
  refine ⟨fun i H O f r hi => ?_, fun i H O f x H' r hi y => ?_, fun H O f r => ?_⟩
  · obtain ⟨vs, ws, h1, h2, rr1, rr2⟩ := key r
    have := rr1.length
    have := rr2.length
    rw [zipD_len] at hi
    exact ⟨vs, ws, vs[i], ws[i], h1, h2, lt_get (by omega), lt_get (by omega)⟩
  · obtain ⟨vs, ws, h1, h2, rr1, rr2⟩ := key r
    obtain ⟨T, p, q, e1, e2, e3, k1, k2⟩ := y
    obtain ⟨d1, m1, q1⟩ := rr1.getI (k1 vs h1)
    obtain ⟨d2, m2, q2⟩ := rr2.getI (k2 ws h2)
    exact ⟨_, zipD_at xs ys i d1 d2 m1 m2, .inr ⟨rfl, T, p, q, d1, d2, e1, e2, e3, rfl, q1, q2⟩⟩
  · obtain ⟨vs, ws, h1, h2, rr1, rr2⟩ := key r
    have := rr1.length
    have := rr2.length
    refine ⟨vs, ws, h1, h2, ?_⟩
    rw [zipD_len]
    omega
theorem enmD_len : ∀ (xs : List PyData) (n : Int), (enmD n xs).length = xs.length
  | [], _ => rfl
  | x :: xs, n => congrArg (· + 1) (enmD_len xs (n + 1))
theorem enmD_at : ∀ (xs : List PyData) (n : Int) (i : Nat) (x : PyData), xs[i]? = some x → (enmD n xs)[i]? = some (.tuple [.int (n + i), x])
  | [], _, _, _, h => by simp at h
  | a :: xs, n, 0, x, h => by
    simp at h
    subst h
    simp [enmD]
  | a :: xs, n, i + 1, x, h => by
    show (enmD (n + 1) xs)[i]? = _
    rw [enmD_at xs (n + 1) i x (by simpa using h)]
    congr 4
    omega
theorem wl_enum {a : Addr} {xs : List PyData} : Wl G (Ite G.K a) true [.ref a] [.d (.list xs)] (enmD 0 xs) := by
  have key : ∀ {H O f}, RepTs G H O [.ref a] [.d (.list xs)] f → ∃ vs, SqL G.K H a vs ∧ Reps G H O vs xs := by
    intro H O f r
    obtain ⟨g, r⟩ := r.one
    cases r with
    | d r => cases r with
      | lst n h rr => exact ⟨_, .of h, rr⟩
  refine ⟨fun i H O f r hi => ?_, fun i H O f x H' r hi y => ?_, fun H O f r => ?_⟩
  · obtain ⟨vs, h, rr⟩ := key r
    have := rr.length
    rw [enmD_len] at hi
    exact ⟨vs, vs[i], h, lt_get (by omega)⟩
  · obtain ⟨vs, h, rr⟩ := key r
    obtain ⟨T, p, e1, e2, e3, k1⟩ := y
    obtain ⟨d, m, q⟩ := rr.getI (k1 vs h)
    refine ⟨_, enmD_at xs 0 i d m, .inr ⟨rfl, T, _, p, _, d, e1, e2, e3, rfl, ?_, q⟩⟩
    have : (0 : Int) + (i : Int) = (i : Int) := by omega
    rw [this]
    exact .int
  · obtain ⟨vs, h, rr⟩ := key r
    exact ⟨vs, h, by rw [enmD_len, rr.length]; exact Nat.le_refl _⟩
end
end Ev
set_option Elab.async false
set_option linter.all false
set_option maxRecDepth 100000
set_option maxHeartbeats 4000000
set_option autoImplicit false
/-! Snd13: expressions, one rule each. -/
namespace Ev
open PySem PySem.W PySem.Spec L2
open PyProof.Rows hiding St

section
variable {G : Gd} {W : WX} {X : Cx} {α β γ : Type}
theorem pe_no {e : Expr} {m : List T → R T} (h : ∀ δ, m δ = .no) : PE X e (t1 G W elT m) := ⟨fun pins s σ H Q I q => by
  obtain ⟨δ, gv, gt, A, q⟩ := q
  rw [h] at q
  exact q.elim⟩
/-! names, constants -/
theorem s_v {x : Str} {pos : Pos} {i : Nat} (h : PE X (.Name x pos) (tVar i)) : PE X (.Name x pos) (t1 G W elT (mV i)) := PE.imp h fun σ H Q ⟨δ, gv, gt, A, q⟩ => by
  unfold mV at q
  split at q
  · rename_i y e
    obtain ⟨v, hv, A'⟩ := A.getD e
    exact ⟨v, hv, q v H A' trivial⟩
  · rename_i y e
    obtain ⟨v, hv, A'⟩ := A.getFn e
    exact ⟨v, hv, q v H A' trivial⟩
  · rename_i y e
    obtain ⟨v, hv, A'⟩ := A.getFz e
    exact ⟨v, hv, q v H A' trivial⟩
  · exact q.elim
  · exact q.elim
  · rename_i t _ _ _ _ e
    split at q
    · rename_i y ey
      obtain ⟨v, hv, A'⟩ := A.leak e ey
      exact ⟨v, hv, q v H A' trivial⟩
    · exact q.elim
theorem s_mv {x : Str} {pos : Pos} {i : Nat} (h : PE X (.Name x pos) (tVar i)) : PE X (.Name x pos) (t1 G W elT (mMv i)) := PE.imp h fun σ H Q ⟨δ, gv, gt, A, q⟩ => by
  unfold mMv at q
  split at q
  · exact q.elim
  · exact q.elim
  · rename_i t n e
    obtain ⟨v, hv, A'⟩ := A.take e n
    exact ⟨v, hv, q v H A' trivial⟩
/-- a name's own thing stays where it is -/
theorem At.slot {σ : St} {H : Hp} {δ : List T} {gv : List V} {gt : List T} {i : Nat} {t : T} (A : At G σ H δ gv gt) (e : nth δ i = some t) (n : t ≠ .un) : ∃ v, σ[i]? = some (some v) ∧ At G σ H δ (v :: gv) (.un :: gt) := by
  obtain ⟨v, hv⟩ := A.env.has i t e n
  obtain ⟨O, nd, R⟩ := A.hold
  exact ⟨v, hv, A.push nd R (Same.refl _) ⟨[], .nil, (fun _ z => nomatch z), .un⟩⟩
theorem s_opdV {x : Str} {pos : Pos} {i : Nat} {r : List T → R T} (h : PE X (.Name x pos) (tVar i)) : PE X (.Name x pos) (t1 G W elA (opd (.v i) r)) := PE.imp h fun σ H Q ⟨δ, gv, gt, A, q⟩ => by
  have q : post1 G W elA σ gv gt (opdV i δ) Q := q
  unfold opdV at q
  split at q
  · rename_i y e
    obtain ⟨v, hv, A'⟩ := A.getD e
    exact ⟨v, hv, q v H A' trivial⟩
  · rename_i y e
    obtain ⟨v, hv, A'⟩ := A.getFn e
    exact ⟨v, hv, q v H A' trivial⟩
  · rename_i y e
    obtain ⟨v, hv, A'⟩ := A.getFz e
    exact ⟨v, hv, q v H A' trivial⟩
  · exact q.elim
  · exact q.elim
  · rename_i t _ _ _ n e
    split at q
    · obtain ⟨v, hv, A'⟩ := A.slot e n
      exact ⟨v, hv, q v H A' hv⟩
    · split at q
      · rename_i y ey
        obtain ⟨v, hv, A'⟩ := A.leak e ey
        exact ⟨v, hv, q v H A' trivial⟩
      · exact q.elim
theorem s_argV {x : Str} {pos : Pos} {i : Nat} {r : List T → R T} (h : PE X (.Name x pos) (tVar i)) : PE X (.Name x pos) (t1 G W elA (arg (.v i) r)) := PE.imp h fun σ H Q ⟨δ, gv, gt, A, q⟩ => by
  have q : post1 G W elA σ gv gt (argV i δ) Q := q
  unfold argV at q
  split at q
  · rename_i y e
    obtain ⟨v, hv, A'⟩ := A.getD e
    exact ⟨v, hv, q v H A' trivial⟩
  · rename_i y e
    obtain ⟨v, hv, A'⟩ := A.getFn e
    exact ⟨v, hv, q v H A' trivial⟩
  · rename_i y e
    obtain ⟨v, hv, A'⟩ := A.getFz e
    exact ⟨v, hv, q v H A' trivial⟩
  · exact q.elim
  · exact q.elim
  · rename_i t _ _ _ n e
    obtain ⟨v, hv, A'⟩ := A.slot e n
    exact ⟨v, hv, q v H A' hv⟩
def isNm : IE → Bool
  | .v _ => true
  | _ => false
theorem s_opdE {e : Expr} {r : List T → R T} (h : PE X e (t1 G W elT r)) : PE X e (t1 G W elA (opdE r)) := PE.imp h fun σ H Q ⟨δ, gv, gt, A, q⟩ => by
  refine ⟨δ, gv, gt, A, ?_⟩
  unfold opdE at q
  cases e2 : r δ with
  | ok t δ' =>
    rw [e2] at q
    exact fun v H' A' _ => q v H' A' trivial
  | exn e δ' =>
    rw [e2] at q
    exact q
  | no =>
    rw [e2] at q
    exact q
theorem s_opd {e : Expr} {ie : IE} {r : List T → R T} (n : isNm ie = false) (h : PE X e (t1 G W elT r)) : PE X e (t1 G W elA (opd ie r)) := by
  have e1 : opd ie r = opdE r := by cases ie <;> first | rfl | (simp [isNm] at n)
  rw [e1]
  exact s_opdE h
theorem s_arg {e : Expr} {ie : IE} {r : List T → R T} (n : isNm ie = false) (h : PE X e (t1 G W elT r)) : PE X e (t1 G W elA (arg ie r)) := by
  have e1 : arg ie r = opdE r := by cases ie <;> first | rfl | (simp [isNm] at n)
  rw [e1]
  exact s_opdE h
/-- a value that stands still -/
theorem s_con {e : Expr} {v : V} {d : PyData} {m : List T → R T} (h : PE X e (tC v)) (hm : ∀ δ, m δ = .ok (.d d) δ) (hr : ∀ H O, Rep G H O v d) : PE X e (t1 G W elT m) := PE.imp h fun σ H Q ⟨δ, gv, gt, A, q⟩ => by
  rw [hm] at q
  exact q v H (A.pushD fun O _ _ => hr H O) trivial
/-! two operands -/
theorem s_two {E : El γ} {ea eb : Expr} {r : R2} {e : Expr} {ra rb : List T → R A} {k : A → A → List T → R γ} (hp : PE X e (tOp r (t1 G W elA ra) (t1 G W elA rb)))
    (hk : ∀ (σ : St) (H : Hp) (gv : List V) (gt : List T) (a b : A) (x y : V) (δ : List T) (Q : VK), At G σ H δ (y :: x :: gv) (elA.t b :: elA.t a :: gt) → elA.ok σ b y → elA.ok σ a x → post1 G W E σ gv gt (k a b δ) Q → r x y H Q) :
    PE X e (t1 G W E (bind2 ra rb k)) := PE.imp hp fun σ H Q ⟨δ, gv, gt, A, q⟩ => by
  refine ⟨δ, gv, gt, A, (b2_in (E := elA) (E' := elA) q).mono fun v H1 z => ?_⟩
  obtain ⟨a, δ1, A1, o1, z⟩ := z
  refine ⟨δ1, _, _, A1, z.mono fun w H2 z => ?_⟩
  obtain ⟨b, δ2, A2, o2, _, z⟩ := z
  exact hk σ H2 gv gt a b v w δ2 Q A2 o2 o1 z
theorem s_one {E : El γ} {r : V → Hp → VK → Prop} {e : Expr} {ra : List T → R A} {k : A → List T → R γ} (hp : PE X e (tUn r (t1 G W elA ra)))
    (hk : ∀ (σ : St) (H : Hp) (gv : List V) (gt : List T) (a : A) (x : V) (δ : List T) (Q : VK), At G σ H δ (x :: gv) (elA.t a :: gt) → elA.ok σ a x → post1 G W E σ gv gt (k a δ) Q → r x H Q) :
    PE X e (t1 G W E (bind1 ra k)) := PE.imp hp fun σ H Q ⟨δ, gv, gt, A, q⟩ => by
  refine ⟨δ, gv, gt, A, (b1_in (E := elA) q).mono fun v H1 z => ?_⟩
  obtain ⟨a, δ1, A1, o1, z⟩ := z
  exact hk σ H1 gv gt a v δ1 Q A1 o1 z
/-- two operands on the stack, and what comes of them -/
theorem At.res2 {σ : St} {H H' : Hp} {δ : List T} {gv : List V} {gt : List T} {x y v : V} {a b : T} {t : T} {O : List Addr} (A : At G σ H δ (y :: x :: gv) (b :: a :: gt)) (nd : O.Nodup) (R : RepTs G H O (y :: x :: (gv ++ sv σ)) (b :: a :: (gt ++ δ)) O)
    (s : Same H H') (q : Res G H O H' v t) : At G σ H' δ (v :: gv) (t :: gt) := (A.push nd R s q).drop3
theorem s_bin {ea eb : Expr} {o : Operator} {pos : Pos} {op : Op} {ia ib : IE} {ra rb : List T → R T} (ho : OpR X (binaryOp o) (rO2 G (op2 op))) (ha : PE X ea (t1 G W elA (opd ia ra))) (hb : PE X eb (t1 G W elA (opd ib rb))) :
    PE X (.BinOp ea o eb pos) (t1 G W elT (mBin op ia ra ib rb)) := by
  refine s_two (pe_op ho ha hb) (ea := ea) (eb := eb) fun σ H gv gt a b x y δ Q A ob oa q => ?_
  obtain ⟨O, p, r, nd, R, fp, fq, _, _, q⟩ := two_in A ob oa q
  cases e : op2 op p r with
  | none => simp only [fromO, e] at q; exact q.elim
  | some t =>
    simp only [fromO, e] at q
    exact ⟨O, p, r, t, fp, fq, e, fun v H' s res => q v H' (A.res2 nd R s res) trivial⟩
theorem bl_in {σ : St} {H : Hp} {gv : List V} {gt : List T} {o : Option Bool} {δ : List T} {Q : VK} (q : post1 G W elT σ gv gt (bl o δ) Q) : ∃ b, o = some b ∧ post1 G W elT σ gv gt (.ok (.d (.bool b)) δ) Q := by
  cases o with
  | none => exact q.elim
  | some b => exact ⟨b, rfl, q⟩
theorem At.bl2 {σ : St} {H : Hp} {δ : List T} {gv : List V} {gt : List T} {x y : V} {a b : T} {c : Bool} (A : At G σ H δ (y :: x :: gv) (b :: a :: gt)) : At G σ H δ (.bl c :: gv) (.d (.bool c) :: gt) := by
  have A1 : At G σ H δ gv gt := A.drop1.drop1
  exact A1.pushD fun O _ _ => .bl
theorem s_cmp0 {ea eb : Expr} {o : CmpOp} {pos : Pos} {op : Cop} {ra rb : List T → R A} (ho : OpR X (compareOp o) (rB2 G (cmpD op))) (hm : behindInMarks o eb = false) (ha : PE X ea (t1 G W elA ra)) (hb : PE X eb (t1 G W elA rb)) :
    PE X (.Compare ea [o] [eb] pos) (t1 G W elT (bind2 ra rb fun x y δ => two δ x y fun p q => bl (cmpD op p q) δ)) := by
  refine s_two (pe_cmpR ho ha hb hm) (ea := ea) (eb := eb) fun σ H gv gt a b x y δ Q A ob oa q => ?_
  obtain ⟨O, p, r, nd, R, fp, fq, _, _, q⟩ := two_in A ob oa q
  obtain ⟨c, e, q⟩ := bl_in (H := H) q
  exact ⟨O, p, r, c, fp, fq, e, q _ H A.bl2 trivial⟩
theorem s_isN {ea : Expr} {o : CmpOp} {b : Bool} {j : Nat} {pos pos' : Pos} {ia : IE} {ra : List T → R T} (ho : (b = true ∧ o = .Is) ∨ (b = false ∧ o = .IsNot)) (ha : PE X ea (t1 G W elA (opd ia ra))) :
    PE X (.Compare ea [o] [.Constant .none j pos'] pos) (t1 G W elT (mIsN b ia ra)) := by
  have main : PE X (.Compare ea [o] [.Constant .none j pos'] pos) (tUn (fun x H Q => Q (.bl (decide (x = .non) == b)) H) (t1 G W elA (opd ia ra))) := by
    rcases ho with ⟨rfl, rfl⟩ | ⟨rfl, rfl⟩
    · refine PE.imp (pe_cmp (pc_isN ha) rfl) fun σ H Q q => ?_
      obtain ⟨δ, gv, gt, A, q⟩ := q
      refine ⟨δ, gv, gt, A, q.mono fun v H1 z => ?_⟩
      simpa using z
    · refine PE.imp (pe_cmp (pc_notN ha) rfl) fun σ H Q q => ?_
      obtain ⟨δ, gv, gt, A, q⟩ := q
      refine ⟨δ, gv, gt, A, q.mono fun v H1 z => ?_⟩
      simpa using z
  refine s_one main fun σ H gv gt a x δ Q A oa q => ?_
  have hl : gv.length = gt.length := by have := A.len; simpa using this
  cases e : rsv δ a with
  | none => simp only [e] at q; exact q.elim
  | some p =>
    simp only [e] at q
    obtain ⟨O, nd, R⟩ := A.hold
    have R' : RepTs G H O (x :: (gv ++ sv σ)) (elA.t a :: (gt ++ δ)) O := R
    have fx : RepF G H O x p := by
      generalize hO : O = O' at R'
      cases R' with
      | cons h1 h2 =>
        subst hO
        refine rsv_ok A.env hl h2 oa ?_ e
        cases a with
        | val t => exact ⟨_, h1⟩
        | sl i => exact trivial
    have key : decide (x = V.non) = isNone p := by
      cases p with
      | none => rw [fx.nonI]; rfl
      | bool i => rw [fx.blI]; rfl
      | int i => rw [fx.intI]; rfl
      | str i => rw [fx.strI]; rfl
      | list xs => obtain ⟨a, _, rfl, _⟩ := fx.lstI; rfl
      | tuple xs => obtain ⟨a, _, rfl, _⟩ := fx.tupI; rfl
      | dict kvs => obtain ⟨a, rfl, _⟩ := fx.dctI; rfl
    rw [key]
    exact q _ H (A.drop1.pushD fun O _ _ => .bl) trivial
end
end Ev
set_option Elab.async false
set_option linter.all false
set_option maxRecDepth 100000
set_option maxHeartbeats 4000000
set_option autoImplicit false
/-! Snd14: expressions, one rule each (tests, displays, slices). -/
namespace Ev
open PySem PySem.W PySem.Spec L2
open PyProof.Rows hiding St

section
variable {G : Gd} {W : WX} {X : Cx} {α β γ : Type}
theorem s_oneT {E : El γ} {r : V → Hp → VK → Prop} {e : Expr} {ra : List T → R T} {k : T → List T → R γ} (hp : PE X e (tUn r (t1 G W elT ra)))
    (hk : ∀ (σ : St) (H : Hp) (gv : List V) (gt : List T) (t : T) (x : V) (δ : List T) (Q : VK), At G σ H δ (x :: gv) (t :: gt) → post1 G W E σ gv gt (k t δ) Q → r x H Q) :
    PE X e (t1 G W E (bind1 ra k)) := PE.imp hp fun σ H Q ⟨δ, gv, gt, A, q⟩ => by
  refine ⟨δ, gv, gt, A, (b1_in (E := elT) q).mono fun v H1 z => ?_⟩
  obtain ⟨a, δ1, A1, o1, z⟩ := z
  exact hk σ H1 gv gt a v δ1 Q A1 z
/-- the top of what is held -/
theorem At.top {σ : St} {H : Hp} {δ : List T} {gv : List V} {gt : List T} {x : V} {d : PyData} (A : At G σ H δ (x :: gv) (.d d :: gt)) : ∃ O, Rep G H O x d := by
  obtain ⟨O, nd, R⟩ := A.hold
  cases R with
  | cons h1 h2 => cases h1 with
    | d h => exact ⟨_, h⟩
theorem At.topB {σ : St} {H : Hp} {δ : List T} {gv : List V} {gt : List T} {x : V} {b : Bool} (A : At G σ H δ (x :: gv) (.d (.bool b) :: gt)) : x = .bl b := by
  obtain ⟨O, h⟩ := A.top
  cases h
  rfl
theorem At.topI {σ : St} {H : Hp} {δ : List T} {gv : List V} {gt : List T} {x : V} {b : Int} (A : At G σ H δ (x :: gv) (.d (.int b) :: gt)) : x = .int b := by
  obtain ⟨O, h⟩ := A.top
  cases h
  rfl
theorem s_neg {ea : Expr} {pos : Pos} {ra : List T → R T} (ha : PE X ea (t1 G W elT ra)) : PE X (.UnaryOp .USub ea pos) (t1 G W elT (mNeg ra)) := by
  refine s_oneT (pe_un un_neg ha) fun σ H gv gt t x δ Q A q => ?_
  split at q
  · rename_i i
    obtain rfl := A.topI
    exact ⟨i, rfl, q _ H (A.drop1.pushD fun O _ _ => .int) trivial⟩
  · exact q.elim
theorem s_not {ea : Expr} {pos : Pos} {ra : List T → R T} (ha : PE X ea (t1 G W elT ra)) : PE X (.UnaryOp .Not ea pos) (t1 G W elT (mNot ra)) := by
  refine s_oneT (r := fun x H Q => ∃ c, x = .bl c ∧ Q (.bl (!c)) H) (pe_not ha) fun σ H gv gt t x δ Q A q => ?_
  split at q
  · rename_i i
    obtain rfl := A.topB
    exact ⟨i, rfl, q _ H (A.drop1.pushD fun O _ _ => .bl) trivial⟩
  · exact q.elim
/-- a test -/
def tT (G : Gd) (W : WX) (m : List T → R T) : TT := fun σ H Q => t1 G W elT m σ H fun v H' => ∃ c, v = .bl c ∧ Q c H'
theorem tst_in {E : El γ} {σ : St} {H : Hp} {δ : List T} {gv : List V} {gt : List T} {rc : List T → R T} {ma mb : List T → R γ} {Q : VK} (A : At G σ H δ gv gt)
    (q : post1 G W E σ gv gt (bind1 rc (fun t δ => match t with
      | .d (.bool true) => ma δ
      | .d (.bool false) => mb δ
      | _ => .no) δ) Q) : t1 G W elT rc σ H fun v H1 => ∃ c, v = .bl c ∧ ∃ δ1, At G σ H1 δ1 gv gt ∧ (if c = true then post1 G W E σ gv gt (ma δ1) Q else post1 G W E σ gv gt (mb δ1) Q) := by
  refine ⟨δ, gv, gt, A, (b1_in (E := elT) q).mono fun v H1 z => ?_⟩
  obtain ⟨t, δ1, A1, _, z⟩ := z
  have A1 : At G σ H1 δ1 (v :: gv) (t :: gt) := A1
  split at z
  · obtain rfl := A1.topB
    exact ⟨true, rfl, δ1, A1.drop1, by simpa using z⟩
  · obtain rfl := A1.topB
    exact ⟨false, rfl, δ1, A1.drop1, by simpa using z⟩
  · exact z.elim
theorem s_ife {c a b : Expr} {pos : Pos} {rc ra rb : List T → R T} (hc : PT X c (tT G W rc)) (ha : PE X a (t1 G W elT ra)) (hb : PE X b (t1 G W elT rb)) : PE X (.IfExp c a b pos) (t1 G W elT (mIf rc ra rb)) :=
  PE.imp (pe_ifExp hc ha hb) fun σ H Q ⟨δ, gv, gt, A, q⟩ => by
    obtain ⟨δ', gv', gt', A', z⟩ := tst_in A q
    refine ⟨δ', gv', gt', A', z.mono fun v H1 z => ?_⟩
    obtain ⟨c, rfl, δ1, A1, z⟩ := z
    refine ⟨c, rfl, ?_⟩
    cases c with
    | true => exact ⟨δ1, gv, gt, A1, z⟩
    | false => exact ⟨δ1, gv, gt, A1, z⟩
theorem s_and {a b : Expr} {rest : List Expr} {pos : Pos} {ra rb : List T → R T} (ha : PE X a (t1 G W elT ra)) (hb : PE X (.BoolOp .And (b :: rest) pos) (t1 G W elT rb)) : PE X (.BoolOp .And (a :: b :: rest) pos) (t1 G W elT (mAnd ra rb)) :=
  PE.imp (pe_and ha hb) fun σ H Q ⟨δ, gv, gt, A, q⟩ => by
    obtain ⟨δ', gv', gt', A', z⟩ := tst_in A q
    refine ⟨δ', gv', gt', A', z.mono fun v H1 z => ?_⟩
    obtain ⟨c, rfl, δ1, A1, z⟩ := z
    refine ⟨c, rfl, ?_⟩
    cases c with
    | true => exact ⟨δ1, gv, gt, A1, z⟩
    | false => exact z _ H1 (A1.pushD fun O _ _ => .bl) trivial
theorem s_or {a b : Expr} {rest : List Expr} {pos : Pos} {ra rb : List T → R T} (ha : PE X a (t1 G W elT ra)) (hb : PE X (.BoolOp .Or (b :: rest) pos) (t1 G W elT rb)) : PE X (.BoolOp .Or (a :: b :: rest) pos) (t1 G W elT (mOr ra rb)) :=
  PE.imp (pe_or ha hb) fun σ H Q ⟨δ, gv, gt, A, q⟩ => by
    obtain ⟨δ', gv', gt', A', z⟩ := tst_in A q
    refine ⟨δ', gv', gt', A', z.mono fun v H1 z => ?_⟩
    obtain ⟨c, rfl, δ1, A1, z⟩ := z
    refine ⟨c, rfl, ?_⟩
    cases c with
    | true => exact z _ H1 (A1.pushD fun O _ _ => .bl) trivial
    | false => exact ⟨δ1, gv, gt, A1, z⟩
theorem t_and {a b : Expr} {rest : List Expr} {pos : Pos} {ra rb : List T → R T} (ha : PT X a (tT G W ra)) (hb : PW X (.BoolOp .And (b :: rest) pos) (tT G W rb)) : PW X (.BoolOp .And (a :: b :: rest) pos) (tT G W (mAnd ra rb)) := by
  have h := pw_and ha hb
  refine ⟨fun whole pins s σ H Q I q => h.run whole pins s σ H Q I ?_⟩
  obtain ⟨δ, gv, gt, A, q⟩ := q
  obtain ⟨δ', gv', gt', A', z⟩ := tst_in A q
  refine ⟨δ', gv', gt', A', z.mono fun v H1 z => ?_⟩
  obtain ⟨c, rfl, δ1, A1, z⟩ := z
  refine ⟨c, rfl, ?_⟩
  cases c with
  | true => exact ⟨δ1, gv, gt, A1, z⟩
  | false =>
    obtain ⟨c, e, q⟩ := z _ H1 (A1.pushD fun O _ _ => .bl) trivial
    cases e
    exact q
theorem t_or {a b : Expr} {rest : List Expr} {pos : Pos} {ra rb : List T → R T} (ha : PT X a (tT G W ra)) (hb : PW X (.BoolOp .Or (b :: rest) pos) (tT G W rb)) : PW X (.BoolOp .Or (a :: b :: rest) pos) (tT G W (mOr ra rb)) := by
  have h := pw_or ha hb
  refine ⟨fun whole pins s σ H Q I q => h.run whole pins s σ H Q I ?_⟩
  obtain ⟨δ, gv, gt, A, q⟩ := q
  obtain ⟨δ', gv', gt', A', z⟩ := tst_in A q
  refine ⟨δ', gv', gt', A', z.mono fun v H1 z => ?_⟩
  obtain ⟨c, rfl, δ1, A1, z⟩ := z
  refine ⟨c, rfl, ?_⟩
  cases c with
  | true =>
    obtain ⟨c, e, q⟩ := z _ H1 (A1.pushD fun O _ _ => .bl) trivial
    cases e
    exact q
  | false => exact ⟨δ1, gv, gt, A1, z⟩
theorem t_not {a : Expr} {pos : Pos} {ra : List T → R T} (ha : PT X a (tT G W ra)) : PT X (.UnaryOp .Not a pos) (tT G W (mNot ra)) := PT.imp (pt_not ha) fun σ H Q ⟨δ, gv, gt, A, q⟩ => by
  refine ⟨δ, gv, gt, A, (b1_in (E := elT) q).mono fun v H1 z => ?_⟩
  obtain ⟨t, δ1, A1, _, z⟩ := z
  have A1 : At G σ H1 δ1 (v :: gv) (t :: gt) := A1
  split at z
  · obtain rfl := A1.topB
    obtain ⟨c, e, q⟩ := z _ H1 (A1.drop1.pushD fun O _ _ => .bl) trivial
    cases e
    exact ⟨_, rfl, q⟩
  · exact z.elim
theorem t_val {e : Expr} {m : List T → R T} (h : PE X e (t1 G W elT m)) (he : ∀ whole, isTrue e X.env whole = (do let v ← whole; standAt e.pos; holding [v] (truthy v))) : PT X e (tT G W m) := pt_val h he
theorem pt_ife {c a b : Expr} {pos : Pos} {tc ta tb : TT} (hc : PT X c tc) (ha : PT X a ta) (hb : PT X b tb) : PT X (.IfExp c a b pos) (fun σ H Q => tc σ H fun k H1 => if k = true then ta σ H1 Q else tb σ H1 Q) := by
  refine ⟨fun pins s σ H Q I h => ?_⟩
  rw [arm_isTrue_IfExp]
  refine wpAny_bind (thn (hc.run pins s σ H _ I h) fun k s1 z => ?_)
  obtain ⟨H1, I1, z⟩ := z
  cases k with
  | true => exact ha.run pins s1 σ H1 Q I1 z
  | false => exact hb.run pins s1 σ H1 Q I1 z
theorem t_ife {c a b : Expr} {pos : Pos} {rc ra rb : List T → R T} (hc : PT X c (tT G W rc)) (ha : PT X a (tT G W ra)) (hb : PT X b (tT G W rb)) : PT X (.IfExp c a b pos) (tT G W (mIf rc ra rb)) :=
  PT.imp (pt_ife hc ha hb) fun σ H Q ⟨δ, gv, gt, A, q⟩ => by
    obtain ⟨δ', gv', gt', A', z⟩ := tst_in A q
    refine ⟨δ', gv', gt', A', z.mono fun v H1 z => ?_⟩
    obtain ⟨c, rfl, δ1, A1, z⟩ := z
    refine ⟨c, rfl, ?_⟩
    cases c with
    | true => exact ⟨δ1, gv, gt, A1, z⟩
    | false => exact ⟨δ1, gv, gt, A1, z⟩
theorem t_cmp0 {ea eb : Expr} {o : CmpOp} {pos : Pos} {op : Cop} {ra rb : List T → R A} (ho : OpR X (compareOp o) (rB2 G (cmpD op))) (hm : behindInMarks o eb = false) (ha : PE X ea (t1 G W elA ra)) (hb : PE X eb (t1 G W elA rb)) :
    PT X (.Compare ea [o] [eb] pos) (tT G W (bind2 ra rb fun x y δ => two δ x y fun p q => bl (cmpD op p q) δ)) := PT.imp (pt_cmpR ho ha hb hm) fun σ H Q ⟨δ, gv, gt, A, q⟩ => by
  refine ⟨δ, gv, gt, A, (b2_in (E := elA) (E' := elA) q).mono fun v H1 z => ?_⟩
  obtain ⟨a, δ1, A1, o1, z⟩ := z
  refine ⟨δ1, _, _, A1, z.mono fun w H2 z => ?_⟩
  obtain ⟨b, δ2, A2, o2, _, z⟩ := z
  obtain ⟨O, p, r, nd, R, fp, fq, _, _, z⟩ := two_in A2 o2 o1 z
  obtain ⟨c, e, z⟩ := bl_in (H := H2) z
  exact ⟨O, p, r, c, fp, fq, e, z _ H2 A2.bl2 trivial⟩
/-! ### chains -/
/-- the second link: the second operand is below the third -/
theorem two_in2 {σ : St} {H : Hp} {δ : List T} {a b : A} {x y : V} {gv : List V} {gt : List T} {k : PyData → PyData → R T} {Q : VK} {w : V} {t : T} (A0 : At G σ H δ (y :: x :: w :: gv) (elA.t b :: elA.t a :: t :: gt)) (ob : elA.ok σ b y) (oa : elA.ok σ a x)
    (h : post1 G W elT σ gv gt (two δ a b k) Q) : ∃ O p q, RepF G H O x p ∧ RepF G H O y q ∧ post1 G W elT σ gv gt (k p q) Q := by
  have h' : post1 G W elT σ gv gt (two δ a b k) Q := h
  unfold two at h
  cases e1 : rsv δ a with
  | none => simp only [e1] at h; exact h.elim
  | some p =>
    simp only [e1] at h
    cases e2 : rsv δ b with
    | none => simp only [e2] at h; exact h.elim
    | some q =>
      simp only [e2] at h
      obtain ⟨O, nd, R⟩ := A0.hold
      have hl : gv.length = gt.length := by have := A0.len; simpa using this
      have R' : RepTs G H O (y :: x :: w :: (gv ++ sv σ)) (elA.t b :: elA.t a :: t :: (gt ++ δ)) O := R
      have sub : ∃ f1 f2 f3, RepT G H O y (elA.t b) f1 ∧ RepT G H O x (elA.t a) f2 ∧ RepTs G H O (gv ++ sv σ) (gt ++ δ) f3 := by
        cases R' with
        | cons h1 h2 => cases h2 with
          | cons h3 h4 => cases h4 with
            | cons _ h5 => exact ⟨_, _, _, h1, h3, h5⟩
      obtain ⟨f1, f2, f3, h1, h2, h3⟩ := sub
      refine ⟨O, p, q, rsv_ok A0.env hl h3 oa ?_ e1, rsv_ok A0.env hl h3 ob ?_ e2, h⟩
      · cases a with
        | val t => exact ⟨_, h2⟩
        | sl i => exact trivial
      · cases b with
        | val t => exact ⟨_, h1⟩
        | sl i => exact trivial
theorem chain_in {σ : St} {H : Hp} {δ : List T} {gv : List V} {gt : List T} {o1 o2 : Cop} {ia ib ic : IE} {ra rb rc : List T → R T} {Q : VK} (A : At G σ H δ gv gt) (q : post1 G W elT σ gv gt (mChain o1 o2 ia ra ib rb ic rc δ) Q) :
    tChain (rB2 G (cmpD o1)) (rB2 G (cmpD o2)) (t1 G W elA (opd ia ra)) (t1 G W elA (opd ib rb)) (t1 G W elA (opd ic rc)) σ H Q := by
  refine ⟨δ, gv, gt, A, (b2_in (E := elA) (E' := elA) q).mono fun v H1 z => ?_⟩
  obtain ⟨a, δ1, A1, oa, z⟩ := z
  refine ⟨δ1, _, _, A1, z.mono fun w H2 z => ?_⟩
  obtain ⟨b, δ2, A2, ob, _, z⟩ := z
  obtain ⟨O, p, r, nd, R, fp, fq, _, _, z⟩ := two_in A2 ob oa z
  cases e : cmpD o1 p r with
  | none => simp only [e] at z; exact z.elim
  | some c =>
    refine ⟨O, p, r, c, fp, fq, e, c, rfl, ?_⟩
    cases c with
    | false =>
      simp only [e] at z
      simp only [Bool.false_eq_true, if_false]
      exact z _ H2 A2.bl2 trivial
    | true =>
      simp only [e] at z
      simp only [if_true]
      -- the rest over what is held
      have z' : post1 G W elA σ (w :: v :: gv) (elA.t b :: elA.t a :: gt) (opd ic rc δ2) fun u H3 => ∃ c, ∃ δ3, At G σ H3 δ3 (u :: w :: v :: gv) (elA.t c :: elA.t b :: elA.t a :: gt) ∧ elA.ok σ c u ∧ post1 G W elT σ gv gt (two δ3 b c fun q r => bl (cmpD o2 q r) δ3) Q := by
        unfold bind1 at z
        cases e3 : opd ic rc δ2 with
        | ok c δ3 =>
          rw [e3] at z
          exact fun u H3 A3 o3 => ⟨c, δ3, A3, o3, z⟩
        | exn x δ3 =>
          rw [e3] at z
          exact fun c d H3 hx A3 => z c d H3 hx A3.drop1.drop1
        | no => rw [e3] at z; exact z
      refine ⟨δ2, _, _, A2, z'.mono fun u H3 y => ?_⟩
      obtain ⟨c, δ3, A3, o3, y⟩ := y
      obtain ⟨O3, p3, q3, f1, f2, y⟩ := two_in2 A3 o3 ob y
      obtain ⟨k, e4, y⟩ := bl_in (H := H3) y
      exact ⟨O3, p3, q3, k, f1, f2, e4, y _ H3 (A3.drop1.drop1.drop1.pushD fun O _ _ => .bl) trivial⟩
theorem s_chain {ea eb ec : Expr} {p1 p2 : CmpOp} {pos : Pos} {o1 o2 : Cop} {ia ib ic : IE} {ra rb rc : List T → R T} (h1 : OpR X (compareOp p1) (rB2 G (cmpD o1))) (h2 : OpR X (compareOp p2) (rB2 G (cmpD o2))) (ha : PE X ea (t1 G W elA (opd ia ra))) (hb : PE X eb (t1 G W elA (opd ib rb))) (hc : PE X ec (t1 G W elA (opd ic rc)))
    (hm : lastMarks [p1, p2] [eb, ec] = false) : PE X (.Compare ea [p1, p2] [eb, ec] pos) (t1 G W elT (mChain o1 o2 ia ra ib rb ic rc)) := PE.imp (pe_chain h1 h2 ha hb hc hm) fun σ H Q ⟨δ, gv, gt, A, q⟩ => chain_in A q
theorem t_chain {ea eb ec : Expr} {p1 p2 : CmpOp} {pos : Pos} {o1 o2 : Cop} {ia ib ic : IE} {ra rb rc : List T → R T} (h1 : OpR X (compareOp p1) (rB2 G (cmpD o1))) (h2 : OpR X (compareOp p2) (rB2 G (cmpD o2))) (ha : PE X ea (t1 G W elA (opd ia ra))) (hb : PE X eb (t1 G W elA (opd ib rb))) (hc : PE X ec (t1 G W elA (opd ic rc)))
    (hm : lastMarks [p1, p2] [eb, ec] = false) : PT X (.Compare ea [p1, p2] [eb, ec] pos) (tT G W (mChain o1 o2 ia ra ib rb ic rc)) := PT.imp (pt_chain h1 h2 ha hb hc hm) fun σ H Q ⟨δ, gv, gt, A, q⟩ => chain_in A q
/-! ### displays -/
theorem tL_in {σ : St} {δ : List T} {gv : List V} {gt : List T} {rs : List T → R (List T)} {k : List T → List T → R T} {Q : VK} (q : post1 G W elT σ gv gt (bind1 rs k δ) Q) :
    postL G W elT σ gv gt (rs δ) fun vs H1 => ∃ ts δ1, vs.length = ts.length ∧ At G σ H1 δ1 (vs ++ gv) (ts ++ gt) ∧ post1 G W elT σ gv gt (k ts δ1) Q := by
  unfold bind1 at q
  cases e : rs δ with
  | ok ts δ1 =>
    rw [e] at q
    exact fun vs H1 A o => ⟨ts, δ1, o.length.symm, by simpa [elT] using A, q⟩
  | exn x δ1 => rw [e] at q; exact q
  | no => rw [e] at q; exact q
/-- a new tuple of what is held -/
theorem At.newTup {σ : St} {H : Hp} {δ : List T} {gv : List V} {gt : List T} {vs : List V} {ts : List T} {p : Addr} {o : Obj} (A : At G σ H δ (vs ++ gv) (ts ++ gt)) (l : vs.length = ts.length) (hp : H p = none) (hd : o.dict = none) :
    At G σ (upd H p (.frz o (.tup vs))) δ (.ref p :: gv) (mkTup ts :: gt) := by
  obtain ⟨O, nd, R⟩ := A.hold
  rw [List.append_assoc, List.append_assoc] at R
  obtain ⟨f, g, rfl, r1, r2⟩ := R.splitV l
  have hlen : gv.length = gt.length := by have := A.len; simp at this; omega
  have s : Same H (upd H p (.frz o (.tup vs))) := same_upd hp
  have keep : ∀ a ∈ f ++ g, (upd H p (.frz o (.tup vs))) a = H a := fun a ha => upd_ne (fun z => by subst z; exact R.there _ ha hp)
  unfold mkTup
  cases e : Ev.ds ts with
  | some xs =>
    obtain ⟨rr, rfl⟩ := r1.ds e
    exact ⟨A.env, by simp [hlen], [] ++ g, nd, .cons (f := []) (.d (.tup (.inl ⟨o, upd_same, hd⟩) (rr.up (.same s)))) (r2.up (.same s) fun a ha => keep a (by simpa using ha))⟩
  | none =>
    refine ⟨A.env, by simp [hlen], f ++ g, nd, .cons ?_ (r2.up (.same s) fun a ha => keep a (List.mem_append_right _ ha))⟩
    exact .tup (.inl ⟨o, upd_same, hd⟩) (r1.up (.same s) fun a ha => keep a (List.mem_append_left _ ha))
/-- a new list of what is held -/
theorem At.newLst {σ : St} {H : Hp} {δ : List T} {gv : List V} {gt : List T} {vs : List V} {ts : List T} {p : Addr} (A : At G σ H δ (vs ++ gv) (ts ++ gt)) (l : vs.length = ts.length) (hp : H p = none) :
    At G σ (upd H p (.lst vs)) δ (.ref p :: gv) (.lst ts :: gt) := by
  obtain ⟨O, nd, R⟩ := A.hold
  rw [List.append_assoc, List.append_assoc] at R
  obtain ⟨f, g, rfl, r1, r2⟩ := R.splitV l
  have hlen : gv.length = gt.length := by have := A.len; simp at this; omega
  have s : Same H (upd H p (.lst vs)) := same_upd hp
  have hn : p ∉ f ++ g := fun z => R.there _ z hp
  have keep : ∀ a ∈ f ++ g, (upd H p (.lst vs)) a = H a := fun a ha => upd_ne (fun z => hn (z ▸ ha))
  have up : Up (f ++ g) H (p :: (f ++ g)) (upd H p (.lst vs)) := .grow s (fp := [p]) (by simpa using hp) fun a ha => by
    rcases List.mem_cons.mp ha with rfl | ha
    · exact .inr (by simp)
    · exact .inl ha
  exact ⟨A.env, by simp [hlen], p :: (f ++ g), List.nodup_cons.mpr ⟨hn, nd⟩, .cons (f := p :: f) (.lst upd_same (r1.up up fun a ha => keep a (List.mem_append_left _ ha))) (r2.up up fun a ha => keep a (List.mem_append_right _ ha))⟩
theorem s_tup {es : List Expr} {x1 : Nat} {pos : Pos} {rs : List T → R (List T)} (h : PA X es (tL G W elT rs)) : PE X (.Tuple es x1 pos) (t1 G W elT (mTup rs)) := PE.imp (pe_tupD h) fun σ H Q ⟨δ, gv, gt, A, q⟩ => by
  refine ⟨δ, gv, gt, A, ?_⟩
  have z := tL_in q
  unfold postL at z ⊢
  cases e : rs δ with
  | ok ts δ1 =>
    simp only [e] at z ⊢
    intro vs H1 A1 o1
    obtain ⟨ts', δ', l, A2, q⟩ := z vs H1 A1 o1
    split at q
    · rename_i hs
      exact ⟨by rw [l]; exact small_le hs, fun p o hd hp => q _ _ (A2.newTup l hp hd) trivial⟩
    · exact q.elim
  | exn x δ1 => simp only [e] at z ⊢; exact z
  | no => simp only [e] at z
theorem s_lst {es : List Expr} {pos : Pos} {rs : List T → R (List T)} (h : PA X es (tL G W elT rs)) : PE X (.List es pos) (t1 G W elT (mLst rs)) := PE.imp (pe_lst h) fun σ H Q ⟨δ, gv, gt, A, q⟩ => by
  refine ⟨δ, gv, gt, A, ?_⟩
  have z := tL_in q
  unfold postL at z ⊢
  cases e : rs δ with
  | ok ts δ1 =>
    simp only [e] at z ⊢
    intro vs H1 A1 o1
    obtain ⟨ts', δ', l, A2, q⟩ := z vs H1 A1 o1
    split at q
    · rename_i hs
      exact ⟨by rw [l]; exact small_le hs, fun p hp => q _ _ (A2.newLst l hp) trivial⟩
    · exact q.elim
  | exn x δ1 => simp only [e] at z ⊢; exact z
  | no => simp only [e] at z
/-! ### slices -/
theorem one_in {σ : St} {H : Hp} {δ : List T} {a : A} {x : V} {gv : List V} {gt : List T} (A0 : At G σ H δ (x :: gv) (elA.t a :: gt)) (oa : elA.ok σ a x) {p : PyData} (e : rsv δ a = some p) :
    ∃ O, O.Nodup ∧ RepTs G H O (x :: (gv ++ sv σ)) (elA.t a :: (gt ++ δ)) O ∧ RepF G H O x p := by
  obtain ⟨O, nd, R⟩ := A0.hold
  have hl : gv.length = gt.length := by have := A0.len; simpa using this
  have R' : RepTs G H O (x :: (gv ++ sv σ)) (elA.t a :: (gt ++ δ)) O := R
  refine ⟨O, nd, R', ?_⟩
  generalize hO : O = O' at R'
  cases R' with
  | cons h1 h2 =>
    subst hO
    refine rsv_ok A0.env hl h2 oa ?_ e
    cases a with
    | val t => exact ⟨_, h1⟩
    | sl i => exact trivial
end
end Ev
set_option Elab.async false
set_option linter.all false
set_option maxRecDepth 100000
set_option maxHeartbeats 4000000
set_option autoImplicit false
/-! Snd15: slices, isinstance, built-in functions. -/
namespace Ev
open PySem PySem.W PySem.Spec L2
open PyProof.Rows hiding St

section
variable {G : Gd} {W : WX} {X : Cx} {α β γ : Type}
/-- a slice's part -/
def postO (G : Gd) (W : WX) (σ : St) (gv : List V) (gt : List T) (r : R (Option Int)) (Q : Option Int → Hp → Prop) : Prop := match r with
  | .ok o δ => ∀ H, At G σ H δ gv gt → Q o H
  | .exn e δ => ∀ c d H, G.xi e c d H → At G σ H δ gv gt → W c d σ H
  | .no => False
def tO (G : Gd) (W : WX) (m : List T → R (Option Int)) : TO := fun σ H Q => ∃ δ gv gt, At G σ H δ gv gt ∧ postO G W σ gv gt (m δ) Q
theorem PO.imp {e : Option Expr} {t t' : TO} (h : PO X e t) (k : ∀ σ H Q, t' σ H Q → t σ H Q) : PO X e t' := ⟨fun pins s σ H Q I q => h.run pins s σ H Q I (k σ H Q q)⟩
theorem s_oNo : PO X none (tO G W oNo) := PO.imp po_none fun σ H Q ⟨δ, gv, gt, A, q⟩ => q H A
theorem s_oYes {e : Expr} {r : List T → R T} (h : PE X e (t1 G W elT r)) : PO X (some e) (tO G W (oYes r)) := PO.imp (po_some h) fun σ H Q ⟨δ, gv, gt, A, q⟩ => by
  refine ⟨δ, gv, gt, A, ?_⟩
  unfold oYes bind1 at q
  cases e1 : r δ with
  | ok t δ1 =>
    rw [e1] at q
    intro v H1 A1 _
    have A1 : At G σ H1 δ1 (v :: gv) (t :: gt) := A1
    simp only at q
    split at q
    · obtain rfl := A1.topI
      exact ⟨_, rfl, q H1 A1.drop1⟩
    · exact q.elim
  | exn x δ1 => rw [e1] at q; exact q
  | no => rw [e1] at q; exact q
theorem s_slc (ok : Ok0 G X) {e : Expr} {lo hi : Option Expr} {p2 pos : Pos} {ia : IE} {ra : List T → R T} {rl rh : List T → R (Option Int)} (he : PE X e (t1 G W elA (opd ia ra))) (hl : PO X lo (tO G W rl)) (hh : PO X hi (tO G W rh)) :
    PE X (.Subscript e (.Slice lo hi none p2) pos) (t1 G W elT (mSlc ia ra rl rh)) := PE.imp (pe_slice (slr ok) he hl hh) fun σ H Q ⟨δ, gv, gt, A, q⟩ => by
  refine ⟨δ, gv, gt, A, (b1_in (E := elA) q).mono fun v H1 z => ?_⟩
  obtain ⟨a, δ1, A1, oa, z⟩ := z
  refine ⟨δ1, _, _, A1, ?_⟩
  unfold bind2 at z
  cases e1 : rl δ1 with
  | no => simp only [e1] at z; exact z.elim
  | exn x δ2 =>
    simp only [e1] at z
    exact exn1 z
  | ok l δ2 =>
    simp only [e1] at z
    intro H2 A2
    refine ⟨δ2, _, _, A2, ?_⟩
    cases e2 : rh δ2 with
    | no => simp only [e2] at z; exact z.elim
    | exn x δ3 =>
      simp only [e2] at z
      exact exn1 z
    | ok u δ3 =>
      simp only [e2] at z
      intro H3 A3
      cases e3 : rsv δ3 a with
      | none => simp only [e3] at z; exact z.elim
      | some p =>
        simp only [e3] at z
        obtain ⟨O, nd, R, fx⟩ := one_in A3 oa e3
        cases e4 : slcD p l u with
        | none => simp only [e4, fromO] at z; exact z.elim
        | some t =>
          simp only [e4, fromO] at z
          exact ⟨O, p, t, fx, e4, fun w H4 s res => z w H4 (A3.push nd R s res).drop2 trivial⟩
theorem Reps.rev {H : Hp} {O : List Addr} : ∀ {vs : List V} {xs : List PyData}, Reps G H O vs xs → Reps G H O vs.reverse xs.reverse
  | _, _, .nil => .nil
  | _, _, .cons h r => by
    rw [List.reverse_cons, List.reverse_cons]
    exact (Reps.rev r).append (.cons h .nil)
theorem s_rev (ok : Ok0 G X) {e : Expr} {k : Nat} {p1 p2 p3 pos : Pos} {ia : IE} {ra : List T → R T} (he : PE X e (t1 G W elA (opd ia ra))) : PE X (.Subscript e (.Slice none none (some (.UnaryOp .USub (.Constant (.int 1) k p1) p2)) p3) pos) (t1 G W elT (mRev ia ra)) :=
  PE.imp (pe_revL he) fun σ H Q ⟨δ, gv, gt, A, q⟩ => by
    refine ⟨δ, gv, gt, A, (b1_in (E := elA) q).mono fun v H1 z => ?_⟩
    obtain ⟨a, δ1, A1, oa, z⟩ := z
    cases e3 : rsv δ1 a with
    | none => simp only [e3] at z; exact z.elim
    | some p =>
      simp only [e3] at z
      obtain ⟨O, nd, R, fx⟩ := one_in A1 oa e3
      unfold revD at z
      split at z
      · rename_i xs
        simp only [fromO] at z
        obtain ⟨b, vs, rfl, hb, rb⟩ := fx.lstI
        exact ⟨b, vs, rfl, .of hb, fun p hp => z _ _ (A1.push nd R (same_upd hp) (.lst hp rb.rev)).drop2 trivial⟩
      · exact z.elim
/-! ### rows of operands -/
theorem rsvs_ok {σ : St} {H : Hp} {δ : List T} {gv : List V} {gt : List T} : ∀ {as : List A} {vs : List V} {ps : List PyData}, At G σ H δ (vs ++ gv) (as.map elA.t ++ gt) → Oks elA σ as vs → rsvs δ as = some ps →
    ∃ O, O.Nodup ∧ RepTs G H O (vs ++ gv ++ sv σ) (as.map elA.t ++ gt ++ δ) O ∧ RepFs G H O vs ps := by
  intro as vs ps A oks e
  obtain ⟨O, nd, R⟩ := A.hold
  refine ⟨O, nd, R, ?_⟩
  have hlen : gv.length = gt.length := by have := A.len; have := oks.length; simp at *; omega
  have base : ∃ f, RepTs G H O (gv ++ sv σ) (gt ++ δ) f := by
    rw [List.append_assoc, List.append_assoc] at R
    obtain ⟨_, f, _, _, r2⟩ := R.splitV (by simp [oks.length])
    exact ⟨f, r2⟩
  obtain ⟨f, rb⟩ := base
  have rows : ∃ g, RepTs G H O vs (as.map elA.t) g := by
    rw [List.append_assoc, List.append_assoc] at R
    obtain ⟨g, _, _, r1, _⟩ := R.splitV (by simp [oks.length])
    exact ⟨g, r1⟩
  obtain ⟨g, rr⟩ := rows
  have go : ∀ {as : List Ev.A} {vs : List V} {ps : List PyData} {g : List Addr}, RepTs G H O vs (as.map elA.t) g → Oks elA σ as vs → rsvs δ as = some ps → RepFs G H O vs ps := by
    intro as
    induction as with
    | nil =>
      intro vs ps g rr oks e
      cases oks
      simp only [rsvs, Option.some.injEq] at e
      subst e
      exact .nil
    | cons a as ih =>
      intro vs ps g rr oks e
      cases oks with
      | cons o os =>
        have rr' := rr
        simp only [List.map_cons] at rr'
        cases rr' with
        | cons h1 h2 =>
          unfold rsvs at e
          cases e1 : rsv δ a with
          | none => simp only [e1] at e; cases e
          | some x =>
            simp only [e1] at e
            cases e2 : rsvs δ as with
            | none => simp only [e2] at e; cases e
            | some xs =>
              simp only [e2] at e
              cases e
              refine .cons (rsv_ok A.env hlen rb o ?_ e1) (ih h2 os e2)
              cases a with
              | val t => exact ⟨_, h1⟩
              | sl i => exact trivial
  exact go rr oks e
/-- a call by operands -/
theorem s_ops {r : List V → Hp → VK → Prop} {e : Expr} {ra : List T → R (List A)} {k : List A → List T → R T} (hp : PE X e (tCB r (tL G W elA ra)))
    (hk : ∀ (σ : St) (H : Hp) (gv : List V) (gt : List T) (as : List A) (vs : List V) (δ : List T) (Q : VK), At G σ H δ (vs ++ gv) (as.map elA.t ++ gt) → Oks elA σ as vs → post1 G W elT σ gv gt (k as δ) Q → r vs H Q) :
    PE X e (t1 G W elT (bind1 ra k)) := PE.imp hp fun σ H Q ⟨δ, gv, gt, A, q⟩ => by
  refine ⟨δ, gv, gt, A, ?_⟩
  unfold bind1 at q
  cases e1 : ra δ with
  | ok as δ1 =>
    rw [e1] at q
    exact fun vs H1 A1 o1 => hk σ H1 gv gt as vs δ1 Q A1 o1 q
  | exn x δ1 => rw [e1] at q; exact q
  | no => rw [e1] at q; exact q
theorem At.pushL {σ : St} {H H' : Hp} {δ : List T} {gv : List V} {gt : List T} {vs : List V} {ts : List T} {v : V} {t : T} {O : List Addr} (A : At G σ H δ (vs ++ gv) (ts ++ gt)) (l : vs.length = ts.length) (nd : O.Nodup) (R : RepTs G H O (vs ++ gv ++ sv σ) (ts ++ gt ++ δ) O)
    (s : Same H H') (q : Res G H O H' v t) : At G σ H' δ (v :: gv) (t :: gt) := (A.push nd R s q).dropM l
/-- a built-in function's rule -/
def rBlt (G : Gd) (b : Blt) : List V → Hp → VK → Prop := fun vs H Q => rC G (bltD b) vs H Q ∨ (isLen b = true ∧ ∃ O a ws xs, vs = [.ref a] ∧ SqZ G.K H a ws ∧ Reps G H O ws xs ∧ Q (.int xs.length) H)
theorem s_blt {e : Expr} {b : Blt} {ra : List T → R (List A)} (hp : PE X e (tCB (rBlt G b) (tL G W elA ra))) : PE X e (t1 G W elT (mBlt b ra)) := by
  refine s_ops hp fun σ H gv gt as vs δ Q A oks q => ?_
  cases e1 : rsvs δ as with
  | some ps =>
    simp only [e1] at q
    obtain ⟨O, nd, R, fs⟩ := rsvs_ok A oks e1
    cases e2 : bltD b ps with
    | none => simp only [e2, fromO] at q; exact q.elim
    | some t =>
      simp only [e2, fromO] at q
      exact .inl ⟨O, ps, t, fs, e2, fun v H' s res => q v H' (A.pushL (by simp [oks.length]) nd R s res) trivial⟩
  | none =>
    simp only [e1] at q
    split at q
    · rename_i xs
      split at q
      · rename_i hb
        cases oks with
        | cons o os =>
          cases os
          obtain ⟨O, nd, R⟩ := A.hold
          have A' : At G σ H δ ([_] ++ gv) ([.fz xs] ++ gt) := A
          obtain ⟨O, f, nd, R, r1⟩ := A'.held rfl
          obtain ⟨g, r1⟩ := r1.one
          cases r1 with
          | fz h rr =>
            exact .inr ⟨hb, O, _, _, xs, rfl, h, rr, q _ H (A'.drop1.pushD fun O _ _ => .int) trivial⟩
      · exact q.elim
    · exact q.elim
theorem cr_lenG (ok : Ok0 G X) : CallR X (.builtin "len") (rBlt G .len) := by
  intro pins s σ H vs us Q I r h
  rcases h with h | ⟨_, O, a, ws, xs, rfl, h, rr, q⟩
  · exact cr_len ok pins s σ H vs us Q I r h
  · have h := h.l
    rw [ok.hK] at h
    exact call_len_seq pins s σ H _ us Q I r ⟨a, ws, rfl, .inl h, by rw [rr.length]; exact q⟩
theorem cr_any_of {f : Value} {b : Blt} (n : isLen b = false) (h : CallR X f (rC G (bltD b))) : CallR X f (rBlt G b) := by
  intro pins s σ H vs us Q I r q
  rcases q with q | ⟨e, _⟩
  · exact h pins s σ H vs us Q I r q
  · rw [n] at e; cases e
/-! ### isinstance -/
def tyS : Ty → String
  | .int => "int"
  | .str => "str"
  | .bool => "bool"
  | .tuple => "tuple"
  | .list => "list"
  | .dict => "dict"
def tyD : PyData → String
  | .none => "NoneType"
  | .bool _ => "bool"
  | .int _ => "int"
  | .str _ => "str"
  | .list _ => "list"
  | .tuple _ => "tuple"
  | .dict _ => "dict"
theorem kit_data (ok : Ok0 G X) {pins : List (Addr × Obj)} {σ : St} {H : Hp} {s : Shared} {O : List Addr} (I : Inv X pins σ H s) {x : V} {u : Value} {p : PyData} (h : RepF G H O x p) (r : RelV x u) :
    ∃ P : Heap → Prop, PySem.W.KitX X.K u (.type (tyD p)) P ∧ P s.heap ∧ u ≠ .builtin "__main__.__loader__#opaque" := by
  cases p with
  | none => obtain rfl := h.nonI; cases r; exact ⟨_, PySem.W.kitx_none, True.intro, fun z => nomatch z⟩
  | bool b => obtain rfl := h.blI; cases r; exact ⟨_, PySem.W.kitx_bool, True.intro, fun z => nomatch z⟩
  | int b => obtain rfl := h.intI; obtain ⟨t, rfl⟩ := r; exact ⟨_, PySem.W.kitx_int, True.intro, fun z => nomatch z⟩
  | str b => obtain rfl := h.strI; obtain ⟨t, rfl⟩ := r; exact ⟨_, PySem.W.kitx_str, True.intro, fun z => nomatch z⟩
  | list xs =>
    obtain ⟨a, vs, rfl, ha, _⟩ := h.lstI
    have r' : RelV (.ref a) u := r
    cases r
    obtain ⟨⟨o, e, c⟩, _⟩ := ty_list (X := X) (.of ha) pins σ s _ I r'
    exact ⟨_, PySem.W.kitx_list, ⟨o, e, c⟩, fun z => nomatch z⟩
  | tuple xs =>
    obtain ⟨a, vs, rfl, ha, _⟩ := h.tupI
    rw [ok.hK] at ha
    have r' : RelV (.ref a) u := r
    cases r
    obtain ⟨⟨o, e, c⟩, _⟩ := ty_tup ha pins σ s _ I r'
    exact ⟨_, PySem.W.kitx_tuple, ⟨o, e, c⟩, fun z => nomatch z⟩
  | dict kvs =>
    have h' := h
    obtain ⟨a, rfl, _⟩ := h.dctI
    have r' : RelV (.ref a) u := r
    cases r
    obtain ⟨⟨o, e, c⟩, _⟩ := ty_dict ok h' pins σ s _ I r'
    exact ⟨_, PySem.W.kitx_dict, ⟨o, e, c⟩, fun z => nomatch z⟩
theorem kit_one (p : PyData) (t : Ty) : PySem.W.kitOne X.K (.type (tyD p)) (.type (tyS t)) = some (isTy t p) := by
  cases p <;> cases t <;> simp only [tyD, tyS, isTy] <;> exact kit_ty (by decide +kernel)
theorem kit_any (p : PyData) : ∀ ts : List Ty, PySem.W.kitAny X.K (.type (tyD p)) (ts.map fun t => .type (tyS t)) = some (ts.any fun t => isTy t p)
  | [] => kitAny_nil
  | t :: ts => by
    refine kitAny_cons (kit_one p t) (fun h => ?_) fun h => ?_
    · rw [List.any_cons, h, Bool.false_or]
      exact kit_any p ts
    · rw [List.any_cons, h]; rfl
def rIs1 (G : Gd) (t : Ty) : List V → Hp → VK → Prop := fun xs H Q => ∃ x O p, xs = [x, .ty (tyS t)] ∧ RepF G H O x p ∧ Q (.bl (isTy t p)) H
theorem cr_is1 (ok : Ok0 G X) (t : Ty) : CallR X (.builtin "isinstance") (rIs1 G t) := by
  intro pins s σ H xs us Q I r h
  obtain ⟨x, O, p, rfl, hx, q⟩ := h
  obtain ⟨u1, u2, rfl, r1, r2⟩ := vals2 r
  cases r2
  obtain ⟨P, Z, hp, hn⟩ := kit_data ok I hx r1
  exact PySem.W.kia_one Z I.kIn hp (kit_one p t) hn fun tk => ⟨.bl _, H, I.tok tk, rfl, q⟩
def rIsN (G : Gd) (ts : List Ty) : List V → Hp → VK → Prop := fun xs H Q => ∃ x tp O p, xs = [x, .ref tp] ∧ H tp = some (.tup (ts.map fun t => .ty (tyS t))) ∧ RepF G H O x p ∧ Q (.bl (ts.any fun t => isTy t p)) H
theorem tys_vals : ∀ {ts : List Ty} {us : List Value}, Vals (ts.map fun t => V.ty (tyS t)) us → us = ts.map fun t => .type (tyS t)
  | [], _, .nil => rfl
  | t :: ts, _, .cons r rr => by
    cases r
    rw [tys_vals rr]
    rfl
theorem cr_isN (ok : Ok0 G X) (ts : List Ty) : CallR X (.builtin "isinstance") (rIsN G ts) := by
  intro pins s σ H xs us Q I r h
  obtain ⟨x, tp, O, p, rfl, hT, hx, q⟩ := h
  obtain ⟨u1, u2, rfl, r1, r2⟩ := vals2 r
  cases r2
  obtain ⟨P, Z, hp, hn⟩ := kit_data ok I hx r1
  obtain ⟨_, its, rv, ⟨oc, od, dt, sl⟩, h1, h2, n, h3⟩ := I.hok tp _ hT
  simp only at h2 h3
  subst h2 h3
  rw [tys_vals rv] at h1
  exact PySem.W.kia_tup Z I.kIn hp h1 (kit_any p ts) hn fun tk => ⟨.bl _, H, I.tok tk, rfl, q⟩
theorem isi_in {σ : St} {δ : List T} {gv : List V} {gt : List T} {ts : List Ty} {ia : IE} {ra : List T → R T} {Q : VK} (q : post1 G W elT σ gv gt (mIsi ts ia ra δ) Q) :
    post1 G W elA σ gv gt (opd ia ra δ) fun x H1 => ∃ p, (∀ H2, Same H1 H2 → (∃ O, RepF G H2 O x p) ∧ Q (.bl (ts.any fun t => isTy t p)) H2) := by
  refine (b1_in (E := elA) q).mono fun v H1 z => ?_
  obtain ⟨a, δ1, A1, oa, z⟩ := z
  cases e3 : rsv δ1 a with
  | none => simp only [e3] at z; exact z.elim
  | some p =>
    simp only [e3] at z
    refine ⟨p, fun H2 s => ?_⟩
    have A2 := A1.same s
    obtain ⟨O, nd, R, fx⟩ := one_in A2 oa e3
    exact ⟨⟨O, fx⟩, z _ H2 (A2.drop1.pushD fun O _ _ => .bl) trivial⟩
theorem s_is1 {e : Expr} {t : Ty} {ia : IE} {ra : List T → R T} (hp : PE X e (tCB (rIs1 G t) (tCons (t1 G W elA (opd ia ra)) (tCons (tC (.ty (tyS t))) tNil)))) : PE X e (t1 G W elT (mIsi [t] ia ra)) := PE.imp hp fun σ H Q ⟨δ, gv, gt, A, q⟩ => by
  refine ⟨δ, gv, gt, A, (isi_in q).mono fun x H1 z => ?_⟩
  obtain ⟨p, z⟩ := z
  obtain ⟨⟨O, fx⟩, z⟩ := z H1 (Same.refl _)
  refine ⟨x, O, p, rfl, fx, ?_⟩
  simpa using z
def tTys : List Ty → TA
  | [] => tNil
  | t :: ts => tCons (tC (.ty (tyS t))) (tTys ts)
theorem tTys_in : ∀ (ts : List Ty) (σ : St) (H : Hp) (Q : List V → Hp → Prop), Q (ts.map fun t => .ty (tyS t)) H → tTys ts σ H Q
  | [], _, _, _, q => q
  | t :: ts, σ, H, Q, q => tTys_in ts σ H (fun vs H2 => Q (.ty (tyS t) :: vs) H2) q
theorem s_isT {e : Expr} {ts : List Ty} (hl : ts.length ≤ sizeLine) {ia : IE} {ra : List T → R T} (hp : PE X e (tCB (rIsN G ts) (tCons (t1 G W elA (opd ia ra)) (tCons (tTup (tTys ts)) tNil)))) : PE X e (t1 G W elT (mIsi ts ia ra)) := PE.imp hp fun σ H Q ⟨δ, gv, gt, A, q⟩ => by
  refine ⟨δ, gv, gt, A, (isi_in q).mono fun x H1 z => ?_⟩
  obtain ⟨p, z⟩ := z
  refine tTys_in ts σ H1 _ ⟨by rw [List.length_map]; exact hl, fun tp hp => ?_⟩
  obtain ⟨⟨O, fx⟩, z⟩ := z _ (same_upd (o := .tup (ts.map fun t => .ty (tyS t))) hp)
  exact ⟨x, tp, O, p, rfl, upd_same, fx, z⟩
end
end Ev
set_option Elab.async false
set_option linter.all false
set_option maxRecDepth 100000
set_option maxHeartbeats 4000000
set_option autoImplicit false
/-! Snd16: places: read, subscripted. -/
namespace Ev
open PySem PySem.W PySem.Spec L2
open PyProof.Rows hiding St

section
variable {G : Gd} {W : WX} {X : Cx} {α β γ : Type}
/-- an expression that changes nothing -/
def tPur (G : Gd) (gd : List PyData) (e : IE) : TE := fun σ H Q => ∃ O δ x, View G σ H O δ ∧ pur gd δ e = some x ∧ ∀ v H', Same H H' → Rep G H' O v x → Q v H'
def tPurF (G : Gd) (gd : List PyData) (e : IE) : TE := fun σ H Q => ∃ O δ x, View G σ H O δ ∧ puO δ e (pur gd δ e) = some x ∧ ∀ v H', Same H H' → RepF G H' O v x → Q v H'
variable {gd : List PyData}
theorem p_v {x : Str} {pos : Pos} {i : Nat} (h : PE X (.Name x pos) (tVar i)) : PE X (.Name x pos) (tPur G gd (.v i)) := PE.imp h fun σ H Q ⟨O, δ, x, V, e, q⟩ => by
  simp only [pur] at e
  split at e
  · rename_i y e1
    cases e
    obtain ⟨w, g, hw, r⟩ := V.get i _ e1 (by simp)
    cases r with
    | d r => exact ⟨w, hw, q w H (Same.refl _) r⟩
  · cases e
theorem p_vF {x : Str} {pos : Pos} {i : Nat} (h : PE X (.Name x pos) (tVar i)) : PE X (.Name x pos) (tPurF G gd (.v i)) := PE.imp h fun σ H Q ⟨O, δ, x, V, e, q⟩ => by
  have e : (match nth δ i with | some t => t.fd | none => none) = some x := e
  split at e
  · rename_i t e1
    obtain ⟨w, g, hw, r⟩ := V.get i _ e1 (by rintro rfl; simp [T.fd] at e)
    exact ⟨w, hw, q w H (Same.refl _) (r.fd e)⟩
  · cases e
theorem p_F {e : Expr} {ie : IE} (n : isNm ie = false) (h : PE X e (tPur G gd ie)) : PE X e (tPurF G gd ie) := PE.imp h fun σ H Q ⟨O, δ, x, V, e, q⟩ => by
  have e1 : ∀ r, puO δ ie r = r := fun r => by cases ie <;> first | rfl | (simp [isNm] at n)
  rw [e1] at e
  exact ⟨O, δ, x, V, e, fun v H' s r => q v H' s (.st r)⟩
theorem p_con {e : Expr} {ie : IE} {v : V} {d : PyData} (h : PE X e (tC v)) (hm : ∀ δ, pur gd δ ie = some d) (hr : ∀ H O, Rep G H O v d) : PE X e (tPur G gd ie) := PE.imp h fun σ H Q ⟨O, δ, x, V, e, q⟩ => by
  rw [hm] at e
  cases e
  exact q v H (Same.refl _) (hr H O)
theorem p_no {e : Expr} {ie : IE} (hm : ∀ δ, pur gd δ ie = none) : PE X e (tPur G gd ie) := ⟨fun pins s σ H Q I ⟨O, δ, x, V, e, q⟩ => by
  rw [hm] at e
  cases e⟩
theorem p_nil {pos : Pos} : PE X (.List [] pos) (tPur G gd (.lst .nil)) := PE.imp (pe_lst pa_nil) fun σ H Q ⟨O, δ, x, V, e, q⟩ => by
  cases e
  exact ⟨Nat.zero_le _, fun p hp => q _ _ (same_upd hp) (.lst (fun z => V.there p z hp) upd_same .nil)⟩
theorem Rep.same {H H' : Hp} {O : List Addr} {v : V} {x : PyData} (r : Rep G H O v x) (s : Same H H') : Rep G H' O v x := r.up (.same s)
theorem RepF.same {H H' : Hp} {O : List Addr} {v : V} {x : PyData} (r : RepF G H O v x) (s : Same H H') : RepF G H' O v x := by
  cases r with
  | st r => exact .st (r.same s)
  | lst h r => exact .lst (s _ _ h) (r.up (.same s))
  | dK h l nd r => exact .dK (Same.rd s h) l nd (r.up (.same s))
  | dN h l nd k r => exact .dN (Same.rd s h) l nd (k.up (.same s)) (r.up (.same s))
theorem Res.rep {H H' : Hp} {O : List Addr} {v : V} {x : PyData} (r : Res G H O H' v (.d x)) : Rep G H' O v x := by
  obtain ⟨fp, _, _, r⟩ := r
  cases r with
  | d r => exact r
theorem Same.trans {H H' H'' : Hp} (s : Same H H') (s' : Same H' H'') : Same H H'' := fun a o e => s' a o (s a o e)
theorem p_bin {ea eb : Expr} {o : Operator} {pos : Pos} {op : Op} {ia ib : IE} (ho : OpR X (binaryOp o) (rO2 G (op2 op))) (ha : PE X ea (tPur G gd ia)) (hb : PE X eb (tPur G gd ib)) : PE X (.BinOp ea o eb pos) (tPur G gd (.bin op ia ib)) :=
  PE.imp (pe_op ho ha hb) fun σ H Q ⟨O, δ, x, V, e, q⟩ => by
    simp only [pur] at e
    split at e
    · rename_i y e1
      split at e
      · rename_i z e2
        split at e
        · rename_i t e3
          cases e
          refine ⟨O, δ, y, V, e1, fun v H1 s1 r1 => ⟨O, δ, z, V.same s1, e2, fun w H2 s2 r2 => ?_⟩⟩
          exact ⟨O, y, z, _, .st (r1.same s2), .st r2, e3, fun u H3 s3 res => q u H3 ((s1.trans s2).trans s3) res.rep⟩
        · cases e
      · cases e
    · cases e
theorem p_idx (ok : Ok0 G X) {ea ei : Expr} {pos : Pos} {ia ii : IE} (ha : PE X ea (tPurF G gd ia)) (hi : PE X ei (tPur G gd ii)) (hs : PlainIx ei) : PE X (.Subscript ea ei pos) (tPur G gd (.idx ia ii)) :=
  PE.imp (pe_ix (ixr ok) ha hi hs) fun σ H Q ⟨O, δ, x, V, e, q⟩ => by
    simp only [pur] at e
    split at e
    · rename_i y e1
      split at e
      · rename_i z e2
        refine ⟨O, δ, y, V, e1, fun v H1 s1 r1 => ⟨O, δ, z, V.same s1, e2, fun w H2 s2 r2 => ?_⟩⟩
        exact ⟨O, y, z, x, r1.same s2, .st r2, e, fun u ru => q u H2 (s1.trans s2) ru⟩
      · cases e
    · cases e
/-! methods -/
def mN : Mth → Str
  | .index => "index"
  | .count => "count"
  | .get1 => "get"
  | .get2 => "get"
  | .append => "append"
  | .pop => "pop"
  | .popAt => "pop"
  | .update => "update"
  | .extend => "extend"
def rMK (G : Gd) (m : Mth) (k : Nat) : V → List V → Hp → VK → Prop := fun x vs H Q => ∃ O p ps t, kd p = k ∧ RepF G H O x p ∧ RepFs G H O vs ps ∧ mthD m p ps = some t ∧ ∀ v H', Same H H' → Res G H O H' v t → Q v H'
theorem rMK_l {m : Mth} {x : V} {vs : List V} {H : Hp} {Q : VK} (h : rMK G m 1 x vs H Q) : rMl G (mthD m) x vs H Q := by
  obtain ⟨O, p, ps, t, k, hx, hps, e, q⟩ := h
  cases p <;> simp [kd] at k
  exact ⟨O, _, ps, t, hx, hps, e, q⟩
theorem rMK_t {m : Mth} {x : V} {vs : List V} {H : Hp} {Q : VK} (h : rMK G m 2 x vs H Q) : rMt G (mthD m) x vs H Q := by
  obtain ⟨O, p, ps, t, k, hx, hps, e, q⟩ := h
  cases p <;> simp [kd] at k
  exact ⟨O, _, ps, t, hx, hps, e, q⟩
theorem rMK_d {m : Mth} {x : V} {vs : List V} {H : Hp} {Q : VK} (h : rMK G m 3 x vs H Q) : rMd G (mthD m) x vs H Q := by
  obtain ⟨O, p, ps, t, k, hx, hps, e, q⟩ := h
  cases p <;> simp [kd] at k
  exact ⟨O, _, ps, t, hx, hps, e, q⟩
/-- the built-in method of a kind of receiver -/
theorem mth_mt (ok : Ok0 G X) {m : Mth} {H : Hp} {O : List Addr} {v : V} {p : PyData} (hx : RepF G H O v p) (e : mOk m p = true) :
    ∃ T id, PlainAttrs T ∧ Slot T (mN m) id ∧ typeOf (.builtin id) = pure (.type "method_descriptor") ∧ MtR X id (rMK G m (kd p)) ∧ TyIs X H v T := by
  have tyL : ∀ xs, p = .list xs → TyIs X H v "list" := by
    rintro xs rfl
    obtain ⟨a, vs, rfl, ha, _⟩ := hx.lstI
    exact ty_list (.of ha)
  have tyT : ∀ xs, p = .tuple xs → TyIs X H v "tuple" := by
    rintro xs rfl
    obtain ⟨a, vs, rfl, ha, _⟩ := hx.tupI
    rw [ok.hK] at ha
    exact ty_tup ha
  cases m
  case index =>
    cases p with
    | list xs => exact ⟨"list", "list.index", PySem.F.plainAttrs_list, PySem.F.slot_list_index, PySem.F.type_list_index, fun pins s σ H x xs v us Q I rx rs h => mt_idxL ok pins s σ H x xs v us Q I rx rs (rMK_l (m := .index) h), tyL xs rfl⟩
    | tuple xs => exact ⟨"tuple", "tuple.index", PySem.F.plainAttrs_tuple, PySem.F.slot_tuple_index, PySem.F.type_tuple_index, fun pins s σ H x xs v us Q I rx rs h => mt_idxT ok pins s σ H x xs v us Q I rx rs (rMK_t (m := .index) h), tyT xs rfl⟩
    | _ => cases e
  case count =>
    cases p with
    | list xs => exact ⟨"list", "list.count", PySem.F.plainAttrs_list, PySem.F.slot_list_count, PySem.F.type_list_count, fun pins s σ H x xs v us Q I rx rs h => mt_cntL ok pins s σ H x xs v us Q I rx rs (rMK_l (m := .count) h), tyL xs rfl⟩
    | tuple xs => exact ⟨"tuple", "tuple.count", PySem.F.plainAttrs_tuple, PySem.F.slot_tuple_count, PySem.F.type_tuple_count, fun pins s σ H x xs v us Q I rx rs h => mt_cntT ok pins s σ H x xs v us Q I rx rs (rMK_t (m := .count) h), tyT xs rfl⟩
    | _ => cases e
  case get1 =>
    cases p with
    | dict kvs => exact ⟨"dict", "dict.get", PySem.F.plainAttrs_dict, PySem.F.slot_dict_get, PySem.F.type_dict_get, fun pins s σ H x xs v us Q I rx rs h => mt_get ok pins s σ H x xs v us Q I rx rs (rMK_d (m := .get1) h), ty_dict ok hx⟩
    | _ => cases e
  case get2 =>
    cases p with
    | dict kvs => exact ⟨"dict", "dict.get", PySem.F.plainAttrs_dict, PySem.F.slot_dict_get, PySem.F.type_dict_get, fun pins s σ H x xs v us Q I rx rs h => mt_get ok pins s σ H x xs v us Q I rx rs (rMK_d (m := .get2) h), ty_dict ok hx⟩
    | _ => cases e
  all_goals (cases p <;> cases e)
theorem mOk_of {m : Mth} {p : PyData} {ps : List PyData} {t : T} (e : mthD m p ps = some t) : mOk m p = true := by
  cases m <;> simp only [mthD, reduceCtorEq] at e
  case index => cases p <;> first | rfl | (unfold idxM at e; split at e <;> simp at e)
  case count => cases p <;> first | rfl | (unfold cntM at e; split at e <;> simp at e)
  case get1 => cases p <;> first | rfl | (simp [getM] at e)
  case get2 => cases p <;> first | rfl | (simp [getM] at e)
/-- a method of one argument, pure -/
theorem p_mth (ok : Ok0 G X) {eo ee : Expr} {m : Mth} {apos cpos : Pos} {io ie : IE} (hp : PE X (.Call (.Attribute eo (mN m) apos) [ee] [] cpos) (tMG X (mN m) (tPurF G gd io) (tCons (tPur G gd ie) tNil))) :
    PE X (.Call (.Attribute eo (mN m) apos) [ee] [] cpos) (tPur G gd (.mth m io (.cons ie .nil))) :=
  PE.imp hp fun σ H Q ⟨O, δ, x, V, e, q⟩ => by
    simp only [pur] at e
    split at e
    · rename_i y e1
      split at e
      · rename_i z e2
        split at e
        · rename_i t e3
          cases e
          refine ⟨O, δ, y, V, e1, fun v H1 s1 r1 => ?_⟩
          obtain ⟨T, id, h1, h2, h3, h4, h5⟩ := mth_mt ok r1 (mOk_of e3)
          refine ⟨T, id, _, h1, h2, h3, h4, h5, O, δ, z, V.same s1, e2, fun w H3 s3 r3 => ?_⟩
          exact ⟨O, y, [z], _, rfl, r1.same s3, .cons (.st r3) .nil, e3, fun u H4 s4 res => q u H4 ((s1.trans s3).trans s4) res.rep⟩
        · cases e
      · cases e
    · cases e
/-- a method by operands -/
theorem s_mth (ok : Ok0 G X) {C : Cf} {e : Expr} {m : Mth} {io : IE} {es : IEs} {ro : List T → R T} {rs : List T → R (List T)} {ra : List T → R (List A)} (hm : isMut m = false) (hp : PE X e (tMG X (mN m) (t1 G W elA (opd io ro)) (tL G W elA ra))) :
    PE X e (t1 G W elT (mMth C m io ro es rs ra)) := PE.imp hp fun σ H Q ⟨δ, gv, gt, A, q⟩ => by
  unfold mMth at q
  rw [hm] at q
  simp only [Bool.false_eq_true, if_false] at q
  refine ⟨δ, gv, gt, A, (b1_in (E := elA) q).mono fun v H1 z => ?_⟩
  obtain ⟨a, δ1, A1, oa, z⟩ := z
  cases e1 : rsv δ1 a with
  | none => simp only [e1] at z; exact z.elim
  | some p0 =>
    simp only [e1] at z
    obtain ⟨O, nd, R, fx⟩ := one_in A1 oa e1
    split at z
    case isFalse => exact z.elim
    rename_i hmo
    obtain ⟨T, id, h1, h2, h3, h4, h5⟩ := mth_mt ok fx hmo
    refine ⟨T, id, _, h1, h2, h3, h4, h5, δ1, _, _, A1, ?_⟩
    unfold bind1 at z
    cases e2 : ra δ1 with
    | no => rw [e2] at z; exact z.elim
    | exn x δ2 => rw [e2] at z; exact exn1 z
    | ok as δ2 =>
      simp only [e2] at z
      intro vs H2 A2 oks
      cases e3 : rsv δ2 a with
      | none => simp only [e3] at z; exact z.elim
      | some p =>
        simp only [e3] at z
        split at z
        case isFalse => exact z.elim
        rename_i hk
        cases e4 : rsvs δ2 as with
        | none => simp only [e4] at z; exact z.elim
        | some ps =>
          simp only [e4] at z
          cases e5 : mthD m p ps with
          | none => simp only [e5, fromO] at z; exact z.elim
          | some t =>
            simp only [e5, fromO] at z
            have A3 : At G σ H2 δ2 (vs ++ (v :: gv)) (as.map elA.t ++ (elA.t a :: gt)) := A2
            have A4 := A3.turn (by simp [oks.length])
            obtain ⟨O2, nd2, R2, fs⟩ := rsvs_ok (vs := v :: vs) (as := a :: as) (ps := p :: ps) A4 (.cons oa oks) (by simp [rsvs, e3, e4])
            cases fs with
            | cons f1 f2 =>
              refine ⟨O2, p, ps, t, by simpa using hk, f1, f2, e5, fun u H3 s res => z u H3 ?_ trivial⟩
              exact A4.pushL (by simp [oks.length]) nd2 R2 s res
end
end Ev
set_option Elab.async false
set_option linter.all false
set_option maxRecDepth 100000
set_option maxHeartbeats 4000000
set_option autoImplicit false
/-! Snd17: places of own things: read; subscripts; comparisons. -/
namespace Ev
open PySem PySem.W PySem.Spec L2
open PyProof.Rows hiding St

section
variable {G : Gd} {W : WX} {X : Cx} {α β γ : Type} {gd : List PyData}
/-- a place -/
def tPlc (G : Gd) (gd : List PyData) (e : IE) : TE := fun σ H Q => ∃ δ ws us gv gt i p u, At G σ H δ (ws ++ gv) (us ++ gt) ∧ ws.length = us.length ∧ plc gd δ e = some (i, p) ∧ getS δ i p = some u ∧ u ≠ .un ∧
  ∀ v H', Same H H' → FocP G σ H' δ ws us gv gt i p u v → Q v H'
theorem q_v {x : Str} {pos : Pos} {i : Nat} (h : PE X (.Name x pos) (tVar i)) : PE X (.Name x pos) (tPlc G gd (.v i)) := PE.imp h fun σ H Q ⟨δ, ws, us, gv, gt, j, p, u, A, l, e, hg, n, q⟩ => by
  cases e
  have e1 : nth δ i = some u := by
    unfold getS at hg
    cases e2 : nth δ i with
    | none => simp [e2] at hg
    | some t => simp [e2, getP] at hg; rw [hg]
  obtain ⟨v, hv, F⟩ := A.focP l e1 n
  exact ⟨v, hv, q v H (Same.refl _) F⟩
theorem q_no {e : Expr} {ie : IE} (hm : ∀ δ, plc gd δ ie = none) : PE X e (tPlc G gd ie) := ⟨fun pins s σ H Q I ⟨δ, ws, us, gv, gt, j, p, u, A, l, e, _⟩ => by
  rw [hm] at e
  cases e⟩
theorem chi_un {u : T} {k : PyData} {n : Nat} (h : chi u k = some n) : u ≠ .un := by
  rintro rfl
  simp [chi] at h
theorem q_idx (ok : Ok0 G X) {ea ei : Expr} {pos : Pos} {ia ii : IE} (ha : PE X ea (tPlc G gd ia)) (hi : PE X ei (tPur G gd ii)) (hs : PlainIx ei) : PE X (.Subscript ea ei pos) (tPlc G gd (.idx ia ii)) :=
  PE.imp (pe_ix (ix_ch ok) ha hi hs) fun σ H Q ⟨δ, ws, us, gv, gt, j, p, u, A, l, e, hg, n, q⟩ => by
    simp only [plc] at e
    split at e
    · rename_i i0 p0 e1
      split at e
      · rename_i k e2
        cases e
        obtain ⟨u0, m, g1, g2, g3⟩ := getS_snoc hg
        refine ⟨δ, ws, us, gv, gt, _, _, u0, A, l, e1, g1, chi_un g2, fun v H1 s1 F => ?_⟩
        obtain ⟨O, V, step⟩ := F.step g2 g3
        refine ⟨O, δ, k, V, e2, fun y H2 s2 ry => ?_⟩
        obtain ⟨w, cv, F2⟩ := step H2 s2
        exact ⟨O, k, w, .st ry, cv, q w H2 (s1.trans s2) F2⟩
      · cases e
    · cases e
/-- a place's value on top of what is held -/
theorem FocP.pushD {σ : St} {H : Hp} {δ : List T} {gv : List V} {gt : List T} {i : Nat} {p : List PyData} {x : PyData} {v : V} (F : FocP G σ H δ [] [] gv gt i p (.d x) v) : At G σ H δ (v :: gv) (.d x :: gt) := by
  obtain ⟨ft, l, g, r, h⟩ := F.hole
  have A : At G σ H δ gv gt := F.at
  obtain ⟨nd, r1, r2, th, kk⟩ := h
  have R := kk H (l ++ (g ++ r)) (.d x) g (.less fun a ha => List.mem_append_right _ ha) (fun _ _ => rfl) (r2.up (.less fun a ha => List.mem_append_right _ ha) fun _ _ => rfl)
  rw [setS_same F.getS] at R
  have nd2 : (l ++ (g ++ r)).Nodup := (List.nodup_append.mp nd).2.1
  have r3 := r2.up (H' := H) (O' := l ++ (g ++ r)) (.less fun a ha => List.mem_append_right _ ha) fun _ _ => rfl
  cases r3 with
  | d r3 => exact A.push nd2 R (Same.refl _) (.d r3)
theorem FocP.pushFn {σ : St} {H : Hp} {δ : List T} {gv : List V} {gt : List T} {i : Nat} {p : List PyData} {f : Nat} {v : V} (F : FocP G σ H δ [] [] gv gt i p (.fn f) v) : At G σ H δ (v :: gv) (.fn f :: gt) := by
  obtain ⟨ft, l, g, r, h⟩ := F.hole
  have A : At G σ H δ gv gt := F.at
  obtain ⟨nd, r1, r2, th, kk⟩ := h
  obtain ⟨O, nd2, R⟩ := A.hold
  cases r2 with
  | fn hf => exact A.push nd2 R (Same.refl _) ⟨[], .nil, (fun _ z => nomatch z), .fn hf⟩
/-- a place's own thing let go, and read -/
theorem FocP.leak {σ : St} {H : Hp} {δ : List T} {gv : List V} {gt : List T} {i : Nat} {p : List PyData} {u : T} {x : PyData} {v : V} (F : FocP G σ H δ [] [] gv gt i p u v) (e : u.data = some x) : At G σ H (setS δ i p (.d x)) (v :: gv) (.d x :: gt) := by
  obtain ⟨ft, l, g, r, nd, r1, r2, th, kk⟩ := F.hole
  have nd2 : (l ++ (g ++ r)).Nodup := (List.nodup_append.mp nd).2.1
  have nd3 := nodup_less nd2
  have rx : Rep G H (l ++ ([] ++ r)) v x := r2.data (fun a ha => List.mem_append_right _ (less_mem ha)) (fun a ha => less_nin nd2 ha) e
  have R := kk H (l ++ ([] ++ r)) (.d x) [] (.less fun a ha => List.mem_append_right _ (less_mem ha)) (fun _ _ => rfl) (.d rx)
  obtain ⟨t, v0, _, _, _, hv⟩ := F.root
  have A : At G σ H (setS δ i p (.d x)) gv gt := ⟨F.env.setS hv, F.len, _, nd3, R⟩
  exact A.push nd3 R (Same.refl _) (.d rx)
theorem kid_in {δ : List T} {a i : IE} {s : Nat} {p : List PyData} {u : T} (h : kidAt gd δ a i = some (s, p, u)) : plc gd δ (.idx a i) = some (s, p) ∧ getS δ s p = some u := by
  unfold kidAt at h
  cases e1 : plc gd δ a with
  | none => simp [e1] at h
  | some sp =>
    obtain ⟨s0, p0⟩ := sp
    simp only [e1] at h
    cases e2 : getS δ s0 p0 with
    | none => simp [e2] at h
    | some t =>
      simp only [e2] at h
      split at h
      · cases e3 : pur gd δ i with
        | none => simp [e3] at h
        | some k =>
          simp only [e3] at h
          cases e4 : getP t [k] with
          | none => simp [e4] at h
          | some u' =>
            simp only [e4, Option.some.injEq, Prod.mk.injEq] at h
            obtain ⟨rfl, rfl, rfl⟩ := h
            refine ⟨by simp [plc, e1, e3], ?_⟩
            unfold getS at e2 ⊢
            cases e5 : nth δ s0 with
            | none => simp [e5] at e2
            | some t0 =>
              simp only [e5] at e2 ⊢
              rw [getP_snoc, e2]
              exact e4
      · cases h
/-- a[i] -/
theorem s_idx (ok : Ok0 G X) {C : Cf} {ea ei : Expr} {pos : Pos} {ia ii : IE} {ra ri : List T → R T} (hs : PlainIx ei) (ha : PE X ea (t1 G W elA (opd ia ra))) (hi : PE X ei (t1 G W elA (opd ii ri))) (hk : PE X (.Subscript ea ei pos) (tPlc G C.gd (.idx ia ii))) :
    PE X (.Subscript ea ei pos) (t1 G W elT (mIdx C ia ra ii ri)) := by
  have main : PE X (.Subscript ea ei pos) (t1 G W elT (bind2 (opd ia ra) (opd ii ri) fun x y δ => two δ x y fun p q => match idxD p q with | some z => .ok (.d z) δ | none => .no)) := by
    refine s_two (pe_ix (ixr ok) ha hi hs) (ea := ea) (eb := ei) fun σ H gv gt a b x y δ Q A ob oa q => ?_
    obtain ⟨O, p, r, nd, R, fp, fq, _, _, q⟩ := two_in A ob oa q
    cases e : idxD p r with
    | none => simp only [e] at q; exact q.elim
    | some z =>
      simp only [e] at q
      exact ⟨O, p, r, z, fp, fq, e, fun v rv => q v H (A.res2 nd R (Same.refl _) (.d rv)) trivial⟩
  refine ⟨fun pins s σ H Q I h => ?_⟩
  obtain ⟨δ, gv, gt, A, q⟩ := h
  unfold mIdx at q
  cases e : kidAt C.gd δ ia ii with
  | none =>
    simp only [e] at q
    exact main.run pins s σ H Q I ⟨δ, gv, gt, A, q⟩
  | some spu =>
    obtain ⟨s1, p, u⟩ := spu
    simp only [e] at q
    obtain ⟨e1, e2⟩ := kid_in e
    have run : (∀ v H', Same H H' → FocP G σ H' δ [] [] gv gt s1 p u v → Q v H') → u ≠ .un → wpAny (model X.prog X.w) X.A (eval (.Subscript ea ei pos) X.env) (EP X pins σ Q) X.xe s := fun k n =>
      hk.run pins s σ H Q I ⟨δ, [], [], gv, gt, s1, p, u, A, rfl, e1, e2, n, k⟩
    split at q
    · exact run (fun v H' _ F => q v H' F.pushD trivial) (by simp)
    · exact run (fun v H' _ F => q v H' F.pushFn trivial) (by simp)
    · split at q
      · rename_i x ex
        exact run (fun v H' _ F => q v H' (F.leak ex) trivial) (by rintro rfl; simp [T.data] at ex)
      · exact q.elim
/-- a comparison, also of an own thing's own child -/
theorem cmp_peek (ok : Ok0 G X) {C : Cf} {ea eb : Expr} {o : CmpOp} {op : Cop} {ia ib : IE} {σ : St} {H : Hp} {δ : List T} {gv : List V} {gt : List T} {p r : PyData} {Q : VK} (A : At G σ H δ gv gt) (h : peek C.gd δ ia ib = some (p, r))
    (q : post1 G W elT σ gv gt (bl (cmpD op p r) δ) Q) : tOp (rB2 G (cmpD op)) (tPlc G C.gd ia) (tPur G C.gd ib) σ H Q := by
  unfold peek at h
  split at h
  · rename_i o' i'
    split at h
    · rename_i s1 p1 ts e1
      split at h
      · rename_i p' e2
        split at h
        · rename_i q' e3
          cases h
          obtain ⟨e4, e5⟩ := kid_in e1
          obtain ⟨c, ec, q⟩ := bl_in (H := H) q
          refine ⟨δ, [], [], gv, gt, s1, p1, _, A, rfl, e4, e5, by simp, fun v H1 s F => ?_⟩
          obtain ⟨ft, l, g, r', hole⟩ := F.hole
          have R := hole.2.2.2.2 H1 (ft ++ (l ++ (g ++ r'))) _ g (.less fun a h => h) (fun _ _ => rfl) hole.2.2.1
          rw [setS_same F.getS] at R
          refine ⟨ft ++ (l ++ (g ++ r')), δ, r, view_of F.env F.len R hole.2.2.2.1, e3, fun w H2 s2 rw => ?_⟩
          have rf : RepF G H2 (ft ++ (l ++ (g ++ r'))) v p := ((hole.same s2).2.2.1).fd e2
          exact ⟨_, p, r, c, rf, .st rw, ec, q _ H2 (((F.same s2).at).pushD fun O _ _ => .bl) trivial⟩
        · cases h
      · cases h
    · cases h
  · cases h
theorem s_cmp (ok : Ok0 G X) {C : Cf} {ea eb : Expr} {o : CmpOp} {pos : Pos} {op : Cop} {ia ib : IE} {ra rb : List T → R T} (ho : OpR X (compareOp o) (rB2 G (cmpD op))) (hm : behindInMarks o eb = false) (ha : PE X ea (t1 G W elA (opd ia ra))) (hb : PE X eb (t1 G W elA (opd ib rb)))
    (pa : PE X ea (tPlc G C.gd ia)) (pb : PE X eb (tPur G C.gd ib)) : PE X (.Compare ea [o] [eb] pos) (t1 G W elT (mCmp C op ia ra ib rb)) := by
  have h1 := s_cmp0 (W := W) (pos := pos) ho hm ha hb
  have h2 := pe_cmpR (pos := pos) ho pa pb hm
  refine ⟨fun pins s σ H Q I h => ?_⟩
  obtain ⟨δ, gv, gt, A, q⟩ := h
  unfold mCmp at q
  cases e : peek C.gd δ ia ib with
  | none =>
    simp only [e] at q
    exact h1.run pins s σ H Q I ⟨δ, gv, gt, A, q⟩
  | some pr =>
    obtain ⟨p, r⟩ := pr
    simp only [e] at q
    exact h2.run pins s σ H Q I (cmp_peek ok (ea := ea) (eb := eb) (o := o) A e q)
theorem t_cmp (ok : Ok0 G X) {C : Cf} {ea eb : Expr} {o : CmpOp} {pos : Pos} {op : Cop} {ia ib : IE} {ra rb : List T → R T} (ho : OpR X (compareOp o) (rB2 G (cmpD op))) (hm : behindInMarks o eb = false) (ha : PE X ea (t1 G W elA (opd ia ra))) (hb : PE X eb (t1 G W elA (opd ib rb)))
    (pa : PE X ea (tPlc G C.gd ia)) (pb : PE X eb (tPur G C.gd ib)) : PT X (.Compare ea [o] [eb] pos) (tT G W (mCmp C op ia ra ib rb)) := by
  have h1 := t_cmp0 (W := W) (pos := pos) ho hm ha hb
  have h2 := pt_cmpR (pos := pos) ho pa pb hm
  refine ⟨fun pins s σ H Q I h => ?_⟩
  obtain ⟨δ, gv, gt, A, q⟩ := h
  unfold mCmp at q
  cases e : peek C.gd δ ia ib with
  | none =>
    simp only [e] at q
    exact h1.run pins s σ H Q I ⟨δ, gv, gt, A, q⟩
  | some pr =>
    obtain ⟨p, r⟩ := pr
    simp only [e] at q
    exact h2.run pins s σ H Q I (cmp_peek ok (ea := ea) (eb := eb) (o := o) A e q)
end
end Ev
set_option Elab.async false
set_option linter.all false
set_option maxRecDepth 100000
set_option maxHeartbeats 4000000
set_option autoImplicit false
/-! Snd18: own things changed. -/
namespace Ev
open PySem PySem.W PySem.Spec L2
open PyProof.Rows hiding St

section
variable {G : Gd} {W : WX} {X : Cx} {σ : St} {H H' : Hp} {δ : List T} {ws gv rs : List V} {us gt rt : List T} {i : Nat} {p : List PyData} {u u' : T} {v : V}
theorem Up.mut {O O' : List Addr} {a : Addr} {o : HO} (ha : a ∈ O) (nf : ∀ ob u, H a ≠ some (.frz ob u)) (h : ∀ b, b ∈ O' → b ∈ O) : Up O H O' (upd H a o) :=
  ⟨fun b vs n e => by rw [upd_ne (fun z : b = a => n (by rw [z]; exact ha))]; exact e, fun b w n e => by
      have hb : b ≠ a := fun z => n (by rw [z]; exact ha)
      rcases e with e | ⟨ob, e⟩
      · exact .inl (by rw [upd_ne hb]; exact e)
      · exact .inr ⟨ob, by rw [upd_ne hb]; exact e⟩,
    fun b ob w e => by rw [upd_ne (fun z : b = a => nf ob w (by rw [← z]; exact e))]; exact e, fun b hb => .inl (h b hb)⟩
/-- an own thing changed: its children and what is held are shuffled -/
theorem FocP.mut (F : FocP G σ H δ ws us gv gt i p u v) (lr : rs.length = rt.length) (k : ∀ O g ft, RepT G H O v u g → RepTs G H O ws us ft → ∃ a fp o', v = .ref a ∧ g = a :: fp ∧ (∀ ob w, H a ≠ some (.frz ob w)) ∧ H' = upd H a o' ∧
      ∃ fp' f' rest, (f' ++ (fp' ++ rest)).Perm (ft ++ fp) ∧ RepTs G H O rs rt f' ∧ ∀ H2 O2, H2 a = some o' → Up O H O2 H2 → (∀ b ∈ fp', H2 b = H b) → RepT G H2 O2 v u' (a :: fp')) : At G σ H' (setS δ i p u') (rs ++ gv) (rt ++ gt) := by
  obtain ⟨ft, l, g, r, nd, r1, r2, th, kk⟩ := F.hole
  obtain ⟨a, fp, o', rfl, rfl, nf, rfl, fp', f', rest, pm, q1, q2⟩ := k _ g ft r2 r1
  obtain ⟨t0, v0, _, _, _, hv⟩ := F.root
  have pm2 : ((f' ++ (l ++ ((a :: fp') ++ r))) ++ rest).Perm (ft ++ (l ++ ((a :: fp) ++ r))) := by
    rw [List.perm_iff_count] at pm ⊢
    intro b
    have := pm b
    simp only [List.count_append, List.count_cons] at this ⊢
    omega
  have nd2 : (f' ++ (l ++ ((a :: fp') ++ r))).Nodup := (List.nodup_append.mp (pm2.nodup_iff.mpr nd)).1
  have sub : ∀ b, b ∈ f' ++ (l ++ ((a :: fp') ++ r)) → b ∈ ft ++ (l ++ ((a :: fp) ++ r)) := fun b hb => pm2.mem_iff.mp (List.mem_append_left _ hb)
  have ha : a ∈ ft ++ (l ++ ((a :: fp) ++ r)) := by simp
  have U : Up (ft ++ (l ++ ((a :: fp) ++ r))) H (f' ++ (l ++ ((a :: fp') ++ r))) (upd H a o') := .mut ha nf sub
  have ne : ∀ b, b ∈ l ++ r → b ≠ a := fun b hb z => by
    subst z
    have nd3 := (List.nodup_append.mp nd).2.1
    rw [List.mem_append] at hb
    rcases hb with hb | hb
    · exact (List.nodup_append.mp nd3).2.2 _ hb _ (by simp) rfl
    · have nd4 := (List.nodup_append.mp nd3).2.1
      exact (List.nodup_append.mp nd4).2.2 _ (List.mem_cons_self) _ hb rfl
  have nef : ∀ b, b ∈ f' ++ fp' → b ≠ a := fun b hb z => by
    subst z
    have : b ∈ ft ++ fp := pm.mem_iff.mp (by simp only [List.mem_append] at hb ⊢; rcases hb with h | h <;> simp [h])
    rw [List.mem_append] at this
    rcases this with h | h
    · exact (List.nodup_append.mp nd).2.2 _ h _ (by simp) rfl
    · have nd3 := (List.nodup_append.mp nd).2.1
      have nd4 := (List.nodup_append.mp nd3).2.1
      have nd5 := (List.nodup_append.mp nd4).1
      exact (List.nodup_cons.mp nd5).1 h
  have R := kk (upd H a o') (f' ++ (l ++ ((a :: fp') ++ r))) u' (a :: fp') U (fun b hb => upd_ne (ne b hb)) (q2 _ _ upd_same U fun b hb => upd_ne (nef b (List.mem_append_right _ hb)))
  refine ⟨F.env.setS hv, by simp [F.len, lr], _, nd2, ?_⟩
  rw [List.append_assoc, List.append_assoc]
  exact (q1.up U fun b hb => upd_ne (nef b (List.mem_append_left _ hb))).append R
theorem RepTs.snoc {O : List Addr} {vs : List V} {ts : List T} {f g : List Addr} {w : V} {t : T} (h : RepTs G H O vs ts f) (r : RepTs G H O [w] [t] g) : RepTs G H O (vs ++ [w]) (ts ++ [t]) (f ++ g) := h.append r
theorem app_mut {a : Addr} {vs : List V} {w : V} {ts : List T} {t : T} (F : FocP G σ H δ [w] [t] gv gt i p (.lst ts) (.ref a)) (ha : H a = some (.lst vs)) : At G σ (upd H a (.lst (vs ++ [w]))) (setS δ i p (.lst (ts ++ [t]))) gv gt := by
  refine F.mut (rs := []) (rt := []) rfl fun O g ft r2 r1 => ?_
  cases r2 with
  | lst h rr =>
    rename_i vs' fp
    rw [ha] at h
    cases h
    refine ⟨a, fp, _, rfl, rfl, fun ob w z => (by rw [ha] at z; cases z), rfl, fp ++ ft, [], [], ?_, .nil, fun H2 O2 h2 U k2 => ?_⟩
    · simp only [List.nil_append, List.append_nil]
      exact List.perm_append_comm
    · exact .lst h2 ((rr.up U fun b hb => k2 b (List.mem_append_left _ hb)).append (r1.up U fun b hb => k2 b (List.mem_append_right _ hb)))
/-- the list at a place -/
theorem FocP.isLst {ts : List T} (F : FocP G σ H δ ws us gv gt i p (.lst ts) v) : ∃ a vs, v = .ref a ∧ H a = some (.lst vs) ∧ vs.length = ts.length := by
  obtain ⟨ft, l, g, r, nd, r1, r2, th, kk⟩ := F.hole
  cases r2 with
  | lst h rr => exact ⟨_, _, rfl, h, rr.length⟩
theorem getLast_split {α : Type} {xs : List α} {x : α} (h : nth xs (xs.length - 1) = some x) : xs = xs.dropLast ++ [x] := by
  rw [nth_eq] at h
  have hne : xs ≠ [] := by rintro rfl; simp at h
  have := List.dropLast_concat_getLast hne
  have e : xs.getLast hne = x := by
    rw [List.getLast_eq_getElem]
    obtain ⟨h1, h2⟩ := List.getElem?_eq_some_iff.mp h
    exact h2
  rw [e] at this
  exact this.symm
theorem pop_mut {a : Addr} {vs : List V} {ts : List T} {t : T} (F : FocP G σ H δ [] [] gv gt i p (.lst ts) (.ref a)) (ha : H a = some (.lst vs)) (hl : nth ts (ts.length - 1) = some t) :
    ∃ w, vs[vs.length - 1]? = some w ∧ At G σ (upd H a (.lst vs.dropLast)) (setS δ i p (.lst ts.dropLast)) (w :: gv) (t :: gt) := by
  have hts := getLast_split hl
  obtain ⟨a', vs', e1, e2, e3⟩ := F.isLst
  cases e1
  rw [ha] at e2
  cases e2
  have hlt := nth_lt hl
  have hvne : vs ≠ [] := by rintro rfl; simp at e3; omega
  have hvs : vs = vs.dropLast ++ [vs.getLast hvne] := (List.dropLast_concat_getLast hvne).symm
  refine ⟨vs.getLast hvne, ?_, ?_⟩
  · rw [List.getLast_eq_getElem]
    exact List.getElem?_eq_getElem (by omega)
  · refine F.mut (rs := [vs.getLast hvne]) (rt := [t]) rfl fun O g ft r2 r1 => ?_
    cases r1
    cases r2 with
    | lst h rr =>
      rename_i vs' fp
      rw [ha] at h
      cases h
      rw [hvs, hts] at rr
      obtain ⟨f1, f2, e, q1, q2⟩ := rr.splitV (by simp; omega)
      refine ⟨a, fp, _, rfl, rfl, fun ob w z => (by rw [ha] at z; cases z), rfl, f1, f2, [], ?_, q2, fun H2 O2 h2 U k2 => .lst h2 (q1.up U k2)⟩
      rw [e]
      simp only [List.append_nil, List.nil_append]
      exact List.perm_append_comm
theorem erase_split {α : Type} : ∀ {xs ys : List α} {x : α} {n : Nat}, xs.length = n → (xs ++ x :: ys).eraseIdx n = xs ++ ys
  | [], _, _, _, rfl => rfl
  | x :: xs, ys, y, _, rfl => by
    show x :: (xs ++ y :: ys).eraseIdx xs.length = _
    rw [erase_split rfl]
    rfl
theorem popAt_mut {a : Addr} {vs : List V} {ts : List T} {t : T} {n : Nat} {d : V} {dd : PyData} (F : FocP G σ H δ [d] [.d dd] gv gt i p (.lst ts) (.ref a)) (ha : H a = some (.lst vs)) (hn : nth ts n = some t) :
    ∃ w, vs[n]? = some w ∧ At G σ (upd H a (.lst (vs.eraseIdx n))) (setS δ i p (.lst (ts.eraseIdx n))) (w :: gv) (t :: gt) := by
  have hlt := nth_lt hn
  obtain ⟨a', vs', e1, e2, e3⟩ := F.isLst
  cases e1
  rw [ha] at e2
  cases e2
  refine ⟨vs[n]'(by omega), by simp, ?_⟩
  refine F.mut (rs := [vs[n]'(by omega)]) (rt := [t]) rfl fun O g ft r2 r1 => ?_
  cases r2 with
  | lst h rr =>
    rename_i vs' fp
    rw [ha] at h
    cases h
    obtain ⟨vl, w, vr, tl, tr, l, g, r, e1, e2, e3, n1, n2, h1, h2, h3⟩ := rr.pick hn
    have hw : vs[n]'(by omega) = w := by
      have : vs[n]? = some w := by rw [e1, ← n1]; simp
      rw [List.getElem?_eq_getElem (by omega)] at this
      exact Option.some.inj this
    have hft : ft = [] := by
      cases r1 with
      | cons p1 p2 =>
        cases p2
        cases p1
        rfl
    subst hft
    refine ⟨a, fp, _, rfl, rfl, fun ob w z => (by rw [ha] at z; cases z), rfl, l ++ r, g, [], ?_, by rw [hw]; simpa using RepTs.cons h2 .nil, fun H2 O2 h2' U k2 => ?_⟩
    · rw [e3]
      rw [List.perm_iff_count]
      intro b
      simp only [List.count_append, List.count_nil]
      omega
    · rw [e2, erase_split n2]
      rw [e1, erase_split n1] at h2'
      exact .lst h2' ((h1.up U fun b hb => k2 b (List.mem_append_left _ hb)).append (h3.up U fun b hb => k2 b (List.mem_append_right _ hb)))
end
end Ev
set_option Elab.async false
set_option linter.all false
set_option maxRecDepth 100000
set_option maxHeartbeats 4000000
set_option autoImplicit false
/-! Snd19: calls of the law's own defs. -/
namespace Ev
open PySem PySem.W PySem.Spec L2
open PyProof.Rows hiding St

section
variable {G : Gd} {W : WX} {X : Cx} {σ : St} {H H' : Hp} {δ δ' : List T} {gv : List V} {gt : List T}
theorem At.swap {a b : List V} {a' b' : List T} (h : At G σ H δ (a ++ (b ++ gv)) (a' ++ (b' ++ gt))) (la : a.length = a'.length) (lb : b.length = b'.length) : At G σ H δ (b ++ (a ++ gv)) (b' ++ (a' ++ gt)) := by
  refine ⟨h.env, by have := h.len; simp at this ⊢; omega, ?_⟩
  have q := h.hold
  have e1 : a ++ (b ++ gv) ++ sv σ = [] ++ a ++ b ++ (gv ++ sv σ) := by simp
  have e2 : a' ++ (b' ++ gt) ++ δ = [] ++ a' ++ b' ++ (gt ++ δ) := by simp
  rw [e1, e2] at q
  have := Hold.perm q rfl la lb
  simpa using this
theorem prepA_ok {lent : Bool} {a : A} {v : V} {t : T} (h : At G σ H δ (v :: gv) (elA.t a :: gt)) (oa : elA.ok σ a v) (e : prepA lent a δ = some (t, δ')) : At G σ H δ' (v :: gv) (t :: gt) := by
  cases a with
  | val u =>
    have h : At G σ H δ (v :: gv) (u :: gt) := h
    simp only [prepA] at e
    cases e1 : prepV lent u with
    | none => simp [e1] at e
    | some w =>
      simp only [e1, Option.some.injEq, Prod.mk.injEq] at e
      obtain ⟨rfl, rfl⟩ := e
      cases lent with
      | true => cases e1; exact h
      | false =>
        simp only [prepV] at e1
        split at e1
        · cases e1; exact h
        · cases e1; exact h
        · cases e1; exact h
        · split at e1
          · rename_i x ex
            cases e1
            exact h.leakTop ex
          · cases e1
  | sl i =>
    have h1 : At G σ H δ gv gt := h.drop1
    simp only [prepA] at e
    cases e1 : nth δ i with
    | none => simp [e1] at e
    | some u =>
      simp only [e1] at e
      cases lent with
      | true =>
        have hu : u ≠ .un := by rintro rfl; simp at e
        have e2 : t = u ∧ δ' = put δ i .un := by
          cases u <;> simp at e <;> first | exact absurd rfl hu | exact ⟨e.1.symm, e.2.symm⟩
        obtain ⟨rfl, rfl⟩ := e2
        obtain ⟨w, hw, q⟩ := h1.take e1 hu
        have ow : σ[i]? = some (some v) := oa
        rw [hw] at ow
        cases ow
        exact q
      | false =>
        simp only at e
        cases e2 : u.data with
        | none => simp [e2] at e
        | some x =>
          simp only [e2, Option.some.injEq, Prod.mk.injEq] at e
          obtain ⟨rfl, rfl⟩ := e
          obtain ⟨w, hw, q⟩ := h1.leak e1 e2
          have ow : σ[i]? = some (some v) := oa
          rw [hw] at ow
          cases ow
          exact q
theorem prep_ok : ∀ {as : List A} {vs : List V} {fl : List Bool} {ts : List T} {δ δ' : List T} {gv : List V} {gt : List T}, At G σ H δ (vs ++ gv) (as.map elA.t ++ gt) → Oks elA σ as vs → prep δ as fl = some (ts, δ') → At G σ H δ' (vs ++ gv) (ts ++ gt) ∧ ts.length = as.length
  | [], _, fl, ts, δ, δ', gv, gt, h, os0, e => by
    cases os0
    simp only [prep, Option.some.injEq, Prod.mk.injEq] at e
    obtain ⟨rfl, rfl⟩ := e
    exact ⟨h, rfl⟩
  | a :: as, [], fl, ts, δ, δ', gv, gt, h, os0, e => nomatch os0
  | a :: as, v :: vs, fl, ts, δ, δ', gv, gt, h, os0, e => by
    have o : elA.ok σ a v := by cases os0; assumption
    have os : Oks elA σ as vs := by cases os0; assumption
    unfold prep at e
    cases e1 : prepA (hd1 fl) a δ with
    | none => simp [e1] at e
    | some q =>
      obtain ⟨u, δ1⟩ := q
      simp only [e1] at e
      cases e2 : prep δ1 as fl.tail with
      | none => simp [e2] at e
      | some q =>
        obtain ⟨us, δ2⟩ := q
        simp only [e2, Option.some.injEq, Prod.mk.injEq] at e
        obtain ⟨rfl, rfl⟩ := e
        have h1 : At G σ H δ1 (v :: (vs ++ gv)) (u :: (as.map elA.t ++ gt)) := prepA_ok h o e1
        have h2 := At.turn' (v := v) (t := u) (vs := vs) (ts := as.map elA.t) h1 (by simp [os.length])
        obtain ⟨h3, l⟩ := prep_ok (gv := v :: gv) (gt := u :: gt) h2 os e2
        exact ⟨h3.turn (by rw [l]; exact os.length.symm), by simp [l]⟩
theorem set_same {i : Nat} {v : V} (h : σ[i]? = some (some v)) : σ.set i (some v) = σ := by
  apply List.ext_getElem?
  intro j
  rw [List.getElem?_set]
  split
  · rename_i hj; subst hj
    split
    · exact h.symm
    · rename_i hl
      rw [List.getElem?_eq_none (by omega)]
  · rfl
theorem back_ok : ∀ {as : List A} {vs : List V} {fl : List Bool} {us : List T} {δ : List T} {gv : List V} {gt : List T}, At G σ H δ (vs ++ gv) (us ++ gt) → Oks elA σ as vs → us.length = as.length → At G σ H (back δ as fl us) gv gt
  | [], _, fl, [], δ, gv, gt, h, os0, _ => by
    cases os0
    simpa [back] using h
  | [], _, fl, _ :: _, δ, gv, gt, h, _, l => by simp at l
  | a :: as, _, fl, [], δ, gv, gt, h, _, l => by simp at l
  | a :: as, [], fl, u :: us, δ, gv, gt, h, os0, l => nomatch os0
  | a :: as, v :: vs, fl, u :: us, δ, gv, gt, h, os0, l => by
    have o : elA.ok σ a v := by cases os0; assumption
    have os : Oks elA σ as vs := by cases os0; assumption
    have h : At G σ H δ (v :: (vs ++ gv)) (u :: (us ++ gt)) := h
    unfold back
    refine back_ok (gv := gv) (gt := gt) ?_ os (by simpa using l)
    unfold backA
    cases hd1 fl with
    | false => exact h.drop1
    | true =>
      cases a with
      | val t => exact h.drop1
      | sl i =>
        have hi : σ[i]? = some (some v) := o
        have hl : i < δ.length := by
          have := (List.getElem?_eq_some_iff.mp hi).1
          rw [h.env.len] at this
          exact this
        have := h.store hl
        rw [set_same hi] at this
        exact this
/-- what a def promises: what the evaluator tells of it -/
def spF (G : Gd) (np : Nat) (call : List T → CR) : SpG := fun vs H Q => ∃ ts gv gt, vs.length = np ∧ ts.length = np ∧ gv.length = gt.length ∧ Hold G H (vs ++ gv) (ts ++ gt) ∧ match call ts with
  | .ok t us => ∀ v H', Hold G H' (v :: (vs ++ gv)) (t :: (us ++ gt)) → Q v H'
  | _ => False
/-- the rule of a call, behind its arguments -/
theorem call_in {C : Cf} {f np : Nat} {as bs : List A} {vs zs dvs : List V} {Q : VK} (h : At G σ H δ (vs ++ zs ++ gv) ((as ++ bs).map elA.t ++ gt)) (os : Oks elA σ (as ++ bs) (vs ++ zs)) (hd : ∀ H O, Reps G H O dvs (C.df f (as ++ bs).length)) (hn : (as ++ bs).length + dvs.length = np)
    (q : post1 G W elT σ gv gt (match prep δ (as ++ bs) (C.fl f) with
      | none => .no
      | some (ts, δ) => match C.call f (ts ++ (C.df f (as ++ bs).length).map .d) with
        | .ok t us => .ok t (back δ (as ++ bs) (C.fl f) us)
        | _ => .no) Q) : spF G np (C.call f) (vs ++ zs ++ dvs) H Q := by
  cases e1 : prep δ (as ++ bs) (C.fl f) with
  | none => simp only [e1] at q; exact q.elim
  | some td =>
    obtain ⟨ts, δ1⟩ := td
    simp only [e1] at q
    obtain ⟨h1, l1⟩ := prep_ok h os e1
    have l0 := os.length
    have ld : dvs.length = (C.df f (as ++ bs).length).length := (hd (fun _ => none) []).length
    have h2 : At G σ H δ1 (dvs ++ (vs ++ zs ++ gv)) ((C.df f (as ++ bs).length).map .d ++ (ts ++ gt)) := h1.pushDs fun O _ _ => hd H O
    have h3 := h2.swap (by simp [ld]) (by rw [l1]; exact l0.symm)
    refine ⟨ts ++ (C.df f (as ++ bs).length).map .d, gv ++ sv σ, gt ++ δ1, by simp only [List.length_append] at hn l0 ⊢; omega, by simp only [List.length_append, List.length_map] at hn l1 ld ⊢; omega, ?_, ?_, ?_⟩
    · have := h1.len
      have := h1.env.len
      simp only [List.length_append, sv_len] at *
      omega
    · have := h3.hold
      simpa using this
    · cases e2 : C.call f (ts ++ (C.df f (as ++ bs).length).map .d) with
      | no => simp only [e2] at q; exact q.elim
      | exn x us => simp only [e2] at q; exact q.elim
      | ok t us =>
        simp only [e2] at q ⊢
        intro v H' hh
        have lg : gv.length = gt.length := by
          have := h1.len
          simp only [List.length_append] at this l0 l1
          omega
        have lu : us.length = (vs ++ zs ++ dvs).length := by
          obtain ⟨O, nd, R⟩ := hh
          have := R.length
          have := h1.env.len
          simp only [List.length_append, List.length_cons, sv_len] at *
          omega
        have A5 : At G σ H' δ1 (v :: ((vs ++ zs ++ dvs) ++ gv)) (t :: (us ++ gt)) := ⟨h1.env, by simp only [List.length_append, List.length_cons] at lu lg ⊢; omega, by simpa using hh⟩
        -- the row without the defaults
        have hu : us = us.take (as ++ bs).length ++ us.drop (as ++ bs).length := (List.take_append_drop _ _).symm
        have lt : (us.take (as ++ bs).length).length = (as ++ bs).length := by
          simp only [List.length_take, List.length_append] at lu l0 ⊢
          omega
        have lv : (vs ++ zs).length = (us.take (as ++ bs).length).length := by rw [lt]; exact l0.symm
        have A6 : At G σ H' δ1 ((vs ++ zs) ++ (dvs ++ (v :: gv))) (us.take (as ++ bs).length ++ (us.drop (as ++ bs).length ++ (t :: gt))) := by
          have := At.turn' (v := v) (t := t) (vs := vs ++ zs ++ dvs) (ts := us) A5 lu.symm
          have e1 : us ++ t :: gt = us.take (as ++ bs).length ++ (us.drop (as ++ bs).length ++ (t :: gt)) := by rw [← List.append_assoc, ← hu]
          rw [e1, List.append_assoc] at this
          exact this
        have ldd : dvs.length = (us.drop (as ++ bs).length).length := by
          simp only [List.length_drop, List.length_append] at lu l0 ⊢
          omega
        have A7 : At G σ H' δ1 ((vs ++ zs) ++ (v :: gv)) (us.take (as ++ bs).length ++ (t :: gt)) := by
          have := (A6.swap lv ldd).dropL ldd
          exact this
        have A8 := back_ok (fl := C.fl f) A7 os lt
        have eb : ∀ (as : List Ev.A) (fl : List Bool) (us : List T) (δ : List T), back δ as fl (us.take as.length) = back δ as fl us := by
          intro as
          induction as with
          | nil => intro fl us δ; cases us <;> simp [back]
          | cons a as ih =>
            intro fl us δ
            cases us with
            | nil => simp [back]
            | cons u us => simp only [List.length_cons, List.take_succ_cons, back]; exact ih _ _ _
        rw [eb] at A8
        exact q v H' A8 trivial
theorem call_mono {C : Cf} {f : Nat} {as bs : List A} {Q : VK} : True := trivial
/-- f(a, .., k = b, ..) -/
theorem s_call {C : Cf} {e : Expr} {f np n m : Nat} {dvs : List V} {ra rk : List T → R (List A)} (hp : PE X e (tCallG n m (spF G np (C.call f)) dvs (tL G W elA ra) (tL G W elA rk)))
    (hn : ∀ δ as δ', ra δ = .ok as δ' → as.length = n) (hm : ∀ δ as δ', rk δ = .ok as δ' → as.length = m) (hd : ∀ H O, Reps G H O dvs (C.df f (n + m))) (hnp : n + m + dvs.length = np) : PE X e (t1 G W elT (mCall C f ra rk)) := PE.imp hp fun σ H Q ⟨δ, gv, gt, A, q⟩ => by
  refine ⟨δ, gv, gt, A, ?_⟩
  unfold mCall bind2 at q
  cases e1 : ra δ with
  | no => rw [e1] at q; exact q.elim
  | exn x δ1 => rw [e1] at q; exact q
  | ok as δ1 =>
    simp only [e1] at q
    have ln := hn _ _ _ e1
    intro vs H1 A1 oks
    refine ⟨δ1, _, _, A1, ?_⟩
    cases e2 : rk δ1 with
    | no => simp only [e2] at q; exact q.elim
    | exn x δ2 =>
      simp only [e2] at q
      exact fun c d H2 hx A2 => q c d H2 hx (A2.dropL (by simp [oks.length]))
    | ok bs δ2 =>
      simp only [e2] at q
      have lm := hm _ _ _ e2
      intro zs H2 A2 oks2
      have A3 : At G σ H2 δ2 (vs ++ zs ++ gv) ((as ++ bs).map elA.t ++ gt) := by
        have := A2.swap (by simp [oks2.length]) (by simp [oks.length])
        simpa using this
      have os : Oks elA σ (as ++ bs) (vs ++ zs) := by
        have : ∀ {as : List Ev.A} {vs : List V}, Oks elA σ as vs → Oks elA σ (as ++ bs) (vs ++ zs) := by
          intro as vs h
          induction h with
          | nil => exact oks2
          | cons o _ ih => exact .cons o ih
        exact this oks
      have lab : (as ++ bs).length = n + m := by rw [List.length_append, ln, lm]
      exact ⟨by rw [← oks.length]; exact ln, by rw [← oks2.length]; exact lm, call_in A3 os (by rw [lab]; exact hd) (by rw [lab]; exact hnp) q⟩
end
end Ev
set_option Elab.async false
set_option linter.all false
set_option maxRecDepth 100000
set_option maxHeartbeats 4000000
set_option autoImplicit false
/-! Snd20: targets, statements. -/
namespace Ev
open PySem PySem.W PySem.Spec L2
open PyProof.Rows hiding St

/-- slots that stay -/
def Fix (fx : Nat → Prop) (σ σ' : St) : Prop := σ'.length = σ.length ∧ ∀ i, fx i → σ'[i]? = σ[i]?
theorem Fix.refl {fx : Nat → Prop} {σ : St} : Fix fx σ σ := ⟨rfl, fun _ _ => rfl⟩
theorem Fix.trans {fx : Nat → Prop} {σ σ' σ'' : St} (h : Fix fx σ σ') (h' : Fix fx σ' σ'') : Fix fx σ σ'' := ⟨h'.1.trans h.1, fun i hi => (h'.2 i hi).trans (h.2 i hi)⟩
theorem Fix.set {fx : Nat → Prop} {σ : St} {i : Nat} {v : Option V} (h : ¬ fx i) : Fix fx σ (σ.set i v) := ⟨List.length_set .., fun j hj => List.getElem?_set_ne (fun z : i = j => h (by rw [z]; exact hj))⟩
section
variable {G : Gd} {W : WX} {X : Cx} {fx : Nat → Prop}
theorem At.storeA {σ : St} {H : Hp} {δ : List T} {gv : List V} {gt : List T} {v : V} {t : T} {i : Nat} (h : At G σ H δ (v :: gv) (t :: gt)) : At G (σ.set i (some v)) H (put δ i t) gv gt := by
  by_cases hi : i < δ.length
  · exact h.store hi
  · have e1 : put δ i t = δ := by rw [put_eq, List.set_eq_of_length_le (by omega)]
    have e2 : σ.set i (some v) = σ := List.set_eq_of_length_le (by rw [h.env.len]; omega)
    rw [e1, e2]
    exact h.drop1
/-- a store -/
def gT (G : Gd) (fx : Nat → Prop) (g : Tg) : TG := fun v σ H Q => ∃ δ gv gt t δ', At G σ H δ (v :: gv) (t :: gt) ∧ bindT g t δ = some δ' ∧ ∀ σ', Fix fx σ σ' → At G σ' H δ' gv gt → Q σ' H
def gTs (G : Gd) (fx : Nat → Prop) (gs : Tgs) : TGs := fun vs σ H Q => ∃ δ gv gt ts δ', vs.length = ts.length ∧ At G σ H δ (vs ++ gv) (ts ++ gt) ∧ bindTs gs ts δ = some δ' ∧ ∀ σ', Fix fx σ σ' → At G σ' H δ' gv gt → Q σ' H
/-- a tuple's items stored -/
def gTu (G : Gd) (K : PySem.W.Frag) (fx : Nat → Prop) (gs : Tgs) : TG := fun v σ H Q => ∃ a vs, v = .ref a ∧ SqT K H a vs ∧ gTs G fx gs vs σ H Q
theorem PG.imp {e : Expr} {t t' : TG} (h : PG X e t) (k : ∀ v σ H Q, t' v σ H Q → t v σ H Q) : PG X e t' := ⟨fun pins s σ H v u Q I r q => h.run pins s σ H v u Q I r (k v σ H Q q)⟩
theorem PGs.imp {e : List Expr} {t t' : TGs} (h : PGs X e t) (k : ∀ v σ H Q, t' v σ H Q → t v σ H Q) : PGs X e t' := ⟨fun pins s σ H v u Q I r q => h.run pins s σ H v u Q I r (k v σ H Q q)⟩
theorem g_nm {e : Expr} {i : Nat} (hi : ¬ fx i) (h : PG X e (gName i)) : PG X e (gT G fx (.nm i)) := PG.imp h fun v σ H Q ⟨δ, gv, gt, t, δ', A, e, q⟩ => by
  have e : some (put δ i t) = some δ' := e
  cases e
  exact q _ (Fix.set hi) A.storeA
theorem g_nil : PGs X [] (gTs G fx .nil) := PGs.imp pgs_nil fun vs σ H Q ⟨δ, gv, gt, ts, δ', l, A, e, q⟩ => by
  cases ts with
  | cons _ _ => simp [bindTs] at e
  | nil =>
    have e : some δ = some δ' := e
    cases e
    have : vs = [] := by cases vs; rfl; simp at l
    subst this
    exact ⟨rfl, q σ Fix.refl A⟩
theorem g_cons {e : Expr} {es : List Expr} {g : Tg} {gs : Tgs} (h1 : PG X e (gT G fx g)) (h2 : PGs X es (gTs G fx gs)) (hp : PGs X (e :: es) (gCons (gT G fx g) (gTs G fx gs))) : PGs X (e :: es) (gTs G fx (.cons g gs)) := PGs.imp hp fun vs σ H Q ⟨δ, gv, gt, ts, δ', l, A, e, q⟩ => by
  cases ts with
  | nil => simp [bindTs] at e
  | cons t ts =>
    cases vs with
    | nil => simp at l
    | cons v vs =>
      simp only [bindTs] at e
      cases e1 : bindT g t δ with
      | none => simp [e1] at e
      | some δ1 =>
        simp only [e1] at e
        exact ⟨v, vs, rfl, δ, vs ++ gv, ts ++ gt, t, δ1, A, e1, fun σ' f A1 => ⟨δ1, gv, gt, ts, δ', by simpa using l, A1, e, fun σ'' f' A2 => q σ'' (f.trans f') A2⟩⟩
/-- the items of a tuple that is held -/
theorem At.openD {σ : St} {H : Hp} {δ : List T} {gv : List V} {gt : List T} {v : V} {xs : List PyData} (h : At G σ H δ (v :: gv) (.d (.tuple xs) :: gt)) : ∃ a vs, v = .ref a ∧ SqD G.K H a vs ∧ vs.length = xs.length ∧ At G σ H δ (vs ++ gv) (xs.map .d ++ gt) := by
  obtain ⟨O, nd, R⟩ := h.hold
  have R' : RepTs G H O (v :: (gv ++ sv σ)) (.d (.tuple xs) :: (gt ++ δ)) O := R
  generalize hO : O = O' at R'
  cases R' with
  | cons h1 h2 =>
    subst hO
    cases h1 with
    | d r => cases r with
      | tup hs rr =>
        refine ⟨_, _, rfl, hs, rr.length, h.env, ?_, _, nd, ?_⟩
        · have := h.len
          simp [rr.length] at this ⊢
          exact this
        · rw [List.append_assoc, List.append_assoc]
          simpa using rr.toT.append h2
theorem At.openT {σ : St} {H : Hp} {δ : List T} {gv : List V} {gt : List T} {v : V} {ts : List T} (h : At G σ H δ (v :: gv) (.tup ts :: gt)) : ∃ a vs, v = .ref a ∧ SqD G.K H a vs ∧ vs.length = ts.length ∧ At G σ H δ (vs ++ gv) (ts ++ gt) := by
  obtain ⟨O, nd, R⟩ := h.hold
  have R' : RepTs G H O (v :: (gv ++ sv σ)) (.tup ts :: (gt ++ δ)) O := R
  generalize hO : O = O' at R'
  cases R' with
  | cons h1 h2 =>
    subst hO
    cases h1 with
    | tup hs rr =>
      refine ⟨_, _, rfl, hs, rr.length, h.env, ?_, _, nd, ?_⟩
      · have := h.len
        have := rr.length
        simp at *
        omega
      · rw [List.append_assoc, List.append_assoc]
        exact rr.append h2
theorem g_tup {e : Expr} {gs : Tgs} (h : PG X e (gTu G G.K fx gs)) : PG X e (gT G fx (.tup gs)) := PG.imp h fun v σ H Q ⟨δ, gv, gt, t, δ', A, e, q⟩ => by
  unfold bindT at e
  split at e
  · rename_i h1
    cases h1
  · rename_i h1
    cases h1
    obtain ⟨a, vs, rfl, hs, l, A'⟩ := A.openD
    exact ⟨a, vs, rfl, hs.t, _, gv, gt, _, δ', by simpa using l, A', e, q⟩
  · rename_i h1
    cases h1
    obtain ⟨a, vs, rfl, hs, l, A'⟩ := A.openT
    exact ⟨a, vs, rfl, hs.t, _, gv, gt, _, δ', l, A', e, q⟩
  · cases e
/-! ### statements -/
def postS (G : Gd) (W : WX) (fx : Nat → Prop) (D : Ends) (σ : St) (gv : List V) (gt : List T) (r : RS) : Prop := match r with
  | .nx δ => ∀ σ' H', Fix fx σ σ' → At G σ' H' δ gv gt → D.nx σ' H'
  | .bk δ => ∀ σ' H', Fix fx σ σ' → At G σ' H' δ gv gt → D.bk σ' H'
  | .ct δ => ∀ σ' H', Fix fx σ σ' → At G σ' H' δ gv gt → D.ct σ' H'
  | .ret t δ => ∀ v σ' H', Fix fx σ σ' → At G σ' H' δ (v :: gv) (t :: gt) → D.rt v H'
  | .exn e δ => ∀ c d σ' H', Fix fx σ σ' → G.xi e c d H' → At G σ' H' δ gv gt → W c d σ' H'
  | .no => False
def tSt (G : Gd) (W : WX) (fx : Nat → Prop) (m : List T → RS) : TS := fun D σ H => ∃ δ gv gt, At G σ H δ gv gt ∧ postS G W fx D σ gv gt (m δ)
theorem postS.fix {D : Ends} {σ σ' : St} {gv : List V} {gt : List T} {r : RS} (f : Fix fx σ σ') (h : postS G W fx D σ gv gt r) : postS G W fx D σ' gv gt r := by
  cases r with
  | nx δ => exact fun s H f' A => h s H (f.trans f') A
  | bk δ => exact fun s H f' A => h s H (f.trans f') A
  | ct δ => exact fun s H f' A => h s H (f.trans f') A
  | ret t δ => exact fun v s H f' A => h v s H (f.trans f') A
  | exn e δ => exact fun c d s H f' x A => h c d s H (f.trans f') x A
  | no => exact h
/-- an expression first -/
theorem onR_in {D : Ends} {σ : St} {gv : List V} {gt : List T} {r : List T → R T} {k : T → List T → RS} {δ : List T} (q : postS G W fx D σ gv gt (onR r k δ)) :
    post1 G W elT σ gv gt (r δ) fun v H => ∃ t δ1, At G σ H δ1 (v :: gv) (t :: gt) ∧ postS G W fx D σ gv gt (k t δ1) := by
  unfold onR at q
  cases e : r δ with
  | ok t δ1 =>
    rw [e] at q
    exact fun v H A _ => ⟨t, δ1, A, q⟩
  | exn x δ1 =>
    rw [e] at q
    exact fun c d H hx A => q c d σ H Fix.refl hx A
  | no => rw [e] at q; exact q
theorem S_set {tg e : Expr} {pos : Pos} {g : Tg} {r : List T → R T} (h : PS X (.Assign [tg] e pos) (tAsg (t1 G W elT r) (gT G fx g))) : PS X (.Assign [tg] e pos) (tSt G W fx (sSet g r)) := PS.imp h fun D σ H ⟨δ, gv, gt, A, q⟩ => by
  refine ⟨δ, gv, gt, A, (onR_in q).mono fun v H1 z => ?_⟩
  obtain ⟨t, δ1, A1, z⟩ := z
  cases e : bindT g t δ1 with
  | none => simp only [e, toS] at z; exact z.elim
  | some δ2 =>
    simp only [e, toS] at z
    exact ⟨δ1, gv, gt, t, δ2, A1, e, fun σ' f A2 => z σ' H1 f A2⟩
theorem S_ex {e : Expr} {pos : Pos} {r : List T → R T} (h : PS X (.Expr e pos) (tDrop (t1 G W elT r))) : PS X (.Expr e pos) (tSt G W fx (sEx r)) := PS.imp h fun D σ H ⟨δ, gv, gt, A, q⟩ => by
  refine ⟨δ, gv, gt, A, (onR_in q).mono fun v H1 z => ?_⟩
  obtain ⟨t, δ1, A1, z⟩ := z
  exact z σ H1 Fix.refl A1.drop1
theorem S_ret {e : Expr} {pos : Pos} {r : List T → R T} (h : PE X e (t1 G W elT r)) : PS X (.Return (some e) pos) (tSt G W fx (onR r fun t δ => .ret t δ)) := PS.imp (ps_ret h) fun D σ H ⟨δ, gv, gt, A, q⟩ => by
  refine ⟨δ, gv, gt, A, (onR_in q).mono fun v H1 z => ?_⟩
  obtain ⟨t, δ1, A1, z⟩ := z
  exact z v σ H1 Fix.refl A1
theorem S_retN {pos : Pos} : PS X (.Return none pos) (tSt G W fx fun δ => .ret (.d .none) δ) := PS.imp ps_retN fun D σ H ⟨δ, gv, gt, A, q⟩ => q _ σ H Fix.refl (A.pushD fun O _ _ => .non)
theorem S_pass {pos : Pos} : PS X (.Pass pos) (tSt G W fx sPass) := PS.imp ps_pass fun D σ H ⟨δ, gv, gt, A, q⟩ => q σ H Fix.refl A
theorem S_brk {pos : Pos} : PS X (.Break pos) (tSt G W fx fun δ => .bk δ) := PS.imp ps_break fun D σ H ⟨δ, gv, gt, A, q⟩ => q σ H Fix.refl A
theorem S_cnt {pos : Pos} : PS X (.Continue pos) (tSt G W fx fun δ => .ct δ) := PS.imp ps_continue fun D σ H ⟨δ, gv, gt, A, q⟩ => q σ H Fix.refl A
theorem S_no {st : Stmt} {m : List T → RS} (h : ∀ δ, m δ = .no) : PS X st (tSt G W fx m) := ⟨fun pins s σ H D I ⟨δ, gv, gt, A, q⟩ => by
  rw [h] at q
  exact q.elim⟩
theorem S_doc {x : Str} {j : Nat} {pos pos' : Pos} : PS X (.Expr (.Constant (.str x) j pos) pos') (tSt G W fx sPass) := PS.imp ps_doc fun D σ H ⟨δ, gv, gt, A, q⟩ => q σ H Fix.refl A
theorem S_nil : PSs X [] (tSt G W fx sPass) := PSs.imp pss_nil fun D σ H ⟨δ, gv, gt, A, q⟩ => q σ H Fix.refl A
theorem S_cons {st : Stmt} {rest : List Stmt} {a b : List T → RS} (h1 : PS X st (tSt G W fx a)) (h2 : PSs X rest (tSt G W fx b)) : PSs X (st :: rest) (tSt G W fx (sSeq a b)) := PSs.imp (pss_cons h1 h2) fun D σ H ⟨δ, gv, gt, A, q⟩ => by
  refine ⟨δ, gv, gt, A, ?_⟩
  unfold sSeq at q
  cases e : a δ with
  | nx δ1 =>
    rw [e] at q
    exact fun σ' H' f A' => ⟨δ1, gv, gt, A', q.fix f⟩
  | bk δ1 => rw [e] at q; exact q
  | ct δ1 => rw [e] at q; exact q
  | ret t δ1 => rw [e] at q; exact q
  | exn x δ1 => rw [e] at q; exact q
  | no => rw [e] at q; exact q
theorem S_ite {c : Expr} {a b : List Stmt} {pos : Pos} {rc : List T → R T} {ma mb : List T → RS} (hc : PT X c (tT G W rc)) (ha : PSs X a (tSt G W fx ma)) (hb : PSs X b (tSt G W fx mb)) : PS X (.If c a b pos) (tSt G W fx (sIte rc ma mb)) := PS.imp (ps_if hc ha hb) fun D σ H ⟨δ, gv, gt, A, q⟩ => by
  refine ⟨δ, gv, gt, A, (onR_in q).mono fun v H1 z => ?_⟩
  obtain ⟨t, δ1, A1, z⟩ := z
  split at z
  · obtain rfl := A1.topB
    exact ⟨true, rfl, δ1, gv, gt, A1.drop1, z⟩
  · obtain rfl := A1.topB
    exact ⟨false, rfl, δ1, gv, gt, A1.drop1, z⟩
  · exact z.elim
end
end Ev
set_option Elab.async false
set_option linter.all false
set_option maxRecDepth 100000
set_option maxHeartbeats 4000000
set_option autoImplicit false
/-! Snd21: what is walked; for, while. -/
namespace Ev
open PySem PySem.W PySem.Spec L2
open PyProof.Rows hiding St

section
variable {G : Gd} {W : WX} {X : Cx} {fx : Nat → Prop}
/-- what is walked: the evaluator's list -/
def postI (G : Gd) (W : WX) (pr : Bool) (σ : St) (gv : List V) (gt : List T) (Rr : L2.It → Hp → Prop) : Ev.R (List PyData) → Prop
  | .ok xs δ' => ∀ J srcs tss H', srcs.length = tss.length → At G σ H' δ' (srcs ++ gv) (tss ++ gt) → Wl G J pr srcs tss xs → Rr J H'
  | .exn e δ' => ∀ c d H, G.xi e c d H → At G σ H δ' gv gt → W c d σ H
  | .no => False
def iW (G : Gd) (W : WX) (pr : Bool) (m : List T → R (List PyData)) : TI := fun σ H Rr => ∃ δ gv gt, At G σ H δ gv gt ∧ postI G W pr σ gv gt Rr (m δ)
theorem bI_in {pr : Bool} {σ : St} {gv : List V} {gt : List T} {Rr : L2.It → Hp → Prop} {r : List T → Ev.R T} {k : T → List T → Ev.R (List PyData)} {δ : List T} (q : postI G W pr σ gv gt Rr (bind1 r k δ)) :
    post1 G W elT σ gv gt (r δ) fun v H => ∃ t δ1, At G σ H δ1 (v :: gv) (t :: gt) ∧ postI G W pr σ gv gt Rr (k t δ1) := by
  unfold bind1 at q
  cases e : r δ with
  | ok t δ1 =>
    rw [e] at q
    exact fun v H A _ => ⟨t, δ1, A, q⟩
  | exn x δ1 =>
    rw [e] at q
    exact fun c d H hx A => q c d H hx A
  | no => rw [e] at q; exact q
theorem PI.imp {tg e : Expr} {t t' : TI} (h : PI X tg e t) (k : ∀ σ H R, t' σ H R → t σ H R) : PI X tg e t' := ⟨fun pins s σ H R I q => h.run pins s σ H R I (k σ H R q)⟩
/-- a thing locked: data stays -/
theorem Up.lock {O : List Addr} {H : Hp} {d : Addr} {o : Obj} {u : HO} (h : H d = some u) (hn : d ∉ O) (nl : ∀ vs, u ≠ .lst vs) (nf : ∀ ob w, u ≠ .frz ob w) : Up O H O (upd H d (.frz o u)) := by
  refine ⟨fun a vs n e => ?_, fun a w n e => ?_, fun a ob w e => ?_, fun a h => .inl h⟩
  · have : a ≠ d := fun z => by subst z; rw [h] at e; cases e; exact nl _ rfl
    rw [upd_ne this]; exact e
  · by_cases hd : a = d
    · subst hd
      rcases e with e | ⟨ob, e⟩
      · rw [h] at e
        cases e
        exact .inr ⟨o, upd_same⟩
      · rw [h] at e
        cases e
        exact absurd rfl (nf _ _)
    · rcases e with e | ⟨ob, e⟩
      · exact .inl (by rw [upd_ne hd]; exact e)
      · exact .inr ⟨ob, by rw [upd_ne hd]; exact e⟩
  · have : a ≠ d := fun z => by subst z; rw [h] at e; cases e; exact nf _ _ rfl
    rw [upd_ne this]; exact e
theorem w_seq (ok : Ok0 G X) {tg e : Expr} {r : List T → R T} (h : PE X e (t1 G W elT r)) : PI X tg e (iW G W false (iSeq r)) := PI.imp (pi_any h) fun σ H Rr ⟨δ, gv, gt, A, q⟩ => by
  refine ⟨δ, gv, gt, A, (bI_in q).mono fun v H1 z => ?_⟩
  obtain ⟨t, δ1, A1, q⟩ := z
  clear A
  cases e2 : seqT t with
  | none => rw [e2] at q; exact q.elim
  | some xs =>
    rw [e2] at q
    replace q : ∀ J srcs tss H', srcs.length = tss.length → At G σ H' δ1 (srcs ++ gv) (tss ++ gt) → Wl G J false srcs tss xs → Rr J H' := q
    by_cases hz : t = .fz xs
    · subst hz
      obtain ⟨O, f, nd, R1, r1⟩ := At.held (vs := [v]) (ts := [.fz xs]) A1 rfl
      obtain ⟨g, r1⟩ := r1.one
      cases r1 with
      | fz hz rr =>
        have hl := hz.l
        rw [ok.hK] at hl
        refine .inl ⟨_, _, rfl, hl, ?_⟩
        have := q (Itl G.K _) [_] [.fz xs] H1 rfl A1 wl_fz
        rw [ok.hK] at this
        exact this
    · have ex : ∃ x, t.data = some x ∧ seqI x = some xs := by
        unfold seqT at e2
        split at e2
        · cases e2; exact absurd rfl hz
        · split at e2
          · rename_i x ex
            exact ⟨x, ex, e2⟩
          · cases e2
      obtain ⟨x, ex, e3⟩ := ex
      have A2 := A1.leakTop ex
      cases x with
      | list ys =>
        cases e3
        obtain ⟨O, r1⟩ := A2.top
        cases r1 with
        | lst n hl rr =>
          refine .inl ⟨_, _, rfl, .of hl, ?_⟩
          have := q (Itl G.K _) [_] [_] H1 rfl A2 wl_list
          rw [ok.hK] at this
          exact this
      | tuple ys =>
        cases e3
        obtain ⟨O, r1⟩ := A2.top
        cases r1 with
        | tup hs rr =>
          have ht := hs.t
          rw [ok.hK] at ht
          refine .inr (.inl ⟨_, _, rfl, ht, ?_⟩)
          have := q (Itt G.K _) [_] [_] H1 rfl A2 wl_tup
          rw [ok.hK] at this
          exact this
      | str z =>
        cases e3
        obtain ⟨O, r1⟩ := A2.top
        cases r1
        exact .inr (.inr (.inl ⟨z, rfl, q (Its z) [] [] H1 rfl A2.drop1 wl_str⟩))
      | dict kvs =>
        cases e3
        obtain ⟨O, nd, R1⟩ := A2.hold
        have R1' : RepTs G H1 O (v :: (gv ++ sv σ)) (.d (.dict kvs) :: (gt ++ δ1)) O := R1
        have sub : Rep G H1 O v (.dict kvs) ∧ RepTs G H1 O (gv ++ sv σ) (gt ++ δ1) O := by
          generalize hO : O = O' at R1'
          cases R1' with
          | cons h1 h2 =>
            subst hO
            cases h1 with
            | d r => exact ⟨r, h2⟩
        obtain ⟨rv, Rr⟩ := sub
        obtain ⟨d, u, ws, zs, rfl, hr, mu, rw', rz, k⟩ := dict_ws ok (.st rv)
        have hn : d ∉ O := by
          cases rv with
          | dK n _ _ _ _ => exact n
          | dN n _ _ _ _ _ => exact n
        refine .inr (.inr (.inr ⟨d, u, ws, rfl, hr, mu, fun pins s I => ?_, fun o H2 hd hor => ?_⟩))
        · obtain ⟨h1, es, ep, h2, h3, h4, h5⟩ := k pins σ s I
          exact ⟨h1, es, ep, h2, h4⟩
        · have lw : ws.length = (kvs.map (·.1)).length := rw'.length
          have keep : ∀ a ∈ O, H2 a = H1 a := fun a ha => by
            rcases hor with rfl | ⟨_, rfl⟩
            · rfl
            · exact upd_ne (fun z => hn (by rw [← z]; exact ha))
          have U : Up O H1 O H2 := by
            rcases hor with rfl | ⟨h1, rfl⟩
            · exact .less fun a h => h
            · refine .lock h1 hn (fun vs z => ?_) fun ob w z => ?_
              · subst z
                cases rv with
                | dK _ h _ _ _ => rcases h with h | ⟨o', h⟩ <;> rw [h1] at h <;> cases h
                | dN _ h _ _ _ _ => rcases h with h | ⟨o', h⟩ <;> rw [h1] at h <;> cases h
              · subst z
                exact mu
          refine q (Itw d o u ws) (.ref d :: ws) (.lk o u :: (kvs.map (·.1)).map .d) H2 (by simp [lw]) ⟨A2.env, ?_, O, nd, ?_⟩ (wl_keys lw)
          · have := A2.len
            simp only [List.length_cons, List.length_append, List.length_map] at this lw ⊢
            omega
          · have r2 := Rr.up U keep
            have r3 := (rw'.up U).toT
            have r4 := r3.append r2
            have : RepTs G H2 O (.ref d :: (ws ++ (gv ++ sv σ))) (.lk o u :: ((kvs.map (·.1)).map .d ++ (gt ++ δ1))) ([] ++ ([] ++ O)) := .cons (.lk hd) r4
            simpa using this
      | none => cases e3
      | bool b => cases e3
      | int b => cases e3
theorem w_rng1 {tg e : Expr} {p pos : Pos} {r : List T → R T} (h : PI X tg (.Call (.Name "range" p) [e] [] pos) (L2.iRng1 (tCons (t1 G W elT r) tNil))) : PI X tg (.Call (.Name "range" p) [e] [] pos) (iW G W false (Ev.iRng1 r)) := PI.imp h fun σ H Rr ⟨δ, gv, gt, A, q⟩ => by
  refine ⟨δ, gv, gt, A, (bI_in q).mono fun v H1 z => ?_⟩
  obtain ⟨t, δ1, A1, q⟩ := z
  clear A
  cases t with
  | d x =>
    cases x with
    | int j =>
      cases hj : inR j with
      | false => simp only [hj] at q; exact q.elim
      | true =>
        simp only [hj, if_true] at q
        obtain rfl := A1.topI
        unfold inR at hj
        simp only [Bool.and_eq_true, decide_eq_true_eq] at hj
        exact ⟨j, rfl, hj.1, hj.2, q (Itr 0 j.toNat) [] [] H1 rfl A1.drop1 wl_range⟩
    | _ => exact q.elim
  | _ => exact q.elim
theorem bI2_in {pr : Bool} {σ : St} {gv : List V} {gt : List T} {Rr : L2.It → Hp → Prop} {ra rb : List T → Ev.R T} {k : T → T → List T → Ev.R (List PyData)} {δ : List T} (q : postI G W pr σ gv gt Rr (bind2 ra rb k δ)) :
    post1 G W elT σ gv gt (ra δ) fun v H => t1 G W elT rb σ H fun w H => ∃ t u δ1, At G σ H δ1 (w :: v :: gv) (u :: t :: gt) ∧ postI G W pr σ gv gt Rr (k t u δ1) := by
  unfold bind2 at q
  cases e : ra δ with
  | ok t δ1 =>
    rw [e] at q
    refine fun v H A _ => ⟨δ1, v :: gv, t :: gt, A, ?_⟩
    simp only at q
    cases e2 : rb δ1 with
    | ok u δ2 =>
      rw [e2] at q
      exact fun w H A _ => ⟨t, u, δ2, A, q⟩
    | exn x δ2 =>
      rw [e2] at q
      exact fun c d H hx A => q c d H hx A.drop1
    | no => rw [e2] at q; exact q
  | exn x δ1 =>
    rw [e] at q
    exact fun c d H hx A => q c d H hx A
  | no => rw [e] at q; exact q
theorem t1_mono {σ : St} {H : Hp} {r : List T → Ev.R T} {Q Q' : VK} (h : t1 G W elT r σ H Q) (k : ∀ v H, Q v H → Q' v H) : t1 G W elT r σ H Q' := by
  obtain ⟨δ, gv, gt, A, q⟩ := h
  exact ⟨δ, gv, gt, A, q.mono k⟩
theorem w_rng2 {tg a b : Expr} {p pos : Pos} {r r' : List T → Ev.R T} (h : PI X tg (.Call (.Name "range" p) [a, b] [] pos) (L2.iRng2 (tCons (t1 G W elT r) (tCons (t1 G W elT r') tNil)))) :
    PI X tg (.Call (.Name "range" p) [a, b] [] pos) (iW G W false (Ev.iRng2 r r')) := PI.imp h fun σ H Rr ⟨δ, gv, gt, A, q⟩ => by
  refine ⟨δ, gv, gt, A, (bI2_in q).mono fun v H1 z => t1_mono z fun w H2 z => ?_⟩
  obtain ⟨t, u, δ1, A1, q⟩ := z
  clear A
  cases t with
  | d x =>
    cases x with
    | int i =>
      cases u with
      | d y =>
        cases y with
        | int j =>
          cases hj : (inR i && inR j) with
          | false => simp only [hj] at q; exact q.elim
          | true =>
            simp only [hj, if_true] at q
            obtain rfl := A1.topI
            have A2 := A1.drop1
            obtain rfl := A2.topI
            unfold inR at hj
            simp only [Bool.and_eq_true, decide_eq_true_eq] at hj
            exact ⟨i, j, rfl, ⟨hj.1.1, hj.1.2, hj.2.1, hj.2.2⟩, q (Itr i (j - i).toNat) [] [] H2 rfl A2.drop1 wl_range⟩
        | _ => exact q.elim
      | _ => exact q.elim
    | _ => exact q.elim
  | _ => exact q.elim
/-- the second held is data -/
theorem At.leak2 {σ : St} {H : Hp} {δ : List T} {gv : List V} {gt : List T} {v w : V} {t u : T} {x : PyData} (h : At G σ H δ (w :: v :: gv) (u :: t :: gt)) (e : t.data = some x) : At G σ H δ (w :: v :: gv) (u :: .d x :: gt) := by
  obtain ⟨O, nd, R⟩ := h.hold
  have R' : RepTs G H O (w :: v :: (gv ++ sv σ)) (u :: t :: (gt ++ δ)) O := R
  generalize hO : O = O' at R'
  cases R' with
  | cons h1 h2 =>
    rename_i f1 g1
    cases h2 with
    | cons h2 h3 =>
      rename_i f2 g2
      subst hO
      have nd1 := (List.nodup_append.mp nd).1
      have nd' := (List.nodup_append.mp nd).2.1
      have hd1 := (List.nodup_append.mp nd).2.2
      have nd2 := (List.nodup_append.mp nd').2.1
      have hd2 := (List.nodup_append.mp nd').2.2
      have sub : ∀ a ∈ f1 ++ g2, a ∈ f1 ++ (f2 ++ g2) := fun a ha => by
        rcases List.mem_append.mp ha with z | z
        · exact List.mem_append_left _ z
        · exact List.mem_append_right _ (List.mem_append_right _ z)
      have r2 : Rep G H (f1 ++ g2) v x := h2.data sub (fun a ha hb => by
        rcases List.mem_append.mp hb with z | z
        · exact hd1 a z a (List.mem_append_left _ ha) rfl
        · exact hd2 a ha a z rfl) e
      refine ⟨h.env, h.len, f1 ++ g2, List.nodup_append.mpr ⟨nd1, nd2, fun a ha b hb => hd1 a ha b (List.mem_append_right _ hb)⟩, ?_⟩
      exact .cons (h1.up (.less sub) fun _ _ => rfl) (.cons (f := []) (.d r2) (h3.up (.less sub) fun _ _ => rfl))
theorem w_zip (hK : X.K = G.K) {tg : Expr} {e : Expr} {r r' : List T → Ev.R T} (h : PI X tg e (RZ.iZipA X.K (tCons (t1 G W elT r) (tCons (t1 G W elT r') tNil)))) : PI X tg e (iW G W true (Ev.iZip r r')) := PI.imp h fun σ H Rr ⟨δ, gv, gt, A, q⟩ => by
  refine ⟨δ, gv, gt, A, (bI2_in q).mono fun v H1 z => t1_mono z fun w H2 z => ?_⟩
  obtain ⟨t, u, δ1, A1, q⟩ := z
  clear A
  unfold zipT at q
  cases e1 : t.data with
  | none => simp only [e1] at q; exact q.elim
  | some x =>
    cases e2 : u.data with
    | none => simp only [e1, e2] at q; exact q.elim
    | some y =>
      simp only [e1, e2] at q
      have A2 := (A1.leakTop e2).leak2 e1
      obtain ⟨O, f, nd, R, rr⟩ := At.held (vs := [w, v]) (ts := [.d y, .d x]) A2 rfl
      cases rr with
      | cons r1 rr => cases rr with
        | cons r2 rr =>
          have AS : At G σ H2 δ1 ([v, w] ++ gv) ([.d x, .d y] ++ gt) := by
            refine ⟨A2.env, A2.len, O, nd, ?_⟩
            cases r1 with
            | d r1 => cases r2 with
              | d r2 =>
                generalize hO : O = O' at R
                cases R with
                | cons k1 R => cases R with
                  | cons k2 R =>
                    cases k1
                    cases k2
                    rename_i k1 k2
                    exact .cons (f := []) (.d k2) (.cons (f := []) (.d k1) R)
          cases x with
          | list xs => cases y with
            | list ys =>
              cases r1 with
              | d r1 => cases r1 with
                | lst _ l1 _ => cases r2 with
                  | d r2 => cases r2 with
                    | lst _ l2 _ =>
                      refine ⟨_, _, _, _, rfl, .inl ⟨.of l2, .of l1, ?_⟩⟩
                      rw [hK]
                      exact q _ _ _ _ rfl AS wl_zipL
            | _ => exact q.elim
          | tuple xs => cases y with
            | tuple ys =>
              cases r1 with
              | d r1 => cases r1 with
                | tup l1 _ => cases r2 with
                  | d r2 => cases r2 with
                    | tup l2 _ =>
                      have l1 := l1.t
                      have l2 := l2.t
                      refine ⟨_, _, _, _, rfl, .inr ⟨hK ▸ l2, hK ▸ l1, ?_⟩⟩
                      rw [hK]
                      exact q _ _ _ _ rfl AS wl_zipT
            | _ => exact q.elim
          | _ => exact q.elim
theorem w_enm (hK : X.K = G.K) {tg : Expr} {e : Expr} {r : List T → Ev.R T} (h : PI X tg e (L2.iEnum X.K (tCons (t1 G W elT r) tNil))) : PI X tg e (iW G W true (Ev.iEnm r)) := PI.imp h fun σ H Rr ⟨δ, gv, gt, A, q⟩ => by
  refine ⟨δ, gv, gt, A, (bI_in q).mono fun v H1 z => ?_⟩
  obtain ⟨t, δ1, A1, q⟩ := z
  clear A
  unfold enmT at q
  cases e1 : t.data with
  | none => simp only [e1] at q; exact q.elim
  | some x =>
    simp only [e1] at q
    cases x with
    | list xs =>
      have A2 := A1.leakTop e1
      obtain ⟨O, r1⟩ := A2.top
      cases r1 with
      | lst n hl rr =>
        refine ⟨_, _, rfl, .of hl, ?_⟩
        rw [hK]
        exact q (Ite G.K _) [_] [_] H1 rfl A2 wl_enum
    | _ => exact q.elim
end
end Ev
set_option Elab.async false
set_option linter.all false
set_option maxRecDepth 100000
set_option maxHeartbeats 4000000
set_option autoImplicit false
/-! Snd22: for, while. -/
namespace Ev
open PySem PySem.W PySem.Spec L2
open PyProof.Rows hiding St

section
variable {G : Gd} {W : WX} {X : Cx} {fx : Nat → Prop}
/-- what follows a body -/
def aft (k : List T → RS) : RS → RS
  | .nx δ => k δ
  | .ct δ => k δ
  | .bk δ => .nx δ
  | r => r
/-- a body beside held sources -/
theorem postS.body {D : Ends} {N : L2.St → Hp → Prop} {σ : St} {gv srcs : List V} {gt tss : List T} {r : RS} {k : List T → RS} (l : srcs.length = tss.length)
    (hn : ∀ δ σ' H', Fix fx σ σ' → postS G W fx D σ' gv gt (k δ) → At G σ' H' δ (srcs ++ gv) (tss ++ gt) → N σ' H')
    (h : postS G W fx D σ gv gt (aft k r)) : postS G W fx { D with nx := N, ct := N, bk := D.nx } σ (srcs ++ gv) (tss ++ gt) r := by
  cases r with
  | nx δ => exact fun s H f A => hn δ s H f (postS.fix f h) A
  | ct δ => exact fun s H f A => hn δ s H f (postS.fix f h) A
  | bk δ => exact fun s H f A => h s H f (A.dropL l)
  | ret t δ => exact fun v s H f A => h v s H f (A.dropM l)
  | exn e δ => exact fun c d s H f x A => h c d s H f x (A.dropL l)
  | no => exact h
theorem frL_cons {b : List T → RS} {g : Tg} {x : PyData} {xs : List PyData} {δ : List T} : frL b g (x :: xs) δ = match bindT g (.d x) δ with
    | none => .no
    | some δ => aft (frL b g xs) (b δ) := by
  show (match bindT g (.d x) δ with
    | none => RS.no
    | some δ => match b δ with
      | .nx δ => frL b g xs δ
      | .ct δ => frL b g xs δ
      | .bk δ => .nx δ
      | r => r) = _
  cases bindT g (.d x) δ with
  | none => rfl
  | some δ => cases b δ <;> rfl
theorem drop_cons {α : Type} {xs : List α} {i : Nat} {x : α} (h : xs[i]? = some x) : xs.drop i = x :: xs.drop (i + 1) := by
  obtain ⟨hi, e⟩ := List.getElem?_eq_some_iff.mp h
  rw [List.drop_eq_getElem_cons hi, e]
/-- the turns, single things -/
theorem for_in {tg : TG} {tb : TS} {b : List T → RS} {D : Ends} {J : L2.It} {srcs gv : List V} {tss gt : List T} {xs : List PyData} {σ : St} {H : Hp} {δ : List T} {pr : Bool} {g : Tg} (l : srcs.length = tss.length)
    (w : Wl G J pr srcs tss xs) (A : At G σ H δ (srcs ++ gv) (tss ++ gt)) (q : postS G W fx D σ gv gt (frL b g xs δ))
    (hs : ∀ i σ H x H' (N : L2.St → Hp → Prop) δ, i < xs.length → At G σ H δ (srcs ++ gv) (tss ++ gt) → postS G W fx D σ gv gt (frL b g (xs.drop i) δ) → J.yld i H x H' →
      (∀ δ σ' H', Fix fx σ σ' → postS G W fx D σ' gv gt (frL b g (xs.drop (i + 1)) δ) → At G σ' H' δ (srcs ++ gv) (tss ++ gt) → N σ' H') →
      tg x σ H' fun σ2 H2 => tb { D with nx := N, ct := N, bk := D.nx } σ2 H2) :
    ∃ W' : Nat → Nat → L2.St → Hp → Prop, (∃ m, W' 0 m σ H) ∧ ∀ i m σ H, W' i m σ H →
      (J.stop i H ∧ D.nx σ H) ∨ (J.go i H ∧ ∃ N : L2.St → Hp → Prop, (∀ σ' H', N σ' H' → ∃ m', m' < m ∧ W' (i + 1) m' σ' H') ∧ ∀ x H', J.yld i H x H' → tg x σ H' fun σ2 H2 => tb { D with nx := N, ct := N, bk := D.nx } σ2 H2) := by
  refine ⟨fun i m σ' H' => m = xs.length - i ∧ i ≤ xs.length ∧ ∃ δ, At G σ' H' δ (srcs ++ gv) (tss ++ gt) ∧ postS G W fx D σ' gv gt (frL b g (xs.drop i) δ), ⟨xs.length, by simp, Nat.zero_le _, δ, A, by simpa using q⟩, ?_⟩
  rintro i m σ' H' ⟨rfl, hi, δ', A', q'⟩
  obtain ⟨O, f, nd, R, rr⟩ := A'.held l
  by_cases hlt : i < xs.length
  · refine .inr ⟨w.go i H' O f rr hlt, fun σ2 H2 => ∃ δ, At G σ2 H2 δ (srcs ++ gv) (tss ++ gt) ∧ postS G W fx D σ2 gv gt (frL b g (xs.drop (i + 1)) δ), fun σ2 H2 ⟨δ2, A2, q2⟩ => ⟨xs.length - (i + 1), by omega, rfl, hlt, δ2, A2, q2⟩, fun x H2 y => ?_⟩
    exact hs i σ' H' x H2 _ δ' hlt A' q' y fun δ2 s2 H2 f2 p2 A2 => ⟨δ2, A2, p2⟩
  · have e : i = xs.length := by omega
    subst e
    refine .inl ⟨w.stop H' O f rr, ?_⟩
    rw [List.drop_length] at q'
    exact q' σ' H' Fix.refl (A'.dropL l)
theorem S_for {tgt iter : Expr} {body : List Stmt} {pos : Pos} {ri : List T → R (List PyData)} {g : Tg} {b : List T → RS} (h : PS X (.For tgt iter body [] pos) (tFor (iW G W false ri) (gT G fx g) (tSt G W fx b))) :
    PS X (.For tgt iter body [] pos) (tSt G W fx (sFr g ri b)) := PS.imp h fun D σ H ⟨δ, gv, gt, A, q⟩ => by
  refine ⟨δ, gv, gt, A, ?_⟩
  unfold sFr onR at q
  cases e : ri δ with
  | no => rw [e] at q; exact q
  | exn x δ1 => rw [e] at q; exact fun c d H hx A => q c d σ H Fix.refl hx A
  | ok xs δ1 =>
    rw [e] at q
    replace q : postS G W fx D σ gv gt (frL b g xs δ1) := q
    intro J srcs tss H1 l A1 w
    refine for_in l w A1 q fun i σ2 H2 x H3 N δ2 hi A2 q2 y hn => ?_
    obtain ⟨O, f, nd, R, rr⟩ := A2.held l
    obtain ⟨d, e1, q3⟩ := w.yld i H2 O f x H3 rr hi y
    rcases q3 with ⟨_, rfl, r⟩ | ⟨h, _⟩
    · rw [drop_cons e1, frL_cons] at q2
      cases e2 : bindT g (.d d) δ2 with
      | none => rw [e2] at q2; exact q2.elim
      | some δ3 =>
        rw [e2] at q2
        refine ⟨δ2, srcs ++ gv, tss ++ gt, .d d, δ3, A2.push nd R (Same.refl _) (.d r), e2, fun σ3 f3 A3 => ⟨δ3, _, _, A3, ?_⟩⟩
        exact postS.body l (fun δ4 s4 H4 f4 p4 A4 => hn δ4 s4 H4 (f3.trans f4) p4 A4) (postS.fix f3 q2)
    · cases h
theorem S_forP {tgt iter : Expr} {body : List Stmt} {pos : Pos} {ri : List T → R (List PyData)} {gs : Tgs} {b : List T → RS} (h : PS X (.For tgt iter body [] pos) (tFor (iW G W true ri) (gTu G G.K fx gs) (tSt G W fx b))) :
    PS X (.For tgt iter body [] pos) (tSt G W fx (sFr (.tup gs) ri b)) := PS.imp h fun D σ H ⟨δ, gv, gt, A, q⟩ => by
  refine ⟨δ, gv, gt, A, ?_⟩
  unfold sFr onR at q
  cases e : ri δ with
  | no => rw [e] at q; exact q
  | exn x δ1 => rw [e] at q; exact fun c d H hx A => q c d σ H Fix.refl hx A
  | ok xs δ1 =>
    rw [e] at q
    replace q : postS G W fx D σ gv gt (frL b (.tup gs) xs δ1) := q
    intro J srcs tss H1 l A1 w
    refine for_in l w A1 q fun i σ2 H2 x H3 N δ2 hi A2 q2 y hn => ?_
    obtain ⟨O, f, nd, R, rr⟩ := A2.held l
    obtain ⟨d, e1, q3⟩ := w.yld i H2 O f x H3 rr hi y
    rcases q3 with ⟨h, _⟩ | ⟨_, Tt, u, v, du, dv, rfl, hn2, rfl, rfl, r1, r2⟩
    · cases h
    · rw [drop_cons e1, frL_cons] at q2
      have eb : bindT (.tup gs) (.d (.tuple [du, dv])) δ2 = bindTs gs [.d du, .d dv] δ2 := by
        unfold bindT
        rfl
      rw [eb] at q2
      cases e2 : bindTs gs [.d du, .d dv] δ2 with
      | none => rw [e2] at q2; exact q2.elim
      | some δ3 =>
        rw [e2] at q2
        have sm : Same H2 (upd H2 Tt (.tup [u, v])) := fun a o h => by
          have : a ≠ Tt := fun z => by subst z; rw [hn2] at h; cases h
          rw [upd_ne this]
          exact h
        have U : Up O H2 O (upd H2 Tt (.tup [u, v])) := .same sm
        have A3 : At G σ2 (upd H2 Tt (.tup [u, v])) δ2 ([u, v] ++ (srcs ++ gv)) ([.d du, .d dv] ++ (tss ++ gt)) := by
          refine ⟨A2.env, ?_, O, nd, ?_⟩
          · have := A2.len
            simpa using this
          · exact .cons (f := []) (.d (r1.up U)) (.cons (f := []) (.d (r2.up U)) (R.up U fun a ha => by
              have h := R.there a ha
              cases ho : H2 a with
              | none => exact absurd ho h
              | some o => exact sm a o ho))
        refine ⟨Tt, [u, v], rfl, .inl (.inl upd_same), δ2, srcs ++ gv, tss ++ gt, [.d du, .d dv], δ3, rfl, A3, e2, fun σ3 f3 A3 => ⟨δ3, _, _, A3, ?_⟩⟩
        exact postS.body l (fun δ4 s4 H4 f4 p4 A4 => hn δ4 s4 H4 (f3.trans f4) p4 A4) (postS.fix f3 q2)
/-- while -/
theorem S_wh {c : Expr} {body : List Stmt} {pos : Pos} {C : Cf} {rc : List T → R T} {b : List T → RS} (h : PS X (.While c body [] pos) (tWhile (tT G W rc) (tSt G W fx b))) :
    PS X (.While c body [] pos) (tSt G W fx (sWh C rc b)) := PS.imp h fun D σ H ⟨δ, gv, gt, A, q⟩ => by
  refine ⟨fun m σ' H' => ∃ δ, At G σ' H' δ gv gt ∧ postS G W fx D σ' gv gt (whL rc b m δ), ⟨C.wf, δ, A, q⟩, ?_⟩
  rintro m σ1 H1 ⟨δ1, A1, q1⟩
  cases m with
  | zero => exact q1.elim
  | succ n =>
    refine ⟨δ1, gv, gt, A1, ?_⟩
    have e0 : whL rc b (n + 1) δ1 = onR rc (fun t δ => match t with
      | .d (.bool true) => aft (whL rc b n) (b δ)
      | .d (.bool false) => .nx δ
      | _ => .no) δ1 := by
      unfold onR
      show (match rc δ1 with
        | .ok (.d (.bool true)) δ => (match b δ with
          | .nx δ => whL rc b n δ
          | .ct δ => whL rc b n δ
          | .bk δ => RS.nx δ
          | r => r)
        | .ok (.d (.bool false)) δ => .nx δ
        | .exn e δ => .exn e δ
        | _ => .no) = _
      cases rc δ1 with
      | no => rfl
      | exn e δ => rfl
      | ok t δ => cases t with
        | d x => cases x with
          | bool z => cases z with
            | true => cases b δ <;> rfl
            | false => rfl
          | _ => rfl
        | _ => rfl
    rw [e0] at q1
    refine (onR_in q1).mono fun v H2 z => ?_
    obtain ⟨t, δ2, A2, z⟩ := z
    split at z
    · obtain rfl := A2.topB
      refine ⟨true, rfl, ?_⟩
      show if true = true then _ else _
      rw [if_pos rfl]
      refine ⟨fun σ' H' => ∃ δ, At G σ' H' δ gv gt ∧ postS G W fx D σ' gv gt (whL rc b n δ), fun σ' H' k => ⟨n, by omega, k⟩, _, gv, gt, A2.drop1, ?_⟩
      exact postS.body (srcs := []) (tss := []) rfl (fun δ4 s4 H4 f4 p4 A4 => ⟨δ4, A4, p4⟩) z
    · obtain rfl := A2.topB
      refine ⟨false, rfl, ?_⟩
      show if false = true then _ else _
      rw [if_neg (by decide)]
      exact z σ1 H2 Fix.refl A2.drop1
    · exact z.elim
end
end Ev
set_option Elab.async false
set_option linter.all false
set_option maxRecDepth 100000
set_option maxHeartbeats 4000000
set_option autoImplicit false
/-! Snd23: methods that change an own thing. -/
namespace Ev
open PySem PySem.W PySem.Spec L2
open PyProof.Rows hiding St

section
variable {G : Gd} {W : WX} {X : Cx} {fx : Nat → Prop}
/-- a method that changes the thing at a place -/
def rMu (G : Gd) (m : Mth) (b : Bool) : V → List V → Hp → VK → Prop := fun x vs H Q => ∃ σ δ us gv gt i p t r t', FocP G σ H δ vs us gv gt i p t x ∧ isL t = b ∧ mthO m t us = some (r, t') ∧
  ∀ w H', At G σ H' (setS δ i p t') (w :: gv) (r :: gt) → Q w H'
theorem isL_in {t : T} (h : isL t = true) : ∃ ts, t = .lst ts := by cases t <;> first | exact ⟨_, rfl⟩ | cases h
theorem isOwn_in {t : T} (h : isOwn t = true) (h' : isL t = false) : ∃ ks ts, t = .dct ks ts := by
  cases t with
  | dct ks ts => exact ⟨_, _, rfl⟩
  | lst ts => cases h'
  | _ => cases h
theorem one_of {α β : Type} {xs : List α} {y : β} (h : xs.length = [y].length) : ∃ x, xs = [x] := by
  cases xs with
  | nil => simp at h
  | cons x xs => cases xs with
    | nil => exact ⟨x, rfl⟩
    | cons _ _ => simp at h
theorem app_inv {ts us : List T} {r t' : T} (h : mthO .append (.lst ts) us = some (r, t')) : ∃ t, us = [t] ∧ ts.length < sizeLine ∧ r = .d .none ∧ t' = .lst (ts ++ [t]) := by
  match us, h with
  | [], h => simp [mthO] at h
  | [t], h =>
    simp only [mthO] at h
    split at h
    · rename_i hl
      simp only [Option.some.injEq, Prod.mk.injEq] at h
      exact ⟨t, rfl, Nat.lt_of_succ_le (by simpa [Nat.blt] using hl), h.1.symm, h.2.symm⟩
    · cases h
  | _ :: _ :: _, h => simp [mthO] at h
theorem pop_inv {ts us : List T} {r t' : T} (h : mthO .pop (.lst ts) us = some (r, t')) : us = [] ∧ nth ts (ts.length - 1) = some r ∧ t' = .lst ts.dropLast := by
  match us, h with
  | [], h =>
    simp only [mthO] at h
    split at h
    · rename_i t e
      simp only [Option.some.injEq, Prod.mk.injEq] at h
      obtain ⟨rfl, rfl⟩ := h
      exact ⟨rfl, e, rfl⟩
    · cases h
  | _ :: _, h => simp [mthO] at h
theorem popAt_inv {ts us : List T} {r t' : T} (h : mthO .popAt (.lst ts) us = some (r, t')) : ∃ j n, us = [.d (.int j)] ∧ inR j = true ∧ ixOf ts.length j = some n ∧ nth ts n = some r ∧ t' = .lst (ts.eraseIdx n) := by
  match us, h with
  | [], h => simp [mthO] at h
  | [.d (.int j)], h =>
    simp only [mthO] at h
    split at h
    · rename_i hj
      split at h
      · rename_i n e1
        split at h
        · rename_i t e2
          simp only [Option.some.injEq, Prod.mk.injEq] at h
          obtain ⟨rfl, rfl⟩ := h
          exact ⟨j, n, rfl, hj, e1, e2, rfl⟩
        · cases h
      · cases h
    · cases h
  | [.d (.str _)], h => simp [mthO] at h
  | [.d (.bool _)], h => simp [mthO] at h
  | [.d .none], h => simp [mthO] at h
  | [.d (.list _)], h => simp [mthO] at h
  | [.d (.tuple _)], h => simp [mthO] at h
  | [.d (.dict _)], h => simp [mthO] at h
  | [.un], h => simp [mthO] at h
  | [.fn _], h => simp [mthO] at h
  | [.fz _], h => simp [mthO] at h
  | [.tup _], h => simp [mthO] at h
  | [.lst _], h => simp [mthO] at h
  | [.dct _ _], h => simp [mthO] at h
  | [.lk _ _], h => simp [mthO] at h
  | _ :: _ :: _, h => simp [mthO] at h
theorem mu_append : MtR X "list.append" (rMu G .append true) := by
  intro pins s σ0 H x xs v us Q I rx rs ⟨σ, δ, uts, gv, gt, i, p, t, r, t', F, hb, e, q⟩
  obtain ⟨ts, rfl⟩ := isL_in hb
  obtain ⟨t, rfl, hl, rfl, rfl⟩ := app_inv e
  obtain ⟨w, rfl⟩ := one_of F.lws
  obtain ⟨a, vs, rfl, ha, lv⟩ := F.isLst
  refine mt_append pins s σ0 H _ _ v us Q I rx rs ⟨a, vs, w, rfl, rfl, ha, by omega, q _ _ ?_⟩
  exact (app_mut F ha).pushD fun O _ _ => .non
theorem mu_pop : MtR X "list.pop" (rMu G .pop true) := by
  intro pins s σ0 H x xs v us Q I rx rs ⟨σ, δ, uts, gv, gt, i, p, t, r, t', F, hb, e, q⟩
  obtain ⟨ts, rfl⟩ := isL_in hb
  obtain ⟨rfl, hn, rfl⟩ := pop_inv e
  have hx : xs = [] := List.length_eq_zero_iff.mp F.lws
  subst hx
  obtain ⟨a, vs, rfl, ha, lv⟩ := F.isLst
  obtain ⟨w, hw, A⟩ := pop_mut F ha hn
  exact mt_pop pins s σ0 H _ _ v us Q I rx rs ⟨a, vs, w, rfl, rfl, ha, hw, q _ _ A⟩
theorem ixOf_seq {n k : Nat} {i : Int} (h : ixOf n i = some k) : seqIndex? i n = some k := by
  rw [ixOf_ixN] at h
  exact (ixN_seq h).1
theorem mu_popAt : MtR X "list.pop" (rMu G .popAt true) := by
  intro pins s σ0 H x xs v us Q I rx rs ⟨σ, δ, uts, gv, gt, i, p, t, r, t', F, hb, e, q⟩
  obtain ⟨ts, rfl⟩ := isL_in hb
  obtain ⟨j, n, rfl, hj, h1, h2, rfl⟩ := popAt_inv e
  obtain ⟨w, rfl⟩ := one_of F.lws
  have A : At G σ H δ (w :: gv) (.d (.int j) :: gt) := F.at
  obtain rfl := A.topI
  obtain ⟨a, vs, rfl, ha, lv⟩ := F.isLst
  obtain ⟨w, hw, A⟩ := popAt_mut F ha h2
  unfold inR at hj
  simp only [Bool.and_eq_true, decide_eq_true_eq] at hj
  exact mt_popAt pins s σ0 H _ _ v us Q I rx rs ⟨a, vs, j, n, w, rfl, rfl, ha, by omega, by omega, by rw [lv]; exact ixOf_seq h1, hw, q _ _ A⟩
end
end Ev
set_option Elab.async false
set_option linter.all false
set_option maxRecDepth 100000
set_option maxHeartbeats 4000000
set_option autoImplicit false
/-! Snd24: own dicts changed. -/
namespace Ev
open PySem PySem.W PySem.Spec L2
open PyProof.Rows hiding St

section
variable {G : Gd} {W : WX} {X : Cx} {fx : Nat → Prop}
theorem kix_atG {K : Type} [DecidableEq K] {f : K → PyData} (hf : ∀ a b, keq (f a) (f b) = decide (a = b)) : ∀ {ks : List K} {κ : K} {n : Nat}, kix (ks.map f) (f κ) = some n → ks[n]? = some κ
  | [], _, _, h => by simp [kix] at h
  | a :: ks, κ, n, h => by
    simp only [List.map_cons, kix] at h
    rw [hf] at h
    by_cases he : a = κ
    · subst he
      simp at h
      subst h
      rfl
    · simp only [he, decide_false, Bool.false_eq_true, if_false] at h
      cases e : kix (ks.map f) (f κ) with
      | none => rw [e] at h; cases h
      | some m =>
        rw [e] at h
        cases h
        show ks[m]? = some κ
        exact kix_atG hf e
theorem drop_none {K : Type} [DecidableEq K] {ks : List K} {vs : List V} {κ : K} (h : κ ∉ ks) : dropK (ks.zip vs) κ = ks.zip vs := by
  unfold dropK
  apply List.filter_eq_self.mpr
  intro p hp
  have := (List.of_mem_zip hp).1
  simp only [decide_eq_true_eq]
  intro z
  exact h (z ▸ this)
theorem drop_zip {K : Type} [DecidableEq K] : ∀ {ks : List K} {vs : List V} {κ : K} {n : Nat}, ks.Nodup → ks[n]? = some κ → ks.length = vs.length → dropK (ks.zip vs) κ = (ks.eraseIdx n).zip (vs.eraseIdx n)
  | [], _, _, _, _, h, _ => by simp at h
  | a :: ks, [], _, _, _, _, l => by simp at l
  | a :: ks, v :: vs, κ, 0, nd, h, l => by
    simp at h
    subst h
    show dropK ((a, v) :: ks.zip vs) a = ks.zip vs
    have : dropK ((a, v) :: ks.zip vs) a = dropK (ks.zip vs) a := by simp [dropK]
    rw [this, drop_none (List.nodup_cons.mp nd).1]
  | a :: ks, v :: vs, κ, n + 1, nd, h, l => by
    have hne : a ≠ κ := by
      rintro rfl
      have : a ∈ ks := List.mem_of_getElem? (by simpa using h)
      exact (List.nodup_cons.mp nd).1 this
    show dropK ((a, v) :: ks.zip vs) κ = (a, v) :: (ks.eraseIdx n).zip (vs.eraseIdx n)
    have : dropK ((a, v) :: ks.zip vs) κ = (a, v) :: dropK (ks.zip vs) κ := by simp [dropK, hne]
    rw [this, drop_zip (List.nodup_cons.mp nd).2 (by simpa using h) (by simpa using l)]
theorem val_zip {ks : List Key} {vs : List V} {κ : Key} {n : Nat} {v : V} (h : kix (ks.map keyD) (keyD κ) = some n) (e : vs[n]? = some v) (l : ks.length = vs.length) : valV (ks.zip vs) κ = some v := by
  have := kix_look keq_keyD ks vs κ l
  rw [h] at this
  simp only [Option.bind, nth_eq, e] at this
  exact this.symm
theorem map_erase {α β : Type} (f : α → β) : ∀ (xs : List α) (n : Nat), (xs.eraseIdx n).map f = (xs.map f).eraseIdx n
  | [], _ => rfl
  | _ :: _, 0 => rfl
  | x :: xs, n + 1 => congrArg (f x :: ·) (map_erase f xs n)
theorem popD_inv {ks : List PyData} {ts us : List T} {r t' : T} (h : mthO .popAt (.dct ks ts) us = some (r, t')) : ∃ k n, us = [.d k] ∧ kfit ks k = true ∧ kcls k = some false ∧ kix ks k = some n ∧ nth ts n = some r ∧ t' = .dct (ks.eraseIdx n) (ts.eraseIdx n) := by
  match us, h with
  | [], h => simp [mthO] at h
  | [.d k], h =>
    simp only [mthO] at h
    split at h
    · rename_i hj
      simp only [Bool.and_eq_true, beq_iff_eq] at hj
      split at h
      · rename_i n e1
        split at h
        · rename_i t e2
          simp only [Option.some.injEq, Prod.mk.injEq] at h
          obtain ⟨rfl, rfl⟩ := h
          exact ⟨k, n, rfl, hj.1, hj.2, e1, e2, rfl⟩
        · cases h
      · cases h
    · cases h
  | [.un], h => simp [mthO] at h
  | [.fn _], h => simp [mthO] at h
  | [.fz _], h => simp [mthO] at h
  | [.tup _], h => simp [mthO] at h
  | [.lst _], h => simp [mthO] at h
  | [.dct _ _], h => simp [mthO] at h
  | [.lk _ _], h => simp [mthO] at h
  | _ :: _ :: _, h => simp [mthO] at h
theorem ref_cls {H : Hp} {O : List Addr} {a : Addr} {z : PyData} (h : Rep G H O (.ref a) z) : kcls z ≠ some false := by
  cases h with
  | tup _ _ =>
    simp only [kcls]
    split <;> simp
  | _ => simp [kcls]
theorem nk_cls {H : Hp} {O : List Addr} {κs : List (NestedKey × Addr)} (r : Reps G H O (nkV κs) (nkD κs)) : ∀ k ∈ nkD κs, kcls k ≠ some false := by
  induction κs with
  | nil => intro k h; simp at h
  | cons κ κs ih =>
    intro k h
    cases r with
    | cons h1 h2 =>
      rcases List.mem_cons.mp h with e | h
      · subst e
        exact ref_cls h1
      · exact ih h2 k h
/-- the dict at a place -/
theorem FocP.isDct {σ : St} {H : Hp} {δ : List T} {ws gv : List V} {us gt : List T} {i : Nat} {p : List PyData} {v : V} {ks : List PyData} {ts : List T} (F : FocP G σ H δ ws us gv gt i p (.dct ks ts) v) :
    ∃ a, v = .ref a ∧ ((∃ (κs : List Key) (vs : List V), ks = κs.map keyD ∧ H a = some (.dK (κs.zip vs)) ∧ κs.length = vs.length ∧ κs.Nodup ∧ vs.length = ts.length) ∨
      (∃ (κs : List (NestedKey × Addr)) (vs : List V), ks = nkD κs ∧ H a = some (DN G.P G.w a κs vs) ∧ κs.length = vs.length ∧ (κs ≠ [] ∧ (κs.map (·.1)).Nodup) ∧ vs.length = ts.length ∧ ∀ k ∈ ks, kcls k ≠ some false)) := by
  obtain ⟨ft, l, g, r, nd, r1, r2, th, kk⟩ := F.hole
  cases r2 with
  | dK h l n rr => exact ⟨_, rfl, .inl ⟨_, _, rfl, h, l, n, rr.length⟩⟩
  | dN h l n rk rr => exact ⟨_, rfl, .inr ⟨_, _, rfl, h, l, n, rr.length, nk_cls rk⟩⟩
theorem kfit_head {ks : List PyData} {k : PyData} {b : Bool} (h : kfit ks k = true) (hb : kcls k = some b) (hne : ks ≠ []) : ∃ k' ∈ ks, kcls k' = some b := by
  unfold kfit at h
  rw [hb] at h
  cases ks with
  | nil => exact absurd rfl hne
  | cons k' ks => exact ⟨k', List.mem_cons_self, by simpa using h⟩
theorem popD_mut {σ : St} {H : Hp} {δ : List T} {gv : List V} {gt : List T} {i : Nat} {p : List PyData} {a : Addr} {κs : List Key} {vs : List V} {ts : List T} {t : T} {n : Nat} {κ : Key} {d : V} {dd : PyData}
    (F : FocP G σ H δ [d] [.d dd] gv gt i p (.dct (κs.map keyD) ts) (.ref a)) (ha : H a = some (.dK (κs.zip vs))) (l : κs.length = vs.length) (ndk : κs.Nodup) (hk : kix (κs.map keyD) (keyD κ) = some n) (hn : nth ts n = some t) :
    ∃ w, vs[n]? = some w ∧ At G σ (upd H a (.dK (dropK (κs.zip vs) κ))) (setS δ i p (.dct ((κs.map keyD).eraseIdx n) (ts.eraseIdx n))) (w :: gv) (t :: gt) := by
  have hlt := nth_lt hn
  have hκ := kix_atG keq_keyD hk
  obtain ⟨hln, _⟩ := List.getElem?_eq_some_iff.mp hκ
  refine ⟨vs[n]'(by omega), by simp, ?_⟩
  refine F.mut (rs := [vs[n]'(by omega)]) (rt := [t]) rfl fun O g ft r2 r1 => ?_
  have hft : ft = [] := by
    cases r1 with
    | cons p1 p2 =>
      cases p2
      cases p1
      rfl
  subst hft
  generalize hks : κs.map keyD = ks0 at r2
  cases r2 with
  | dK h l' nd' rr =>
    rename_i κs' vs' fp
    rw [ha] at h
    have hz : κs.zip vs = κs'.zip vs' := by
      injection h with h
      injection h
    have e1 : κs = κs' := by
      have := congrArg (List.map Prod.fst) hz
      rwa [List.map_fst_zip (by omega), List.map_fst_zip (by omega)] at this
    have e2 : vs = vs' := by
      have := congrArg (List.map Prod.snd) hz
      rwa [List.map_snd_zip (by omega), List.map_snd_zip (by omega)] at this
    subst e1 e2
    obtain ⟨vl, w, vr, tl, tr, lf, g, r, e1, e2, e3, n1, n2, h1, h2, h3⟩ := rr.pick hn
    have hw : vs[n]'(by omega) = w := by
      have : vs[n]? = some w := by rw [e1, ← n1]; simp
      rw [List.getElem?_eq_getElem (by omega)] at this
      exact Option.some.inj this
    refine ⟨a, fp, _, rfl, rfl, fun ob w z => (by rw [ha] at z; cases z), rfl, lf ++ r, g, [], ?_, by rw [hw]; simpa using RepTs.cons h2 .nil, fun H2 O2 h2' U k2 => ?_⟩
    · rw [e3]
      rw [List.perm_iff_count]
      intro b
      simp only [List.count_append, List.count_nil]
      omega
    · rw [drop_zip ndk hκ l] at h2'
      rw [← map_erase]
      refine .dK h2' ?_ (ndk.sublist (List.eraseIdx_sublist _ _)) ?_
      · rw [List.length_eraseIdx, List.length_eraseIdx, l]
      · rw [e2, erase_split n2, e1, erase_split n1]
        exact (h1.up U fun b hb => k2 b (List.mem_append_left _ hb)).append (h3.up U fun b hb => k2 b (List.mem_append_right _ hb))
  | dN h l' nd' rk rr =>
    rw [ha] at h
    cases h
theorem mu_popD : MtR X "dict.pop" (rMu G .popAt false) := by
  intro pins s σ0 H x xs v us Q I rx rs ⟨σ, δ, uts, gv, gt, i, p, t, r, t', F, hb, e, q⟩
  have ht : ∃ ks ts, t = .dct ks ts := by
    cases t with
    | dct ks ts => exact ⟨_, _, rfl⟩
    | lst ts => cases hb
    | _ => simp [mthO] at e
  obtain ⟨ks, ts, rfl⟩ := ht
  obtain ⟨k, n, rfl, h1, h2, h3, h4, rfl⟩ := popD_inv e
  obtain ⟨w, rfl⟩ := one_of F.lws
  obtain ⟨a, rfl, ⟨κs, vs, rfl, ha, l, nd, lt⟩ | ⟨κs, vs, rfl, ha, l, nd, lt, hc⟩⟩ := F.isDct
  · obtain ⟨κ, rfl⟩ := kcls_f h2
    have A : At G σ H δ (w :: gv) (.d (keyD κ) :: gt) := F.at
    obtain ⟨O, ry⟩ := A.top
    obtain rfl := kV_of ry
    obtain ⟨w, hw, A2⟩ := popD_mut F ha l nd h3 h4
    cases rx
    obtain ⟨u, rfl, ru⟩ := rs.one
    exact d_pop I ha ru (val_zip h3 hw l) (.inl rfl) fun w' s' I' rw' => ⟨w, _, I', rw', q _ _ A2⟩
  · obtain ⟨k', hm, hk⟩ := kfit_head h1 h2 (by
      have h := nd.1
      intro z
      exact h (List.map_eq_nil_iff.mp z))
    exact absurd hk (hc k' hm)
end
end Ev
set_option Elab.async false
set_option linter.all false
set_option maxRecDepth 100000
set_option maxHeartbeats 4000000
set_option autoImplicit false
/-! Snd25: a dict with tuple keys, written. -/
namespace Ev
open PySem PySem.W PySem.Spec L2
open PyProof.Rows hiding St

section
variable {G : Gd} {W : WX} {X : Cx} {fx : Nat → Prop}
theorem atX_none {ks : List (NestedKey × Addr)} {us : List Value} {κ : NestedKey} (h : κ ∉ ks.map (·.1)) : atKey (nkX ks us) κ = none := by
  unfold atKey
  rw [Option.map_eq_none_iff, List.find?_eq_none]
  intro x hx
  simp only [nkX, List.mem_map] at hx
  obtain ⟨q, hq, rfl⟩ := hx
  have hq1 : q.1 ∈ ks := (List.of_mem_zip (a := q.1) (b := q.2) hq).1
  simp only [decide_eq_true_eq]
  intro z
  exact h (List.mem_map.mpr ⟨q.1, hq1, z⟩)
theorem nkX_new {ks : List (NestedKey × Addr)} {us : List Value} {κ : NestedKey} {b : Addr} {r : Value} (l : us.length = ks.length) (h : κ ∉ ks.map (·.1)) : storedH (nkX ks us) κ b r = nkX (ks ++ [(κ, b)]) (us ++ [r]) := by
  rw [storedH_new (atX_none h)]
  unfold nkX
  rw [List.zip_append (by omega)]
  simp
theorem putAt_none {κ : NestedKey} {r : Value} : ∀ {ks : List (NestedKey × Addr)} {us : List Value}, κ ∉ ks.map (·.1) → (nkX ks us).map (putAt κ r) = nkX ks us
  | [], _, _ => by simp [nkX]
  | _ :: _, [], _ => by simp [nkX]
  | k :: ks, u :: us, h => by
    have hne : ¬ k.1 = κ := fun z => h (by simp [z])
    have ih := putAt_none (r := r) (ks := ks) (us := us) (fun z => h (by simp at z ⊢; exact .inr z))
    simp only [nkX, List.zip_cons_cons, List.map_cons] at ih ⊢
    rw [ih]
    simp [putAt, hne]
theorem nkX_set {κ : NestedKey} {r : Value} : ∀ {ks : List (NestedKey × Addr)} {us : List Value} {n : Nat}, (ks.map (·.1)).Nodup → (ks.map (·.1))[n]? = some κ → us.length = ks.length → (nkX ks us).map (putAt κ r) = nkX ks (us.set n r)
  | [], _, _, _, h, _ => by simp at h
  | _ :: _, [], _, _, _, l => by simp at l
  | k :: ks, u :: us, 0, nd, h, l => by
    simp at h
    subst h
    have nd' : k.1 ∉ ks.map (·.1) := (List.nodup_cons.mp (by simpa using nd)).1
    have ih := putAt_none (r := r) (us := us) nd'
    simp only [nkX, List.zip_cons_cons, List.map_cons, List.set_cons_zero] at ih ⊢
    rw [ih]
    simp [putAt]
  | k :: ks, u :: us, n + 1, nd, h, l => by
    have nd' := List.nodup_cons.mp (show (k.1 :: ks.map (·.1)).Nodup by simpa using nd)
    have h' : (ks.map (·.1))[n]? = some κ := by simpa using h
    have hne : ¬ k.1 = κ := fun z => nd'.1 (z ▸ List.mem_of_getElem? h')
    have ih := nkX_set (r := r) nd'.2 h' (by simpa using l)
    simp only [nkX, List.zip_cons_cons, List.map_cons, List.set_cons_succ] at ih ⊢
    rw [ih]
    simp [putAt, hne]
theorem atX_some {ks : List (NestedKey × Addr)} {us : List Value} {κ : NestedKey} {n : Nat} (nd : (ks.map (·.1)).Nodup) (h : (ks.map (·.1))[n]? = some κ) (l : us.length = ks.length) : (atKey (nkX ks us) κ).isSome = true := by
  cases e : atKey (nkX ks us) κ with
  | some _ => rfl
  | none =>
    exfalso
    unfold atKey at e
    rw [Option.map_eq_none_iff, List.find?_eq_none] at e
    obtain ⟨hl, h⟩ := List.getElem?_eq_some_iff.mp h
    simp at hl h
    have hm : (ks.zip us)[n]'(by simp; omega) ∈ ks.zip us := List.getElem_mem _
    have := e _ (List.mem_map.mpr ⟨_, hm, rfl⟩)
    simp [h] at this
theorem nkX_old {ks : List (NestedKey × Addr)} {us : List Value} {κ : NestedKey} {b : Addr} {r : Value} {n : Nat} (nd : (ks.map (·.1)).Nodup) (h : (ks.map (·.1))[n]? = some κ) (l : us.length = ks.length) : storedH (nkX ks us) κ b r = nkX ks (us.set n r) := by
  unfold storedH
  rw [if_pos (atX_some nd h l), nkX_set nd h l]
/-- where a key goes -/
def putKs (ks : List (NestedKey × Addr)) (κ : NestedKey) (b : Addr) : List (NestedKey × Addr) := match kix (nkD ks) κ.data with
  | some _ => ks
  | none => ks ++ [(κ, b)]
def putVs {α : Type} (ks : List PyData) (vs : List α) (k : PyData) (v : α) : List α := match kix ks k with
  | some n => vs.set n v
  | none => vs ++ [v]
theorem dn_new {H' : Hp} {h' : Heap} {P : Program} {w : World} {a : Addr} {ks : List (NestedKey × Addr)} {vs : List V} {us : List Value} (hd : (a == sysModules) = false) (z : ks.length ≤ sizeLine) (hdp : ∀ x ∈ ks, x.1.depth ≤ 8) (rv : Vals vs us) (l : us.length = ks.length)
    (dd : h'.DictOfH (nestedKind P w) a (nkX ks us)) : ObjOk P w H' h' a (DN P w a ks vs) := by
  obtain ⟨o, es, ep, ho, hc, hdt, he, hk, nd⟩ := dd
  rw [nkX_keys l] at nd
  refine ⟨⟨hd, z, hdp, nd, us, rv, l, o, es, ep, ho, hc, hdt, by rw [he]; simp [nkX]⟩, ⟨o, ho⟩, ?_⟩
  rintro h1 h2 ⟨k1, k2, k3, k4, us, k5, k6, o, es, ep, k7, k8⟩ kk
  exact ⟨k1, k2, k3, k4, us, k5, k6, o, es, ep, kk o k7, k8⟩
theorem keq_one (a b : NestedKey) : keq a.data b.data = decide (a = b) := keq_data' a b
theorem put_dn (ok : Ok0 G X) {pins : List (Addr × Obj)} {σ : St} {H : Hp} {s : Shared} {O : List Addr} {a b : Addr} {ks : List (NestedKey × Addr)} {vs : List V} {κ : NestedKey} {v : V} {r : Value} {E : Value → Shared → Prop} {Q : Unit → Shared → Prop} (I : Inv X pins σ H s)
    (hd : H a = some (DN G.P G.w a ks vs) ∧ ks ≠ [] ∨ H a = some (.dK []) ∧ ks = []) (l : ks.length = vs.length) (nd : (ks.map (·.1)).Nodup) (rk : Reps G H O (nkV ks) (nkD ks)) (ry : Rep G H O (.ref b) κ.data) (dκ : κ.depth ≤ 8) (hl : ks.length < sizeLine) (rv : RelV v r)
    (h : ∀ s', Inv X pins σ (upd H a (DN G.P G.w a (putKs ks κ b) (putVs (nkD ks) vs κ.data v))) s' → Q () s') : wpAny (model X.prog X.w) X.A (setItem (.ref a) (.ref b) r) Q E s := by
  have hkey : (nestedKind X.prog X.w).is s.heap κ b := ⟨nested_is ok.hK I κ _ _ ry rfl, dκ⟩
  have main : ∀ us, (a == sysModules) = false → (∀ x ∈ ks, x.1.depth ≤ 8) → Vals vs us → us.length = ks.length → s.heap.DictOfH (nestedKind X.prog X.w) a (nkX ks us) → Mut (H a) → wpAny (model X.prog X.w) X.A (setItem (.ref a) (.ref b) r) Q E s := by
    intro us hs hdp rvs lu dd mu
    refine wpAny_setItem_heap (knd := nestedKind X.prog X.w) (by show X.A.in1.units + 8 < cLine; have := ok.hu; show X.A.units + 1 + 8 < cLine; omega) hkey dd (fun h' dd' sb => h _ ?_) (by simp [nkX]; omega)
    have new : ObjOk X.prog X.w (upd H a (DN G.P G.w a (putKs ks κ b) (putVs (nkD ks) vs κ.data v))) h' a (DN G.P G.w a (putKs ks κ b) (putVs (nkD ks) vs κ.data v)) := by
      rw [ok.hP, ok.hw]
      unfold putKs putVs
      cases e : kix (nkD ks) κ.data with
      | some n =>
        have hn : (ks.map (·.1))[n]? = some κ := by rw [nkD_map] at e; exact kix_atG keq_one e
        rw [nkX_old nd hn lu] at dd'
        exact dn_new hs (Nat.le_of_lt hl) hdp (rvs.set rv n) (by simpa using lu) dd'
      | none =>
        have hn : κ ∉ ks.map (·.1) := by rw [nkD_map] at e; exact kix_none keq_one e
        rw [nkX_new lu hn] at dd'
        refine dn_new hs (by simp; omega) (fun x hx => ?_) (rvs.append (.cons rv .nil)) (by simp [lu]) dd'
        rcases List.mem_append.mp hx with hx | hx
        · exact hdp x hx
        · simp at hx
          subst hx
          exact dκ
    obtain ⟨o, es, ep, ho, _⟩ := dd'
    exact d_write I mu sb ⟨o, ho⟩ new
  rcases hd with ⟨hd, hne⟩ | ⟨hd, rfl⟩
  · obtain ⟨h1, h2, h3, us, rvs, lu, dd⟩ := dn_rd ok I (.inl hd) rk
    exact main us h1 h3 rvs lu dd (by rw [hd]; trivial)
  · obtain ⟨h1, dd⟩ := nil_keyed I (.inl hd)
    have : vs = [] := by cases vs; rfl; simp at l
    subst this
    exact main [] h1 (fun x hx => nomatch hx) .nil rfl dd (by rw [hd]; trivial)
end
end Ev
set_option Elab.async false
set_option linter.all false
set_option maxRecDepth 100000
set_option maxHeartbeats 4000000
set_option autoImplicit false
/-! Snd26: items of own things set. -/
namespace Ev
open PySem PySem.W PySem.Spec L2
open PyProof.Rows hiding St

section
variable {G : Gd} {W : WX} {X : Cx} {fx : Nat → Prop}
theorem kix_lt : ∀ {ks : List PyData} {k : PyData} {n : Nat}, kix ks k = some n → n < ks.length
  | [], _, _, h => by simp [kix] at h
  | a :: ks, k, n, h => by
    simp only [kix] at h
    split at h
    · cases h; simp
    · cases e : kix ks k with
      | none => rw [e] at h; cases h
      | some m =>
        rw [e] at h
        cases h
        have := kix_lt e
        simp; omega
/-- a row with one thing in another's place -/
theorem set_pick {H : Hp} {O : List Addr} {vs : List V} {ts : List T} {f ft : List Addr} {n : Nat} {w : V} {t : T} (r : RepTs G H O vs ts f) (hn : n < ts.length) (q : RepTs G H O [w] [t] ft) :
    ∃ fp' rest, (fp' ++ rest).Perm (ft ++ f) ∧ ∀ H2 O2, Up O H O2 H2 → (∀ b ∈ fp', H2 b = H b) → RepTs G H2 O2 (vs.set n w) (put ts n t) fp' := by
  obtain ⟨u, hu⟩ : ∃ u, nth ts n = some u := by rw [nth_eq]; exact ⟨ts[n], by simp [hn]⟩
  obtain ⟨vl, v, vr, tl, tr, l, g, r', e1, e2, e3, n1, n2, h1, h2, h3⟩ := r.pick hu
  refine ⟨l ++ (ft ++ r'), g, ?_, fun H2 O2 U k => ?_⟩
  · rw [e3, List.perm_iff_count]
    intro b
    simp only [List.count_append]
    omega
  · rw [← put_eq, e1, e2, nth_put n1, nth_put n2]
    have a1 := h1.up U fun b hb => k b (List.mem_append_left _ hb)
    have a2 := q.up U fun b hb => k b (List.mem_append_right _ (List.mem_append_left _ hb))
    have a3 := h3.up U fun b hb => k b (List.mem_append_right _ (List.mem_append_right _ hb))
    exact a1.append (a2.append a3)
theorem put_row {H : Hp} {O : List Addr} {ks : List PyData} {k : PyData} {vs : List V} {ts : List T} {f ft : List Addr} {w : V} {t : T} (r : RepTs G H O vs ts f) (l : ks.length = ts.length) (q : RepTs G H O [w] [t] ft) :
    ∃ fp' rest, (fp' ++ rest).Perm (ft ++ f) ∧ ∀ H2 O2, Up O H O2 H2 → (∀ b ∈ fp', H2 b = H b) → RepTs G H2 O2 (putVs ks vs k w) (dput ks ts k t).2 fp' := by
  unfold putVs dput
  cases e : kix ks k with
  | some n => exact set_pick r (by rw [← l]; exact kix_lt e) q
  | none =>
    refine ⟨f ++ ft, [], by rw [List.append_nil]; exact List.perm_append_comm, fun H2 O2 U k => ?_⟩
    exact (r.up U fun b hb => k b (List.mem_append_left _ hb)).append (q.up U fun b hb => k b (List.mem_append_right _ hb))
theorem putK_set {v : V} {κ : Key} : ∀ {κs : List Key} {vs : List V} {n : Nat}, κs.Nodup → κs[n]? = some κ → κs.length = vs.length → (κs.zip vs).map (fun kv => if kv.1 = κ then (kv.1, v) else kv) = κs.zip (vs.set n v)
  | [], _, _, _, h, _ => by simp at h
  | _ :: _, [], _, _, _, l => by simp at l
  | a :: κs, w :: vs, 0, nd, h, l => by
    simp at h
    subst h
    have nm : ∀ {κs : List Key} {vs : List V}, a ∉ κs → (κs.zip vs).map (fun kv => if kv.1 = a then (kv.1, v) else kv) = κs.zip vs := by
      intro κs vs h
      rw [List.map_congr_left (g := id), List.map_id]
      intro p hp
      have := (List.of_mem_zip (a := p.1) (b := p.2) hp).1
      have : p.1 ≠ a := fun z => h (z ▸ this)
      simp [this]
    simp only [List.zip_cons_cons, List.map_cons, List.set_cons_zero, if_true]
    rw [nm (List.nodup_cons.mp nd).1]
  | a :: κs, w :: vs, n + 1, nd, h, l => by
    have h' : κs[n]? = some κ := by simpa using h
    have hne : a ≠ κ := fun z => (List.nodup_cons.mp nd).1 (z ▸ List.mem_of_getElem? h')
    simp only [List.zip_cons_cons, List.map_cons, List.set_cons_succ, hne, if_false]
    rw [putK_set (List.nodup_cons.mp nd).2 h' (by simpa using l)]
def putKK (κs : List Key) (κ : Key) : List Key := match kix (κs.map keyD) (keyD κ) with
  | some _ => κs
  | none => κs ++ [κ]
theorem putK_zip {κs : List Key} {vs : List V} {κ : Key} {v : V} (l : κs.length = vs.length) (nd : κs.Nodup) : putK (κs.zip vs) κ v = (putKK κs κ).zip (putVs (κs.map keyD) vs (keyD κ) v) := by
  unfold putK putKK putVs
  cases e : kix (κs.map keyD) (keyD κ) with
  | some n =>
    have hn := kix_atG keq_keyD e
    obtain ⟨hl, _⟩ := List.getElem?_eq_some_iff.mp hn
    have hv := val_zip e (v := vs[n]'(by omega)) (by simp) l
    rw [if_pos (by rw [valV_any, hv]; rfl)]
    exact putK_set nd hn l
  | none =>
    have hn := kix_none keq_keyD e
    rw [if_neg]
    · show _ = (κs ++ [κ]).zip (vs ++ [v])
      rw [List.zip_append l]
      rfl
    · intro h
      obtain ⟨p, hp, h⟩ := List.any_eq_true.mp h
      have := (List.of_mem_zip (a := p.1) (b := p.2) hp).1
      simp only [decide_eq_true_eq] at h
      exact hn (h ▸ this)
theorem putKK_map (κs : List Key) (κ : Key) {α : Type} (ts : List α) (t : α) : (putKK κs κ).map keyD = (dput (κs.map keyD) ts (keyD κ) t).1 := by
  unfold putKK dput
  cases kix (κs.map keyD) (keyD κ) <;> simp
theorem putKs_map (ks : List (NestedKey × Addr)) (κ : NestedKey) (b : Addr) {α : Type} (ts : List α) (t : α) : nkD (putKs ks κ b) = (dput (nkD ks) ts κ.data t).1 := by
  unfold putKs dput
  cases kix (nkD ks) κ.data <;> simp
theorem putKK_nd {κs : List Key} {κ : Key} (nd : κs.Nodup) : (putKK κs κ).Nodup := by
  unfold putKK
  cases e : kix (κs.map keyD) (keyD κ) with
  | some n => exact nd
  | none =>
    have hn := kix_none keq_keyD e
    exact List.nodup_append.mpr ⟨nd, by simp, fun a ha b hb z => by simp at hb; subst hb; subst z; exact hn ha⟩
theorem putVs_len {α : Type} {ks : List PyData} {vs : List α} {k : PyData} {v : α} : (putVs ks vs k v).length = if (kix ks k).isSome then vs.length else vs.length + 1 := by
  unfold putVs
  cases kix ks k <;> simp
theorem putKK_len {κs : List Key} {κ : Key} : (putKK κs κ).length = if (kix (κs.map keyD) (keyD κ)).isSome then κs.length else κs.length + 1 := by
  unfold putKK
  cases kix (κs.map keyD) (keyD κ) <;> simp
theorem putKs_len {ks : List (NestedKey × Addr)} {κ : NestedKey} {b : Addr} : (putKs ks κ b).length = if (kix (nkD ks) κ.data).isSome then ks.length else ks.length + 1 := by
  unfold putKs
  cases kix (nkD ks) κ.data <;> simp
theorem putKs_nd {ks : List (NestedKey × Addr)} {κ : NestedKey} {b : Addr} (nd : (ks.map (·.1)).Nodup) : putKs ks κ b ≠ [] ∧ ((putKs ks κ b).map (·.1)).Nodup := by
  unfold putKs
  cases e : kix (nkD ks) κ.data with
  | some n =>
    have := kix_lt e
    refine ⟨?_, nd⟩
    rintro rfl
    simp at this
  | none =>
    rw [nkD_map] at e
    have hn := kix_none keq_one e
    refine ⟨by simp, ?_⟩
    rw [List.map_append]
    exact List.nodup_append.mpr ⟨nd, by simp, fun a ha b hb z => by simp at hb; subst hb; subst z; exact hn ha⟩
theorem putKs_rep {H : Hp} {O : List Addr} {ks : List (NestedKey × Addr)} {κ : NestedKey} {b : Addr} (rk : Reps G H O (nkV ks) (nkD ks)) (ry : Rep G H O (.ref b) κ.data) : Reps G H O (nkV (putKs ks κ b)) (nkD (putKs ks κ b)) := by
  unfold putKs
  cases e : kix (nkD ks) κ.data with
  | some n => exact rk
  | none =>
    have app : ∀ {vs : List V} {xs : List PyData}, Reps G H O vs xs → Reps G H O (vs ++ [.ref b]) (xs ++ [κ.data]) := by
      intro vs
      induction vs with
      | nil => intro xs h; cases h; exact .cons ry .nil
      | cons v vs ih =>
        intro xs h
        cases h with
        | cons h1 h2 => exact .cons h1 (ih h2)
    have := app rk
    simpa [nkV, nkD] using this
/-- the index, held beside -/
theorem FocP.hold {σ : St} {H : Hp} {δ : List T} {ws gv : List V} {us gt : List T} {i : Nat} {p : List PyData} {u : T} {v : V} (F : FocP G σ H δ ws us gv gt i p u v) :
    ∃ O, View G σ H O δ ∧ ∀ H2 y k, Same H H2 → Rep G H2 O y k → FocP G σ H2 δ (y :: ws) (.d k :: us) gv gt i p u v := by
  obtain ⟨ft, l, g, r, hole⟩ := F.hole
  have R : RepTs G H (ft ++ (l ++ (g ++ r))) (gv ++ sv σ) (gt ++ δ) (l ++ (g ++ r)) := by
    have := hole.2.2.2.2 H (ft ++ (l ++ (g ++ r))) u g (.less fun a h => h) (fun _ _ => rfl) hole.2.2.1
    rwa [setS_same F.getS] at this
  refine ⟨_, view_of F.env F.len R hole.2.2.2.1, fun H2 y k s ry => ?_⟩
  obtain ⟨nd, r1, r2, th, kk⟩ := hole.same s
  exact ⟨F.env, F.len, by simp [F.lws], F.root, ft, l, g, r, nd, .cons (f := []) (.d ry) r1, r2, th, kk⟩
/-- an own thing changed, opened once -/
theorem FocP.mut3 {σ : St} {H : Hp} {δ : List T} {ws gv : List V} {us gt : List T} {i : Nat} {p : List PyData} {u : T} {v : V} (F : FocP G σ H δ ws us gv gt i p u v) :
    ∃ O g ft, ((∀ b ∈ g, b ∈ O) ∧ ∀ b ∈ ft, b ∉ g) ∧ RepT G H O v u g ∧ RepTs G H O ws us ft ∧ ∀ (H' : Hp) (rs : List V) (rt : List T) (u' : T), rs.length = rt.length → (∃ a fp o', v = .ref a ∧ g = a :: fp ∧ (∀ ob w, H a ≠ some (.frz ob w)) ∧ H' = upd H a o' ∧
      ∃ fp' f' rest, (f' ++ (fp' ++ rest)).Perm (ft ++ fp) ∧ RepTs G H O rs rt f' ∧ ∀ H2 O2, H2 a = some o' → Up O H O2 H2 → (∀ b ∈ fp', H2 b = H b) → RepT G H2 O2 v u' (a :: fp')) → At G σ H' (setS δ i p u') (rs ++ gv) (rt ++ gt) := by
  obtain ⟨ft, l, g, r, nd, r1, r2, th, kk⟩ := F.hole
  have hg : ∀ b ∈ g, b ∈ ft ++ (l ++ (g ++ r)) := fun b hb => by simp [hb]
  have hn : ∀ b ∈ ft, b ∉ g := fun b hb z => (List.nodup_append.mp nd).2.2 _ hb _ (by simp [z]) rfl
  refine ⟨_, g, ft, ⟨hg, hn⟩, r2, r1, fun H' rs rt u' lr k => ?_⟩
  obtain ⟨a, fp, o', rfl, rfl, nf, rfl, fp', f', rest, pm, q1, q2⟩ := k
  obtain ⟨t0, v0, _, _, _, hv⟩ := F.root
  have pm2 : ((f' ++ (l ++ ((a :: fp') ++ r))) ++ rest).Perm (ft ++ (l ++ ((a :: fp) ++ r))) := by
    rw [List.perm_iff_count] at pm ⊢
    intro b
    have := pm b
    simp only [List.count_append, List.count_cons] at this ⊢
    omega
  have nd2 : (f' ++ (l ++ ((a :: fp') ++ r))).Nodup := (List.nodup_append.mp (pm2.nodup_iff.mpr nd)).1
  have sub : ∀ b, b ∈ f' ++ (l ++ ((a :: fp') ++ r)) → b ∈ ft ++ (l ++ ((a :: fp) ++ r)) := fun b hb => pm2.mem_iff.mp (List.mem_append_left _ hb)
  have ha : a ∈ ft ++ (l ++ ((a :: fp) ++ r)) := by simp
  have U : Up (ft ++ (l ++ ((a :: fp) ++ r))) H (f' ++ (l ++ ((a :: fp') ++ r))) (upd H a o') := .mut ha nf sub
  have ne : ∀ b, b ∈ l ++ r → b ≠ a := fun b hb z => by
    subst z
    have nd3 := (List.nodup_append.mp nd).2.1
    rw [List.mem_append] at hb
    rcases hb with hb | hb
    · exact (List.nodup_append.mp nd3).2.2 _ hb _ (by simp) rfl
    · have nd4 := (List.nodup_append.mp nd3).2.1
      exact (List.nodup_append.mp nd4).2.2 _ (List.mem_cons_self) _ hb rfl
  have nef : ∀ b, b ∈ f' ++ fp' → b ≠ a := fun b hb z => by
    subst z
    have : b ∈ ft ++ fp := pm.mem_iff.mp (by simp only [List.mem_append] at hb ⊢; rcases hb with h | h <;> simp [h])
    rw [List.mem_append] at this
    rcases this with h | h
    · exact (List.nodup_append.mp nd).2.2 _ h _ (by simp) rfl
    · have nd3 := (List.nodup_append.mp nd).2.1
      have nd4 := (List.nodup_append.mp nd3).2.1
      have nd5 := (List.nodup_append.mp nd4).1
      exact (List.nodup_cons.mp nd5).1 h
  have R := kk (upd H a o') (f' ++ (l ++ ((a :: fp') ++ r))) u' (a :: fp') U (fun b hb => upd_ne (ne b hb)) (q2 _ _ upd_same U fun b hb => upd_ne (nef b (List.mem_append_right _ hb)))
  refine ⟨F.env.setS hv, by simp [F.len, lr], _, nd2, ?_⟩
  rw [List.append_assoc, List.append_assoc]
  exact (q1.up U fun b hb => upd_ne (nef b (List.mem_append_left _ hb))).append R
/-- an own thing changed -/
theorem FocP.mut2 {σ : St} {H : Hp} {δ : List T} {ws gv : List V} {us gt : List T} {i : Nat} {p : List PyData} {u : T} {v : V} (F : FocP G σ H δ ws us gv gt i p u v) :
    ∃ O g ft, RepT G H O v u g ∧ RepTs G H O ws us ft ∧ ∀ (H' : Hp) (rs : List V) (rt : List T) (u' : T), rs.length = rt.length → (∃ a fp o', v = .ref a ∧ g = a :: fp ∧ (∀ ob w, H a ≠ some (.frz ob w)) ∧ H' = upd H a o' ∧
      ∃ fp' f' rest, (f' ++ (fp' ++ rest)).Perm (ft ++ fp) ∧ RepTs G H O rs rt f' ∧ ∀ H2 O2, H2 a = some o' → Up O H O2 H2 → (∀ b ∈ fp', H2 b = H b) → RepT G H2 O2 v u' (a :: fp')) → At G σ H' (setS δ i p u') (rs ++ gv) (rt ++ gt) := by
  obtain ⟨O, g, ft, _, r⟩ := F.mut3
  exact ⟨O, g, ft, r⟩
/-- o[i] = t, by values -/
def rSub (G : Gd) : TSet := fun o y v H Q => ∃ σ δ gv gt i p t k u t', FocP G σ H δ [y, v] [.d k, t] gv gt i p u o ∧ kidSet u k t = some t' ∧ ∀ H', At G σ H' (setS δ i p t') gv gt → Q H'
theorem setL_at {σ : St} {H : Hp} {δ : List T} {y v : V} {k : PyData} {t : T} {gv : List V} {gt : List T} {i n : Nat} {p : List PyData} {ts : List T} {a : Addr} {vs : List V} (F : FocP G σ H δ [y, v] [.d k, t] gv gt i p (.lst ts) (.ref a)) (ha : H a = some (.lst vs)) (hn : n < ts.length) :
    At G σ (upd H a (.lst (vs.set n v))) (setS δ i p (.lst (put ts n t))) gv gt := by
  obtain ⟨O, g, ft, r2, r1, mk⟩ := F.mut2
  refine mk _ [] [] _ rfl ?_
  cases r2 with
  | lst h rr =>
    rename_i vs' fp
    rw [ha] at h
    cases h
    cases r1 with
    | cons q1 r1 =>
      cases q1
      obtain ⟨fp', rest, pm, up⟩ := set_pick rr hn r1
      refine ⟨a, fp, _, rfl, rfl, fun ob w z => (by rw [ha] at z; cases z), rfl, fp', [], rest, by simpa using pm, .nil, fun H2 O2 h2 U k2 => .lst h2 (up H2 O2 U k2)⟩
theorem set_place (ok : Ok0 G X) : PSet X (rSub G) := by
  intro pins s σ0 H o y v ov iv r Q I ro ry rv ⟨σ, δ, gv, gt, i, p, t, k, u, t', F, e, q⟩
  unfold kidSet at e
  split at e
  · rename_i ts j
    split at e
    · rename_i n hn
      cases e
      have A : At G σ H δ (y :: ([v] ++ gv)) (.d (.int j) :: ([t] ++ gt)) := F.at
      obtain rfl := A.topI
      obtain ⟨a, vs, rfl, ha, lv⟩ := F.isLst
      refine set_list pins s σ0 H _ _ v ov iv r Q I ro ry rv ⟨a, vs, j, n, rfl, rfl, ha, ?_, q _ (setL_at F ha (ixOf_lt hn))⟩
      rw [lv, ← ixOf_ixN]
      exact hn
    · cases e
  · rename_i ks ts
    split at e
    · rename_i hf
      cases e
      simp only [Bool.and_eq_true] at hf
      obtain ⟨hf, hs⟩ := hf
      have hs : ks.length < sizeLine := Nat.lt_of_succ_le (by simpa [Nat.blt] using hs)
      obtain ⟨O, g, ft, r2, r1, mk⟩ := F.mut2
      have r1' : Rep G H O y k ∧ ∃ ft', ft = [] ++ ft' ∧ RepTs G H O [v] [t] ft' := by
        cases r1 with
        | cons q1 r1 =>
          cases q1 with
          | d q1 => exact ⟨q1, _, rfl, r1⟩
      obtain ⟨rk, ft', e1, r1'⟩ := r1'
      rw [List.nil_append] at e1
      subst e1
      generalize hks : ks = ks0 at r2
      cases r2 with
      | dK ha l nd rr =>
        rename_i a κs vs fp
        cases ro
        have hκ : ∃ κ, k = keyD κ ∨ (kcls k = some true ∧ κs = []) := by
          unfold kfit at hf
          cases hc : kcls k with
          | none => simp [hc] at hf
          | some b => cases b with
            | false =>
              obtain ⟨κ, rfl⟩ := kcls_f hc
              exact ⟨κ, .inl rfl⟩
            | true =>
              refine ⟨.inl 0, .inr ⟨rfl, ?_⟩⟩
              subst hks
              cases κs with
              | nil => rfl
              | cons κ κs =>
                simp only [hc, List.map_cons, kcls_keyD] at hf
                cases hf
        obtain ⟨κ, rfl | ⟨hc, rfl⟩⟩ := hκ
        · obtain rfl := kV_of rk
          obtain ⟨fp', rest, pm, up⟩ := put_row (ks := κs.map keyD) (k := keyD κ) rr (by simpa using l.trans rr.length) r1'
          refine d_setItem (by have := ok.hu; omega) I (.k ha (by rw [List.length_zip, ← l]; rw [hks] at hs; simp at hs; omega)) ry rv fun s' I' => ⟨_, I', q _ (mk _ [] [] _ rfl ?_)⟩
          refine ⟨a, fp, _, rfl, rfl, fun ob w z => (by rw [ha] at z; cases z), rfl, fp', [], rest, by simpa using pm, .nil, fun H2 O2 h2 U k2 => ?_⟩
          subst hks
          rw [putK_zip l nd] at h2
          rw [← putKK_map]
          refine .dK h2 ?_ (putKK_nd nd) (up H2 O2 U k2)
          rw [putKK_len, putVs_len, l]
        · obtain ⟨κ, rfl, dκ, xs, hx⟩ := kcls_t hc
          obtain ⟨b, rfl⟩ : ∃ b, y = .ref b := by
            rw [hx] at rk
            cases rk with
            | tup _ _ => exact ⟨_, rfl⟩
          cases ry
          have hvs : vs = [] := by cases vs; rfl; simp at l
          subst hvs
          have hts : ts = [] := by have := rr.length; cases ts; rfl; simp at this
          subst hts
          have hks' : ks = [] := by rw [hks]; rfl
          subst hks'
          cases hks
          obtain ⟨fp', rest, pm, up⟩ := put_row (ks := []) (k := κ.data) rr rfl r1'
          refine put_dn ok (a := a) (b := b) (ks := []) (vs := []) (κ := κ) I (.inr ⟨ha, rfl⟩) rfl .nil .nil rk dκ (by rw [sizeLine_eq]; decide) rv fun s' I' => ⟨_, I', q _ (mk _ [] [] _ rfl ?_)⟩
          refine ⟨a, fp, _, rfl, rfl, fun ob w z => (by rw [ha] at z; cases z), rfl, fp', [], rest, by simpa using pm, .nil, fun H2 O2 h2 U k2 => ?_⟩
          have hnew := RepT.dN (G := G) (ks := putKs [] κ b) h2 (by rw [putKs_len, putVs_len]; rfl) (putKs_nd .nil) ((putKs_rep .nil rk).up U) (up H2 O2 U k2)
          rw [putKs_map [] κ b [] t] at hnew
          exact hnew
      | dN ha l nd rk' rr =>
        rename_i a κs vs fp
        cases ro
        have hne : κs ≠ [] := nd.1
        have hc : kcls k = some true := by
          cases hc : kcls k with
          | none => unfold kfit at hf; simp [hc] at hf
          | some b => cases b with
            | true => rfl
            | false =>
              exfalso
              obtain ⟨k', hm, hk⟩ := kfit_head hf hc (by rw [hks]; intro z; exact hne (List.map_eq_nil_iff.mp z))
              rw [hks] at hm
              exact nk_cls rk' k' hm hk
        obtain ⟨κ, rfl, dκ, xs, hx⟩ := kcls_t hc
        obtain ⟨b, rfl⟩ : ∃ b, y = .ref b := by
          rw [hx] at rk
          cases rk with
          | tup _ _ => exact ⟨_, rfl⟩
        cases ry
        subst hks
        obtain ⟨fp', rest, pm, up⟩ := put_row (ks := nkD κs) (k := κ.data) rr (by simpa using l.trans rr.length) r1'
        refine put_dn ok (a := a) (b := b) (κ := κ) I (.inl ⟨ha, hne⟩) l nd.2 rk' rk dκ (by simpa using hs) rv fun s' I' => ⟨_, I', q _ (mk _ [] [] _ rfl ?_)⟩
        refine ⟨a, fp, _, rfl, rfl, fun ob w z => (by rw [ha] at z; cases z), rfl, fp', [], rest, by simpa using pm, .nil, fun H2 O2 h2 U k2 => ?_⟩
        have hnew := RepT.dN (G := G) (ks := putKs κs κ b) h2 (by rw [putKs_len, putVs_len, l]) (putKs_nd nd.2) ((putKs_rep rk' rk).up U) (up H2 O2 U k2)
        rw [putKs_map κs κ b ts t] at hnew
        exact hnew
    · cases e
  · cases e
end
end Ev
set_option Elab.async false
set_option linter.all false
set_option maxRecDepth 100000
set_option maxHeartbeats 4000000
set_option autoImplicit false
/-! Snd27: statements that set items, several names, names in place. -/
namespace Ev
open PySem PySem.W PySem.Spec L2
open PyProof.Rows hiding St

section
variable {G : Gd} {W : WX} {X : Cx} {fx : Nat → Prop}
theorem kidSet_un {u t u' : T} {k : PyData} (h : kidSet u k t = some u') : u ≠ .un := by
  rintro rfl
  simp [kidSet] at h
theorem stSub_in {C : Cf} {o i : IE} {t : T} {δ δ' : List T} (h : stSub C o i t δ = some δ') : ∃ s p u k u', plc C.gd δ o = some (s, p) ∧ getS δ s p = some u ∧ pur C.gd δ i = some k ∧ kidSet u k t = some u' ∧ δ' = setS δ s p u' := by
  unfold stSub at h
  split at h
  · rename_i s p e1
    split at h
    · rename_i u e2
      split at h
      · rename_i k e3
        split at h
        · rename_i u' e4
          cases h
          exact ⟨s, p, u, k, u', e1, e2, e3, e4, rfl⟩
        · cases h
      · cases h
    · cases h
  · cases h
theorem sub_in {C : Cf} {io ii : IE} {t : T} {σ : St} {H : Hp} {δ δ' : List T} {gv : List V} {gt : List T} {v : V} {Q : St → Hp → Prop} (A : At G σ H δ (v :: gv) (t :: gt)) (e : stSub C io ii t δ = some δ') (q : ∀ H', At G σ H' δ' gv gt → Q σ H') :
    gSub (tPlc G C.gd io) (tPur G C.gd ii) (rSub G) v σ H Q := by
  obtain ⟨s, p, u, k, u', e1, e2, e3, e4, rfl⟩ := stSub_in e
  refine ⟨δ, [v], [t], gv, gt, s, p, u, A, rfl, e1, e2, kidSet_un e4, fun o H1 s1 F => ?_⟩
  obtain ⟨O, V, hd⟩ := F.hold
  exact ⟨O, δ, k, V, e3, fun y H2 s2 ry => ⟨σ, δ, gv, gt, s, p, t, k, u, u', hd H2 y k s2 ry, e4, fun H3 A3 => q H3 A3⟩⟩
/-- o[i] = e -/
theorem S_sub {C : Cf} {o i e : Expr} {p pos : Pos} {io ii : IE} {r : List T → R T} (h : PS X (.Assign [.Subscript o i p] e pos) (tAsg (t1 G W elT r) (gSub (tPlc G C.gd io) (tPur G C.gd ii) (rSub G)))) :
    PS X (.Assign [.Subscript o i p] e pos) (tSt G W fx (sSub C io ii r)) := PS.imp h fun D σ H ⟨δ, gv, gt, A, q⟩ => by
  refine ⟨δ, gv, gt, A, (onR_in q).mono fun v H1 z => ?_⟩
  obtain ⟨t, δ1, A1, z⟩ := z
  cases e1 : stSub C io ii t δ1 with
  | none => simp only [e1, toS] at z; exact z.elim
  | some δ2 =>
    simp only [e1, toS] at z
    exact sub_in A1 e1 fun H' A' => z σ H' Fix.refl A'
/-- name op= e -/
theorem S_aug {i : Nat} {x : Str} {e : Expr} {op : Operator} {iop : Op} {f : Int → Int → Int} {p pos : Pos} {r : List T → R T} (hi : ¬ fx i) (hf : ∀ a b, op2 iop (.int a) (.int b) = some (.d (.int (f a b)))) (hn : ∀ a y, op2 iop (.int a) y ≠ none → ∃ b, y = .int b)
    (h : PS X (.AugAssign (.Name x p) op e pos) (tAug i (t1 G W elT r) (ipI f))) : PS X (.AugAssign (.Name x p) op e pos) (tSt G W fx (sAug i iop r)) := PS.imp h fun D σ H ⟨δ, gv, gt, A, q⟩ => by
  unfold sAug at q
  split at q
  · rename_i d e1
    obtain ⟨v, hv, A0⟩ := A.getD e1
    have key : ∀ H1 y w δ1, At G σ H1 δ1 (w :: gv) (.d y :: gt) → postS G W fx D σ gv gt (match augD iop d y with
        | some z => .nx (put δ1 i (.d z))
        | none => .no) → ipI f v w H1 fun z H2 => D.nx (σ.set i (some z)) H2 := fun H1 y w δ1 A1 z => by
      cases d with
      | int a =>
        have hva : v = .int a := A0.topI
        subst hva
        unfold augD at z
        simp only at z
        have hy : ∃ b, y = .int b := by
          refine hn a y fun hz => ?_
          rw [hz] at z
          exact z
        obtain ⟨b, rfl⟩ := hy
        have hw : w = .int b := A1.topI
        subst hw
        rw [hf] at z
        refine ⟨a, b, rfl, rfl, z _ H1 (Fix.set hi) ?_⟩
        exact (A1.drop1.pushD (v := .int (f a b)) (x := .int (f a b)) fun O _ _ => .int).storeA
      | _ => unfold augD at z; exact z.elim
    refine ⟨v, hv, δ, gv, gt, A, (onR_in q).mono fun w H1 z => ?_⟩
    obtain ⟨t, δ1, A1, z⟩ := z
    cases t with
    | d y => exact key H1 y w δ1 A1 z
    | _ => exact z.elim
  · exact q.elim
theorem op2_addI (a b : Int) : op2 .add (.int a) (.int b) = some (.d (.int (a + b))) := rfl
theorem op2_subI (a b : Int) : op2 .sub (.int a) (.int b) = some (.d (.int (a - b))) := rfl
theorem op2_addN (a : Int) (y : PyData) (h : op2 .add (.int a) y ≠ none) : ∃ b, y = .int b := by cases y <;> first | exact ⟨_, rfl⟩ | exact absurd rfl h
theorem op2_subN (a : Int) (y : PyData) (h : op2 .sub (.int a) y ≠ none) : ∃ b, y = .int b := by cases y <;> first | exact ⟨_, rfl⟩ | exact absurd rfl h

/-! several targets -/
def gSt (G : Gd) (C : Cf) (fx : Nat → Prop) (gs : Lgs) : TGs := fun vs σ H Q => ∃ δ gv gt ts δ', vs.length = ts.length ∧ At G σ H δ (vs ++ gv) (ts ++ gt) ∧ stp C gs ts δ = some δ' ∧ ∀ σ' H', Fix fx σ σ' → At G σ' H' δ' gv gt → Q σ' H'
theorem gs_nil {C : Cf} : PGs X [] (gSt G C fx .nil) := PGs.imp pgs_nil fun vs σ H Q ⟨δ, gv, gt, ts, δ', l, A, e, q⟩ => by
  cases ts with
  | cons _ _ => simp [stp] at e
  | nil =>
    have e : some δ = some δ' := e
    cases e
    have : vs = [] := by cases vs; rfl; simp at l
    subst this
    exact ⟨rfl, q σ H Fix.refl A⟩
theorem gs_nm {C : Cf} {e : Expr} {es : List Expr} {i : Nat} {gs : Lgs} (hi : ¬ fx i) (hp : PGs X (e :: es) (gCons (gName i) (gSt G C fx gs))) : PGs X (e :: es) (gSt G C fx (.nm i gs)) := PGs.imp hp fun vs σ H Q ⟨δ, gv, gt, ts, δ', l, A, e, q⟩ => by
  cases ts with
  | nil => simp [stp] at e
  | cons t ts =>
    cases vs with
    | nil => simp at l
    | cons v vs =>
      have e : stp C gs ts (put δ i t) = some δ' := e
      have A : At G σ H δ (v :: (vs ++ gv)) (t :: (ts ++ gt)) := A
      exact ⟨v, vs, rfl, put δ i t, gv, gt, ts, δ', by simpa using l, A.storeA, e, fun σ' H' f A' => q σ' H' ((Fix.set hi).trans f) A'⟩
theorem gs_sb {C : Cf} {e : Expr} {es : List Expr} {io ii : IE} {gs : Lgs} (hp : PGs X (e :: es) (gCons (gSub (tPlc G C.gd io) (tPur G C.gd ii) (rSub G)) (gSt G C fx gs))) : PGs X (e :: es) (gSt G C fx (.sb io ii gs)) := PGs.imp hp fun vs σ H Q ⟨δ, gv, gt, ts, δ', l, A, e, q⟩ => by
  cases ts with
  | nil => simp [stp] at e
  | cons t ts =>
    cases vs with
    | nil => simp at l
    | cons v vs =>
      simp only [stp] at e
      split at e
      · rename_i δ1 e1
        have A : At G σ H δ (v :: (vs ++ gv)) (t :: (ts ++ gt)) := A
        exact ⟨v, vs, rfl, sub_in A e1 fun H' A' => ⟨δ1, gv, gt, ts, δ', by simpa using l, A', e, q⟩⟩
      · cases e
theorem onRs_in {D : Ends} {σ : St} {gv : List V} {gt : List T} {r : List T → R (List T)} {k : List T → List T → RS} {δ : List T} (q : postS G W fx D σ gv gt (onR r k δ)) :
    postL G W elT σ gv gt (r δ) fun vs H => ∃ ts δ1, vs.length = ts.length ∧ At G σ H δ1 (vs ++ gv) (ts ++ gt) ∧ postS G W fx D σ gv gt (k ts δ1) := by
  unfold onR at q
  cases e : r δ with
  | ok t δ1 =>
    rw [e] at q
    refine fun v H A o => ⟨t, δ1, by have := o.length; simpa using this.symm, ?_, q⟩
    have e0 : t.map elT.t = t := by simp [elT]
    rw [e0] at A
    exact A
  | exn x δ1 =>
    rw [e] at q
    exact fun c d H hx A => q c d σ H Fix.refl hx A
  | no => rw [e] at q; exact q
theorem At.upT {σ : St} {H : Hp} {δ : List T} {gv : List V} {gt : List T} (A : At G σ H δ gv gt) {p : Addr} {o : HO} (hp : H p = none) : At G σ (upd H p o) δ gv gt := A.same (same_upd hp)
def lgsLen : Lgs → Nat
  | .nil => 0
  | .nm _ r => lgsLen r + 1
  | .sb _ _ r => lgsLen r + 1
theorem stp_len {C : Cf} : ∀ {gs : Lgs} {ts δ δ' : List T}, stp C gs ts δ = some δ' → ts.length = lgsLen gs
  | .nil, [], _, _, _ => rfl
  | .nil, _ :: _, _, _, h => by simp [stp] at h
  | .nm i r, [], _, _, h => by simp [stp] at h
  | .nm i r, t :: ts, δ, δ', h => by
    have h : stp C r ts (put δ i t) = some δ' := h
    simp [lgsLen, stp_len h]
  | .sb o i r, [], _, _, h => by simp [stp] at h
  | .sb o i r, t :: ts, δ, δ', h => by
    simp only [stp] at h
    split at h
    · simp [lgsLen, stp_len h]
    · cases h
/-- several targets, places among them -/
theorem S_sets {C : Cf} {ts es : List Expr} {k1 k2 : Nat} {p1 p2 pos : Pos} {gs : Lgs} {rs : List T → R (List T)} (h : PS X (.Assign [.Tuple ts k1 p1] (.Tuple es k2 p2) pos) (tAsg (tTupD (tL G W elT rs)) (gTup X.K (lgsLen gs) (gSt G C fx gs)))) (hs : lgsLen gs ≤ sizeLine) :
    PS X (.Assign [.Tuple ts k1 p1] (.Tuple es k2 p2) pos) (tSt G W fx (sSets C gs rs)) := PS.imp h fun D σ H ⟨δ, gv, gt, A, q⟩ => by
  refine ⟨δ, gv, gt, A, ?_⟩
  have q2 := onRs_in q
  cases e : rs δ with
  | no => rw [e] at q2; exact q2.elim
  | exn x δ1 => rw [e] at q2; exact q2
  | ok ts0 δ1 =>
    rw [e] at q2
    intro vs H1 A1 o
    obtain ⟨ts1, δ2, l, A2, z⟩ := q2 vs H1 A1 o
    cases e1 : stp C gs ts1 δ2 with
    | none => simp only [e1, toS] at z; exact z.elim
    | some δ3 =>
      simp only [e1, toS] at z
      have hl := stp_len e1
      refine ⟨by omega, fun p o' _ hp => ⟨p, vs, rfl, .inl (.inr ⟨o', upd_same⟩), by omega, δ2, gv, gt, ts1, δ3, l, A2.upT hp, e1, fun σ' H' f A' => z σ' H' f A'⟩⟩
theorem tgsLen_eq : True := trivial
def tgsLen : Tgs → Nat
  | .nil => 0
  | .cons _ r => tgsLen r + 1
theorem bindTs_len : ∀ {gs : Tgs} {ts δ δ' : List T}, bindTs gs ts δ = some δ' → ts.length = tgsLen gs
  | .nil, [], _, _, _ => rfl
  | .nil, _ :: _, _, _, h => by simp [bindTs] at h
  | .cons g r, [], _, _, h => by simp [bindTs] at h
  | .cons g r, t :: ts, δ, δ', h => by
    simp only [bindTs] at h
    split at h
    · simp [tgsLen, bindTs_len h]
    · cases h
/-- a tuple of targets -/
theorem g_tuA {es : List Expr} {k : Nat} {pos : Pos} {gs : Tgs} (ok : Ok0 G X) (h : PGs X es (gTs G fx gs)) (hn : (assignEach es X.env).length = tgsLen gs) (hst : (assignEach es X.env).findIdx? (·.1) = none) : PG X (.Tuple es k pos) (gTu G G.K fx gs) :=
  PG.imp (pg_tup ok.hc h hn hst) fun v σ H Q ⟨a, vs, e, hs, δ, gv, gt, ts, δ', l, A, e1, q⟩ => by
    refine ⟨a, vs, e, ok.hK ▸ hs, ?_, δ, gv, gt, ts, δ', l, A, e1, q⟩
    rw [l]; exact bindTs_len e1
theorem g_tupA {es : List Expr} {k : Nat} {pos : Pos} {gs : Tgs} (ok : Ok0 G X) (h : PGs X es (gTs G fx gs)) (hn : (assignEach es X.env).length = tgsLen gs) (hst : (assignEach es X.env).findIdx? (·.1) = none) : PG X (.Tuple es k pos) (gT G fx (.tup gs)) := g_tup (g_tuA ok h hn hst)
end
end Ev
set_option Elab.async false
set_option linter.all false
set_option maxRecDepth 100000
set_option maxHeartbeats 4000000
set_option autoImplicit false
/-! Snd28: several names set from the right. -/
namespace Ev
open PySem PySem.W PySem.Spec L2
open PyProof.Rows hiding St

section
variable {G : Gd} {W : WX} {X : Cx} {fx : Nat → Prop}
def nms : List Nat → Tgs
  | [] => .nil
  | i :: is => .cons (.nm i) (nms is)
def putAll : List Nat → List T → List T → List T
  | i :: is, t :: ts, δ => putAll is ts (put δ i t)
  | _, _, δ => δ
theorem put_comm {i j : Nat} {t u : T} {δ : List T} (h : i ≠ j) : put (put δ i t) j u = put (put δ j u) i t := by
  rw [put_eq, put_eq, put_eq, put_eq, List.set_comm _ _ h]
theorem putAll_put {i : Nat} {t : T} : ∀ {is : List Nat} {ts δ : List T}, i ∉ is → putAll is ts (put δ i t) = put (putAll is ts δ) i t
  | [], _, _, _ => by simp [putAll]
  | _ :: _, [], _, _ => by simp [putAll]
  | j :: is, u :: ts, δ, h => by
    show putAll is ts (put (put δ i t) j u) = put (putAll is ts (put δ j u)) i t
    rw [put_comm (fun z : i = j => h (by rw [z]; exact List.mem_cons_self)), putAll_put fun z => h (List.mem_cons_of_mem _ z)]
theorem putAll_snoc {i : Nat} {t : T} : ∀ {is : List Nat} {ts δ : List T}, is.length = ts.length → putAll (is ++ [i]) (ts ++ [t]) δ = put (putAll is ts δ) i t
  | [], [], _, _ => rfl
  | [], _ :: _, _, h => by simp at h
  | _ :: _, [], _, h => by simp at h
  | j :: is, u :: ts, δ, h => by
    show putAll (is ++ [i]) (ts ++ [t]) (put δ j u) = _
    rw [putAll_snoc (by simpa using h)]
    rfl
theorem putAll_rev : ∀ {is : List Nat} {ts δ : List T}, is.Nodup → is.length = ts.length → putAll is.reverse ts.reverse δ = putAll is ts δ
  | [], [], _, _, _ => rfl
  | [], _ :: _, _, _, h => by simp at h
  | _ :: _, [], _, _, h => by simp at h
  | i :: is, t :: ts, δ, nd, h => by
    rw [List.reverse_cons, List.reverse_cons, putAll_snoc (by simpa using h), putAll_rev (List.nodup_cons.mp nd).2 (by simpa using h), ← putAll_put (List.nodup_cons.mp nd).1]
    rfl
theorem bind_nms : ∀ {is : List Nat} {ts δ δ' : List T}, bindTs (nms is) ts δ = some δ' → is.length = ts.length ∧ δ' = putAll is ts δ
  | [], [], _, _, h => by cases h; exact ⟨rfl, rfl⟩
  | [], _ :: _, _, _, h => by simp [nms, bindTs] at h
  | _ :: _, [], _, _, h => by simp [nms, bindTs] at h
  | i :: is, t :: ts, δ, δ', h => by
    have h : bindTs (nms is) ts (put δ i t) = some δ' := h
    obtain ⟨h1, h2⟩ := bind_nms h
    exact ⟨by simp [h1], h2⟩
/-- names set in a row -/
theorem store_all (hN : X.N.Nodup) {pins : List (Addr × Obj)} {H : Hp} {gv : List V} {gt : List T} {E : Value → Shared → Prop} {Q : Shared → Prop} : ∀ {ns : List (Nat × Str)} {us : List Value} {vs : List V} {ts : List T} {σ0 σ : St} {δ : List T} {s : Shared},
    (∀ p ∈ ns, X.N[p.1]? = some p.2 ∧ X.env.scope.names.lookup p.2 = some .local ∧ ¬ fx p.1) → Fix fx σ0 σ → Inv X pins σ H s → Vals vs us → vs.length = ts.length → ns.length = ts.length → At G σ H δ (vs.reverse ++ gv) (ts.reverse ++ gt) →
    (∀ s' σ', Fix fx σ0 σ' → Inv X pins σ' H s' → At G σ' H (putAll (ns.map (·.1)) ts δ) gv gt → Q s') → wpAny (model X.prog X.w) X.A (assignInOrder (ns.map fun p => bindName X.env p.2) us) (fun _ s' => Q s') E s
  | [], us, vs, [], σ0, σ, δ, s, _, f, I, r, l, _, A, q => by
    have : vs = [] := by cases vs; rfl; simp at l
    subst this
    cases r
    exact assignInOrder_nil (q s σ f I A)
  | [], us, vs, _ :: _, _, _, _, _, _, _, _, _, _, l, _, _ => by simp at l
  | _ :: _, us, vs, [], _, _, _, _, _, _, _, _, _, l, _, _ => by simp at l
  | _ :: _, _, [], _ :: _, _, _, _, _, _, _, _, _, l, _, _, _ => by simp at l
  | p :: ns, us, v :: vs, t :: ts, σ0, σ, δ, s, hn, f, I, r, l, l2, A, q => by
    cases r with
    | cons r rr =>
      obtain ⟨h1, h2, h3⟩ := hn p List.mem_cons_self
      rw [List.reverse_cons, List.reverse_cons, List.append_assoc, List.append_assoc] at A
      have A2 := At.turn (vs := vs.reverse) (ts := ts.reverse) (v := v) (t := t) A (by simpa using l)
      have A3 : At G (σ.set p.1 (some v)) H (put δ p.1 t) (vs.reverse ++ gv) (ts.reverse ++ gt) := At.storeA A2
      refine assignInOrder_cons (wpAny_bindName (store_ok I hN h1 (.inl h2) r (fun s2 I2 => ?_) (.inr h2)))
      exact store_all hN (fun p hp => hn p (List.mem_cons_of_mem _ hp)) (f.trans (Fix.set h3)) I2 rr (by simpa using l) (by simpa using l2) A3 q
/-- a, b = e, plain local names, stored from the right -/
theorem S_sw (ok : Ok0 G X) (hN : X.N.Nodup) {ns : List (Nat × Str)} {ts : List Expr} {k1 : Nat} {p1 pos : Pos} {e : Expr} {r : List T → R T} (he : PE X e (t1 G W elT r)) (hnd : (ns.map (·.1)).Nodup)
    (hn : ∀ p ∈ ns, X.N[p.1]? = some p.2 ∧ X.env.scope.names.lookup p.2 = some .local ∧ ¬ fx p.1)
    (hs : swapsWithSole [.Tuple ts k1 p1] e pos.line X.env = pure false) (hw : swappedStores [.Tuple ts k1 p1] e X.env = pure (some (ns.map (·.2)))) : PS X (.Assign [.Tuple ts k1 p1] e pos) (tSt G W fx (sSet (.tup (nms (ns.map (·.1)))) r)) := by
  refine ⟨fun pins s σ H D I h => ?_⟩
  obtain ⟨δ, gv, gt, A, q⟩ := h
  refine Assign_Tuple_swapped (thn (he.run pins s σ H _ I ⟨δ, gv, gt, A, onR_in q⟩) fun v s1 ⟨x, H1, I1, r1, t, δ1, A1, z⟩ => ?_) hs hw
  cases e1 : bindT (.tup (nms (ns.map (·.1)))) t δ1 with
  | none => simp only [e1, toS] at z; exact z.elim
  | some δ2 =>
    simp only [e1, toS] at z
    have main : ∀ (a : Addr) (vs : List V) (ts : List T), x = .ref a → SqD G.K H1 a vs → vs.length = ts.length → At G σ H1 δ1 (vs ++ gv) (ts ++ gt) → bindTs (nms (ns.map (·.1))) ts δ1 = some δ2 → wpAny (model X.prog X.w) X.A (unpackItems v (ns.map (·.2)).length none) (fun items s₂ =>
        wpAny (model X.prog X.w) X.A (assignInOrder ((ns.map (·.2)).reverse.map fun n => bindName X.env n) items.reverse) (fun _ s' => SP X pins D .next s') X.xe s₂) X.xe s1 := by
      intro a vs ts hx hs l A2 e2
      subst hx
      cases r1
      have hq := hs.t
      rw [ok.hK] at hq
      obtain ⟨its, rv, ht, hz⟩ := I1.tuple hq
      obtain ⟨l2, rfl⟩ := bind_nms e2
      have e4 : (ns.map (·.2)).length = its.toArray.size := by have := rv.length; simp only [List.length_map, List.size_toArray] at l2 ⊢; omega
      rw [e4]
      refine unpackItems_tuple (items := its.toArray) (I1.ok.hd ok.hc) ht fun h' hx => ?_
      have I2 : Inv X pins σ H1 { s1 with heap := h' } := I1.kept (t' := s1.toks) fun b o e => hx b o (Nat.ne_of_lt (Heap.lt_size e)) e
      have e3 : ((ns.map (·.2)).reverse.map fun n => bindName X.env n) = ns.reverse.map fun p => bindName X.env p.2 := by
        rw [← List.map_reverse, List.map_map]
        rfl
      rw [e3]
      have rvr : Vals vs.reverse its.reverse := by
        have aux : ∀ {vs : List V} {us : List Value}, Vals vs us → Vals vs.reverse us.reverse := by
          intro vs us r
          induction r with
          | nil => exact .nil
          | cons h _ ih =>
            rw [List.reverse_cons, List.reverse_cons]
            exact ih.append (.cons h .nil)
        exact aux rv
      refine store_all (fx := fx) hN (ns := ns.reverse) (vs := vs.reverse) (ts := ts.reverse) (gv := gv) (gt := gt) (fun p hp => hn p (List.mem_reverse.mp hp)) Fix.refl I2 rvr (by simpa using l) (by simpa using l2) (by simpa using A2) fun s' σ' f I' A' => ⟨σ', H1, I', ?_⟩
      refine z σ' H1 f ?_
      rw [← putAll_rev hnd l2, ← List.map_reverse]
      exact A'
    unfold bindT at e1
    split at e1
    · rename_i h1
      cases h1
    · rename_i h1
      cases h1
      obtain ⟨a, vs, hx, hs, l, A'⟩ := A1.openD
      exact main a vs _ hx hs (by simpa using l) A' e1
    · rename_i h1
      cases h1
      obtain ⟨a, vs, hx, hs, l, A'⟩ := A1.openT
      exact main a vs _ hx hs l A' e1
    · cases e1
end
end Ev
set_option Elab.async false
set_option linter.all false
set_option maxRecDepth 100000
set_option maxHeartbeats 4000000
set_option autoImplicit false
/-! SndU: a dict's update by one whose keys are tuples. -/
namespace Ev
open PySem PySem.W PySem.Spec L2
open PyProof.Rows hiding St

section
variable {G : Gd} {X : Cx}
mutual
theorem hD_hash (w : World) : ∀ (κ : NestedKey) {h : Int}, hD κ.data = some h → κ.hash w = h
  | .none, _, e => by simp [NestedKey.data, hD] at e
  | .num i, _, e => by
    simp only [NestedKey.data, hD, Option.some.injEq] at e
    exact e
  | .text _, _, e => by simp [NestedKey.data, hD] at e
  | .tup ks, h, e => by
    simp only [NestedKey.data, hD] at e
    split at e
    · rename_i hs e1
      simp only [Option.some.injEq] at e
      show reduceHash (Builtin.Tuple.tupleHashOf (NestedKey.hashes w ks)) = h
      rw [hDs_hash w ks e1]
      exact e
    · cases e
theorem hDs_hash (w : World) : ∀ (κs : List NestedKey) {hs : List Int}, hDs (NestedKey.datas κs) = some hs → NestedKey.hashes w κs = hs
  | [], _, e => by
    simp only [NestedKey.datas, hDs, Option.some.injEq] at e
    exact e
  | κ :: κs, _, e => by
    simp only [NestedKey.datas, hDs] at e
    split at e
    · rename_i h e1
      split at e
      · rename_i hs e2
        simp only [Option.some.injEq] at e
        show κ.hash w :: NestedKey.hashes w κs = _
        rw [hD_hash w κ e1, hDs_hash w κs e2]
        exact e
      · cases e
    · cases e
end
theorem ndB_nd : ∀ {hs : List Int}, ndB hs = true → hs.Nodup
  | [], _ => .nil
  | h :: hs, e => by
    simp only [ndB, Bool.and_eq_true, Bool.not_eq_true'] at e
    refine List.nodup_cons.mpr ⟨fun z => ?_, ndB_nd e.2⟩
    have := List.elem_eq_true_of_mem z
    rw [e.1] at this
    cases this
theorem datas_map : ∀ κs : List NestedKey, NestedKey.datas κs = κs.map NestedKey.data
  | [] => rfl
  | κ :: κs => congrArg (_ :: ·) (datas_map κs)
theorem hOk_nd (w : World) {ms : List (NestedKey × Addr)} {hs : List Int} (h : hDs (nkD ms) = some hs) (hn : ndB hs = true) : (ms.map fun x => x.1.hash w).Nodup := by
  have e : nkD ms = NestedKey.datas (ms.map (·.1)) := by rw [datas_map, nkD_map]
  rw [e] at h
  have hh := hDs_hash w _ h
  have : ∀ κs : List NestedKey, NestedKey.hashes w κs = κs.map (NestedKey.hash w) := fun κs => by
    induction κs with
    | nil => rfl
    | cons κ κs ih => exact congrArg (_ :: ·) ih
  rw [this, List.map_map] at hh
  have e2 : (ms.map fun x => x.1.hash w) = ms.map (NestedKey.hash w ∘ fun x => x.1) := rfl
  rw [e2, hh]
  exact ndB_nd hn
/-- all rows put, one by one -/
theorem upd_fold {H : Hp} {O : List Addr} : ∀ (ms : List (NestedKey × Addr)) (ws : List Value) (yv : List V) (ys : List PyData) (ks : List (NestedKey × Addr)) (us : List Value) (vs : List V) (ts : List T) (fp : List Addr) {q : List PyData × List T},
    Vals yv ws → Reps G H O yv ys → ws.length = ms.length → Reps G H O (nkV ms) (nkD ms) → (∀ x ∈ ms, x.1.depth ≤ 8) →
    Vals vs us → us.length = ks.length → ks.length = vs.length → (ks.map (·.1)).Nodup → Reps G H O (nkV ks) (nkD ks) → (∀ x ∈ ks, x.1.depth ≤ 8) → RepTs G H O vs ts fp →
    updF (nkD ks) ts ((nkD ms).zip ys) = some q →
    ∃ ks2 us2 vs2 fp2 rest, q.1 = nkD ks2 ∧ storedAllH (nkX ks us) (nkX ms ws) = nkX ks2 us2 ∧ Vals vs2 us2 ∧ us2.length = ks2.length ∧ ks2.length = vs2.length ∧ (ks2.map (·.1)).Nodup ∧ (ks ≠ [] ∨ ms ≠ [] → ks2 ≠ []) ∧
      Reps G H O (nkV ks2) (nkD ks2) ∧ (∀ x ∈ ks2, x.1.depth ≤ 8) ∧ ks2.length ≤ ks.length + ms.length ∧ (fp2 ++ rest).Perm fp ∧ RepTs G H O vs2 q.2 fp2
  | [], ws, yv, ys, ks, us, vs, ts, fp, q, rw1, ry, lw, rm, dm, rvs, lu, l, nd, rk, dk, rr, e => by
    have hws : ws = [] := by cases ws; rfl; simp at lw
    subst hws
    simp only [List.map_nil, List.zip_nil_left, updF, Option.some.injEq] at e
    subst e
    exact ⟨ks, us, vs, fp, [], rfl, by simp [storedAllH, nkX], rvs, lu, l, nd, fun h => by rcases h with h | h; exact h; exact absurd rfl h, rk, dk, by simp, by simp, rr⟩
  | m :: ms, ws, yv, ys, ks, us, vs, ts, fp, q, rw1, ry, lw, rm, dm, rvs, lu, l, nd, rk, dk, rr, e => by
    obtain ⟨κ, b⟩ := m
    cases rm with
    | cons rb rm =>
    cases ws with
    | nil => simp at lw
    | cons r ws =>
    cases rw1 with
    | cons rv rw1 =>
    rename_i v yv
    cases ry with
    | cons r0 ry =>
    rename_i y ys
    have e1 : updF (nkD ks) ts ((κ.data, y) :: (nkD ms).zip ys) = some q := e
    unfold updF at e1
    split at e1
    · rename_i hc
      obtain ⟨fp', rest, pm, up⟩ := put_row (ks := nkD ks) (k := κ.data) (w := v) (t := .d y) rr (by have := rr.length; simp; omega) (.cons (f := []) (.d r0) .nil)
      have rr2 := up H O (.less fun a h => h) fun _ _ => rfl
      have hk : nkD (putKs ks κ b) = (dput (nkD ks) ts κ.data (.d y)).1 := putKs_map ks κ b ts (.d y)
      simp only at e1
      rw [← hk] at e1
      have st : storedH (nkX ks us) κ b r = nkX (putKs ks κ b) (putVs (nkD ks) us κ.data r) := by
        unfold putKs putVs
        cases e : kix (nkD ks) κ.data with
        | some n =>
          have hn : (ks.map (·.1))[n]? = some κ := by rw [nkD_map] at e; exact kix_atG keq_one e
          exact nkX_old nd hn lu
        | none =>
          have hn : κ ∉ ks.map (·.1) := by rw [nkD_map] at e; exact kix_none keq_one e
          exact nkX_new lu hn
      have rv2 : Vals (putVs (nkD ks) vs κ.data v) (putVs (nkD ks) us κ.data r) := by
        unfold putVs
        cases e : kix (nkD ks) κ.data with
        | some n => exact rvs.set rv n
        | none => exact rvs.append (.cons rv .nil)
      have dk2 : ∀ x ∈ putKs ks κ b, x.1.depth ≤ 8 := fun x hx => by
        unfold putKs at hx
        cases e : kix (nkD ks) κ.data with
        | some n => rw [e] at hx; exact dk x hx
        | none =>
          rw [e] at hx
          rcases List.mem_append.mp hx with hx | hx
          · exact dk x hx
          · simp at hx
            subst hx
            exact dm _ List.mem_cons_self
      have nd2 := putKs_nd (κ := κ) (b := b) nd
      obtain ⟨ks2, us2, vs2, fp2, rest2, h1, h2, h3, h4, h5, h6, h7, h8, h9, h10, h11, h12⟩ := upd_fold ms ws yv ys (putKs ks κ b) _ _ _ fp' rw1 ry (by simpa using lw) rm (fun x hx => dm x (List.mem_cons_of_mem _ hx)) rv2
        (by rw [putVs_len, putKs_len, lu]) (by rw [putVs_len, putKs_len, l]) nd2.2 (putKs_rep rk rb) dk2 rr2 e1
      refine ⟨ks2, us2, vs2, fp2, rest2 ++ rest, h1, ?_, h3, h4, h5, h6, fun _ => h7 (.inl nd2.1), h8, h9, ?_, ?_, h12⟩
      · have : storedAllH (nkX ks us) (nkX ((κ, b) :: ms) (r :: ws)) = storedAllH (storedH (nkX ks us) κ b r) (nkX ms ws) := rfl
        rw [this, st]
        exact h2
      · have := putKs_len (ks := ks) (κ := κ) (b := b)
        simp only [List.length_cons]
        split at this <;> omega
      · rw [← List.append_assoc]
        refine (h11.append_right rest).trans (pm.trans ?_)
        simp
    · cases e1
theorem upd_inv {ks : List PyData} {ts us : List T} {r t' : T} (h : mthO .update (.dct ks ts) us = some (r, t')) : ∃ u kvs q, us = [u] ∧ u.fd = some (.dict kvs) ∧ hOk ks kvs = true ∧ ks.length + kvs.length ≤ sizeLine ∧ updF ks ts kvs = some q ∧ r = .d .none ∧ t' = .dct q.1 q.2 := by
  match us, h with
  | [], h => simp [mthO] at h
  | [u], h =>
    simp only [mthO] at h
    split at h
    · rename_i kvs e
      split at h
      · rename_i hs
        simp only [Bool.and_eq_true] at hs
        split at h
        · rename_i q e2
          simp only [Option.some.injEq, Prod.mk.injEq] at h
          exact ⟨u, kvs, q, rfl, e, hs.1, Nat.le_of_ble_eq_true (by simpa [small] using hs.2), e2, h.1.symm, h.2.symm⟩
        · cases h
      · cases h
    · cases h
  | _ :: _ :: _, h => simp [mthO] at h
theorem updF_cls {ks : List PyData} {ts : List T} {p : PyData × PyData} {kvs : List (PyData × PyData)} {q : List PyData × List T} (h : updF ks ts (p :: kvs) = some q) : kcls p.1 = some true ∧ kfit ks p.1 = true := by
  unfold updF at h
  split at h
  · rename_i hc
    simpa using hc
  · cases h
theorem fd_ne {H : Hp} {O g ft : List Addr} {a b : Addr} {w : V} {u : T} {kvs : List (PyData × PyData)} (hO : ∀ b ∈ g, b ∈ O) (hf : ∀ b ∈ ft, b ∉ g) (ha : a ∈ g) (r : RepT G H O (.ref b) u ft) (e : u.fd = some (.dict kvs)) : a ≠ b := by
  rintro rfl
  cases r with
  | d h =>
    simp only [T.fd, Option.some.injEq] at e
    subst e
    cases h with
    | dK n _ _ _ _ => exact n (hO _ ha)
    | dN n _ _ _ _ _ => exact n (hO _ ha)
  | dK _ _ _ _ => exact hf a List.mem_cons_self ha
  | dN _ _ _ _ _ => exact hf a List.mem_cons_self ha
  | lst _ _ => simp only [T.fd] at e; split at e <;> cases e
  | _ => simp [T.fd] at e
theorem mu_update (ok : Ok0 G X) : MtR X "dict.update" (rMu G .update false) := by
  intro pins s σ0 H x xs v us Q I rx rs ⟨σ, δ, uts, gv, gt, i, p, t, r, t', F, hb, e, q⟩
  have ht : ∃ ks ts, t = .dct ks ts := by
    cases t with
    | dct ks ts => exact ⟨_, _, rfl⟩
    | lst ts => cases hb
    | _ => simp [mthO] at e
  obtain ⟨ks, ts, rfl⟩ := ht
  obtain ⟨u, kvs, q2, rfl, hu, hk, hz, hq, rfl, rfl⟩ := upd_inv e
  obtain ⟨w, rfl⟩ := one_of F.lws
  obtain ⟨O, g, ft, ⟨hO, hft⟩, r2, r1, mk⟩ := F.mut3
  cases r1 with
  | cons q1 q0 =>
  cases q0
  rename_i ft
  simp only [List.append_nil] at mk hft
  obtain ⟨b, rfl, hd⟩ := (q1.fd hu).dctI
  have fin : ∀ {a : Addr} {κs : List (NestedKey × Addr)} {vs : List V} {fp : List Addr}, x = .ref a → g = a :: fp → ks = nkD κs → κs.length = vs.length → (κs.map (·.1)).Nodup → Reps G H O (nkV κs) (nkD κs) → RepTs G H O vs ts fp →
      (H a = some (DN G.P G.w a κs vs) ∧ κs ≠ [] ∨ H a = some (.dK []) ∧ κs = []) → wpAny (model X.prog X.w) X.A (call (.builtin "dict.update") (v :: us)) (EP X pins σ0 Q) X.xe s := by
    intro a κs vs fp hx hg hks l nd rk rr hd0
    subst hx hg hks
    cases rx
    obtain ⟨bu, rfl, rb⟩ := rs.one
    cases rb
    have hne : a ≠ b := fd_ne (w := .ref b) hO hft List.mem_cons_self q1 hu
    have mu : Mut (H a) := by rcases hd0 with ⟨h, _⟩ | ⟨h, _⟩ <;> rw [h] <;> trivial
    have nf : ∀ ob w, H a ≠ some (.frz ob w) := by
      intro ob w z
      rcases hd0 with ⟨h, _⟩ | ⟨h, _⟩ <;> rw [h] at z <;> cases z
    obtain ⟨hs, hl, hdp, us0, rvs, lu, dd⟩ := KeyIn.rows ok I (hd0.imp (fun h => ⟨.inl h.1, h.2⟩) fun h => ⟨.inl h.1, h.2⟩) l rk
    -- the argument
    have arg : ∃ (ms : List (NestedKey × Addr)) (yv : List V) (ys : List PyData), kvs = (nkD ms).zip ys ∧ (Rd H b (DN G.P G.w b ms yv) ∧ ms ≠ [] ∨ Rd H b (.dK []) ∧ ms = []) ∧ ms.length = yv.length ∧ (ms.map (·.1)).Nodup ∧ Reps G H O (nkV ms) (nkD ms) ∧ Reps G H O yv ys := by
      rcases hd with ⟨k0, yv, ys, rfl, h, lk, ndk, rys⟩ | ⟨ms, yv, ys, rfl, h, lk, ndk, rms, rys⟩
      · cases k0 with
        | nil =>
          have : yv = [] := by cases yv; rfl; simp at lk
          subst this
          cases rys
          exact ⟨[], [], [], rfl, .inr ⟨h, rfl⟩, rfl, .nil, .nil, .nil⟩
        | cons κ k0 =>
          cases rys with
          | nil => simp at lk
          | cons r0 rys =>
            have := (updF_cls hq).1
            simp [kcls_keyD] at this
      · exact ⟨ms, yv, ys, rfl, .inl ⟨h, ndk.1⟩, lk, ndk.2, rms, rys⟩
    obtain ⟨ms, yv, ys, rfl, hb0, lm, ndm, rms, rys⟩ := arg
    obtain ⟨hbs, hbl, hbd, ws, rws, lws, ddb⟩ := KeyIn.rows ok I hb0 lm rms
    obtain ⟨ks2, us2, vs2, fp2, rest, h1, h2, h3, h4, h5, h6, h7, h8, h9, h10, h11, h12⟩ := upd_fold ms ws yv ys κs us0 vs ts fp rws rys lws rms hbd rvs lu l nd rk hdp rr hq
    have lys : ys.length = ms.length := by rw [← rys.length, lm]
    have hz2 : κs.length + ms.length ≤ sizeLine := by simpa [lys] using hz
    refine call_update_dictH (knd := nestedKind X.prog X.w) (by show X.A.in1.units + 8 < cLine; have := ok.hu; show X.A.units + 1 + 8 < cLine; omega) hne hbs dd ddb ?_ (by simp [nkX]; omega) fun h' dd' ddb' sb => ?_
    · cases κs with
      | cons κ0 κs =>
        left
        cases us0 with
        | nil => simp at lu
        | cons u0 us0 => simp [nkX]
      | nil =>
        right
        have hk2 : (match hDs (nkD ms) with | some hs => ndB hs | none => false) = true := by
          have e3 : ((nkD ms).zip ys).map (·.1) = nkD ms := List.map_fst_zip (by simp [lys])
          have hk' : (match hDs (((nkD ms).zip ys).map (·.1)) with | some hs => ndB hs | none => false) = true := by
            unfold hOk at hk
            simp only [Bool.and_eq_true] at hk
            exact hk.2
          rw [e3] at hk'
          exact hk'
        split at hk2
        · rename_i hs e4
          refine ⟨fun z hz => ?_, ?_⟩
          · simp only [nkX, List.mem_map] at hz
            obtain ⟨y, hy, rfl⟩ := hz
            have hy1 : y.1 ∈ ms := (List.of_mem_zip (a := y.1) (b := y.2) hy).1
            obtain ⟨n, hn, hyn⟩ := List.getElem_of_mem hy1
            have tyk : ∀ {m : NestedKey × Addr} {ms : List (NestedKey × Addr)} {ys : List PyData} {ks : List PyData} {ts : List T} {q : List PyData × List T}, ys.length = ms.length → m ∈ ms → updF ks ts ((nkD ms).zip ys) = some q → kcls m.1.data = some true := by
              intro m ms
              induction ms with
              | nil => intro _ _ _ _ _ h; cases h
              | cons m0 ms ih =>
                intro ys ks ts q ly hm hq
                cases ys with
                | nil => simp at ly
                | cons y ys =>
                  have hc := (updF_cls hq).1
                  rcases List.mem_cons.mp hm with rfl | hm
                  · exact hc
                  · have hq' : updF ks ts ((m0.1.data, y) :: (nkD ms).zip ys) = some q := hq
                    unfold updF at hq'
                    split at hq'
                    · exact ih (by simpa using ly) hm hq'
                    · cases hq'
            obtain ⟨κ, _, _, xs0, hx0⟩ := kcls_t (tyk lys hy1 hq)
            have rk0 : Rep G H O (.ref y.1.2) y.1.1.data := by
              have : ∀ {ms : List (NestedKey × Addr)}, Reps G H O (nkV ms) (nkD ms) → ∀ m ∈ ms, Rep G H O (.ref m.2) m.1.data := by
                intro ms
                induction ms with
                | nil => intro _ m h; cases h
                | cons m0 ms ih =>
                  intro r m h
                  cases r with
                  | cons r0 r =>
                    rcases List.mem_cons.mp h with rfl | h
                    · exact r0
                    · exact ih r m h
              exact this rms _ hy1
            rw [hx0] at rk0
            cases rk0 with
            | tup hsq _ =>
              rw [ok.hK] at hsq
              obtain ⟨its, _, ⟨o, ho, hc, _⟩, _⟩ := I.tuple hsq.t
              exact ⟨o, ho, hc⟩
          · have := hOk_nd X.w e4 hk2
            have e5 : ((nkX ms ws).map fun x => (nestedKind X.prog X.w).hash x.1) = ms.map fun x => x.1.hash X.w := by
              have : ∀ {ms : List (NestedKey × Addr)} {ws : List Value}, ws.length = ms.length → ((nkX ms ws).map fun x => (nestedKind X.prog X.w).hash x.1) = ms.map fun x => x.1.hash X.w := by
                intro ms
                induction ms with
                | nil => intro ws _; simp [nkX]
                | cons m ms ih =>
                  intro ws lw
                  cases ws with
                  | nil => simp at lw
                  | cons w0 ws =>
                    have := ih (ws := ws) (by simpa using lw)
                    simp only [nkX, List.zip_cons_cons, List.map_cons] at this ⊢
                    rw [this]
                    rfl
              exact this lws
            rw [e5]
            exact this
        · cases hk2
    · rw [h2] at dd'
      by_cases hn0 : ks2 = []
      · -- nothing in, nothing there
        have hms : ms = [] := by
          cases ms with
          | nil => rfl
          | cons m ms => exact absurd hn0 (h7 (.inr (by simp)))
        have hκ : κs = [] := by
          cases κs with
          | nil => rfl
          | cons m ms => exact absurd hn0 (h7 (.inl (by simp)))
        subst hms
        simp [hOk] at hk
      · have new : ObjOk X.prog X.w (upd H a (DN G.P G.w a ks2 vs2)) h' a (DN G.P G.w a ks2 vs2) := by
          rw [ok.hP, ok.hw]
          exact dn_new hs (by omega) h9 h3 h4 dd'
        obtain ⟨o, es, ep, ho, _⟩ := id dd'
        refine ⟨.non, _, d_write I mu sb ⟨o, ho⟩ new, rfl, q _ _ ?_⟩
        refine mk _ [.non] [.d .none] _ rfl ⟨a, fp, _, rfl, rfl, nf, rfl, fp2, [], ft ++ rest, ?_, .cons (f := []) (.d .non) .nil, fun H2 O2 h13 U k2 => ?_⟩
        · rw [List.perm_iff_count] at h11 ⊢
          intro c
          have := h11 c
          simp only [List.count_append, List.count_nil] at this ⊢
          omega
        · rw [h1]
          exact .dN h13 h5 ⟨hn0, h6⟩ (h8.up U) (h12.up U k2)
  generalize hks : ks = ks0 at r2
  cases r2 with
  | dK ha l nd rr =>
    rename_i κs vs fp
    cases κs with
    | nil =>
      have hvs : vs = [] := by cases vs; rfl; simp at l
      subst hvs
      exact fin (κs := []) rfl rfl hks rfl .nil .nil rr (.inr ⟨ha, rfl⟩)
    | cons κ κs =>
      subst hks
      cases kvs with
      | nil => simp [hOk] at hk
      | cons p kvs =>
        have h := updF_cls hq
        have := h.2
        unfold kfit at this
        rw [h.1] at this
        simp [kcls_keyD] at this
  | dN ha l nd rk rr =>
    rename_i κs vs fp
    exact fin rfl rfl hks l nd.2 rk rr (.inl ⟨ha, nd.1⟩)
/-! dict(pairs) -/
inductive PrsR (G : Gd) (H : Hp) (O : List Addr) : List V → List (NestedKey × Addr) → List V → List PyData → Prop
  | nil : PrsR G H O [] [] [] []
  | cons {t : Addr} {m : NestedKey × Addr} {y : V} {x : PyData} {vs : List V} {ms : List (NestedKey × Addr)} {ys : List V} {xs : List PyData} : SqD G.K H t [.ref m.2, y] → Rep G H O (.ref m.2) m.1.data → m.1.depth ≤ 8 → Rep G H O y x → PrsR G H O vs ms ys xs → PrsR G H O (.ref t :: vs) (m :: ms) (y :: ys) (x :: xs)
theorem prs_rep {H : Hp} {O : List Addr} : ∀ {vs : List V} {xs : List PyData} {kvs : List (PyData × PyData)} {ks : List PyData} {ts : List T} {q : List PyData × List T}, Reps G H O vs xs → prsD xs = some kvs → updF ks ts kvs = some q → ∃ ms ys zs, kvs = (nkD ms).zip zs ∧ PrsR G H O vs ms ys zs
  | [], [], kvs, _, _, _, _, e, _ => by
    simp only [prsD, Option.some.injEq] at e
    subst e
    exact ⟨[], [], [], rfl, .nil⟩
  | v :: vs, x :: xs, kvs, ks, ts, q, r, e, hq => by
    cases r with
    | cons r0 r =>
    unfold prsD at e
    split at e
    · cases ‹_ :: _ = []›
    · rename_i k y xs' heq
      cases heq
      split at e
      · rename_i kv' e2
        simp only [Option.some.injEq] at e
        subst e
        have hc := (updF_cls hq).1
        obtain ⟨κ, rfl, dκ, xs0, hx0⟩ := kcls_t hc
        have hx0 : κ.data = .tuple xs0 := hx0
        have hq' : updF (dput ks ts κ.data (.d y)).1 (dput ks ts κ.data (.d y)).2 kv' = some q := by
          unfold updF at hq
          split at hq
          · exact hq
          · cases hq
        obtain ⟨ms, ys, zs, rfl, hp⟩ := prs_rep r e2 hq'
        cases r0 with
        | tup hs hr =>
          cases hr with
          | cons h1 hr =>
            cases hr with
            | cons h2 hr =>
              cases hr
              rename_i kv yv
              have hk : ∃ b, kv = .ref b := by
                rw [hx0] at h1
                cases h1 with
                | tup _ _ => exact ⟨_, rfl⟩
              obtain ⟨b, rfl⟩ := hk
              exact ⟨(κ, b) :: ms, yv :: ys, y :: zs, rfl, .cons hs h1 dκ h2 hp⟩
      · cases e
    · cases e
  | [], _ :: _, _, _, _, _, r, _, _ => by cases r
  | _ :: _, [], _, _, _, _, r, _, _ => by cases r
theorem PrsR.reps {H : Hp} {O : List Addr} {vs : List V} {ms : List (NestedKey × Addr)} {ys : List V} {zs : List PyData} (h : PrsR G H O vs ms ys zs) : Reps G H O (nkV ms) (nkD ms) ∧ Reps G H O ys zs ∧ (∀ x ∈ ms, x.1.depth ≤ 8) ∧ vs.length = ms.length ∧ ys.length = ms.length := by
  induction h with
  | nil => exact ⟨.nil, .nil, (fun _ h => nomatch h), rfl, rfl⟩
  | cons h1 h2 h3 h4 h5 ih =>
    obtain ⟨i1, i2, i3, i4, i5⟩ := ih
    exact ⟨.cons h2 i1, .cons h4 i2, List.forall_mem_cons.mpr ⟨h3, i3⟩, by simp [i4], by simp [i5]⟩
/-- a tuple's object -/
theorem sqd_in {pins : List (Addr × Obj)} {σ : St} {H : Hp} {s : Shared} (I : Inv X pins σ H s) {a : Addr} {xs : List V} (h : SqD X.K H a xs) : ∃ (o : Obj) (its : List Value) (n : Nat), s.heap.get? a = some o ∧ o.cls = .type "tuple" ∧ o.dict = none ∧ o.data = .seq its.toArray n ∧ Vals xs its := by
  rcases h with ⟨o, h, hd⟩ | ⟨o, its, n, h1, h2, hd, h3, h4, h5⟩
  · obtain ⟨ho, z, its, r, ob, ho2, hc, n, hdt⟩ := I.hok a _ h
    rw [ho] at ho2
    cases ho2
    exact ⟨o, its, n, ho, hc, hd, hdt, r⟩
  · exact ⟨o, its.toList, n, I.kIn a o h1, h2, hd, by simpa using h3, h5⟩
theorem PrsR.vals {pins : List (Addr × Obj)} {σ : St} {H : Hp} {s : Shared} {O : List Addr} (hK : G.K = X.K) (I : Inv X pins σ H s) {vs : List V} {ms : List (NestedKey × Addr)} {ys : List V} {zs : List PyData} (h : PrsR G H O vs ms ys zs) :
    ∃ (Ts : List Addr) (ws : List Value), vs = Ts.map V.ref ∧ Vals ys ws ∧ ws.length = ms.length ∧ ∀ (j : Nat) (k v : Value), (((ms.map fun m => Value.ref m.2).zip ws))[j]? = some (k, v) → ∃ t, Ts[j]? = some t ∧ PairAt s.heap t k v := by
  induction h with
  | nil => exact ⟨[], [], rfl, .nil, rfl, fun j k v h => by simp at h⟩
  | @cons t m y x vs ms ys xs h1 h2 h3 h4 h5 ih =>
    obtain ⟨Ts, ws, rfl, rv, lw, hp⟩ := ih
    rw [hK] at h1
    obtain ⟨o, its, n, ho, hc, hd, hdt, r⟩ := sqd_in I h1
    cases r with
    | cons r1 r =>
      cases r with
      | cons r2 r =>
        cases r
        rename_i u1 u2
        have hu1 : u1 = .ref m.2 := by cases r1; rfl
        subst hu1
        refine ⟨t :: Ts, u2 :: ws, rfl, .cons r2 rv, by simp [lw], fun j k v h => ?_⟩
        cases j with
        | zero =>
          simp only [List.map_cons, List.zip_cons_cons, List.getElem?_cons_zero, Option.some.injEq, Prod.mk.injEq] at h
          obtain ⟨rfl, rfl⟩ := h
          exact ⟨t, rfl, .inl ⟨o, ho, hc, n, hdt⟩⟩
        | succ j =>
          simp only [List.map_cons, List.zip_cons_cons, List.getElem?_cons_succ] at h
          obtain ⟨t', h1, h2⟩ := hp j k v h
          exact ⟨t', by simpa using h1, h2⟩
theorem Res.dn {H : Hp} {O : List Addr} {p : Addr} {ks : List (NestedKey × Addr)} {vs : List V} {ts : List T} (h : H p = none) (l : ks.length = vs.length) (nd : ks ≠ [] ∧ (ks.map (·.1)).Nodup) (rk : Reps G H O (nkV ks) (nkD ks)) (r : RepTs G H O vs ts []) : Res G H O (upd H p (DN G.P G.w p ks vs)) (.ref p) (.dct (nkD ks) ts) := by
  refine ⟨[p], by simp, by simpa using h, ?_⟩
  have U : Up O H ([p] ++ O) (upd H p (DN G.P G.w p ks vs)) := .grow (same_upd h) (fp := [p]) (by simpa using h) fun a ha => (List.mem_append.mp ha).symm
  exact .dN upd_same l nd (rk.up U) (r.up U fun b hb => nomatch hb)
theorem cr_dictG (ok : Ok0 G X) : CallR X (.type "dict") (rC G dictD) := by
  intro pins s σ H vs us Q I r h
  obtain ⟨O, ps, t, hp, e, k⟩ := h
  have main : ∀ {a : Addr} {ws : List V} {xs : List PyData} {T : String} {its : List Value}, dctOf xs = some t → Reps G H O ws xs → Vals ws its → its.length ≤ sizeLine →
      (∀ (Ts : Nat → Addr) (prs : List (Value × Value)), PairItems s.heap its.toArray Ts prs → ∃ fp OK, PairArg X.prog X.w T a fp [] prs.length (PairRel prs) OK ∧ OK s.heap) →
      wpAny (model X.prog X.w) X.A (call (.type "dict") [.ref a]) (EP X pins σ Q) X.xe s := by
    intro a ws xs T its e ra rv hz arg
    unfold dctOf at e
    split at e
    · rename_i kvs e1
      split at e
      · rename_i hc
        simp only [Bool.and_eq_true, Bool.not_eq_true'] at hc
        split at e
        · rename_i q e2
          simp only [Option.some.injEq] at e
          subst e
          obtain ⟨ms, ys, zs, rfl, hprs⟩ := prs_rep ra e1 e2
          obtain ⟨rms, rys, dms, lvs, lys⟩ := hprs.reps
          obtain ⟨Ts, us2, rfl, rv2, lus, hpair⟩ := hprs.vals ok.hK I
          have hne : ms ≠ [] := by
            rintro rfl
            simp at hc
          have hits : its = Ts.map Value.ref := by
            clear hpair hprs ra hz arg lvs
            induction Ts generalizing its with
            | nil => cases rv; rfl
            | cons t Ts ih =>
              cases rv with
              | cons r0 rv =>
                cases r0
                rw [ih rv]
                rfl
          subst hits
          have lTs : Ts.length = ms.length := by simpa using lvs
          have litm : PairItems s.heap (Ts.map Value.ref).toArray (fun j => Ts.getD j 0) ((ms.map fun m => Value.ref m.2).zip us2) := by
            refine ⟨by simp [lTs, lus], fun j kk v hj => ?_⟩
            obtain ⟨t, ht, hpa⟩ := hpair j kk v hj
            have hg : Ts.getD j 0 = t := by simp [List.getD, ht]
            show (Ts.map Value.ref).toArray[j]? = some (.ref (Ts.getD j 0)) ∧ PairAt s.heap (Ts.getD j 0) kk v
            rw [hg]
            exact ⟨by simp [ht], hpa⟩
          obtain ⟨fp, OK, P, hok⟩ := arg _ _ litm
          have hn : ((ms.map fun m => Value.ref m.2).zip us2).length = ms.length := by simp [lus]
          obtain ⟨ks2, us3, vs2, fp2, rest, h1, h2, h3, h4, h5, h6, h7, h8, h9, h10, h11, h12⟩ := upd_fold (G := G) ms us2 ys zs [] [] [] [] [] rv2 rys lus rms dms .nil rfl rfl .nil .nil (fun _ h => nomatch h) .nil e2
          have hn2 : ks2 ≠ [] := h7 (.inr hne)
          have hfp : fp2 = [] := by
            have := h11.length_eq
            simp at this
            exact this.1
          subst hfp
          have hfr : H s.heap.objs.size = none := I.hok.fresh (Nat.le_refl _)
          have hbig : (s.heap.objs.size == sysModules) = false := beq_eq_false_iff_ne.mpr (Nat.ne_of_gt I.big)
          have hsz : ms.length ≤ sizeLine := by rw [← lTs]; simpa using hz
          refine call_dict_pairsH (knd := nestedKind X.prog X.w) (ps := nkX ms us2) P (I.ok.hd ok.hc) (by show X.A.in1.in1.units + 8 < cLine; have := ok.hu; show X.A.units + 1 + 1 + 8 < cLine; omega) hok ⟨by simp [nkX, lus], fun j kk v hj => ?_⟩ (fun h' keep x hx => ?_) (by rw [hn]; exact hsz) fun h' tk dd keep => ?_
          · have hj' : ((ms.map fun m => Value.ref m.2).zip us2)[j]? = some (kk, v) := hj
            obtain ⟨hlt, hv⟩ := List.getElem?_eq_some_iff.mp hj'
            have hlm : j < ms.length := by simp at hlt; omega
            have hlu : j < us2.length := by simp at hlt; omega
            simp only [List.getElem_zip, List.getElem_map, Prod.mk.injEq] at hv
            refine ⟨ms[j].1, ms[j].2, ?_, hv.1.symm⟩
            rw [← hv.2]
            have : (ms.zip us2)[j]? = some (ms[j], us2[j]) := by
              rw [List.getElem?_eq_getElem (by simp; omega)]
              simp
            simp [nkX, this]
          · simp only [nkX, List.mem_map] at hx
            obtain ⟨y, hy, rfl⟩ := hx
            have hy1 : y.1 ∈ ms := (List.of_mem_zip (a := y.1) (b := y.2) hy).1
            have rk0 : Rep G H O (.ref y.1.2) y.1.1.data := by
              have : ∀ {ms : List (NestedKey × Addr)}, Reps G H O (nkV ms) (nkD ms) → ∀ m ∈ ms, Rep G H O (.ref m.2) m.1.data := by
                intro ms
                induction ms with
                | nil => intro _ m h; cases h
                | cons m0 ms ih =>
                  intro r m h
                  cases r with
                  | cons r0 r =>
                    rcases List.mem_cons.mp h with rfl | h
                    · exact r0
                    · exact ih r m h
              exact this rms _ hy1
            refine ⟨NestedIs.at (fun b ob vs n hb _ => keep b ob (Nat.ne_of_lt (Heap.lt_size hb)) (fun z => nomatch z) hb) _ _ (nested_is ok.hK I _ _ _ rk0 rfl), dms _ hy1⟩
          · have dd2 : h'.DictOfH (nestedKind X.prog X.w) s.heap.objs.size (nkX ks2 us3) := by
              rw [← h2]
              simpa [nkX] using dd
            have keep' : ∀ b o, s.heap.get? b = some o → h'.get? b = some o := fun b o e => keep b o (fun z => nomatch z) e
            have new : ObjOk X.prog X.w (upd H s.heap.objs.size (DN G.P G.w s.heap.objs.size ks2 vs2)) h' s.heap.objs.size (DN G.P G.w s.heap.objs.size ks2 vs2) := by
              rw [ok.hP, ok.hw]
              exact dn_new hbig (by simp at h10; omega) h9 h3 h4 dd2
            refine ⟨.ref s.heap.objs.size, _, I.laid (t' := tk) keep' (Nat.le_refl _) new, rfl, k _ _ (same_upd hfr) ?_⟩
            rw [h1]
            exact Res.dn hfr h5 ⟨hn2, h6⟩ h8 h12
        · cases e
      · cases e
    · cases e
  unfold dictD at e
  split at e
  · obtain ⟨v, rfl, h1⟩ := hp.one
    obtain ⟨a, ws, rfl, ha, ra⟩ := h1.lstI
    obtain ⟨u, rfl, ru⟩ := r.one
    cases ru
    obtain ⟨z, its, n, rv, hl, ho⟩ := I.lstM ha
    exact main (T := "list") e ra rv (by rw [← hl]; exact z) fun Ts prs hp => ⟨_, _, PairArg.list a its.toArray Ts prs, ⟨_, n, ho, rfl, rfl, rfl⟩, hp⟩
  · obtain ⟨v, rfl, h1⟩ := hp.one
    obtain ⟨a, ws, rfl, ha, ra, hr⟩ := h1.tupI
    obtain ⟨u, rfl, ru⟩ := r.one
    cases ru
    rw [ok.hK] at ha
    obtain ⟨o, its, n, ho, hc, hd, hdt, rv⟩ := sqd_in I ha
    obtain ⟨_, _, _, hz⟩ := I.tuple ha.t
    exact main (T := "tuple") e ra rv (by rw [← rv.length]; exact hz) fun Ts prs hp => ⟨_, _, PairArg.tuple a its.toArray Ts prs, ⟨o, n, ho, hc, hd, hdt⟩, hp⟩
  · cases e
end
end Ev
set_option Elab.async false
set_option linter.all false
set_option maxRecDepth 100000
set_option maxHeartbeats 4000000
set_option autoImplicit false
/-! Snd29: methods that change own things, as expressions. -/
namespace Ev
open PySem PySem.W PySem.Spec L2
open PyProof.Rows hiding St

section
variable {G : Gd} {W : WX} {X : Cx} {fx : Nat → Prop}
theorem ext_inv {ts us : List T} {r t' : T} (h : mthO .extend (.lst ts) us = some (r, t')) : ∃ u xs, us = [u] ∧ u.fd = some (.list xs) ∧ ts.length + xs.length ≤ sizeLine ∧ r = .d .none ∧ t' = .lst (ts ++ xs.map .d) := by
  match us, h with
  | [], h => simp [mthO] at h
  | [u], h =>
    simp only [mthO] at h
    split at h
    · rename_i xs e
      split at h
      · rename_i hs
        simp only [Option.some.injEq, Prod.mk.injEq] at h
        exact ⟨u, xs, rfl, e, Nat.le_of_ble_eq_true (by simpa [small] using hs), h.1.symm, h.2.symm⟩
      · cases h
    · cases h
  | _ :: _ :: _, h => simp [mthO] at h
theorem mu_extend : MtR X "list.extend" (rMu G .extend true) := by
  intro pins s σ0 H x xs v us Q I rx rs ⟨σ, δ, uts, gv, gt, i, p, t, r, t', F, hb, e, q⟩
  obtain ⟨ts, rfl⟩ := isL_in hb
  obtain ⟨u, zs, rfl, hu, hs, rfl, rfl⟩ := ext_inv e
  obtain ⟨w, rfl⟩ := one_of F.lws
  obtain ⟨a, vs, rfl, ha, lv⟩ := F.isLst
  obtain ⟨O, g, ft, r2, r1, mk⟩ := F.mut2
  obtain ⟨b, ws, rfl, hbl, rws⟩ : ∃ b ws, w = .ref b ∧ H b = some (.lst ws) ∧ Reps G H O ws zs := by
    cases r1 with
    | cons q1 _ => exact (q1.fd hu).lstI
  refine mt_extend pins s σ0 H _ _ v us Q I rx rs ⟨a, b, vs, ws, rfl, rfl, ha, hbl, by rw [lv, rws.length]; exact hs, q _ _ ?_⟩
  have A : At G σ (upd H a (.lst (vs ++ ws))) (setS δ i p (.lst (ts ++ zs.map .d))) ([] ++ gv) ([] ++ gt) := by
    refine mk _ [] [] _ rfl ?_
    cases r2 with
    | lst h rr =>
      rename_i vs' fp
      rw [ha] at h
      cases h
      refine ⟨a, fp, _, rfl, rfl, fun ob w z => (by rw [ha] at z; cases z), rfl, fp, [], ft, by simpa using List.perm_append_comm, .nil, fun H2 O2 h2 U k2 => ?_⟩
      have := RepT.lst (G := G) (H := H2) (O := O2) h2 ((rr.up U k2).append ((rws.up U).toT))
      simpa using this
  exact A.pushD fun O _ _ => .non
/-- the built-in method that changes -/
theorem mu_mt (ok : Ok0 G X) {m : Mth} {b : Bool} (h : mutOk m b = true) : ∃ T id, PlainAttrs T ∧ Slot T (mN m) id ∧ typeOf (.builtin id) = pure (.type "method_descriptor") ∧ MtR X id (rMu G m b) ∧ T = (if b = true then "list" else "dict") := by
  cases m <;> (cases b <;> first | (cases h; done) | skip)
  case update.false => exact ⟨"dict", "dict.update", PySem.F.plainAttrs_dict, PySem.F.slot_dict_update, PySem.F.type_dict_update, mu_update ok, rfl⟩
  case append.true => exact ⟨"list", "list.append", PySem.F.plainAttrs_list, PySem.F.slot_list_append, PySem.F.type_list_append, mu_append, rfl⟩
  case pop.true => exact ⟨"list", "list.pop", PySem.F.plainAttrs_list, PySem.F.slot_list_pop, PySem.F.type_list_pop, mu_pop, rfl⟩
  case popAt.false => exact ⟨"dict", "dict.pop", PySem.F.plainAttrs_dict, PySem.F.slot_dict_pop, PySem.F.type_dict_pop, mu_popD, rfl⟩
  case popAt.true => exact ⟨"list", "list.pop", PySem.F.plainAttrs_list, PySem.F.slot_list_pop, PySem.F.type_list_pop, mu_popAt, rfl⟩
  case extend.true => exact ⟨"list", "list.extend", PySem.F.plainAttrs_list, PySem.F.slot_list_extend, PySem.F.type_list_extend, mu_extend, rfl⟩
/-- an own thing's type -/
theorem ty_own {σ : St} {H : Hp} {δ : List T} {ws gv : List V} {us gt : List T} {i : Nat} {p : List PyData} {u : T} {v : V} (F : FocP G σ H δ ws us gv gt i p u v) (ho : isOwn u = true) : TyIs X H v (if isL u = true then "list" else "dict") := by
  cases u with
  | lst ts =>
    obtain ⟨a, vs, rfl, ha, _⟩ := F.isLst
    exact ty_list (.of ha)
  | dct ks ts =>
    obtain ⟨a, rfl, ⟨κs, vs, _, ha, _⟩ | ⟨κs, vs, _, ha, _⟩⟩ := F.isDct
    · intro pins σ s v I r
      cases r
      obtain ⟨z, hd, ws, rel, dd⟩ := dk_of I.hok ha
      obtain ⟨ob, es, ep, h1, h2, _⟩ := id dd
      exact ⟨dd.typeIs, fun b eb => by cases eb; exact ⟨ob, h1, h2.2.1⟩⟩
    · intro pins σ s v I r
      cases r
      obtain ⟨⟨h1, h2, h3, h4, us, rv, l, o, es, ep, ho, hc, hd, he⟩, _⟩ := I.hok a _ ha
      exact ⟨⟨o, ho, hc.1⟩, fun b eb => by cases eb; exact ⟨o, ho, hc.2.1⟩⟩
  | _ => cases ho
theorem mthO_own {m : Mth} {t r t' : T} {us : List T} (h : mthO m t us = some (r, t')) : t ≠ .un := by
  rintro rfl
  cases m <;> simp [mthO] at h
theorem mthAt_in {b : Bool} {m : Mth} {δ : List T} {s : Nat} {p : List PyData} {us : List T} {σ : St} {gv : List V} {gt : List T} {Q : VK} (q : post1 G W elT σ gv gt (mthAt b m δ s p us) Q) :
    ∃ t r t', getS δ s p = some t ∧ isL t = b ∧ mthO m t us = some (r, t') ∧ ∀ w H', At G σ H' (setS δ s p t') (w :: gv) (r :: gt) → Q w H' := by
  unfold mthAt at q
  split at q
  · rename_i t e1
    split at q
    · rename_i hb
      split at q
      · rename_i r t' e2
        exact ⟨t, r, t', e1, by simpa using hb, e2, fun w H' A => q w H' A trivial⟩
      · exact q.elim
    · exact q.elim
  · exact q.elim
/-- name.m(..) -/
theorem s_mutV {C : Cf} {e : Expr} {m : Mth} {s : Nat} {es : IEs} {rs : List T → R (List T)} (ok : Ok0 G X) (hp : PE X e (tMG X (mN m) (tVar s) (tL G W elT rs))) : PE X e (t1 G W elT (mMut C m (.v s) es rs)) := PE.imp hp fun σ H Q ⟨δ, gv, gt, A, q⟩ => by
  unfold mMut at q
  simp only at q
  split at q
  · rename_i u e1
    split at q
    · rename_i hc
      simp only [Bool.and_eq_true] at hc
      have hn : u ≠ .un := by rintro rfl; cases hc.1
      obtain ⟨v, hv, F⟩ := At.focP (ws := []) (us := []) A rfl e1 hn
      obtain ⟨T, id, h1, h2, h3, h4, h5⟩ := mu_mt (G := G) (X := X) ok hc.2
      refine ⟨v, hv, T, id, _, h1, h2, h3, h4, h5 ▸ ty_own F hc.1, δ, gv, gt, A, ?_⟩
      unfold bind1 at q
      cases e2 : rs δ with
      | no => rw [e2] at q; exact q
      | exn x δ1 => rw [e2] at q; exact q
      | ok us δ1 =>
        simp only [e2] at q
        intro vs H2 A2 oks
        have e0 : us.map elT.t = us := by simp [elT]
        rw [e0] at A2
        obtain ⟨t, r, t', g1, g2, g3, g4⟩ := mthAt_in q
        have e3 : nth δ1 s = some t := by
          unfold getS at g1
          cases e4 : nth δ1 s with
          | none => simp [e4] at g1
          | some t0 => simp [e4, getP] at g1; rw [g1]
        obtain ⟨v', hv', F2⟩ := At.focP A2 (by simpa using oks.length.symm) e3 (mthO_own g3)
        rw [hv] at hv'
        cases hv'
        exact ⟨σ, δ1, us, gv, gt, s, [], t, r, t', F2, g2, g3, g4⟩
    · exact q.elim
  · exact q.elim
theorem s_mutV0 {C : Cf} {e : Expr} {m : Mth} {s : Nat} {es : IEs} (ok : Ok0 G X) (hp : PE X e (tMG0 X (mN m) (tVar s))) : PE X e (t1 G W elT (mMut C m (.v s) es sNil)) := by
  refine s_mutV ok (PE.imp hp fun σ H Q ⟨v, hv, T, id, r, h1, h2, h3, h4, h5, h6⟩ => ⟨v, hv, T, id, r, h1, h2, h3, h4, h5, ?_⟩)
  obtain ⟨δ, gv, gt, A, q⟩ := h6
  exact q [] H A .nil
/-! a place as receiver -/
def tPurs (G : Gd) (gd : List PyData) (es : IEs) : TA := fun σ H Q => ∃ O δ xs, View G σ H O δ ∧ purs gd δ es = some xs ∧ ∀ vs H', Same H H' → Reps G H' O vs xs → Q vs H'
theorem ps_nil {gd : List PyData} : PA X [] (tPurs G gd .nil) := PA.imp pa_nil fun σ H Q ⟨O, δ, xs, V, e, q⟩ => by
  cases e
  exact q [] H (Same.refl _) .nil
theorem ps_cons {gd : List PyData} {e : Expr} {es : List Expr} {ie : IE} {ies : IEs} (h1 : PE X e (tPur G gd ie)) (h2 : PA X es (tPurs G gd ies)) (hs : starEach (e :: es) X.env = (false, eval e X.env) :: starEach es X.env) : PA X (e :: es) (tPurs G gd (.cons ie ies)) :=
  PA.imp (pa_cons h1 h2 hs) fun σ H Q ⟨O, δ, xs, V, e, q⟩ => by
    unfold purs at e
    split at e
    · rename_i x e1
      split at e
      · rename_i ys e2
        cases e
        refine ⟨O, δ, x, V, e1, fun v H1 s1 r1 => ⟨O, δ, ys, V.same s1, e2, fun vs H2 s2 r2 => ?_⟩⟩
        exact q (v :: vs) H2 (s1.trans s2) (.cons (r1.same s2) r2)
      · cases e
    · cases e
theorem FocP.holds {σ : St} {H : Hp} {δ : List T} {ws gv : List V} {us gt : List T} {i : Nat} {p : List PyData} {u : T} {v : V} (F : FocP G σ H δ ws us gv gt i p u v) :
    ∃ O, View G σ H O δ ∧ ∀ H2 ys ks, Same H H2 → Reps G H2 O ys ks → FocP G σ H2 δ (ys ++ ws) (ks.map .d ++ us) gv gt i p u v := by
  obtain ⟨ft, l, g, r, hole⟩ := F.hole
  have R : RepTs G H (ft ++ (l ++ (g ++ r))) (gv ++ sv σ) (gt ++ δ) (l ++ (g ++ r)) := by
    have := hole.2.2.2.2 H (ft ++ (l ++ (g ++ r))) u g (.less fun a h => h) (fun _ _ => rfl) hole.2.2.1
    rwa [setS_same F.getS] at this
  refine ⟨_, view_of F.env F.len R hole.2.2.2.1, fun H2 ys ks s ry => ?_⟩
  obtain ⟨nd, r1, r2, th, kk⟩ := hole.same s
  refine ⟨F.env, F.len, ?_, F.root, ft, l, g, r, nd, ?_, r2, th, kk⟩
  · simp [F.lws, ry.length]
  · simpa using (ry.toT).append r1
theorem s_mutP {C : Cf} {e : Expr} {m : Mth} {io : IE} {es : IEs} {rs : List T → R (List T)} (hn : isNm io = false) (ok : Ok0 G X) (hp : PE X e (tMG X (mN m) (tPlc G C.gd io) (tPurs G C.gd es))) : PE X e (t1 G W elT (mMut C m io es rs)) := PE.imp hp fun σ H Q ⟨δ, gv, gt, A, q⟩ => by
  have e0 : mMut C m io es rs δ = (match plc C.gd δ io with
    | some (s, p) => (match getS δ s p with
      | some u => if isOwn u && mutOk m (isL u) then (match purs C.gd δ es with
        | some us => mthAt (isL u) m δ s p (us.map .d)
        | none => .no) else .no
      | none => .no)
    | none => .no) := by cases io <;> first | rfl | (simp [isNm] at hn)
  rw [e0] at q
  split at q
  · rename_i s p e1
    split at q
    · rename_i u e2
      split at q
      · rename_i hc
        simp only [Bool.and_eq_true] at hc
        split at q
        · rename_i us e3
          have hun : u ≠ .un := by rintro rfl; cases hc.1
          refine ⟨δ, [], [], gv, gt, s, p, u, A, rfl, e1, e2, hun, fun v H1 s1 F => ?_⟩
          obtain ⟨T, id, h1, h2, h3, h4, h5⟩ := mu_mt (G := G) (X := X) ok hc.2
          obtain ⟨t, r, t', g1, g2, g3, g4⟩ := mthAt_in q
          rw [e2] at g1
          cases g1
          obtain ⟨O, V, hd⟩ := F.holds
          refine ⟨T, id, _, h1, h2, h3, h4, h5 ▸ ty_own F hc.1, O, δ, us, V, e3, fun vs H2 s2 r2 => ?_⟩
          have F2 := hd H2 vs us s2 r2
          rw [List.append_nil, List.append_nil] at F2
          exact ⟨σ, δ, us.map .d, gv, gt, s, p, u, r, t', F2, g2, g3, g4⟩
        · exact q.elim
      · exact q.elim
    · exact q.elim
  · exact q.elim
theorem s_mutP0 {C : Cf} {e : Expr} {m : Mth} {io : IE} {rs : List T → R (List T)} (hn : isNm io = false) (ok : Ok0 G X) (hp : PE X e (tMG0 X (mN m) (tPlc G C.gd io))) : PE X e (t1 G W elT (mMut C m io .nil rs)) := by
  refine s_mutP hn ok (PE.imp hp fun σ H Q ⟨δ, ws, us, gv, gt, i, p, u, A, l, e1, e2, hn, q⟩ => ⟨δ, ws, us, gv, gt, i, p, u, A, l, e1, e2, hn, fun v H' s F => ?_⟩)
  obtain ⟨T, id, r, h1, h2, h3, h4, h5, O, δ2, xs, V, e, q2⟩ := q v H' s F
  cases e
  exact ⟨T, id, r, h1, h2, h3, h4, h5, q2 [] H' (Same.refl _) .nil⟩
theorem s_mthU {C : Cf} {m : Mth} {io : IE} {ro : List T → R T} {es : IEs} {rs : List T → R (List T)} {ra : List T → R (List A)} {e : Expr} (hm : isMut m = true) (h : PE X e (t1 G W elT (mMut C m io es rs))) : PE X e (t1 G W elT (mMth C m io ro es rs ra)) := by
  have : mMth C m io ro es rs ra = mMut C m io es rs := by unfold mMth; rw [hm]; rfl
  rw [this]
  exact h
end
end Ev
set_option Elab.async false
set_option linter.all false
set_option maxRecDepth 100000
set_option maxHeartbeats 4000000
set_option autoImplicit false
/-! Snd30: list comprehensions. -/
namespace Ev
open PySem PySem.W PySem.Spec L2
open PyProof.Rows hiding St

section
variable {G : Gd} {W : WX} {X : Cx} {fx : Nat → Prop}
/-- a target of a walk -/
def gW (G : Gd) (fx : Nat → Prop) (pr : Bool) (tg : Tg) : TG := match pr with
  | false => gT G fx tg
  | true => match tg with
    | .tup gs => gTu G G.K fx gs
    | .nm _ => fun _ _ _ _ => False
/-- one thing of a walk, stored -/
theorem turn_in {J : L2.It} {pr : Bool} {srcs gv : List V} {tss gt : List T} {xs : List PyData} {σ : St} {H H' : Hp} {δ δ1 : List T} {x : V} {d : PyData} {i : Nat} {tg : Tg} {Q : St → Hp → Prop} (w : Wl G J pr srcs tss xs) (l : srcs.length = tss.length) (hi : i < xs.length) (A : At G σ H δ (srcs ++ gv) (tss ++ gt)) (y : J.yld i H x H')
    (hd : xs[i]? = some d) (e : bindT tg (.d d) δ = some δ1) (hp : pr = true → ∃ gs, tg = .tup gs) (q : ∀ σ', Fix fx σ σ' → At G σ' H' δ1 (srcs ++ gv) (tss ++ gt) → Q σ' H') : gW G fx pr tg x σ H' Q := by
  obtain ⟨O, f, nd, R, rr⟩ := A.held l
  obtain ⟨d', e1, q3⟩ := w.yld i H O f x H' rr hi y
  rw [hd] at e1
  cases e1
  rcases q3 with ⟨rfl, rfl, r⟩ | ⟨rfl, Tt, u, v, du, dv, rfl, hn2, rfl, rfl, r1, r2⟩
  · exact ⟨δ, srcs ++ gv, tss ++ gt, .d d, δ1, A.push nd R (Same.refl _) (.d r), e, q⟩
  · obtain ⟨gs, rfl⟩ := hp rfl
    have eb : bindT (.tup gs) (.d (.tuple [du, dv])) δ = bindTs gs [.d du, .d dv] δ := by
      unfold bindT
      rfl
    rw [eb] at e
    have sm : Same H (upd H Tt (.tup [u, v])) := same_upd hn2
    have U : Up O H O (upd H Tt (.tup [u, v])) := .same sm
    have A3 : At G σ (upd H Tt (.tup [u, v])) δ ([u, v] ++ (srcs ++ gv)) ([.d du, .d dv] ++ (tss ++ gt)) := by
      refine ⟨A.env, ?_, O, nd, ?_⟩
      · have := A.len
        simpa using this
      · exact .cons (f := []) (.d (r1.up U)) (.cons (f := []) (.d (r2.up U)) (R.up U fun a ha => by
          have h := R.there a ha
          cases ho : H a with
          | none => exact absurd ho h
          | some o => exact sm a o ho))
    exact ⟨Tt, [u, v], rfl, .inl (.inl upd_same), δ, srcs ++ gv, tss ++ gt, [.d du, .d dv], δ1, rfl, A3, e, q⟩
/-- a clause's test -/
def tTs (G : Gd) (W : WX) (rc : Option (List T → R T)) : TT := match rc with
  | none => tYes
  | some r => tT G W r
theorem tst_ok {c : Option (List T → R T)} {σ : St} {H : Hp} {δ δ1 : List T} {gv : List V} {gt : List T} {b : Bool} {Q : Bool → Hp → Prop} (A : At G σ H δ gv gt) (e : tstL c δ = .ok b δ1) (q : ∀ H', At G σ H' δ1 gv gt → Q b H') : tTs G W c σ H Q := by
  cases c with
  | none =>
    cases e
    exact q H A
  | some r =>
    simp only [tstL] at e
    split at e
    · rename_i b' δ' e1
      cases e
      refine ⟨δ, gv, gt, A, ?_⟩
      rw [e1]
      exact fun v H' A' _ => ⟨b, A'.topB, q H' A'.drop1⟩
    · cases e
theorem lc_step {c : Option (List T → R T)} {elt : List T → R T} {tg : Tg} {own : List Nat} {x : PyData} {xs : List PyData} {δ δ' : List T} {ts : List T} (h : lcL c elt tg own (x :: xs) δ = .ok ts δ') :
    ∃ δ1 b δ2, bindT tg (.d x) δ = some δ1 ∧ tstL c δ1 = .ok b δ2 ∧ ((b = true ∧ ∃ t δ3 ts', elt δ2 = .ok t δ3 ∧ lcL c elt tg own xs (unset δ3 own) = .ok ts' δ' ∧ ts = t :: ts') ∨ (b = false ∧ lcL c elt tg own xs (unset δ2 own) = .ok ts δ')) := by
  unfold lcL at h
  split at h
  · cases h
  · rename_i δ1 e1
    split at h
    · rename_i δ2 e2
      split at h
      · rename_i t δ3 e3
        split at h
        · rename_i ts' δ4 e4
          cases h
          exact ⟨δ1, true, δ2, e1, e2, .inl ⟨rfl, t, δ3, ts', e3, e4, rfl⟩⟩
        · cases h
      · cases h
    · rename_i δ2 e2
      exact ⟨δ1, false, δ2, e1, e2, .inr ⟨rfl, h⟩⟩
    · cases h
/-- the list that is made, held, grows -/
theorem app_held {σ : St} {H : Hp} {δ : List T} {gv : List V} {gt : List T} {y : V} {D : Addr} {t : T} {ts : List T} (A : At G σ H δ (y :: .ref D :: gv) (t :: .lst ts :: gt)) :
    ∃ acc, H D = some (.lst acc) ∧ acc.length = ts.length ∧ At G σ (upd H D (.lst (acc ++ [y]))) δ (.ref D :: gv) (.lst (ts ++ [t]) :: gt) := by
  obtain ⟨O, nd, R⟩ := A.hold
  have R' : RepTs G H O (y :: .ref D :: (gv ++ sv σ)) (t :: .lst ts :: (gt ++ δ)) O := R
  generalize hO : O = O' at R'
  cases R' with
  | cons h1 h2 =>
    rename_i f1 g1
    cases h2 with
    | cons h2 h3 =>
      rename_i f2 g2
      cases h2 with
      | lst ha rr =>
        rename_i acc fp
        subst hO
        refine ⟨acc, ha, rr.length, A.env, by have := A.len; simpa using this, ?_⟩
        have pm : ((D :: (fp ++ f1)) ++ g2).Perm (f1 ++ ((D :: fp) ++ g2)) := by
          rw [List.perm_iff_count]
          intro b
          simp only [List.count_append, List.count_cons]
          omega
        have nd2 := pm.nodup_iff.mpr nd
        have hD : D ∈ f1 ++ ((D :: fp) ++ g2) := by simp
        have U : Up (f1 ++ ((D :: fp) ++ g2)) H ((D :: (fp ++ f1)) ++ g2) (upd H D (.lst (acc ++ [y]))) := .mut hD (fun ob w z => by rw [ha] at z; cases z) fun b hb => pm.mem_iff.mp hb
        have ne : ∀ b ∈ (fp ++ f1) ++ g2, b ≠ D := fun b hb z => by
          subst z
          have := (List.nodup_cons.mp (show (b :: ((fp ++ f1) ++ g2)).Nodup from nd2)).1
          exact this hb
        refine ⟨_, nd2, ?_⟩
        have a1 := h1.up U fun b hb => upd_ne (ne b (by simp [hb]))
        have a2 := rr.up U fun b hb => upd_ne (ne b (by simp [hb]))
        have a3 := h3.up U fun b hb => upd_ne (ne b (by simp [hb]))
        exact .cons (.lst upd_same (a2.append (by simpa using RepTs.cons a1 .nil))) a3
/-! slots that stand for nothing -/
theorem RepTs.swapV {H : Hp} : ∀ {vs ws : List V} {ts : List T} {f : List Addr} {O : List Addr}, RepTs G H O vs ts f → vs.length = ws.length → (∀ i t, nth ts i = some t → t ≠ .un → vs[i]? = ws[i]?) → RepTs G H O ws ts f := by
  intro vs
  induction vs with
  | nil =>
    intro ws ts f O h l _
    cases h
    cases ws with
    | nil => exact .nil
    | cons _ _ => simp at l
  | cons v vs ih =>
    intro ws ts f O h l k
    cases h with
    | cons h1 h2 =>
      cases ws with
      | nil => simp at l
      | cons w ws =>
        rename_i t f1 ts g1
        have h2' := ih h2 (by simpa using l) fun i u e n => by have := k (i + 1) u e n; simpa using this
        by_cases n : t = .un
        · subst n
          cases h1 with
          | un => exact .cons .un h2'
        · have e := k 0 t rfl n
          simp at e
          subst e
          exact .cons h1 h2'
theorem unset_len : ∀ (is : List Nat) (δ : List T), (unset δ is).length = δ.length
  | [], _ => rfl
  | i :: is, δ => by
    show (unset (put δ i .un) is).length = _
    rw [unset_len is, put_length]
theorem unset_put {i : Nat} : ∀ (is : List Nat) (δ : List T), put (unset δ is) i .un = unset (put δ i .un) is
  | [], _ => rfl
  | j :: is, δ => by
    show put (unset (put δ j .un) is) i .un = unset (put (put δ i .un) j .un) is
    rw [unset_put is]
    by_cases h : j = i
    · subst h
      rfl
    · rw [put_comm h]
theorem put_put {α : Type} (xs : List α) (i : Nat) (x y : α) : put (put xs i x) i y = put xs i y := by rw [put_eq, put_eq, put_eq, List.set_set]
theorem unset_idem : ∀ (is : List Nat) (δ : List T), unset (unset δ is) is = unset δ is
  | [], _ => rfl
  | i :: is, δ => by
    show unset (put (unset (put δ i .un) is) i .un) is = unset (put δ i .un) is
    rw [unset_put, put_put, unset_idem is]
theorem unset_at : ∀ (is : List Nat) (δ : List T) (i : Nat), i ∈ is → i < δ.length → nth (unset δ is) i = some .un
  | [], _, _, h, _ => nomatch h
  | j :: is, δ, i, h, l => by
    show nth (unset (put δ j .un) is) i = some .un
    rw [← unset_put]
    by_cases hj : i = j
    · subst hj
      exact nth_put_self (by rw [unset_len]; exact l)
    · rw [nth_put_ne hj]
      exact unset_at is δ i ((List.mem_cons.mp h).resolve_left hj) l
/-- the state ahead of a block again -/
theorem At.unwipe {σ : St} {H : Hp} {δ : List T} {gv : List V} {gt : List T} {is : List Nat} (A : At G (L2.wipe σ is) H δ gv gt) (hu : Ev.unset δ is = δ) : At G σ H δ gv gt := by
  have hl : (L2.wipe σ is).length = σ.length := wipe_length σ is
  have key : ∀ i t, nth δ i = some t → t ≠ .un → (L2.wipe σ is)[i]? = σ[i]? := fun i t e n => by
    refine wipe_out fun hm => ?_
    have := unset_at is δ i hm (nth_lt e)
    rw [hu, e] at this
    exact n (Option.some.inj this)
  refine ⟨⟨hl ▸ A.env.len, fun i t e n => ?_⟩, A.len, ?_⟩
  · obtain ⟨v, hv⟩ := A.env.has i t e n
    exact ⟨v, (key i t e n) ▸ hv⟩
  · obtain ⟨O, nd, R⟩ := A.hold
    refine ⟨O, nd, ?_⟩
    obtain ⟨g1, g2, rfl, r1, r2⟩ := R.splitV A.len
    refine r1.append (r2.swapV (by rw [sv_len, sv_len, hl]) fun i t e n => ?_)
    simp only [sv, List.getElem?_map]
    rw [key i t e n]
theorem wipe_fix {σ σ' : St} {is : List Nat} (f : Fix (fun i => i ∉ is) (L2.wipe σ is) σ') (l : σ'.length = σ.length) : L2.wipe σ' is = L2.wipe σ is := by
  have wi : ∀ (σ : St) i, i ∈ is → i < σ.length → (L2.wipe σ is)[i]? = some none := by
    clear f l
    intro σ
    induction is with
    | nil => intro i h; cases h
    | cons j js ih =>
      intro i h hl
      show ((L2.wipe σ js).set j none)[i]? = some none
      by_cases hj : j = i
      · subst hj
        rw [List.getElem?_set_self (by rw [wipe_length]; exact hl)]
      · rw [List.getElem?_set_ne hj]
        exact ih i ((List.mem_cons.mp h).resolve_left fun z => hj z.symm) hl
  apply List.ext_getElem?
  intro i
  by_cases hm : i ∈ is
  · by_cases hl : i < σ.length
    · rw [wi _ _ hm hl, wi _ _ hm (by omega)]
    · rw [List.getElem?_eq_none (by rw [wipe_length]; omega), List.getElem?_eq_none (by rw [wipe_length]; omega)]
  · rw [wipe_out hm]
    exact f.2 i hm
theorem bindT_len : ∀ {g : Tg} {t : T} {δ δ' : List T}, bindT g t δ = some δ' → δ'.length = δ.length := by
  have aux : (∀ g : Tg, ∀ (t : T) (δ δ' : List T), bindT g t δ = some δ' → δ'.length = δ.length) := by
    intro g
    refine Tg.rec (motive_1 := fun g => ∀ (t : T) (δ δ' : List T), bindT g t δ = some δ' → δ'.length = δ.length) (motive_2 := fun gs => ∀ (ts : List T) (δ δ' : List T), bindTs gs ts δ = some δ' → δ'.length = δ.length) ?_ ?_ ?_ ?_ g
    · intro i t δ δ' h
      have h : some (put δ i t) = some δ' := by simpa [bindT] using h
      cases h
      rw [put_length]
    · intro gs ih t δ δ' h
      unfold bindT at h
      split at h
      · rename_i h1; cases h1
      · rename_i h1; cases h1; exact ih _ _ _ h
      · rename_i h1; cases h1; exact ih _ _ _ h
      · cases h
    · intro ts δ δ' h
      cases ts with
      | nil => simp only [bindTs, Option.some.injEq] at h; rw [h]
      | cons _ _ => simp [bindTs] at h
    · intro g gs ih1 ih2 ts δ δ' h
      cases ts with
      | nil => simp [bindTs] at h
      | cons t ts =>
        simp only [bindTs] at h
        split at h
        · rename_i δ1 e1
          rw [ih2 _ _ _ h, ih1 _ _ _ e1]
        · cases h
  intro g t δ δ' h
  exact aux g t δ δ' h
/-- the turns of a comprehension's clause -/
theorem lc_turns {J : L2.It} {srcs gv : List V} {tss gt : List T} {xs : List PyData} {tg : Tg} {own : List Nat} {pr : Bool} {rc : Option (List T → R T)} {re : List T → R T} {σ : St} {H1 : Hp} {D : Addr} {δ δ2 ts0 tsA : List T} {Fin : Hp → Prop} (hp : pr = true → ∃ gs, tg = .tup gs)
    (l : srcs.length = tss.length) (w : Wl G J pr srcs tss xs) (A : At G (L2.wipe σ own) H1 δ (srcs ++ (.ref D :: gv)) (tss ++ (.lst ts0 :: gt))) (hu : unset δ own = δ) (e : lcL rc re tg own xs δ = .ok tsA δ2) (hs : ts0.length + tsA.length ≤ sizeLine)
    (fin : ∀ H3, At G (L2.wipe σ own) H3 δ2 (.ref D :: gv) (.lst (ts0 ++ tsA) :: gt) → unset δ2 own = δ2 → Fin H3) :
    ∃ W' : Nat → Nat → Hp → Prop, (∃ m, W' 0 m H1) ∧ ∀ i m H, W' i m H → (J.stop i H ∧ Fin H) ∨ (J.go i H ∧ ∃ Nx : Hp → Prop, (∀ H', Nx H' → ∃ m', m' < m ∧ W' (i + 1) m' H') ∧ ∀ x H', J.yld i H x H' → gW G (fun i => i ∉ own) pr tg x (L2.wipe σ own) H' fun σ2 H2 => L2.wipe σ2 own = L2.wipe σ own ∧ tTs G W rc σ2 H2 fun b H3 =>
      if b = true then t1 G W elT re σ2 H3 fun y H4 => ∃ acc, H4 D = some (.lst acc) ∧ acc.length < sizeLine ∧ Nx (upd H4 D (.lst (acc ++ [y]))) else Nx H3) := by
  refine ⟨fun i m H => m = xs.length - i ∧ i ≤ xs.length ∧ ∃ δ tsB ts1, At G (L2.wipe σ own) H δ (srcs ++ (.ref D :: gv)) (tss ++ (.lst tsB :: gt)) ∧ unset δ own = δ ∧ lcL rc re tg own (xs.drop i) δ = .ok ts1 δ2 ∧ ts0 ++ tsA = tsB ++ ts1,
    ⟨xs.length, by simp, Nat.zero_le _, _, ts0, tsA, A, hu, by simpa using e, rfl⟩, ?_⟩
  rintro i m H3 ⟨rfl, hi, δ3, tsB, ts1, A4, hu, e3, hts⟩
  have hlen := congrArg List.length hts
  simp only [List.length_append] at hlen
  obtain ⟨O, f, nd, R, rr⟩ := A4.held l
  by_cases hlt : i < xs.length
  · refine .inr ⟨w.go i H3 O f rr hlt, fun H5 => ∃ δ tsB ts1, At G (L2.wipe σ own) H5 δ (srcs ++ (.ref D :: gv)) (tss ++ (.lst tsB :: gt)) ∧ unset δ own = δ ∧ lcL rc re tg own (xs.drop (i + 1)) δ = .ok ts1 δ2 ∧ ts0 ++ tsA = tsB ++ ts1,
      fun H5 k => ⟨xs.length - (i + 1), by omega, rfl, hlt, k⟩, fun x H5 y => ?_⟩
    obtain ⟨d, hd⟩ : ∃ d, xs[i]? = some d := ⟨xs[i], by simp [hlt]⟩
    rw [drop_cons hd] at e3
    obtain ⟨δ4, b, δ5, e4, e5, q3⟩ := lc_step e3
    refine turn_in w l hlt A4 y hd e4 hp fun σ6 f6 A6 => ?_
    have l6 : σ6.length = σ.length := by
      have h1 := A6.env.len
      have h2 := A4.env.len
      rw [bindT_len e4] at h1
      rw [wipe_length] at h2
      omega
    refine ⟨wipe_fix f6 l6, tst_ok A6 e5 fun H7 A7 => ?_⟩
    have back : ∀ {H8 δ8 ts8}, At G σ6 H8 δ8 (srcs ++ (.ref D :: gv)) (tss ++ (.lst ts8 :: gt)) → At G (L2.wipe σ own) H8 (unset δ8 own) (srcs ++ (.ref D :: gv)) (tss ++ (.lst ts8 :: gt)) := fun A8 => by
      have := A8.wipe own
      rwa [wipe_fix f6 l6] at this
    rcases q3 with ⟨rfl, t, δ8, ts', e8, e9, rfl⟩ | ⟨rfl, e9⟩
    · show if true = true then _ else _
      rw [if_pos rfl]
      refine ⟨δ5, _, _, A7, ?_⟩
      rw [e8]
      intro yv H8 A8 _
      have A9 : At G σ6 H8 δ8 (yv :: .ref D :: (srcs ++ gv)) (t :: .lst tsB :: (tss ++ gt)) := by
        have a1 : At G σ6 H8 δ8 ([yv] ++ (srcs ++ ([.ref D] ++ gv))) ([t] ++ (tss ++ ([.lst tsB] ++ gt))) := A8
        have a2 := At.swap a1 rfl l
        have a3 : At G σ6 H8 δ8 (srcs ++ ([yv, .ref D] ++ gv)) (tss ++ ([t, .lst tsB] ++ gt)) := by simpa using a2
        exact At.swap a3 l rfl
      obtain ⟨acc, hacc, lacc, A10⟩ := app_held A9
      refine ⟨acc, hacc, ?_, _, tsB ++ [t], ts', back (At.swap (a := [.ref D]) (a' := [.lst (tsB ++ [t])]) A10 rfl l), unset_idem _ _, e9, by rw [hts]; simp⟩
      simp at hlen
      omega
    · show if false = true then _ else _
      rw [if_neg (by decide)]
      exact ⟨_, tsB, ts1, back A7, unset_idem _ _, e9, hts⟩
  · have ei : i = xs.length := by omega
    subst ei
    refine .inl ⟨w.stop H3 O f rr, ?_⟩
    rw [List.drop_length] at e3
    have e3 : Ev.R.ok [] δ3 = Ev.R.ok ts1 δ2 := e3
    cases e3
    rw [List.append_nil] at hts
    rw [← hts] at A4
    exact fin H3 (A4.dropL l) hu
/-- the new list, behind what is walked -/
theorem At.newD {σ : St} {H : Hp} {δ : List T} {srcs gv : List V} {tss gt : List T} {D : Addr} (A : At G σ H δ (srcs ++ gv) (tss ++ gt)) (l : srcs.length = tss.length) (hD : H D = none) : At G σ (upd H D (.lst [])) δ (srcs ++ (.ref D :: gv)) (tss ++ (.lst [] :: gt)) := by
  have := At.newLst (vs := []) (ts := []) A rfl hD
  exact At.swap (a := [.ref D]) (a' := [.lst []]) this rfl l
/-- [elt for tg in .. if ..] -/
theorem lc_in {wi : TI} {tg : Tg} {own : List Nat} {pr : Bool} {ri : List T → R (List PyData)} {rc : Option (List T → R T)} {re : List T → R T} {σ : St} {H : Hp} {Q : VK} (hp : pr = true → ∃ gs, tg = .tup gs)
    (h : t1 G W elT (mLc own re tg ri rc) σ H Q) : tLc (iW G W pr ri) (gW G (fun i => i ∉ own) pr tg) (tTs G W rc) (t1 G W elT re) own σ H Q := by
  obtain ⟨δ, gv, gt, A, q⟩ := h
  refine ⟨δ, gv, gt, A, ?_⟩
  unfold mLc bind1 at q
  cases e : ri δ with
  | no => rw [e] at q; exact q
  | exn x δ1 => rw [e] at q; exact q
  | ok xs δ1 =>
    simp only [e] at q
    split at q
    case h_2 => exact q.elim
    rename_i ts δ2 e2
    split at q
    case isFalse => exact q.elim
    rename_i hs
    have hs : ts.length ≤ sizeLine := Nat.le_of_ble_eq_true (by simpa [small] using hs)
    intro J srcs tss H1 l A1 w D hD
    exact lc_turns (ts0 := []) hp l w ((A1.wipe own).newD l hD) (unset_idem _ _) e2 (by simpa using hs) fun H3 A3 hu => q _ H3 (A3.unwipe hu) trivial
theorem lc2_step {inner : List T → R (List T)} {tg : Tg} {own : List Nat} {x : PyData} {xs : List PyData} {δ δ' : List T} {ts : List T} (h : lc2L inner tg own (x :: xs) δ = .ok ts δ') :
    ∃ δ1 tsI δ2 ts', bindT tg (.d x) δ = some δ1 ∧ inner δ1 = .ok tsI δ2 ∧ lc2L inner tg own xs (unset δ2 own) = .ok ts' δ' ∧ ts = tsI ++ ts' := by
  unfold lc2L at h
  split at h
  · cases h
  · rename_i δ1 e1
    split at h
    · rename_i tsI δ2 e2
      split at h
      · rename_i ts' δ3 e3
        cases h
        exact ⟨δ1, tsI, δ2, ts', e1, e2, e3, rfl⟩
      · cases h
    · cases h
/-- [elt for tg in .. for tg1 in .. if ..] -/
theorem lc2_in {tg tg1 : Tg} {own : List Nat} {pr pr1 : Bool} {ri ri1 : List T → R (List PyData)} {rc : Option (List T → R T)} {re : List T → R T} {σ : St} {H : Hp} {Q : VK} (hp : pr = true → ∃ gs, tg = .tup gs) (hp1 : pr1 = true → ∃ gs, tg1 = .tup gs)
    (hv : ∀ i ∈ tgN tg1, i ∈ own) (h : t1 G W elT (mLc2 own re tg ri tg1 ri1 rc) σ H Q) : tLc2 (iW G W pr ri) (gW G (fun i => i ∉ own) pr tg) tYes (iW G W pr1 ri1) (gW G (fun i => i ∉ tgN tg1) pr1 tg1) (tTs G W rc) (t1 G W elT re) own (tgN tg1) σ H Q := by
  obtain ⟨δ, gv, gt, A, q⟩ := h
  refine ⟨δ, gv, gt, A, ?_⟩
  unfold mLc2 at q
  generalize hin : (bind1 ri1 fun ys δ => lcL rc re tg1 (tgN tg1) ys (unset δ (tgN tg1))) = inner at q
  unfold bind1 at q
  cases e : ri δ with
  | no => rw [e] at q; exact q
  | exn x δ1 => rw [e] at q; exact q
  | ok xs δ1 =>
    simp only [e] at q
    split at q
    case h_2 => exact q.elim
    rename_i ts δ2 e2
    split at q
    case isFalse => exact q.elim
    rename_i hs
    have hs : ts.length ≤ sizeLine := Nat.le_of_ble_eq_true (by simpa [small] using hs)
    intro J srcs tss H1 l A1 w D hD
    have A3 := (A1.wipe own).newD l hD
    refine ⟨fun i m H => m = xs.length - i ∧ i ≤ xs.length ∧ ∃ δ tsB ts1, At G (L2.wipe σ own) H δ (srcs ++ (.ref D :: gv)) (tss ++ (.lst tsB :: gt)) ∧ unset δ own = δ ∧ lc2L inner tg own (xs.drop i) δ = .ok ts1 δ2 ∧ ts = tsB ++ ts1,
      ⟨xs.length, by simp, Nat.zero_le _, _, [], ts, A3, unset_idem _ _, by simpa using e2, rfl⟩, ?_⟩
    rintro i m H3 ⟨rfl, hi, δ3, tsB, ts1, A4, hu, e3, hts⟩
    have hlen := congrArg List.length hts
    simp only [List.length_append] at hlen
    obtain ⟨O, f, nd, R, rr⟩ := A4.held l
    by_cases hlt : i < xs.length
    · refine .inr ⟨w.go i H3 O f rr hlt, fun H5 => ∃ δ tsB ts1, At G (L2.wipe σ own) H5 δ (srcs ++ (.ref D :: gv)) (tss ++ (.lst tsB :: gt)) ∧ unset δ own = δ ∧ lc2L inner tg own (xs.drop (i + 1)) δ = .ok ts1 δ2 ∧ ts = tsB ++ ts1,
        fun H5 k => ⟨xs.length - (i + 1), by omega, rfl, hlt, k⟩, fun x H5 y => ?_⟩
      obtain ⟨d, hd⟩ : ∃ d, xs[i]? = some d := ⟨xs[i], by simp [hlt]⟩
      rw [drop_cons hd] at e3
      obtain ⟨δ4, tsI, δ5, ts', e4, e5, e6, hts'⟩ := lc2_step e3
      subst hts'
      refine turn_in w l hlt A4 y hd e4 hp fun σ6 f6 A6 => ?_
      have l6 : σ6.length = σ.length := by
        have h1 := A6.env.len
        have h2 := A4.env.len
        rw [bindT_len e4] at h1
        rw [wipe_length] at h2
        omega
      refine ⟨wipe_fix f6 l6, ?_⟩
      unfold tYes
      simp only [if_true]
      refine ⟨δ4, _, _, A6, ?_⟩
      rw [← hin] at e5
      unfold bind1 at e5
      cases e7 : ri1 δ4 with
      | no => rw [e7] at e5; cases e5
      | exn x δ7 => rw [e7] at e5; cases e5
      | ok ys δ7 =>
        rw [e7] at e5
        replace e5 : lcL rc re tg1 (tgN tg1) ys (unset δ7 (tgN tg1)) = .ok tsI δ5 := e5
        intro J1 srcs1 tss1 H7 l1 A7 w1
        have A8 : At G (L2.wipe σ6 (tgN tg1)) H7 (unset δ7 (tgN tg1)) (srcs1 ++ (.ref D :: (srcs ++ gv))) (tss1 ++ (.lst tsB :: (tss ++ gt))) := by
          have a0 := A7.wipe (tgN tg1)
          have a1 := At.swap (a := srcs1) (b := srcs) (gv := .ref D :: gv) (gt := .lst tsB :: gt) a0 l1 l
          have a2 : At G (L2.wipe σ6 (tgN tg1)) H7 (unset δ7 (tgN tg1)) (srcs ++ ((srcs1 ++ [.ref D]) ++ gv)) (tss ++ ((tss1 ++ [.lst tsB]) ++ gt)) := by simpa using a1
          have a3 := At.swap a2 l (by simp [l1])
          simpa using a3
        simp only [List.length_append] at hlen
        refine lc_turns (σ := σ6) (own := tgN tg1) hp1 l1 w1 A8 (unset_idem _ _) e5 (by omega) fun H9 A9 hu9 => ?_
        have a1 := At.swap (a := [.ref D]) (a' := [.lst (tsB ++ tsI)]) (A9.unwipe hu9) rfl l
        have a2 := a1.wipe own
        rw [wipe_fix f6 l6] at a2
        exact ⟨_, tsB ++ tsI, ts', a2, unset_idem _ _, e6, by rw [hts]; simp⟩
    · have ei : i = xs.length := by omega
      subst ei
      refine .inl ⟨w.stop H3 O f rr, ?_⟩
      rw [List.drop_length] at e3
      have e3 : Ev.R.ok [] δ3 = Ev.R.ok ts1 δ2 := e3
      cases e3
      rw [List.append_nil] at hts
      subst hts
      exact q _ H3 ((A4.unwipe hu).dropL l) trivial
end
end Ev
set_option Elab.async false
set_option linter.all false
set_option maxRecDepth 100000
set_option maxHeartbeats 4000000
set_option autoImplicit false
/-! Snd31: dict comprehensions. -/
namespace Ev
open PySem PySem.W PySem.Spec L2
open PyProof.Rows hiding St

section
variable {G : Gd} {W : WX} {X : Cx} {fx : Nat → Prop}
theorem put_dnG (ok : Ok0 G X) {pins : List (Addr × Obj)} {σ : St} {H : Hp} {s : Shared} {O : List Addr} {a b : Addr} {ks : List (NestedKey × Addr)} {vs : List V} {κ : NestedKey} {v : V} {r : Value} {E : Value → Shared → Prop} {Q : Unit → Shared → Prop} {op : Sem Unit} (I : Inv X pins σ H s)
    (hop : ∀ xs, (nestedKind X.prog X.w).is s.heap κ b → s.heap.DictOfH (nestedKind X.prog X.w) a xs → xs.length ≤ sizeLine → (∀ h' t', h'.DictOfH (nestedKind X.prog X.w) a (storedH xs κ b r) → Heap.SameBut a s.heap h' → Q () { s with heap := h', toks := t' }) → wpAny (model X.prog X.w) X.A op Q E s)
    (hd : H a = some (DN G.P G.w a ks vs) ∧ ks ≠ [] ∨ H a = some (.dK []) ∧ ks = []) (l : ks.length = vs.length) (nd : (ks.map (·.1)).Nodup) (rk : Reps G H O (nkV ks) (nkD ks)) (ry : Rep G H O (.ref b) κ.data) (dκ : κ.depth ≤ 8) (hl : ks.length < sizeLine) (rv : RelV v r)
    (h : ∀ s', Inv X pins σ (upd H a (DN G.P G.w a (putKs ks κ b) (putVs (nkD ks) vs κ.data v))) s' → Q () s') : wpAny (model X.prog X.w) X.A op Q E s := by
  have main : ∀ us, (a == sysModules) = false → (∀ x ∈ ks, x.1.depth ≤ 8) → Vals vs us → us.length = ks.length → s.heap.DictOfH (nestedKind X.prog X.w) a (nkX ks us) → Mut (H a) → wpAny (model X.prog X.w) X.A op Q E s := by
    intro us hs hdp rvs lu dd mu
    refine hop _ ⟨nested_is ok.hK I κ _ _ ry rfl, dκ⟩ dd (by simp [nkX]; omega) (fun h' t' dd' sb => h _ ?_)
    have new : ObjOk X.prog X.w (upd H a (DN G.P G.w a (putKs ks κ b) (putVs (nkD ks) vs κ.data v))) h' a (DN G.P G.w a (putKs ks κ b) (putVs (nkD ks) vs κ.data v)) := by
      rw [ok.hP, ok.hw]
      unfold putKs putVs
      cases e : kix (nkD ks) κ.data with
      | some n =>
        have hn : (ks.map (·.1))[n]? = some κ := by rw [nkD_map] at e; exact kix_atG keq_one e
        rw [nkX_old nd hn lu] at dd'
        exact dn_new hs (Nat.le_of_lt hl) hdp (rvs.set rv n) (by simpa using lu) dd'
      | none =>
        have hn : κ ∉ ks.map (·.1) := by rw [nkD_map] at e; exact kix_none keq_one e
        rw [nkX_new lu hn] at dd'
        refine dn_new hs (by simp; omega) (fun x hx => ?_) (rvs.append (.cons rv .nil)) (by simp [lu]) dd'
        rcases List.mem_append.mp hx with hx | hx
        · exact hdp x hx
        · simp at hx
          subst hx
          exact dκ
    obtain ⟨o, es, ep, ho, _⟩ := dd'
    exact d_write I mu sb ⟨o, ho⟩ new
  rcases hd with ⟨hd, hne⟩ | ⟨hd, rfl⟩
  · obtain ⟨h1, h2, h3, us, rvs, lu, dd⟩ := dn_rd ok I (.inl hd) rk
    exact main us h1 h3 rvs lu dd (by rw [hd]; trivial)
  · obtain ⟨h1, dd⟩ := nil_keyed I (.inl hd)
    have : vs = [] := by cases vs; rfl; simp at l
    subst this
    exact main [] h1 (fun x hx => nomatch hx) .nil rfl dd (by rw [hd]; trivial)
/-- how an own dict is others behind a put -/
def PutOut (G : Gd) (H : Hp) (O : List Addr) (a : Addr) (g ft : List Addr) (u' : T) (H' : Hp) : Prop := ∃ fp o', g = a :: fp ∧ (∀ ob w, H a ≠ some (.frz ob w)) ∧ H' = upd H a o' ∧
  ∃ fp' rest, (fp' ++ rest).Perm (ft ++ fp) ∧ ∀ H2 O2, H2 a = some o' → Up O H O2 H2 → (∀ b ∈ fp', H2 b = H b) → RepT G H2 O2 (.ref a) u' (a :: fp')
theorem put_own (ok : Ok0 G X) {pins : List (Addr × Obj)} {σ : St} {H : Hp} {s : Shared} {O g ft : List Addr} {a : Addr} {y v : V} {t : T} {k : PyData} {ks : List PyData} {ts : List T} {r : Value} {E : Value → Shared → Prop} {Q : Unit → Shared → Prop} {op : Sem Unit} (I : Inv X pins σ H s)
    (hopK : ∀ kvs κ, H a = some (.dK kvs) → y = kV κ → kvs.length < sizeLine → (∀ s', Inv X pins σ (upd H a (.dK (putK kvs κ v))) s' → Q () s') → wpAny (model X.prog X.w) X.A op Q E s)
    (hopN : ∀ b κ xs, y = .ref b → (nestedKind X.prog X.w).is s.heap κ b → s.heap.DictOfH (nestedKind X.prog X.w) a xs → xs.length ≤ sizeLine → (∀ h' t', h'.DictOfH (nestedKind X.prog X.w) a (storedH xs κ b r) → Heap.SameBut a s.heap h' → Q () { s with heap := h', toks := t' }) → wpAny (model X.prog X.w) X.A op Q E s)
    (r2 : RepT G H O (.ref a) (.dct ks ts) g) (rk : Rep G H O y k) (r1 : RepTs G H O [v] [t] ft) (rv : RelV v r) (hf : kfit ks k = true) (hs : ks.length < sizeLine)
    (fin : ∀ H' s', Inv X pins σ H' s' → PutOut G H O a g ft (.dct (dput ks ts k t).1 (dput ks ts k t).2) H' → Q () s') : wpAny (model X.prog X.w) X.A op Q E s := by
  generalize hks : ks = ks0 at r2
  cases r2 with
  | dK ha l nd rr =>
    rename_i κs vs fp
    have hκ : ∃ κ, k = keyD κ ∨ (kcls k = some true ∧ κs = []) := by
      unfold kfit at hf
      cases hc : kcls k with
      | none => simp [hc] at hf
      | some b => cases b with
        | false =>
          obtain ⟨κ, rfl⟩ := kcls_f hc
          exact ⟨κ, .inl rfl⟩
        | true =>
          refine ⟨.inl 0, .inr ⟨rfl, ?_⟩⟩
          subst hks
          cases κs with
          | nil => rfl
          | cons κ κs =>
            simp only [hc, List.map_cons, kcls_keyD] at hf
            cases hf
    obtain ⟨κ, rfl | ⟨hc, rfl⟩⟩ := hκ
    · obtain rfl := kV_of rk
      obtain ⟨fp', rest, pm, up⟩ := put_row (ks := κs.map keyD) (k := keyD κ) rr (by simpa using l.trans rr.length) r1
      refine hopK _ κ ha rfl (by rw [List.length_zip, ← l]; rw [hks] at hs; simp at hs; omega) fun s' I' => fin _ s' I' ?_
      refine ⟨fp, _, rfl, fun ob w z => (by rw [ha] at z; cases z), rfl, fp', rest, pm, fun H2 O2 h2 U k2 => ?_⟩
      subst hks
      rw [putK_zip l nd] at h2
      rw [← putKK_map]
      refine .dK h2 ?_ (putKK_nd nd) (up H2 O2 U k2)
      rw [putKK_len, putVs_len, l]
    · obtain ⟨κ, rfl, dκ, xs, hx⟩ := kcls_t hc
      obtain ⟨b, rfl⟩ : ∃ b, y = .ref b := by
        rw [hx] at rk
        cases rk with
        | tup _ _ => exact ⟨_, rfl⟩
      have hvs : vs = [] := by cases vs; rfl; simp at l
      subst hvs
      have hts : ts = [] := by have := rr.length; cases ts; rfl; simp at this
      subst hts
      have hks' : ks = [] := by rw [hks]; rfl
      subst hks'
      cases hks
      obtain ⟨fp', rest, pm, up⟩ := put_row (ks := []) (k := κ.data) rr rfl r1
      refine put_dnG ok (a := a) (b := b) (ks := []) (vs := []) (κ := κ) I (fun xs => hopN b κ xs rfl) (.inr ⟨ha, rfl⟩) rfl .nil .nil rk dκ (by rw [sizeLine_eq]; decide) rv fun s' I' => fin _ s' I' ?_
      refine ⟨fp, _, rfl, fun ob w z => (by rw [ha] at z; cases z), rfl, fp', rest, pm, fun H2 O2 h2 U k2 => ?_⟩
      have hnew := RepT.dN (G := G) (ks := putKs [] κ b) h2 (by rw [putKs_len, putVs_len]; rfl) (putKs_nd .nil) ((putKs_rep .nil rk).up U) (up H2 O2 U k2)
      rw [putKs_map [] κ b [] t] at hnew
      exact hnew
  | dN ha l nd rk' rr =>
    rename_i κs vs fp
    have hne : κs ≠ [] := nd.1
    have hc : kcls k = some true := by
      cases hc : kcls k with
      | none => unfold kfit at hf; simp [hc] at hf
      | some b => cases b with
        | true => rfl
        | false =>
          exfalso
          obtain ⟨k', hm, hk⟩ := kfit_head hf hc (by rw [hks]; intro z; exact hne (List.map_eq_nil_iff.mp z))
          rw [hks] at hm
          exact nk_cls rk' k' hm hk
    obtain ⟨κ, rfl, dκ, xs, hx⟩ := kcls_t hc
    obtain ⟨b, rfl⟩ : ∃ b, y = .ref b := by
      rw [hx] at rk
      cases rk with
      | tup _ _ => exact ⟨_, rfl⟩
    subst hks
    obtain ⟨fp', rest, pm, up⟩ := put_row (ks := nkD κs) (k := κ.data) rr (by simpa using l.trans rr.length) r1
    refine put_dnG ok (a := a) (b := b) (κ := κ) I (fun xs => hopN b κ xs rfl) (.inl ⟨ha, hne⟩) l nd.2 rk' rk dκ (by simpa using hs) rv fun s' I' => fin _ s' I' ?_
    refine ⟨fp, _, rfl, fun ob w z => (by rw [ha] at z; cases z), rfl, fp', rest, pm, fun H2 O2 h2 U k2 => ?_⟩
    have hnew := RepT.dN (G := G) (ks := putKs κs κ b) h2 (by rw [putKs_len, putVs_len, l]) (putKs_nd nd.2) ((putKs_rep rk' rk).up U) (up H2 O2 U k2)
    rw [putKs_map κs κ b ts t] at hnew
    exact hnew
/-- a comprehension's dict, by values -/
abbrev TDs := Addr → V → V → Hp → (Hp → Prop) → Prop
def PDs (X : Cx) (t : TDs) : Prop :=
  ∀ (pins : List (Addr × Obj)) (s : Shared) (σ : St) (H : Hp) (D : Addr) (y z : V) (u r : Value) (Q : Hp → Prop), Inv X pins σ H s → RelV y u → RelV z r → t D y z H Q →
    ∀ E, wpAny (model X.prog X.w) X.A (dictSet D u r) (fun _ s' => ∃ H', Inv X pins σ H' s' ∧ Q H') E s
def rDs (G : Gd) : TDs := fun D y z H Q => ∃ σ δ gv gt t k ks ts, At G σ H δ (z :: y :: .ref D :: gv) (t :: .d k :: .dct ks ts :: gt) ∧ kfit ks k = true ∧ ks.length < sizeLine ∧
  ∀ H', At G σ H' δ (.ref D :: gv) (.dct (dput ks ts k t).1 (dput ks ts k t).2 :: gt) → Q H'
theorem ds_own (ok : Ok0 G X) : PDs X (rDs G) := by
  intro pins s σ0 H D y z u r Q I ry rz ⟨σ, δ, gv, gt, t, k, ks, ts, A, hf, hs, q⟩ E
  obtain ⟨O, nd, R⟩ := A.hold
  have R' : RepTs G H O (z :: y :: .ref D :: (gv ++ sv σ)) (t :: .d k :: .dct ks ts :: (gt ++ δ)) O := R
  generalize hO : O = O' at R'
  cases R' with
  | cons h1 R' =>
    cases R' with
    | cons h2 R' =>
      cases R' with
      | cons h3 h4 =>
        rename_i f1 f2 f3 f4
        subst hO
        have rk : Rep G H (f1 ++ (f2 ++ (f3 ++ f4))) y k ∧ f2 = [] := by
          cases h2 with
          | d h => exact ⟨h, rfl⟩
        obtain ⟨rk, rfl⟩ := rk
        refine put_own ok (a := D) (ft := f1 ++ []) I (fun kvs κ e ey hz h => ?_) (fun b κ xs ey hkey dd hz h => ?_) h3 rk (.cons h1 .nil) rz hf hs fun H' s' I' po => ⟨H', I', q H' ?_⟩
        · subst ey
          exact d_dictSet I e hz ry rz h
        · subst ey
          cases ry
          exact wpAny_dictSet_heap (knd := nestedKind X.prog X.w) (by show X.A.units + 8 < cLine; have := ok.hu; omega) hkey dd (fun h' dd' sb => h _ _ dd' sb) hz
        · obtain ⟨fp, o', rfl, nf, rfl, fp', rest, pm, up⟩ := po
          have pm2 : (((D :: fp') ++ f4) ++ rest).Perm (f1 ++ ([] ++ ((D :: fp) ++ f4))) := by
            rw [List.perm_iff_count] at pm ⊢
            intro b
            have := pm b
            simp only [List.count_append, List.count_cons, List.count_nil] at this ⊢
            omega
          have nd2 : ((D :: fp') ++ f4).Nodup := (List.nodup_append.mp (pm2.nodup_iff.mpr nd)).1
          have U : Up (f1 ++ ([] ++ ((D :: fp) ++ f4))) H ((D :: fp') ++ f4) (upd H D o') := .mut (by simp) nf fun b hb => pm2.mem_iff.mp (List.mem_append_left _ hb)
          have ne : ∀ b ∈ fp' ++ f4, b ≠ D := fun b hb z => by
            subst z
            exact (List.nodup_cons.mp (show (b :: (fp' ++ f4)).Nodup from nd2)).1 hb
          refine ⟨A.env, by have := A.len; simp at this ⊢; omega, _, nd2, ?_⟩
          exact .cons (up _ _ upd_same U fun b hb => upd_ne (ne b (List.mem_append_left _ hb))) (h4.up U fun b hb => upd_ne (ne b (List.mem_append_right _ hb)))
end
end Ev
set_option Elab.async false
set_option linter.all false
set_option maxRecDepth 100000
set_option maxHeartbeats 4000000
set_option autoImplicit false
/-! Snd32: the block of a dict comprehension, keys of any kind. -/
namespace Ev
open PySem PySem.W PySem.Spec L2
open PyProof.Rows hiding St

section
variable {Y : Cx} {fps : List Addr} {itA Da : Addr} {tn : Nat → Heap → Prop} {J : L2.It} {tgE itE kE vE : Expr} {ifE : List Expr} {scp : Scope} {po : Pos} {g : TG} {tt : TT} {tk tv : TE} {ts : TDs} {ow : List Nat} {σ : L2.St} {Wv : Nat → Nat → Hp → Prop} {Fin : Hp → Prop}
  {Rf : Result → Shared → Prop}
theorem fpOk_ex (hpn : Y.pn = []) (hex : Y.ex = fps) {σ' : L2.St} {H : Hp} {s : Shared} (I : Inv Y [] σ' H s) (hn : ∀ b ∈ fps, H b = none) : ∀ b ∈ fps, FpOk Y [] H b := fun b hb => by
  have hb' : b ∈ Y.ex := by rw [hex]; exact hb
  refine ⟨hn b hb, (I.ok.exf b hb').1, I.ok.exfs b hb', .inl hb', fun x c e => (I.ok.exf b hb').2 x c e, fun p hp => ?_⟩
  rw [hpn] at hp
  cases hp
theorem loopD (hc : Y.calm = true) (hF : ∀ u s, ¬ Y.xe u s) (hpn : Y.pn = []) (hex : Y.ex = fps) (T : Turn Y.prog Y.w Y.K tgE J fps itA tn) (gg : PG Y tgE g) (gt : PTs Y ifE tt) (gk : PE Y kE tk) (ge : PE Y vE tv) (gs : PDs Y ts)
    (turn : ∀ i m H, Wv i m H → (J.stop i H ∧ Fin H) ∨ (J.go i H ∧ ∃ Nx : Hp → Prop, (∀ H', Nx H' → ∃ m', m' < m ∧ Wv (i + 1) m' H') ∧ ∀ x H', J.yld i H x H' → g x (L2.wipe σ ow) H' fun σ2 H2 => L2.wipe σ2 ow = L2.wipe σ ow ∧ tt σ2 H2 fun b H3 =>
      if b = true then tk σ2 H3 fun y H4 => tv σ2 H4 fun z H5 => ts Da y z H5 Nx else Nx H3))
    (fin : ∀ s H, Inv Y [] (L2.wipe σ ow) H s → Fin H → Rf (.ok .next) s) {m0 : Nat} {u4 : Shared} {H4 : Hp} (I4 : Inv Y [] (L2.wipe σ ow) H4 u4) (t4 : tn 0 u4.heap) (n4 : ∀ b ∈ fps, H4 b = none) (v0 : Wv 0 m0 H4) :
    codeAny (model Y.prog Y.w) Y.A (.compLoop (.DictComp kE vE [⟨tgE, itE, ifE, 0⟩] scp po) 0 (.ref itA) (.ref Da) Y.env) Rf u4 := by
  have th : ∀ {α : Type} {t : Sem α} {Q Q' : α → Shared → Prop} {E : Value → Shared → Prop} {s : Shared}, wpAny (model Y.prog Y.w) Y.A t Q Y.xe s → (∀ a s, Q a s → Q' a s) → wpAny (model Y.prog Y.w) Y.A t Q' E s := fun h k => wpAny_mono h k fun u s z => (hF u s z).elim
  refine compLoop_anyD (fun n s => ∃ i H, Inv Y [] (L2.wipe σ ow) H s ∧ tn i s.heap ∧ (∀ b ∈ fps, H b = none) ∧ Wv i n H) (fun n s ⟨i, H, I, ti, no, wv⟩ => ?_) m0 ⟨0, H4, I4, t4, n4, v0⟩
  rcases turn i n H wv with ⟨stop, qe⟩ | ⟨go, Nx, hNx, step⟩
  · refine thnF (T.done Y rfl rfl rfl hc i [] s _ H (fun _ _ => False) I (fpOk_ex hpn hex I no) ti stop) fun r s1 hr => ?_
    obtain ⟨rfl, I1⟩ := hr
    exact fin s1 H I1 qe
  · refine thnF (T.item Y rfl rfl rfl hc i [] s _ H (fun _ _ => False) I (fpOk_ex hpn hex I no) ti go) fun r s1 hr => ?_
    obtain ⟨u, rfl, h1⟩ := hr
    refine thnF h1 fun _ s2 ⟨x, K2, I2, rx, yx, tx, nx2⟩ => ?_
    have P2 := I2.pinned (fpOk_ex hpn hex I2 nx2) (T.obj _ _ tx)
    refine th (gg.run _ s2 _ K2 x u _ P2 rx (step x K2 yx)) fun _ s3 ⟨σ3, K3, I3, w3, q3⟩ => ?_
    refine th (gt.run _ s3 σ3 K3 _ I3 q3) fun b s4 ⟨K4, J4, q4⟩ => ?_
    have last : ∀ {s' : Shared} {H' : Hp}, Inv Y ([] ++ pinsAt fps s2.heap) σ3 H' s' → Nx H' → ∃ m, m < n ∧ ∃ i H', Inv Y [] (L2.wipe σ ow) H' s' ∧ tn i s'.heap ∧ (∀ b ∈ fps, H' b = none) ∧ Wv i m H' := fun {s' H'} I' hx => by
      obtain ⟨m', hm, w'⟩ := hNx H' hx
      have kept : ∀ c ∈ fps, ∀ o, s2.heap.get? c = some o → s'.heap.get? c = some o ∧ H' c = none := fun c hc' o e => by
        have z := I'.pin (c, o) (List.mem_append_right _ (List.mem_append_right _ (mem_pinsAt hc' e)))
        exact ⟨z.1, z.2.1⟩
      have ln : (L2.wipe σ ow).length = σ3.length := by rw [← w3, wipe_length]
      have I'' : Inv Y [] (L2.wipe σ ow) H' s' := (I'.unpinned (pins := [])).weak ln fun j v e => by
        rw [← w3] at e
        exact (wipe_some e).1
      refine ⟨m', hm, i + 1, H', I'', T.keep _ _ _ tx fun c hc' o e => (kept c hc' o e).1, fun c hc' => ?_, w'⟩
      obtain ⟨o, e, _⟩ := T.obj _ _ tx c hc'
      exact (kept c hc' o e).2
    cases b with
    | false =>
      simp only [Bool.false_eq_true, if_false] at q4 ⊢
      exact last J4 q4
    | true =>
      simp only [if_true] at q4 ⊢
      refine th (gk.run _ s4 σ3 K4 _ J4 q4) fun ku s5 ⟨ky, K5, I5, r5, q5⟩ => ?_
      refine th (ge.run _ s5 σ3 K5 _ I5 q5) fun vu s6 ⟨vy, K6, I6, r6, q6⟩ => ?_
      exact wpAny_mono (gs _ s6 σ3 K6 Da ky vy ku vu _ I6 r5 r6 q6 _) (fun _ s7 ⟨K7, I7, q7⟩ => last I7 q7) fun _ _ z => z
end
section
variable {X : Cx}
/-- {k: v for tg in .. if ..}: Da the new dict, which ts changes -/
def tDcG (wi : TI) (g : TG) (tt : TT) (tk tv : TE) (ts : TDs) (vs : List Nat) : TE := fun σ H Q => wi σ H fun J H1 => ∀ Da, H1 Da = none → ∃ Wv : Nat → Nat → Hp → Prop, (∃ m, Wv 0 m (upd H1 Da (.dK []))) ∧ ∀ i m H, Wv i m H →
  (J.stop i H ∧ Q (.ref Da) H) ∨ (J.go i H ∧ ∃ Nx : Hp → Prop, (∀ H', Nx H' → ∃ m', m' < m ∧ Wv (i + 1) m' H') ∧ ∀ x H', J.yld i H x H' → g x (L2.wipe σ vs) H' fun σ2 H2 => L2.wipe σ2 vs = L2.wipe σ vs ∧ tt σ2 H2 fun b H3 =>
    if b = true then tk σ2 H3 fun y H4 => tv σ2 H4 fun z H5 => ts Da y z H5 Nx else Nx H3)
variable {kE vE tgE itE : Expr} {ifE : List Expr} {scp : Scope} {ow : List (Str × Nat)} {po : Pos} {wi : TI} {g : TG} {tt : TT} {tk tv : TE} {ts : TDs}
/-- the contexts of a block -/
abbrev BlkCx (X : Cx) (scp : Scope) (Pr : Cx → Prop) : Prop := ∀ (s : Shared) (H : Hp) (C : Addr) (cl : List (Str × Addr)) (fp : List Addr), Pr (X.blk s H scp (compEnvC scp cl C X.env) fp)
theorem dcG_core {pins : List (Addr × Obj)} {s : Shared} {σ : L2.St} {H : Hp} {Q : VK} {pos' : Pos} {us : Option (Value → Sem Unit)} {Qf : Value → Shared → Prop} (hc : X.calm = true) (hN : X.N.Nodup) (I : Inv X pins σ H s) (hi : PI X tgE itE wi) (ok : BlkOk X.N X.env.scope scp ow)
    (hg : BlkCx X scp fun Y => PG Y tgE g) (ht : BlkCx X scp fun Y => PTs Y ifE tt) (hk : BlkCx X scp fun Y => PE Y kE tk) (he : BlkCx X scp fun Y => PE Y vE tv) (hS : BlkCx X scp fun Y => PDs Y ts) (hs : ∀ x, foldedSetIterable itE X.env x = pure x)
    (h : tDcG wi g tt tk tv ts (ow.map (·.2)) σ H Q)
    (hRR : ∀ Da C s' m H', Inv X pins σ H' s' → Q (.ref Da) H' → s'.heap.Ns C m → FpOk X pins H' C → compPost (model X.prog X.w) X.A X.xe us Qf (.ref Da) C (.ok .next) s') :
    wpAny (model X.prog X.w) X.A (comprehension (.DictComp kE vE [⟨tgE, itE, ifE, 0⟩] scp po) scp X.env pos' newDict false (eval itE X.env) us) Qf X.xe s := by
  have cells : ∀ y ∈ scp.names, y.2 = .free → ∃ c, X.env.cells.lookup y.1 = some c := fun y hy e => (ok.free y hy e).elim (fun k => I.ok.has _ (.inl k)) fun k => I.ok.has _ (.inr k)
  refine wpAny_comprehension_free (use := us) rfl hs (closure_ok cells) ok.kind (fun y hy e => (ok.uniq y hy).trans (by rw [e])) (thn (hi.run pins s σ H _ I h) fun _ _ hx => thn hx fun _ u2 h2 => ?_)
  obtain ⟨itA, fps, tn, J, K2, rfl, I2, T, t2, q2, q⟩ := h2
  have fresh : K2 u2.heap.objs.size = none := I2.hok.fresh (Nat.le_refl _)
  obtain ⟨Wv, ⟨m0, v0⟩, turn⟩ := q _ fresh
  refine wpAny_newObj_type (newEnv_comp ?_)
  have I3 : Inv X pins σ (upd K2 u2.heap.objs.size (.dK [])) { u2 with heap := u2.heap.push { cls := .type "dict", data := .dict #[] } } :=
    I2.laid (a := u2.heap.objs.size) (o := .dK []) (t' := u2.toks) (fun b o e => Heap.get?_push_of_some _ e) (Nat.le_refl _) (dk_empty u2.heap I2.big)
  have old : ∀ b ∈ fps, b < u2.heap.objs.size := fun b hb => let ⟨o, e, _⟩ := T.obj _ _ t2 b hb; Heap.lt_size e
  generalize hu3 : ({ u2 with heap := u2.heap.push { cls := .type "dict", data := .dict #[] } } : Shared) = u3 at I3
  have hh3 : u3.heap = u2.heap.push { cls := .type "dict", data := .dict #[] } := by rw [← hu3]
  generalize hDa : u2.heap.objs.size = Da at *
  have f3 : ∀ b ∈ fps, FpOk X pins (upd K2 Da (.dK [])) b ∧ b < u3.heap.objs.size := fun b hb => by
    obtain ⟨z0, zr⟩ := q2 b hb
    refine ⟨⟨(upd_ne (Nat.ne_of_lt (old b hb))).trans z0, zr⟩, ?_⟩
    rw [hh3, Heap.size_push, hDa]
    exact Nat.lt_succ_of_lt (old b hb)
  have I4 := block_start I3 ok hN f3
  have t4 : tn 0 (pushCells (u3.heap.push { cls := .type "dict", data := .dict #[] }) scp.names) := T.keep _ _ _ t2 fun b _ o e => pushCells_keeps _ _ _ _ (Heap.get?_push_of_some _ (by rw [hh3]; exact Heap.get?_push_of_some _ e))
  have nC : ∀ {σ' : L2.St} {H' : Hp} {s' : Shared}, Inv (X.blk u3 (upd K2 Da (.dK [])) scp (compEnvC scp (cellsFrom (u3.heap.objs.size + 1) scp.names (cloFrom X.env.cells scp.names [])) u3.heap.objs.size X.env) fps) [] σ' H' s' → H' u3.heap.objs.size = none ∧ ∃ m, s'.heap.Ns u3.heap.objs.size m :=
    fun {σ' H' s'} J' => ⟨J'.free, let ⟨m, hm, _⟩ := J'.loc; ⟨m, hm⟩⟩
  have loop := loopD (Y := X.blk u3 (upd K2 Da (.dK [])) scp (compEnvC scp (cellsFrom (u3.heap.objs.size + 1) scp.names (cloFrom X.env.cells scp.names [])) u3.heap.objs.size X.env) fps) (itE := itE) (scp := scp) (po := po)
    (Rf := compPost (model X.prog X.w) X.A X.xe us Qf (.ref Da) u3.heap.objs.size) hc (fun _ _ z => z) rfl rfl T (hg _ _ _ _ _) (ht _ _ _ _ _) (hk _ _ _ _ _) (he _ _ _ _ _) (hS _ _ _ _ _) turn (fun s' H' J' qe => by
      have back : Inv X pins σ H' s' := I3.call' (ch := fps) J'.os J'.base J'.hok J'.bare fun b hb => by
        obtain ⟨_, z1, _, z3, z4, z5⟩ := (f3 b hb).1
        exact ⟨z3, z1, z4, z5⟩
      obtain ⟨n0, m, hm⟩ := nC J'
      exact hRR Da _ s' m H' back qe hm (I3.fpOk (Nat.le_refl _) n0)) I4 t4 (fun b hb => (f3 b hb).1.1) v0
  exact codeAny_compStart_dict loop (T.self X.A 0 _ _ _ t4 loop)
theorem pe_dcG (hc : X.calm = true) (hN : X.N.Nodup) (hi : PI X tgE itE wi) (ok : BlkOk X.N X.env.scope scp ow) (hg : BlkCx X scp fun Y => PG Y tgE g) (ht : BlkCx X scp fun Y => PTs Y ifE tt) (hk : BlkCx X scp fun Y => PE Y kE tk) (he : BlkCx X scp fun Y => PE Y vE tv)
    (hS : BlkCx X scp fun Y => PDs Y ts) (hs : ∀ x, foldedSetIterable itE X.env x = pure x) : PE X (.DictComp kE vE [⟨tgE, itE, ifE, 0⟩] scp po) (tDcG wi g tt tk tv ts (ow.map (·.2))) := ⟨fun pins s σ H Q I h => by
  rw [arm_eval_DictComp]
  refine dcG_core hc hN I hi ok hg ht hk he hS hs h fun D C s' m H' I' q hn f => ⟨m, hn, fun h'' sb => ?_⟩
  obtain ⟨z0, z1, _, z3, z4, z5⟩ := f
  exact ⟨.ref D, H', I'.turned (t' := s'.toks) (fun b o hb e => (sb.2 b hb).trans e) z0 z1 z3 z4 z5, rfl, q⟩⟩
/-- name = {..} on one line, the name a local -/
theorem ps_setDcG {i : Nat} {y : Str} {py spos : Pos} (hc : X.calm = true) (hN : X.N.Nodup) (hy : X.N[i]? = some y) (hyl : X.env.scope.names.lookup y = some .local) (hsw : swapsWith (.DictComp kE vE [⟨tgE, itE, ifE, 0⟩] scp po) (some (.Name y py)) spos.line X.env = pure true)
    (hi : PI X tgE itE wi) (ok : BlkOk X.N X.env.scope scp ow) (hg : BlkCx X scp fun Y => PG Y tgE g) (ht : BlkCx X scp fun Y => PTs Y ifE tt) (hk : BlkCx X scp fun Y => PE Y kE tk) (he : BlkCx X scp fun Y => PE Y vE tv) (hS : BlkCx X scp fun Y => PDs Y ts)
    (hs : ∀ x, foldedSetIterable itE X.env x = pure x) : PS X (.Assign [.Name y py] (.DictComp kE vE [⟨tgE, itE, ifE, 0⟩] scp po) spos) (tAsg (tDcG wi g tt tk tv ts (ow.map (·.2))) (gName i)) := ⟨fun pins s σ H D I h => by
  rw [exec_Assign_Name_used _ _ _ _ hsw]
  refine wpAny_bind (wpAny_standAt (wpAny_bind ?_))
  show wpAny _ X.A (do let _ ← comprehension (.DictComp kE vE [⟨tgE, itE, ifE, 0⟩] scp po) scp X.env (firstIterPos [⟨tgE, itE, ifE, 0⟩] po) newDict false (eval itE X.env) (some (assign (.Name y py) X.env))) _ _ s
  have h : tDcG wi g tt tk tv ts (ow.map (·.2)) σ H (fun x H1 => gName i x σ H1 D.nx) := h
  refine wpAny_bind (thn (dcG_core (Qf := fun _ s' => SP X pins D .next s') hc hN I hi ok hg ht hk he hS hs h fun Da C s' m H' I' q hn f => ?_) fun _ s' hq => wpAny_pure (wpAny_pure hq))
  show wpAny _ _ (assign (.Name y py) X.env (.ref Da)) _ _ _
  obtain ⟨z0, z1, _, z3, z4, z5⟩ := f
  refine wpAny_assign_Name (store_ok2 (v := V.ref Da) I' hN hy (.inl hyl) rfl (fun s2 I2 ⟨a, sb, ha⟩ => ?_) (.inr hyl))
  have hne : C ≠ a := by
    rcases ha with z | z
    · exact z ▸ z1
    · exact fun e => z4 y a z e.symm
  exact ⟨m, hn.sameBut sb hne, fun h3 sb3 => ⟨_, H', I2.turned (t' := s2.toks) (fun b o hb e => (sb3.2 b hb).trans e) z0 z1 z3 z4 z5, q⟩⟩⟩
end
section
variable {G : Gd} {W : WX} {X : Cx}
theorem Ok0.blk (ok : Ok0 G X) (s : Shared) (H : Hp) (scp : Scope) (env : Env) (fp : List Addr) : Ok0 G (X.blk s H scp env fp) := ⟨ok.hK, ok.hP, ok.hw, ok.hu, ok.hc, ok.hg⟩
theorem dc_step {c : Option (List T → R T)} {ke ve : List T → R T} {tg : Tg} {own : List Nat} {x : PyData} {xs ks : List PyData} {vs δ δ' : List T} {t : T} (h : dcL c ke ve tg own (x :: xs) ks vs δ = .ok t δ') :
    ∃ δ1 b δ2, bindT tg (.d x) δ = some δ1 ∧ tstL c δ1 = .ok b δ2 ∧ ((b = true ∧ ∃ k δ3 u δ4, ke δ2 = .ok (.d k) δ3 ∧ ve δ3 = .ok u δ4 ∧ kfit ks k = true ∧ ks.length < sizeLine ∧ dcL c ke ve tg own xs (dput ks vs k u).1 (dput ks vs k u).2 (unset δ4 own) = .ok t δ') ∨
      (b = false ∧ dcL c ke ve tg own xs ks vs (unset δ2 own) = .ok t δ')) := by
  unfold dcL at h
  split at h
  · cases h
  · rename_i δ1 e1
    split at h
    · rename_i δ2 e2
      split at h
      · rename_i k δ3 e3
        split at h
        · rename_i u δ4 e4
          split at h
          · rename_i hc
            simp only [Bool.and_eq_true] at hc
            exact ⟨δ1, true, δ2, e1, e2, .inl ⟨rfl, k, δ3, u, δ4, e3, e4, hc.1, Nat.lt_of_succ_le (by simpa [Nat.blt] using hc.2), h⟩⟩
          · cases h
        · cases h
      · cases h
    · rename_i δ2 e2
      exact ⟨δ1, false, δ2, e1, e2, .inr ⟨rfl, h⟩⟩
    · cases h
theorem dc_in {tg : Tg} {own : List Nat} {pr : Bool} {ri : List T → R (List PyData)} {rc : Option (List T → R T)} {rk rv : List T → R T} {σ : L2.St} {H : Hp} {Q : VK} (hp : pr = true → ∃ gs, tg = .tup gs)
    (h : t1 G W elT (mDc own rk rv tg ri rc) σ H Q) : tDcG (iW G W pr ri) (gW G (fun i => i ∉ own) pr tg) (tTs G W rc) (t1 G W elT rk) (t1 G W elT rv) (rDs G) own σ H Q := by
  obtain ⟨δ, gv, gt, A, q⟩ := h
  refine ⟨δ, gv, gt, A, ?_⟩
  unfold mDc bind1 at q
  cases e : ri δ with
  | no => rw [e] at q; exact q
  | exn x δ1 => rw [e] at q; exact q
  | ok xs δ1 =>
    simp only [e] at q
    intro J srcs tss H1 l A1 w D hD
    have A3 : At G (L2.wipe σ own) (upd H1 D (.dK [])) (unset δ1 own) (srcs ++ (.ref D :: gv)) (tss ++ (.dct [] [] :: gt)) := by
      have A2 := A1.wipe own
      obtain ⟨O, nd, R⟩ := A2.hold
      have sm : Same H1 (upd H1 D (.dK [])) := same_upd hD
      have res : Res G H1 O (upd H1 D (.dK [])) (.ref D) (.dct [] []) := ⟨[D], by simp, fun a ha => by simp at ha; subst ha; exact hD, RepT.dK (ks := []) (vs := []) upd_same rfl .nil .nil⟩
      exact At.swap (a := [.ref D]) (a' := [.dct [] []]) (A2.push nd R sm res) rfl l
    have main : ∃ t δ2, dcL rc rk rv tg own xs [] [] (unset δ1 own) = .ok t δ2 ∧ ∀ v H, At G σ H δ2 (v :: gv) (t :: gt) → Q v H := by
      cases e2 : dcL rc rk rv tg own xs [] [] (unset δ1 own) with
      | ok t δ2 =>
        rw [e2] at q
        exact ⟨t, δ2, rfl, fun v H A => q v H A trivial⟩
      | exn x δ2 =>
        exfalso
        have : ∀ (xs ks : List PyData) (vs δ : List T), dcL rc rk rv tg own xs ks vs δ ≠ .exn x δ2 := by
          intro xs
          induction xs with
          | nil => intro ks vs δ h; cases h
          | cons y ys ih =>
            intro ks vs δ h
            unfold dcL at h
            split at h
            · cases h
            · split at h
              · split at h
                · split at h
                  · split at h
                    · exact ih _ _ _ h
                    · cases h
                  · cases h
                · cases h
              · exact ih _ _ _ h
              · cases h
        exact this _ _ _ _ e2
      | no => rw [e2] at q; exact q.elim
    obtain ⟨tF, δ2, e2, q⟩ := main
    refine ⟨fun i m H => m = xs.length - i ∧ i ≤ xs.length ∧ ∃ δ ks vs, At G (L2.wipe σ own) H δ (srcs ++ (.ref D :: gv)) (tss ++ (.dct ks vs :: gt)) ∧ unset δ own = δ ∧ dcL rc rk rv tg own (xs.drop i) ks vs δ = .ok tF δ2,
      ⟨xs.length, by simp, Nat.zero_le _, _, [], [], A3, unset_idem _ _, by simpa using e2⟩, ?_⟩
    rintro i m H3 ⟨rfl, hi, δ3, ks, vs, A4, hu, e3⟩
    obtain ⟨O, f, nd, R, rr⟩ := A4.held l
    by_cases hlt : i < xs.length
    · refine .inr ⟨w.go i H3 O f rr hlt, fun H5 => ∃ δ ks vs, At G (L2.wipe σ own) H5 δ (srcs ++ (.ref D :: gv)) (tss ++ (.dct ks vs :: gt)) ∧ unset δ own = δ ∧ dcL rc rk rv tg own (xs.drop (i + 1)) ks vs δ = .ok tF δ2,
        fun H5 k => ⟨xs.length - (i + 1), by omega, rfl, hlt, k⟩, fun x H5 y => ?_⟩
      obtain ⟨d, hd⟩ : ∃ d, xs[i]? = some d := ⟨xs[i], by simp [hlt]⟩
      rw [drop_cons hd] at e3
      obtain ⟨δ4, b, δ5, e4, e5, q3⟩ := dc_step e3
      refine turn_in w l hlt A4 y hd e4 hp fun σ6 f6 A6 => ?_
      have l6 : σ6.length = σ.length := by
        have h1 := A6.env.len
        have h2 := A4.env.len
        rw [bindT_len e4] at h1
        rw [wipe_length] at h2
        omega
      refine ⟨wipe_fix f6 l6, tst_ok A6 e5 fun H7 A7 => ?_⟩
      have back : ∀ {H8 δ8 u8}, At G σ6 H8 δ8 (srcs ++ (.ref D :: gv)) (tss ++ (u8 :: gt)) → At G (L2.wipe σ own) H8 (unset δ8 own) (srcs ++ (.ref D :: gv)) (tss ++ (u8 :: gt)) := fun A8 => by
        have := A8.wipe own
        rwa [wipe_fix f6 l6] at this
      rcases q3 with ⟨rfl, k, δ8, u, δ9, e8, e9, hk, hs, e10⟩ | ⟨rfl, e9⟩
      · show if true = true then _ else _
        rw [if_pos rfl]
        refine ⟨δ5, _, _, A7, ?_⟩
        rw [e8]
        intro yk H8 A8 _
        refine ⟨δ8, _, _, A8, ?_⟩
        rw [e9]
        intro yv H9 A9 _
        have A10 : At G σ6 H9 δ9 (yv :: yk :: .ref D :: (srcs ++ gv)) (u :: .d k :: .dct ks vs :: (tss ++ gt)) := by
          have a1 : At G σ6 H9 δ9 ([yv, yk] ++ (srcs ++ ([.ref D] ++ gv))) ([u, .d k] ++ (tss ++ ([.dct ks vs] ++ gt))) := A9
          have a2 := At.swap a1 rfl l
          have a3 : At G σ6 H9 δ9 (srcs ++ ([yv, yk, .ref D] ++ gv)) (tss ++ ([u, .d k, .dct ks vs] ++ gt)) := by simpa using a2
          exact At.swap a3 l rfl
        exact ⟨σ6, δ9, srcs ++ gv, tss ++ gt, u, k, ks, vs, A10, hk, hs, fun H11 A11 => ⟨_, _, _, back (At.swap (a := [.ref D]) (a' := [.dct _ _]) A11 rfl l), unset_idem _ _, e10⟩⟩
      · show if false = true then _ else _
        rw [if_neg (by decide)]
        exact ⟨_, ks, vs, back A7, unset_idem _ _, e9⟩
    · have ei : i = xs.length := by omega
      subst ei
      refine .inl ⟨w.stop H3 O f rr, ?_⟩
      rw [List.drop_length] at e3
      have e3 : Ev.R.ok (.dct ks vs) δ3 = Ev.R.ok tF δ2 := e3
      cases e3
      exact q _ H3 ((A4.unwipe hu).dropL l)
end
end Ev
set_option Elab.async false
set_option linter.all false
set_option maxRecDepth 100000
set_option maxHeartbeats 4000000
set_option autoImplicit false
/-! Snd33: dict displays, lists and tuples of ranges. -/
namespace Ev
open PySem PySem.W PySem.Spec L2
open PyProof.Rows hiding St

section
variable {G : Gd} {W : WX} {X : Cx}
/-- the pairs of a display, from the left: keys and values in one row -/
def flat : List (Value × Value) → List Value
  | [] => []
  | (a, b) :: ps => a :: b :: flat ps
structure PPr (X : Cx) (pos : Pos) (keys : List (Option Expr)) (values : List Expr) (t : TA) : Prop where
  run : ∀ (pins : List (Addr × Obj)) (s : Shared) (σ : L2.St) (H : Hp) (Q : List V → Hp → Prop), Inv X pins σ H s → t σ H Q →
    wpAny (model X.prog X.w) X.A (evalPairs (pairTrees keys values X.env pos)) (fun us s' => ∃ vs H', Inv X pins σ H' s' ∧ Vals vs (flat us) ∧ Q vs H') X.xe s
theorem ppr_nil {pos : Pos} : PPr X pos [] [] (tL G W elT sNil) := ⟨fun pins s σ H Q I ⟨δ, gv, gt, A, h⟩ => pairTrees_nil_walk ⟨[], H, I, .nil, h [] H A .nil⟩⟩
theorem ppr_cons {pos : Pos} {k v : Expr} {ks : List (Option Expr)} {vs : List Expr} {rk rv : List T → R T} {rs : List T → R (List T)} (hk : PE X k (t1 G W elT rk)) (hv : PE X v (t1 G W elT rv)) (hr : PPr X pos ks vs (tL G W elT rs)) :
    PPr X pos (some k :: ks) (v :: vs) (tL G W elT (sCons rk (sCons rv rs))) := ⟨fun pins s σ H Q I ⟨δ, gv, gt, A, h⟩ => by
  refine pairTrees_cons_walk (thn (hk.run pins s σ H _ I ⟨δ, gv, gt, A, sCons_in h⟩) fun u1 s1 ⟨x, H1, I1, r1, a1, δ1, A1, q1⟩ => ?_)
  refine thn (hv.run pins s1 σ H1 _ I1 ⟨δ1, _, _, A1, sCons_in q1⟩) fun u2 s2 ⟨y, H2, I2, r2, a2, δ2, A2, q2⟩ => ?_
  exact thn (hr.run pins s2 σ H2 _ I2 ⟨δ2, _, _, A2, q2⟩) fun us s3 ⟨vs', H3, I3, rel, q3⟩ => ⟨x :: y :: vs', H3, I3, .cons r1 (.cons r2 rel), q3⟩⟩
theorem mkDct_step {ps : List PyData} {us ts : List T} {k u t : T} (h : mkDct ps us (k :: u :: ts) = some t) : ∃ d, k = .d d ∧ kfit ps d = true ∧ ps.length < sizeLine ∧ mkDct (dput ps us d u).1 (dput ps us d u).2 ts = some t := by
  cases k with
  | d d =>
    simp only [mkDct] at h
    split at h
    · rename_i hc
      simp only [Bool.and_eq_true] at hc
      exact ⟨d, rfl, hc.1, Nat.lt_of_succ_le (by simpa [Nat.blt] using hc.2), h⟩
    · cases h
  | _ => simp [mkDct] at h
theorem store_pairs (ok : Ok0 G X) {pins : List (Addr × Obj)} {σ : L2.St} {gv : List V} {gt : List T} {D : Addr} {t : T} {Q : PUnit → Shared → Prop} {δ : List T} : ∀ {us : List (Value × Value)} {vs : List V} {ts : List T} {ks : List PyData} {ws : List T} {H : Hp} {s : Shared}, Inv X pins σ H s → Vals vs (flat us) →
    At G σ H δ (vs ++ (.ref D :: gv)) (ts ++ (.dct ks ws :: gt)) → vs.length = ts.length → mkDct ks ws ts = some t → (∀ H' s', Inv X pins σ H' s' → At G σ H' δ (.ref D :: gv) (t :: gt) → Q PUnit.unit s') →
    wpAny (model X.prog X.w) X.A (storeAll D us) Q X.xe s
  | [], vs, ts, ks, ws, H, s, I, r, A, l, e, q => by
    cases r
    have : ts = [] := by cases ts; rfl; simp at l
    subst this
    have e : some (T.dct ks ws) = some t := by simpa [mkDct] using e
    cases e
    unfold storeAll
    rw [List.forIn_nil]
    exact wpAny_pure (q H s I A)
  | (a, b) :: us, vs, ts, ks, ws, H, s, I, r, A, l, e, q => by
    cases r with
    | cons r1 r => cases r with
      | cons r2 r =>
        rename_i y z vs
        match ts, l with
        | tk :: tv :: ts, l =>
          obtain ⟨d, rfl, hf, hs, e⟩ := mkDct_step e
          have l' : vs.length = ts.length := by simpa using l
          have a1 : At G σ H δ ([y] ++ ([z] ++ (vs ++ (.ref D :: gv)))) ([.d d] ++ ([tv] ++ (ts ++ (.dct ks ws :: gt)))) := A
          have a2 := At.swap a1 rfl rfl
          have a3 : At G σ H δ ([z, y] ++ (vs ++ ([.ref D] ++ gv))) ([tv, .d d] ++ (ts ++ ([.dct ks ws] ++ gt))) := by simpa using a2
          have a4 := At.swap a3 rfl l'
          have a5 : At G σ H δ (vs ++ ([z, y, .ref D] ++ gv)) (ts ++ ([tv, .d d, .dct ks ws] ++ gt)) := by simpa using a4
          have a6 := At.swap a5 l' rfl
          unfold storeAll
          rw [List.forIn_cons]
          refine wpAny_bind (wpAny_bind (wpAny_mono (ds_own ok pins s σ H D y z a b (fun H' => At G σ H' δ (.ref D :: (vs ++ gv)) (.dct (dput ks ws d tv).1 (dput ks ws d tv).2 :: (ts ++ gt))) I r1 r2
            ⟨σ, δ, vs ++ gv, ts ++ gt, tv, d, ks, ws, a6, hf, hs, fun H' A' => A'⟩ X.xe) (fun _ s1 ⟨H1, I1, A1⟩ => wpAny_pure ?_) fun _ _ x => x))
          exact store_pairs ok I1 r (At.swap (a := [.ref D]) (a' := [.dct _ _]) A1 rfl l') l' e q
/-- {k: v, ..} -/
theorem s_dct (ok : Ok0 G X) {keys : List (Option Expr)} {values : List Expr} {pos : Pos} {rs : List T → R (List T)} (h : PPr X pos keys values (tL G W elT rs)) (hall : keys.all (·.isSome) = true) (hl : keys.length = values.length) (h0 : keys ≠ []) (h15 : keys.length ≤ 15) :
    PE X (.Dict keys values pos) (t1 G W elT (mDct rs)) := by
  refine ⟨fun pins s σ H Q I hq => ?_⟩
  obtain ⟨δ, gv, gt, A, q⟩ := hq
  have hn := I.hok.fresh (Nat.le_refl s.heap.objs.size)
  have I1 := I.laid (a := s.heap.objs.size) (o := .dK []) (h' := s.heap.push { cls := .type "dict", data := .dict #[] }) (t' := s.toks) (fun _ _ q => Heap.get?_push_of_some _ q) (Nat.le_refl _) (dk_empty s.heap I.big)
  have A1 : At G σ (upd H s.heap.objs.size (.dK [])) δ (.ref s.heap.objs.size :: gv) (.dct [] [] :: gt) := by
    obtain ⟨O, nd, R⟩ := A.hold
    exact A.push nd R (same_upd hn) ⟨[_], by simp, fun a ha => by simp at ha; subst ha; exact hn, RepT.dK (ks := []) (vs := []) upd_same rfl .nil .nil⟩
  unfold mDct bind1 at q
  refine wpAny_Dict_any hall hl h0 h15 (thn (h.run pins _ σ _ (fun vs H2 => ∃ ts δ2 t, At G σ H2 δ2 (vs ++ (.ref s.heap.objs.size :: gv)) (ts ++ (.dct [] [] :: gt)) ∧ vs.length = ts.length ∧ mkDct [] [] ts = some t ∧ ∀ v H, At G σ H δ2 (v :: gv) (t :: gt) → Q v H) I1 ⟨δ, _, _, A1, ?_⟩) ?_)
  · cases e : rs δ with
    | no => rw [e] at q; exact q.elim
    | exn x δ1 =>
      rw [e] at q
      exact fun c d H2 hx A2 => q c d H2 hx A2.drop1
    | ok ts δ1 =>
      simp only [e] at q
      intro vs H2 A2 oks
      have e0 : ts.map elT.t = ts := by simp [elT]
      rw [e0] at A2
      cases e2 : mkDct [] [] ts with
      | none => simp only [e2, fromO] at q; exact q.elim
      | some t =>
        simp only [e2, fromO] at q
        exact ⟨ts, δ1, t, A2, by simpa using oks.length.symm, e2, fun v H A => q v H A trivial⟩
  · intro us s2 ⟨vs, H2, I2, rel, ts, δ2, t, A2, l, e2, q2⟩
    exact store_pairs ok I2 rel A2 l e2 fun H3 s3 I3 A3 => ⟨.ref s.heap.objs.size, H3, I3, rfl, q2 _ H3 A3⟩
theorem s_dct0 {pos : Pos} : PE X (.Dict [] [] pos) (t1 G W elT (mDct sNil)) := PE.imp pe_dnewK fun σ H Q ⟨δ, gv, gt, A, q⟩ => by
  have q : ∀ v H, At G σ H δ (v :: gv) (.dct [] [] :: gt) → Q v H := fun v H A => q v H A trivial
  intro p hp
  obtain ⟨O, nd, R⟩ := A.hold
  exact q _ _ (A.push nd R (same_upd hp) ⟨[_], by simp, fun a ha => by simp at ha; subst ha; exact hp, RepT.dK (ks := []) (vs := []) upd_same rfl .nil .nil⟩)
/-! ranges -/
theorem rgV_rep {H : Hp} {O : List Addr} : ∀ (n : Nat) (lo : Int), Reps G H O ((List.range n).map fun i => V.int (lo + (i : Nat))) (rangeI lo n)
  | 0, _ => .nil
  | n + 1, lo => by
    rw [List.range_succ_eq_map, List.map_cons, List.map_map]
    have ih := rgV_rep (H := H) (O := O) n (lo + 1)
    have e : (List.range n).map ((fun i => V.int (lo + (i : Nat))) ∘ Nat.succ) = (List.range n).map fun i => V.int (lo + 1 + (i : Nat)) := by
      apply List.map_congr_left
      intro i _
      show V.int (lo + ((i + 1 : Nat) : Int)) = _
      congr 1
      omega
    rw [e]
    have z : lo + ((0 : Nat) : Int) = lo := by omega
    rw [z]
    exact .cons .int ih
theorem rg_rep {H : Hp} {O : List Addr} (a b : Int) : Reps G H O (rgV a b) (rangeI a (b - a).toNat) := rgV_rep _ _
/-- a range's bounds, by the evaluator -/
def tRgE (G : Gd) (W : WX) (m : List T → R (List PyData)) (e : Expr) : L2.St → Hp → (Int → Int → Hp → Prop) → Prop := fun σ H Q => ∃ δ gv gt, At G σ H δ gv gt ∧ match m δ with
  | .ok xs δ' => ∀ a b H', xs = rangeI a (b - a).toNat → inR a = true → inR b = true → At G σ H' δ' gv gt → Q a b H'
  | .exn e δ' => ∀ c d H, G.xi e c d H → At G σ H δ' gv gt → W c d σ H
  | .no => False
theorem prg_imp {e : Expr} {t t' : L2.St → Hp → (Int → Int → Hp → Prop) → Prop} (h : PRg X e t) (k : ∀ σ H Q, t' σ H Q → t σ H Q) : PRg X e t' := fun pins s σ H Q I q => h pins s σ H Q I (k σ H Q q)
theorem rg_1 {e : Expr} {r : List T → R T} (h : PRg X e (tRg1 (t1 G W elT r))) : PRg X e (tRgE G W (Ev.iRng1 r) e) := prg_imp h fun σ H Q ⟨δ, gv, gt, A, q⟩ => by
  refine ⟨δ, gv, gt, A, ?_⟩
  unfold Ev.iRng1 bind1 at q
  cases e1 : r δ with
  | no => rw [e1] at q; exact q
  | exn x δ1 => rw [e1] at q; exact q
  | ok t δ1 =>
    simp only [e1] at q
    intro v H1 A1 _
    have A1 : At G σ H1 δ1 (v :: gv) (t :: gt) := A1
    cases t with
    | d x =>
      cases x with
      | int j =>
        cases hj : inR j with
        | false => simp only [hj] at q; exact q.elim
        | true =>
          simp only [hj, if_true] at q
          obtain rfl := A1.topI
          exact ⟨j, rfl, q 0 j H1 (by rw [Int.sub_zero]) rfl hj A1.drop1⟩
      | _ => exact q.elim
    | _ => exact q.elim
theorem rg_2 {e : Expr} {r r' : List T → R T} (h : PRg X e (tRg2 (t1 G W elT r) (t1 G W elT r'))) : PRg X e (tRgE G W (Ev.iRng2 r r') e) := prg_imp h fun σ H Q ⟨δ, gv, gt, A, q⟩ => by
  refine ⟨δ, gv, gt, A, ?_⟩
  unfold Ev.iRng2 bind2 at q
  cases e1 : r δ with
  | no => rw [e1] at q; exact q
  | exn x δ1 => rw [e1] at q; exact q
  | ok t δ1 =>
    simp only [e1] at q
    intro v H1 A1 _
    have A1 : At G σ H1 δ1 (v :: gv) (t :: gt) := A1
    refine ⟨δ1, _, _, A1, ?_⟩
    cases e2 : r' δ1 with
    | no => simp only [e2] at q
    | exn x δ2 =>
      simp only [e2] at q
      exact fun c d H hx A => q c d H hx A.drop1
    | ok u δ2 =>
      simp only [e2] at q
      intro w H2 A2 _
      have A2 : At G σ H2 δ2 (w :: v :: gv) (u :: t :: gt) := A2
      cases t with
      | d x =>
        cases x with
        | int i =>
          cases u with
          | d y =>
            cases y with
            | int j =>
              cases hj : (inR i && inR j) with
              | false => simp only [hj] at q; exact q.elim
              | true =>
                simp only [hj, if_true] at q
                obtain rfl := A2.topI
                have A3 := A2.drop1
                obtain rfl := A3.topI
                simp only [Bool.and_eq_true] at hj
                exact ⟨i, j, rfl, rfl, q i j H2 rfl hj.1 hj.2 A3.drop1⟩
            | _ => exact q.elim
          | _ => exact q.elim
        | _ => exact q.elim
      | _ => exact q.elim
theorem rangeI_length : ∀ (n : Nat) (lo : Int), (rangeI lo n).length = n
  | 0, _ => rfl
  | n + 1, lo => by show (rangeI (lo + 1) n).length + 1 = _; rw [rangeI_length n]
theorem rgOk_of {a b : Int} (ha : inR a = true) (hb : inR b = true) (h : (b - a).toNat ≤ 16777216) : RgOk a b := by
  unfold inR at ha hb
  simp only [Bool.and_eq_true, decide_eq_true_eq] at ha hb
  exact ⟨ha.1, ha.2, hb.1, hb.2, h⟩
/-- list(range(..)) -/
theorem s_lrng {e a : Expr} {m : List T → R (List PyData)} (h : PE X e (tLstRg (tRgE G W m a))) : PE X e (t1 G W elT (mLrng m)) := PE.imp h fun σ H Q ⟨δ, gv, gt, A, q⟩ => by
  refine ⟨δ, gv, gt, A, ?_⟩
  unfold mLrng bind1 at q
  cases e1 : m δ with
  | no => rw [e1] at q; exact q
  | exn x δ1 => rw [e1] at q; exact q
  | ok xs δ1 =>
    simp only [e1] at q ⊢
    split at q
    case isFalse => exact q.elim
    rename_i hs
    have hs : xs.length ≤ sizeLine := Nat.le_of_ble_eq_true (by simpa [small] using hs)
    intro i j H1 hx hi hj A1
    subst hx
    rw [rangeI_length] at hs
    have h24 : (j - i).toNat ≤ 16777216 := by rw [sizeLine_eq] at hs; omega
    refine ⟨rgOk_of hi hj h24, fun p hp => q _ _ ?_ trivial⟩
    have A2 := A1.pushDs (vs := rgV i j) fun O _ _ => rg_rep i j
    exact A2.newLst (by rw [List.length_map]; exact (rg_rep (G := G) (H := H1) (O := []) i j).length) hp
/-- tuple(range(..)), its object told -/
def tTupRgD (te : L2.St → Hp → (Int → Int → Hp → Prop) → Prop) : TE := fun σ H Q => te σ H fun a b H1 => RgOk a b ∧ ∀ p o, o.dict = none → H1 p = none → Q (.ref p) (upd H1 p (.frz o (.tup (rgV a b))))
theorem pe_tupRgD {e : Expr} {te : L2.St → Hp → (Int → Int → Hp → Prop) → Prop} {p pos : Pos} (hc : X.calm = true) (hg : Gl X "tuple") (hm : X.mg "tuple" = none) (he : PRg X e te) (na : starEach [e] X.env = (false, eval e X.env) :: starEach [] X.env) : PE X (.Call (.Name "tuple" p) [e] [] pos) (tTupRgD te) := by
  refine ⟨fun pins s σ H Q I h => Call_ (ld_blt I hg hm boot_tuple (PyProof.Rows.callWith_type1 (args_cons (thn (he pins s σ H _ I h) fun x s1 hx => args_nil ?_) na) na))⟩
  obtain ⟨r, a, b, t, u, v, H1, rfl, hr, I1, ⟨b1, b2, b3, b4, b5⟩, q⟩ := hx
  refine call_tuple_range (n := (b - a).toNat) (I1.ok.hd hc) hr (small_one b1 b2 b3 b4) (rangeSize_nat a b) b5 fun h' tk acc hk hi => ?_
  have I2 : Inv X pins σ H1 { s1 with heap := h', toks := tk } := I1.kept hk
  have hz : (rgV a b).length ≤ sizeLine := by rw [rgV_length, sizeLine_eq]; omega
  have I3 := laid_tup (t' := tk) I2 (vals_rg hi) hz
  have eo : tupO acc.toList = { cls := .type "tuple", data := .seq acc } := by unfold tupO; rw [Array.toArray_toList]
  rw [eo] at I3
  exact ⟨.ref h'.objs.size, _, I3, rfl, q _ _ rfl (I2.hok.fresh (Nat.le_refl _))⟩
theorem s_trng {e a : Expr} {m : List T → R (List PyData)} (h : PE X e (tTupRgD (tRgE G W m a))) : PE X e (t1 G W elT (mTrng m)) := PE.imp h fun σ H Q ⟨δ, gv, gt, A, q⟩ => by
  refine ⟨δ, gv, gt, A, ?_⟩
  unfold mTrng bind1 at q
  cases e1 : m δ with
  | no => rw [e1] at q; exact q
  | exn x δ1 => rw [e1] at q; exact q
  | ok xs δ1 =>
    simp only [e1] at q ⊢
    split at q
    case isFalse => exact q.elim
    rename_i hs
    have hs : xs.length ≤ sizeLine := Nat.le_of_ble_eq_true (by simpa [small] using hs)
    intro i j H1 hx hi hj A1
    subst hx
    rw [rangeI_length] at hs
    have h24 : (j - i).toNat ≤ 16777216 := by rw [sizeLine_eq] at hs; omega
    refine ⟨rgOk_of hi hj h24, fun p o hd hp => q _ _ ?_ trivial⟩
    obtain ⟨O, nd, R⟩ := A1.hold
    refine A1.push nd R (same_upd hp) (.d ?_)
    exact .tup (.inl ⟨o, upd_same, hd⟩) (rg_rep i j)
end
end Ev
set_option Elab.async false
set_option linter.all false
set_option maxRecDepth 100000
set_option maxHeartbeats 4000000
set_option autoImplicit false
/-! Snd34: what a checked text tells: names, constants, operators. -/
namespace Ev
open PySem PySem.W PySem.Spec L2
open PyProof.Rows hiding St

/-! ### forms -/
section
variable {env : Env} {e : Expr} {es : List Expr}
theorem star_pl (h : pl e = true) : starEach (e :: es) env = (false, eval e env) :: starEach es env := by cases e <;> first | rfl | cases h
theorem asg_pl (h : pl e = true) : assignEach (e :: es) env = (false, assign e env) :: assignEach es env := by cases e <;> first | rfl | cases h
theorem ix_pl (h : pl e = true) : PlainIx e := by intro o i; cases e <;> first | rfl | cases h
theorem bim_pl (h : pl e = true) (o : CmpOp) : behindInMarks o e = false := by cases e <;> first | rfl | cases h
theorem fsi_pl (h : pl e = true) : ∀ env x, foldedSetIterable e env x = pure x := by intro env x; cases e <;> first | rfl | cases h
theorem base_nc (h : notCall e = true) {m : Str} {w : Sem Value} : attributeBase e m env w = w := by cases e <;> first | rfl | cases h
theorem any_pl {pos : Pos} : ∀ {es : List Expr}, es.all pl = true → (backTo pos (starEach es env)).any (·.1) = false
  | [], _ => rfl
  | e :: es, h => by
    simp only [List.all_cons, Bool.and_eq_true] at h
    rw [star_pl h.1]
    show (false || (backTo pos (starEach es env)).any (·.1)) = false
    rw [any_pl h.2]
    rfl
theorem all_pl {pos : Pos} : ∀ {es : List Expr}, es.all pl = true → (backTo pos (starEach es env)).all (fun x => !x.1) = true
  | [], _ => rfl
  | e :: es, h => by
    simp only [List.all_cons, Bool.and_eq_true] at h
    rw [star_pl h.1]
    show (true && (backTo pos (starEach es env)).all (fun x => !x.1)) = true
    rw [all_pl h.2]
    rfl
theorem asg_one (h : pl e = true) : (assignEach [e] env).map (·.2) = [assign e env] := by rw [asg_pl h]; rfl
theorem kws_all {pos : Pos} : ∀ {kws : List Keyword} {ns : List Str}, kwNames kws = some ns → (backToKw pos (keywordEach kws env)).all (·.1.isSome) = true ∧ (backToKw pos (keywordEach kws env)).any (·.1.isNone) = false ∧ (backToKw pos (keywordEach kws env)).filterMap (·.1) = ns
  | [], _, h => by cases h; exact ⟨rfl, rfl, rfl⟩
  | ⟨none, _, _⟩ :: _, _, h => by cases h
  | ⟨some a, v, p⟩ :: ks, ns, h => by
    simp only [kwNames] at h
    split at h
    · rename_i r e
      cases h
      obtain ⟨h1, h2, h3⟩ := kws_all (pos := pos) e
      refine ⟨?_, ?_, ?_⟩
      · show (true && (backToKw pos (keywordEach ks env)).all (·.1.isSome)) = true
        rw [h1]; rfl
      · show (false || (backToKw pos (keywordEach ks env)).any (·.1.isNone)) = false
        rw [h2]; rfl
      · show a :: (backToKw pos (keywordEach ks env)).filterMap (·.1) = a :: r
        rw [h3]
    · cases h
end
theorem atN_in {N : List Str} {i : Nat} {x : Str} (h : atN N i x = true) : N[i]? = some x := by
  unfold atN at h
  split at h
  · rename_i y e
    rw [e, eq_of_beq h]
  · cases h
theorem vis_in {sc : Scope} {x : Str} (h : vis sc x = true) : Vis sc x := by
  unfold vis at h
  split at h
  · rename_i e; exact .inl e
  · rename_i e; exact .inr (.inl e)
  · rename_i e; exact .inr (.inr e)
  · cases h
theorem loc_in {sc : Scope} {x : Str} (h : loc sc x = true) : Loc sc x := by
  unfold loc at h
  split at h
  · rename_i e; exact .inl e
  · rename_i e; exact .inr e
  · cases h
theorem loc_of {sc : Scope} {x : Str} (h : Loc sc x) : loc sc x = true := by
  unfold loc
  rcases h with h | h <;> rw [h]
theorem gl_in {sc : Scope} {x : Str} (h : gl sc x = true) : sc.names.lookup x = some .globalImplicit := by
  unfold gl at h
  split at h
  · assumption
  · cases h
theorem nm_in {x : Str} (h : nmOk x = true) : (x == ("__debug__" : Str)) = false ∧ (x == ("__classdict__" : Str)) = false ∧ x ≠ "__name__" := by
  unfold nmOk at h
  simp only [Bool.and_eq_true, Bool.not_eq_true'] at h
  exact ⟨h.1.1, h.1.2, fun z => by rw [z] at h; simp at h⟩

/-! ### what is known of a frame -/
def CallOk (G : Gd) (C : Cf) (X : Cx) (x : Str) (f n : Nat) (ns : List Str) : Prop := ∃ k fa fd ps dvs ds, FnG X.prog X.w X.K X.mg X.base k fa fd ps (spF G ps.length (C.call f)) ∧ Room k X.A ∧ X.mg x = some (.ref fa) ∧ PySem.W.keepIn X.K (.ref fa) = true ∧
  BindsG X.K fd ps n ns ds ∧ Vals dvs ds ∧ (∀ H O, Reps G H O dvs (C.df f (n + ns.length))) ∧ n + ns.length + dvs.length = ps.length
structure XOk (G : Gd) (C : Cf) (S : Stat) (sc sf : Scope) (X : Cx) : Prop where
  ok : Ok0 G X
  hN : X.N = S.N
  hnd : S.N.Nodup
  hsc : X.env.scope = sc
  kind : sc.kind = .function
  fn : ∀ x, loc sf x = true → loc sc x = true ∧ (X.fn x = true ∨ sc.names.lookup x = some .local)
  con : ∀ x i, S.con.lookup x = some i → ∃ u v d, X.mg x = some u ∧ RelV v u ∧ nth C.gd i = some d ∧ ∀ H O, Rep G H O v d
  dfs : ∀ x f n ns, S.dfs.lookup x = some f → (f, n, ns) ∈ S.shp → CallOk G C X x f n ns
  bln : ∀ x, S.bln.contains x = true → X.mg x = none
  gcd : ∀ x, S.gcds.contains x = true → X.mg x = some (.builtin "math.gcd")
section
variable {G : Gd} {W : WX} {C : Cf} {S : Stat} {sc sf : Scope} {X : Cx}
theorem XOk.nodup (h : XOk G C S sc sf X) : X.N.Nodup := by rw [h.hN]; exact h.hnd
theorem XOk.gl (h : XOk G C S sc sf X) {x : Str} (g : Ev.gl sc x = true) : Gl X x := by
  show X.env.scope.names.lookup x = _
  rw [h.hsc]
  exact gl_in g
theorem XOk.bi (h : XOk G C S sc sf X) {x nm : Str} (g : biN S sc nm x = true) : x = nm ∧ Gl X x ∧ X.mg x = none := by
  unfold biN at g
  simp only [Bool.and_eq_true] at g
  exact ⟨eq_of_beq g.1.1, h.gl g.1.2, h.bln x g.2⟩
theorem XOk.var (h : XOk G C S sc sf X) {i : Nat} {x : Str} {pos : Pos} (h1 : atN S.N i x = true) (h2 : vis sc x = true) (h3 : nmOk x = true) : PE X (.Name x pos) (tVar i) := by
  obtain ⟨a, b, _⟩ := nm_in h3
  exact pe_var (by rw [h.hN]; exact atN_in h1) (by rw [h.hsc]; exact vis_in h2) a b
theorem XOk.blk (h : XOk G C S sc sf X) {scope : Scope} (hk : scope.kind = .function) (s : Shared) (H : Hp) (A : Addr) (cl : List (Str × Addr)) (fp : List Addr) : XOk G C S (relS scope sc) scope (X.blk s H scope (compEnvC scope cl A X.env) fp) := by
  have hsc : (compEnvC scope cl A X.env).scope = relS scope sc := by rw [← h.hsc]; rfl
  refine ⟨h.ok.blk _ _ _ _ _, h.hN, h.hnd, hsc, hk, fun x hx => ?_, h.con, h.dfs, h.bln, h.gcd⟩
  rcases loc_in hx with e | e
  · have := lookup_relS_keep (sc := sc) (k := .local) (by decide) e
    exact ⟨loc_of (.inl this), .inr this⟩
  · have := lookup_relS_keep (sc := sc) (k := .cell) (by decide) e
    refine ⟨loc_of (.inr this), .inl ?_⟩
    show (scope.names.lookup x == some .cell) = true
    rw [e]
    rfl
/-! ### all readings of an expression -/
structure SE (G : Gd) (W : WX) (C : Cf) (X : Cx) (ie : IE) (e : Expr) : Prop where
  E : PE X e (t1 G W elT (den C ie))
  O : PE X e (t1 G W elA (opd ie (den C ie)))
  A : PE X e (t1 G W elA (arg ie (den C ie)))
  T : PT X e (tT G W (den C ie))
  P : PE X e (tPur G C.gd ie)
  F : PE X e (tPurF G C.gd ie)
  Q : PE X e (tPlc G C.gd ie)
  B : ∀ op vs pos, e = .BoolOp op vs pos → PW X e (tT G W (den C ie))
  V : ∀ i, ie = .v i → PE X e (tVar i)
  Z : isComp e = true → ∀ (i : Nat) (y : Str) (py spos : Pos), X.N[i]? = some y → X.env.scope.names.lookup y = some .local → swapsWith e (some (.Name y py)) spos.line X.env = pure true → PS X (.Assign [.Name y py] e spos) (tAsg (t1 G W elT (den C ie)) (gName i))
/-- an expression whose test is its value's -/
def valF : Expr → Bool
  | .UnaryOp .Not _ _ => false
  | .BoolOp .. => false
  | .IfExp .. => false
  | .Compare .. => false
  | _ => true
theorem t_valF {e : Expr} {m : List T → R T} (h : PE X e (t1 G W elT m)) (hv : valF e = true) : PT X e (tT G W m) := by
  refine t_val h ?_
  intro whole
  cases e with
  | UnaryOp op a p => cases op <;> first | rfl | cases hv
  | BoolOp _ _ _ => cases hv
  | IfExp _ _ _ _ => cases hv
  | Compare _ _ _ _ => cases hv
  | _ => rfl
theorem not_bool {e : Expr} {t : TT} (hv : valF e = true) : ∀ op vs pos, e = .BoolOp op vs pos → PW X e t := fun op vs pos h => by subst h; cases hv
theorem SE.mk1 {ie : IE} {e : Expr} (n : isNm ie = false) (hE : PE X e (t1 G W elT (den C ie))) (hT : PT X e (tT G W (den C ie))) (hP : PE X e (tPur G C.gd ie)) (hQ : PE X e (tPlc G C.gd ie)) (hB : ∀ op vs pos, e = .BoolOp op vs pos → PW X e (tT G W (den C ie))) (hz : isComp e = false := by rfl) : SE G W C X ie e :=
  ⟨hE, s_opd n hE, s_arg n hE, hT, hP, p_F n hP, hQ, hB, (fun i h => by subst h; cases n), fun h => by rw [hz] at h; cases h⟩
/-- values, no places -/
theorem SE.mkV {ie : IE} {e : Expr} (n : isNm ie = false) (hv : valF e = true) (hE : PE X e (t1 G W elT (den C ie))) (hP : PE X e (tPur G C.gd ie)) (hQ : ∀ δ, plc C.gd δ ie = none) (hz : isComp e = false := by rfl) : SE G W C X ie e :=
  .mk1 n hE (t_valF hE hv) hP (q_no hQ) (not_bool hv) hz
/-- neither pure nor a place -/
theorem SE.mkN {ie : IE} {e : Expr} (n : isNm ie = false) (hv : valF e = true) (hE : PE X e (t1 G W elT (den C ie))) (hP : ∀ δ, pur C.gd δ ie = none) (hQ : ∀ δ, plc C.gd δ ie = none) (hz : isComp e = false := by rfl) : SE G W C X ie e := .mkV n hv hE (p_no hP) hQ hz
theorem pt_no {e : Expr} {m : List T → R T} (h : ∀ δ, m δ = .no) : PT X e (tT G W m) := ⟨fun pins s σ H Q I q => by
  obtain ⟨δ, gv, gt, A, q⟩ := q
  rw [h] at q
  exact q.elim⟩
theorem pw_no {e : Expr} {m : List T → R T} (h : ∀ δ, m δ = .no) : PW X e (tT G W m) := ⟨fun wh pins s σ H Q I q => by
  obtain ⟨δ, gv, gt, A, q⟩ := q
  rw [h] at q
  exact q.elim⟩
theorem ps_no {st : Stmt} {m : List T → R T} {g : TG} (h : ∀ δ, m δ = .no) : PS X st (tAsg (t1 G W elT m) g) := ⟨fun pins s σ H D I q => by
  obtain ⟨δ, gv, gt, A, q⟩ := q
  rw [h] at q
  exact q.elim⟩
theorem se_bad {e : Expr} : SE G W C X .bad e := by
  have E : PE X e (t1 G W elT (den C .bad)) := pe_no fun _ => rfl
  have P : PE X e (tPur G C.gd .bad) := p_no fun _ => rfl
  exact ⟨E, s_opd rfl E, s_arg rfl E, pt_no fun _ => rfl, P, p_F rfl P, q_no fun _ => rfl, fun _ _ _ _ => pw_no fun _ => rfl, (fun i h => by cases h), fun _ _ _ _ _ _ _ _ => ps_no fun _ => rfl⟩
theorem se_v {x : Str} {pos : Pos} {i : Nat} (h : PE X (.Name x pos) (tVar i)) : SE G W C X (.v i) (.Name x pos) :=
  ⟨s_v h, s_opdV h, s_argV h, t_valF (s_v h) rfl, p_v h, p_vF h, q_v h, fun _ _ _ e => (by cases e), (fun j e => by cases e; exact h), fun h => by cases h⟩
theorem se_mv {x : Str} {pos : Pos} {i : Nat} (h : PE X (.Name x pos) (tVar i)) : SE G W C X (.mv i) (.Name x pos) := .mkN rfl rfl (s_mv h) (fun _ => rfl) fun _ => rfl
theorem se_con {ie : IE} {e : Expr} {v : V} {d : PyData} (n : isNm ie = false) (hv : valF e = true) (h : PE X e (tC v)) (hm : ∀ δ, den C ie δ = .ok (.d d) δ) (hp : ∀ δ, pur C.gd δ ie = some d) (hq : ∀ δ, plc C.gd δ ie = none) (hr : ∀ H O, Rep G H O v d) (hz : isComp e = false := by rfl) : SE G W C X ie e :=
  .mkV n hv (s_con h hm hr) (p_con h hp hr) hq hz
theorem se_k {c : PyData} {k : Const} {j : Nat} {pos : Pos} (h : kB c k = true) : SE G W C X (.k c) (.Constant k j pos) := by
  unfold kB at h
  split at h
  · obtain rfl := eq_of_beq h
    exact se_con rfl rfl pe_int (fun _ => rfl) (fun _ => rfl) (fun _ => rfl) fun _ _ => .int
  · obtain rfl := eq_of_beq h
    exact se_con rfl rfl pe_str (fun _ => rfl) (fun _ => rfl) (fun _ => rfl) fun _ _ => .str
  · obtain rfl := eq_of_beq h
    exact se_con rfl rfl pe_bl (fun _ => rfl) (fun _ => rfl) (fun _ => rfl) fun _ _ => .bl
  · exact se_con rfl rfl pe_non (fun _ => rfl) (fun _ => rfl) (fun _ => rfl) fun _ _ => .non
  · cases h
theorem se_g (hx : XOk G C S sc sf X) {x : Str} {pos : Pos} {i : Nat} (h1 : Ev.gl sc x = true) (h2 : nmOk x = true) (h3 : S.con.lookup x = some i) : SE G W C X (.g i) (.Name x pos) := by
  obtain ⟨u, v, d, m, r, e, rep⟩ := hx.con x i h3
  exact se_con rfl rfl (pe_glob (hx.gl h1) m r (nm_in h2).1) (fun δ => by show mG C i δ = _; unfold mG; rw [e]) (fun δ => e) (fun _ => rfl) rep
theorem opr_of (ok : Ok0 G X) {op : Op} {o : Operator} (h : opB op o = true) : OpR X (binaryOp o) (rO2 G (op2 op)) := by
  cases op <;> cases o <;> first | (cases h; done) | skip
  all_goals first | exact opr_add ok.hK | exact opr_sub | exact opr_mul ok.hK | exact opr_fdiv | exact opr_mod | exact opr_pow
end
end Ev
set_option Elab.async false
set_option linter.all false
set_option maxRecDepth 100000
set_option maxHeartbeats 4000000
set_option autoImplicit false
/-! Snd35: what a checked text tells: operators, displays, subscripts, calls. -/
namespace Ev
open PySem PySem.W PySem.Spec L2
open PyProof.Rows hiding St

section
variable {G : Gd} {W : WX} {C : Cf} {S : Stat} {sc sf : Scope} {X : Cx}
variable {ea eb ec : Expr} {ia ib ic : IE} {pos : Pos}
theorem se_bin (ok : Ok0 G X) {op : Op} {o : Operator} (ho : opB op o = true) (a : SE G W C X ia ea) (b : SE G W C X ib eb) : SE G W C X (.bin op ia ib) (.BinOp ea o eb pos) :=
  .mkV rfl rfl (s_bin (opr_of ok ho) a.O b.O) (p_bin (opr_of ok ho) a.P b.P) fun _ => rfl
theorem se_neg (a : SE G W C X ia ea) : SE G W C X (.neg ia) (.UnaryOp .USub ea pos) := .mkN rfl rfl (s_neg a.E) (fun _ => rfl) fun _ => rfl
theorem se_not (a : SE G W C X ia ea) : SE G W C X (.not ia) (.UnaryOp .Not ea pos) := .mk1 rfl (s_not a.E) (t_not a.T) (p_no fun _ => rfl) (q_no fun _ => rfl) fun _ _ _ h => by cases h
theorem se_and (a : SE G W C X ia ea) (b : SE G W C X ib eb) : SE G W C X (.and ia ib) (.BoolOp .And [ea, eb] pos) := by
  have w : PW X (.BoolOp .And [ea, eb] pos) (tT G W (den C (.and ia ib))) := t_and a.T (pw_and1 b.T)
  exact .mk1 rfl (s_and a.E (pe_one b.E)) w.pt (p_no fun _ => rfl) (q_no fun _ => rfl) fun _ _ _ h => by cases h; exact w
theorem se_and3 {r : List Expr} (a : SE G W C X ia ea) (b : SE G W C X ib (.BoolOp .And (eb :: r) pos)) : SE G W C X (.and ia ib) (.BoolOp .And (ea :: eb :: r) pos) := by
  have w : PW X (.BoolOp .And (ea :: eb :: r) pos) (tT G W (den C (.and ia ib))) := t_and a.T (b.B _ _ _ rfl)
  exact .mk1 rfl (s_and a.E b.E) w.pt (p_no fun _ => rfl) (q_no fun _ => rfl) fun _ _ _ h => by cases h; exact w
theorem se_or (a : SE G W C X ia ea) (b : SE G W C X ib eb) : SE G W C X (.or ia ib) (.BoolOp .Or [ea, eb] pos) := by
  have w : PW X (.BoolOp .Or [ea, eb] pos) (tT G W (den C (.or ia ib))) := t_or a.T (pw_or1 b.T)
  exact .mk1 rfl (s_or a.E (pe_one b.E)) w.pt (p_no fun _ => rfl) (q_no fun _ => rfl) fun _ _ _ h => by cases h; exact w
theorem se_or3 {r : List Expr} (a : SE G W C X ia ea) (b : SE G W C X ib (.BoolOp .Or (eb :: r) pos)) : SE G W C X (.or ia ib) (.BoolOp .Or (ea :: eb :: r) pos) := by
  have w : PW X (.BoolOp .Or (ea :: eb :: r) pos) (tT G W (den C (.or ia ib))) := t_or a.T (b.B _ _ _ rfl)
  exact .mk1 rfl (s_or a.E b.E) w.pt (p_no fun _ => rfl) (q_no fun _ => rfl) fun _ _ _ h => by cases h; exact w
theorem se_ife (c : SE G W C X ic ec) (a : SE G W C X ia ea) (b : SE G W C X ib eb) : SE G W C X (.ife ic ia ib) (.IfExp ec ea eb pos) :=
  .mk1 rfl (s_ife c.T a.E b.E) (t_ife c.T a.T b.T) (p_no fun _ => rfl) (q_no fun _ => rfl) fun _ _ _ h => by cases h
theorem copr_of (ok : Ok0 G X) {op : Cop} {o : CmpOp} (h : copB op o = true) : OpR X (compareOp o) (rB2 G (cmpD op)) := by
  cases op <;> cases o <;> first | (cases h; done) | skip
  · exact opr_eq ok
  · exact opr_ne ok
  · exact opr_lt ok
  · exact opr_le ok
  · exact opr_gt ok
  · exact opr_ge ok
  · exact opr_in ok
  · exact opr_notin ok
theorem se_cmp (ok : Ok0 G X) {op : Cop} {o : CmpOp} (ho : copB op o = true) (hp : pl eb = true) (a : SE G W C X ia ea) (b : SE G W C X ib eb) : SE G W C X (.cmp op ia ib) (.Compare ea [o] [eb] pos) :=
  .mk1 rfl (s_cmp ok (copr_of ok ho) (bim_pl hp o) a.O b.O a.Q b.P) (t_cmp ok (copr_of ok ho) (bim_pl hp o) a.O b.O a.Q b.P) (p_no fun _ => rfl) (q_no fun _ => rfl) fun _ _ _ h => by cases h
theorem se_chain (ok : Ok0 G X) {o1 o2 : Cop} {p1 p2 : CmpOp} (h1 : copB o1 p1 = true) (h2 : copB o2 p2 = true) (hp : pl ec = true) (a : SE G W C X ia ea) (b : SE G W C X ib eb) (c : SE G W C X ic ec) : SE G W C X (.chain o1 o2 ia ib ic) (.Compare ea [p1, p2] [eb, ec] pos) :=
  .mk1 rfl (s_chain (copr_of ok h1) (copr_of ok h2) a.O b.O c.O (bim_pl hp p2)) (t_chain (copr_of ok h1) (copr_of ok h2) a.O b.O c.O (bim_pl hp p2)) (p_no fun _ => rfl) (q_no fun _ => rfl) fun _ _ _ h => by cases h
theorem isN_in {σ : L2.St} {gv : List V} {gt : List T} {δ : List T} {b : Bool} {ra : List T → R A} {Q : VK} (q : post1 G W elT σ gv gt (bind1 ra (fun x δ => match rsv δ x with
    | some p => .ok (.d (.bool (isNone p == b))) δ
    | none => .no) δ) Q) : post1 G W elA σ gv gt (ra δ) fun x H1 => Q (.bl (decide (x = .non) == b)) H1 := by
  refine (b1_in (E := elA) q).mono fun x H1 z => ?_
  obtain ⟨a, δ1, A1, oa, z⟩ := z
  cases e : rsv δ1 a with
  | none => simp only [e] at z; exact z.elim
  | some p =>
    simp only [e] at z
    obtain ⟨O, nd, R, fx⟩ := one_in A1 oa e
    have key : decide (x = V.non) = isNone p := by
      cases p with
      | none => rw [fx.nonI]; rfl
      | bool i => rw [fx.blI]; rfl
      | int i => rw [fx.intI]; rfl
      | str i => rw [fx.strI]; rfl
      | list xs => obtain ⟨a, _, rfl, _⟩ := fx.lstI; rfl
      | tuple xs => obtain ⟨a, _, rfl, _⟩ := fx.tupI; rfl
      | dict kvs => obtain ⟨a, rfl, _⟩ := fx.dctI; rfl
    rw [key]
    exact z _ H1 (A1.drop1.pushD fun O _ _ => .bl) trivial
theorem se_isN {j : Nat} {pos' : Pos} (a : SE G W C X ia ea) : SE G W C X (.isN ia) (.Compare ea [.Is] [.Constant .none j pos'] pos) := by
  refine .mk1 rfl (s_isN (.inl ⟨rfl, rfl⟩) a.O) (PT.imp (pt_cmp (pc_isN a.O) rfl) fun σ H Q ⟨δ, gv, gt, A, q⟩ => ⟨δ, gv, gt, A, (isN_in q).mono fun x H1 z => ?_⟩) (p_no fun _ => rfl) (q_no fun _ => rfl) fun _ _ _ h => by cases h
  simpa using z
theorem se_notN {j : Nat} {pos' : Pos} (a : SE G W C X ia ea) : SE G W C X (.notN ia) (.Compare ea [.IsNot] [.Constant .none j pos'] pos) := by
  refine .mk1 rfl (s_isN (.inr ⟨rfl, rfl⟩) a.O) (PT.imp (pt_cmp (pc_notN a.O) rfl) fun σ H Q ⟨δ, gv, gt, A, q⟩ => ⟨δ, gv, gt, A, (isN_in q).mono fun x H1 z => ?_⟩) (p_no fun _ => rfl) (q_no fun _ => rfl) fun _ _ _ h => by cases h
  simpa using z
/-! lists of parts -/
structure SL (G : Gd) (W : WX) (C : Cf) (X : Cx) (ies : IEs) (es : List Expr) : Prop where
  L : PA X es (tL G W elT (dens C ies))
  O : PA X es (tL G W elA (opds C ies))
  A : PA X es (tL G W elA (args C ies))
  P : PA X es (tPurs G C.gd ies)
  one : ∀ e ie, es = [e] → ies = .cons ie .nil → PE X e (tPur G C.gd ie)
  pure1 : ∀ ie, ies = .cons ie .nil → ∃ e, es = [e]
  len : ∀ δ as δ', args C ies δ = .ok as δ' → as.length = es.length
  lenO : (ies = .nil ↔ es = [])
theorem sl_nil : SL G W C X .nil [] := ⟨pa_sNil, pa_sNil, pa_sNil, ps_nil, fun _ _ h => (by cases h), fun _ h => (by cases h), fun δ as δ' h => by cases h; rfl, ⟨fun _ => rfl, fun _ => rfl⟩⟩
theorem sCons_len {α : Type} {r : List T → R α} {rs : List T → R (List α)} {δ δ' : List T} {as : List α} (h : sCons r rs δ = .ok as δ') : ∃ a as' δ1, as = a :: as' ∧ rs δ1 = .ok as' δ' := by
  unfold sCons bind2 at h
  cases e : r δ with
  | no => rw [e] at h; cases h
  | exn x δ1 => rw [e] at h; cases h
  | ok a δ1 =>
    simp only [e] at h
    cases e2 : rs δ1 with
    | no => simp only [e2] at h; cases h
    | exn x δ2 => simp only [e2] at h; cases h
    | ok as' δ2 =>
      simp only [e2] at h
      cases h
      exact ⟨a, as', δ1, rfl, e2⟩
theorem sl_cons {e : Expr} {es : List Expr} {ie : IE} {ies : IEs} (hp : pl e = true) (a : SE G W C X ie e) (b : SL G W C X ies es) : SL G W C X (.cons ie ies) (e :: es) := by
  refine ⟨pa_sCons a.E b.L (star_pl hp), pa_sCons a.O b.O (star_pl hp), pa_sCons a.A b.A (star_pl hp), ps_cons a.P b.P (star_pl hp), fun e' ie' h1 h2 => ?_, fun ie' h => ?_, fun δ as δ' h => ?_, ⟨fun h => (by cases h), fun h => (by cases h)⟩⟩
  · cases h1
    cases h2
    exact a.P
  · cases h
    have := b.lenO.mp rfl
    exact ⟨e, by rw [this]⟩
  · obtain ⟨a', as', δ1, rfl, h2⟩ := sCons_len (r := arg ie (den C ie)) (rs := args C ies) h
    simp [b.len _ _ _ h2]
theorem se_tup {es : List Expr} {ies : IEs} {k : Nat} (L : SL G W C X ies es) : SE G W C X (.tup ies) (.Tuple es k pos) := .mkN rfl rfl (s_tup L.L) (fun _ => rfl) fun _ => rfl
theorem se_lst {es : List Expr} {ies : IEs} (L : SL G W C X ies es) : SE G W C X (.lst ies) (.List es pos) := by
  cases ies with
  | nil =>
    have := L.lenO.mp rfl
    subst this
    exact .mkV rfl rfl (s_lst L.L) p_nil fun _ => rfl
  | cons a b => exact .mkN rfl rfl (s_lst L.L) (fun _ => rfl) fun _ => rfl
/-- pairs -/
structure SD (G : Gd) (W : WX) (C : Cf) (X : Cx) (ies : IEs) (ks : List (Option Expr)) (vs : List Expr) : Prop where
  R : ∀ pos, PPr X pos ks vs (tL G W elT (dens C ies))
  all : ks.all (·.isSome) = true
  len : ks.length = vs.length
  nil : ks = [] → ies = .nil ∧ vs = []
theorem sd_nil : SD G W C X .nil [] [] := ⟨fun _ => ppr_nil, rfl, rfl, fun _ => ⟨rfl, rfl⟩⟩
theorem sd_cons {ks : List (Option Expr)} {vs : List Expr} {ies : IEs} (a : SE G W C X ia ea) (b : SE G W C X ib eb) (d : SD G W C X ies ks vs) : SD G W C X (.cons ia (.cons ib ies)) (some ea :: ks) (eb :: vs) :=
  ⟨fun pos => ppr_cons a.E b.E (d.R pos), by simp [d.all], by simp [d.len], fun h => by cases h⟩
theorem se_dct (ok : Ok0 G X) {ks : List (Option Expr)} {vs : List Expr} {ies : IEs} (h15 : ks.length ≤ 15) (d : SD G W C X ies ks vs) : SE G W C X (.dct ies) (.Dict ks vs pos) := by
  by_cases h0 : ks = []
  · obtain ⟨h1, h2⟩ := d.nil h0
    subst h0 h1 h2
    exact .mkN rfl rfl s_dct0 (fun _ => rfl) fun _ => rfl
  · exact .mkN rfl rfl (s_dct ok (d.R pos) d.all d.len h0 h15) (fun _ => rfl) fun _ => rfl
/-! subscripts -/
theorem se_idx (ok : Ok0 G X) (hp : pl eb = true) (a : SE G W C X ia ea) (b : SE G W C X ib eb) : SE G W C X (.idx ia ib) (.Subscript ea eb pos) := by
  have q : PE X (.Subscript ea eb pos) (tPlc G C.gd (.idx ia ib)) := q_idx ok a.Q b.P (ix_pl hp)
  have E := s_idx (W := W) (C := C) ok (ix_pl hp) a.O b.O q
  exact .mk1 rfl E (t_valF E rfl) (p_idx ok a.F b.P (ix_pl hp)) q (not_bool rfl)
theorem se_slc (ok : Ok0 G X) {lo hi : Option Expr} {il ih : IEo} {p2 : Pos} (a : SE G W C X ia ea) (hl : PO X lo (tO G W (deno C il))) (hh : PO X hi (tO G W (deno C ih))) : SE G W C X (.slc ia il ih) (.Subscript ea (.Slice lo hi none p2) pos) :=
  .mkN rfl rfl (s_slc ok a.O hl hh) (fun _ => rfl) fun _ => rfl
theorem se_rev (ok : Ok0 G X) {k : Nat} {p1 p2 p3 : Pos} (a : SE G W C X ia ea) : SE G W C X (.rev ia) (.Subscript ea (.Slice none none (some (.UnaryOp .USub (.Constant (.int 1) k p1) p2)) p3) pos) :=
  .mkN rfl rfl (s_rev ok a.O) (fun _ => rfl) fun _ => rfl
end
end Ev
set_option Elab.async false
set_option linter.all false
set_option maxRecDepth 100000
set_option maxHeartbeats 4000000
set_option autoImplicit false
/-! Snd36: what a checked text tells: calls, methods, ranges. -/
namespace Ev
open PySem PySem.W PySem.Spec L2
open PyProof.Rows hiding St

section
variable {G : Gd} {W : WX} {C : Cf} {S : Stat} {sc sf : Scope} {X : Cx}
variable {ea eb ec : Expr} {ia ib ic : IE} {p pos : Pos} {x : Str}
/-! isinstance -/
theorem boot_ty (t : Ty) : bootBuiltins (tyNm t) = some (.type (tyS t)) := by cases t <;> decide +kernel
theorem ty_ne (t : Ty) : tyNm t ≠ "__name__" ∧ (tyNm t == ("__debug__" : Str)) = false := by cases t <;> decide +kernel
theorem pe_ty (hx : XOk G C S sc sf X) {t : Ty} {e : Expr} (h : tyE S sc t e = true) : PE X e (tC (.ty (tyS t))) ∧ pl e = true := by
  unfold tyE at h
  split at h
  · obtain ⟨rfl, hg, hm⟩ := hx.bi h
    exact ⟨pe_bltn hg hm (boot_ty t) rfl (ty_ne t).1 (ty_ne t).2, rfl⟩
  · cases h
theorem pa_tys (hx : XOk G C S sc sf X) : ∀ {ts : List Ty} {es : List Expr}, tyEs S sc ts es = true → PA X es (tTys ts)
  | [], [], _ => pa_nil
  | [], _ :: _, h => by cases h
  | _ :: _, [], h => by cases h
  | t :: ts, e :: es, h => by
    simp only [tyEs, Bool.and_eq_true] at h
    obtain ⟨h1, h2⟩ := pe_ty hx h.1
    exact pa_cons h1 (pa_tys hx h.2) (star_pl h2)
theorem isi_ne : ("isinstance" : Str) ≠ "__name__" ∧ (("isinstance" : Str) == ("__debug__" : Str)) = false := by decide +kernel
theorem se_isi1 (hx : XOk G C S sc sf X) {t : Ty} {et : Expr} (hb : biN S sc "isinstance" x = true) (hp : pl ea = true) (ht : tyE S sc t et = true) (a : SE G W C X ia ea) : SE G W C X (.isi [t] ia) (.Call (.Name x p) [ea, et] [] pos) := by
  obtain ⟨rfl, hg, hm⟩ := hx.bi hb
  obtain ⟨h1, h2⟩ := pe_ty hx ht
  refine .mkN rfl rfl (s_is1 (pe_callB (cr_is1 hx.ok t) hg hm boot_isinstance (pa_cons a.O (pa_cons h1 pa_nil (star_pl h2)) (star_pl hp)) isi_ne.1 isi_ne.2 (star_pl hp) (any_pl ?_))) (fun _ => rfl) fun _ => rfl
  simp [h2]
theorem se_isiN (hx : XOk G C S sc sf X) {ts : List Ty} {ets : List Expr} {k : Nat} {pt : Pos} (hb : biN S sc "isinstance" x = true) (hp : pl ea = true) (hl : ts.length ≤ 100) (ht : tyEs S sc ts ets = true) (a : SE G W C X ia ea) : SE G W C X (.isi ts ia) (.Call (.Name x p) [ea, .Tuple ets k pt] [] pos) := by
  obtain ⟨rfl, hg, hm⟩ := hx.bi hb
  refine .mkN rfl rfl (s_isT (by rw [sizeLine_eq]; omega) (pe_callB (cr_isN hx.ok ts) hg hm boot_isinstance (pa_cons a.O (pa_cons (pe_tup (pa_tys hx ht)) pa_nil (star_pl rfl)) (star_pl hp)) isi_ne.1 isi_ne.2 (star_pl hp) (any_pl rfl))) (fun _ => rfl) fun _ => rfl
/-! built-ins -/
theorem blt_of (ok : Ok0 G X) {b : Blt} (h1 : b ≠ .sortedR) (h2 : b ≠ .gcd) : ((∃ id, bootBuiltins (bltNm b) = some (.builtin id) ∧ CallR X (.builtin id) (rBlt G b)) ∨ ∃ T, bootBuiltins (bltNm b) = some (.type T) ∧ CallR X (.type T) (rBlt G b)) ∧
    bltNm b ≠ "__name__" ∧ (bltNm b == ("__debug__" : Str)) = false := by
  cases b with
  | len => exact ⟨.inl ⟨"len", by decide +kernel, cr_lenG ok⟩, by decide +kernel, by decide +kernel⟩
  | int => exact ⟨.inr ⟨"int", by decide +kernel, cr_any_of rfl (cr_int ok)⟩, by decide +kernel, by decide +kernel⟩
  | tuple => exact ⟨.inr ⟨"tuple", by decide +kernel, cr_any_of rfl (cr_tuple ok)⟩, by decide +kernel, by decide +kernel⟩
  | list => exact ⟨.inr ⟨"list", by decide +kernel, cr_any_of rfl (cr_list ok)⟩, by decide +kernel, by decide +kernel⟩
  | all => exact ⟨.inl ⟨"all", by decide +kernel, cr_any_of rfl (cr_allG ok)⟩, by decide +kernel, by decide +kernel⟩
  | any => exact ⟨.inl ⟨"any", by decide +kernel, cr_any_of rfl (cr_anyG ok)⟩, by decide +kernel, by decide +kernel⟩
  | sum => exact ⟨.inl ⟨"sum", by decide +kernel, cr_any_of rfl (cr_sumG ok)⟩, by decide +kernel, by decide +kernel⟩
  | abs => exact ⟨.inl ⟨"abs", by decide +kernel, cr_any_of rfl (cr_abs ok)⟩, by decide +kernel, by decide +kernel⟩
  | min2 => exact ⟨.inl ⟨"min", by decide +kernel, cr_any_of rfl (cr_min ok)⟩, by decide +kernel, by decide +kernel⟩
  | max2 => exact ⟨.inl ⟨"max", by decide +kernel, cr_any_of rfl (cr_max ok)⟩, by decide +kernel, by decide +kernel⟩
  | sorted => exact ⟨.inl ⟨"sorted", by decide +kernel, cr_any_of rfl (cr_sortedG ok)⟩, by decide +kernel, by decide +kernel⟩
  | repr => exact ⟨.inl ⟨"repr", by decide +kernel, cr_any_of rfl (cr_repr ok)⟩, by decide +kernel, by decide +kernel⟩
  | str => exact ⟨.inr ⟨"str", by decide +kernel, cr_any_of rfl (cr_strG ok)⟩, by decide +kernel, by decide +kernel⟩
  | sortedR => exact absurd rfl h1
  | gcd => exact absurd rfl h2
  | dictP => exact ⟨.inr ⟨"dict", by decide +kernel, cr_any_of rfl (cr_dictG ok)⟩, by decide +kernel, by decide +kernel⟩
theorem se_blt (hx : XOk G C S sc sf X) {b : Blt} (h1 : b ≠ .sortedR) (h2 : b ≠ .gcd) {es : List Expr} {ies : IEs} (hb : biN S sc (bltNm b) x = true) (hp : (ea :: es).all pl = true) (L : SL G W C X ies (ea :: es)) : SE G W C X (.blt b ies) (.Call (.Name x p) (ea :: es) [] pos) := by
  obtain ⟨rfl, hg, hm⟩ := hx.bi hb
  obtain ⟨hc, hn, hd⟩ := blt_of hx.ok h1 h2
  simp only [List.all_cons, Bool.and_eq_true] at hp
  refine .mkN rfl rfl (s_blt ?_) (fun _ => rfl) fun _ => rfl
  rcases hc with ⟨id, hv, hc⟩ | ⟨T, hv, hc⟩
  · exact pe_callB hc hg hm hv L.O hn hd (star_pl hp.1) (any_pl hp.2)
  · exact pe_callTy hc hg hm hv L.O hn hd (star_pl hp.1) (any_pl hp.2)
theorem se_gcd (hx : XOk G C S sc sf X) {es : List Expr} {ies : IEs} (h1 : Ev.gl sc x = true) (h2 : nmOk x = true) (h3 : S.gcds.contains x = true) (hp : (ea :: es).all pl = true) (L : SL G W C X ies (ea :: es)) : SE G W C X (.blt .gcd ies) (.Call (.Name x p) (ea :: es) [] pos) := by
  simp only [List.all_cons, Bool.and_eq_true] at hp
  refine .mkN rfl rfl (s_blt ⟨fun pins s σ H Q I h => wpAny_Call_Name_kw (ld_glob I (hx.gl h1) (hx.gcd x h3) ?_ (nm_in h2).1)⟩) (fun _ => rfl) fun _ => rfl
  exact PyProof.Rows.callWith_builtin1 (thn (L.O.run pos pins s σ H _ I h) fun us s1 ⟨vs, H1, I1, r1, q1⟩ => cr_any_of (b := .gcd) rfl (cr_gcdG hx.ok) pins s1 σ H1 vs us Q I1 r1 q1) (star_pl hp.1) (any_pl hp.2)
theorem srt_ne : ("sorted" : Str) ≠ "__name__" ∧ (("sorted" : Str) == ("__debug__" : Str)) = false := by decide +kernel
theorem se_srtR (hx : XOk G C S sc sf X) {ies : IEs} {kws : List Keyword} (hb : biN S sc "sorted" x = true) (hp : pl ea = true) (hk : revKw kws = true) (L : SL G W C X ies [ea]) : SE G W C X (.blt .sortedR ies) (.Call (.Name x p) [ea] kws pos) := by
  obtain ⟨rfl, hg, hm⟩ := hx.bi hb
  unfold revKw at hk
  split at hk
  case h_2 => cases hk
  rename_i a k1 p1 p2
  obtain rfl := eq_of_beq hk
  refine .mkN rfl rfl (s_blt (PE.imp (pe_callBK (ks := [Str.ofString "reverse"]) (cr_sortedRG hx.ok) hg hm (by decide +kernel) L.O (pk_cons pe_bl pk_nil) srt_ne.1 srt_ne.2 (by rw [star_pl hp]; rfl) (any_pl (by simp [hp])) rfl rfl rfl) fun σ H Q h => ?_)) (fun _ => rfl) fun _ => rfl
  obtain ⟨δ, gv, gt, A, q⟩ := h
  refine ⟨δ, gv, gt, A, ?_⟩
  cases e : opds C ies δ with
  | no => rw [e] at q; exact q
  | exn y δ1 => rw [e] at q; exact q
  | ok as δ1 =>
    rw [e] at q
    intro vs H1 A1 o
    have z := q vs H1 A1 o
    refine ⟨rfl, ?_⟩
    rcases z with z | ⟨z, _⟩
    · exact z
    · cases z
/-! calls -/
theorem tL_nil {σ : L2.St} {H : Hp} {Q : List V → Hp → Prop} (h : tL G W elA (sNil : List T → R (List A)) σ H Q) : tNil σ H Q := by
  obtain ⟨δ, gv, gt, A, q⟩ := h
  exact q [] H A .nil
theorem pe_swapK {e : Expr} {n m : Nat} {sp : SpG} {dvs : List V} {t tk tk' : TA} (h : PE X e (tCallG n m sp dvs t tk)) (k : ∀ σ H Q, tk' σ H Q → tk σ H Q) (mono : ∀ σ H Q Q', (∀ vs H, Q vs H → Q' vs H) → t σ H Q → t σ H Q') : PE X e (tCallG n m sp dvs t tk') :=
  PE.imp h fun σ H Q q => mono σ H _ _ (fun vs H1 z => k σ H1 _ z) q
theorem tL_mono {α : Type} {E : El α} {m : List T → R (List α)} (σ : L2.St) (H : Hp) (Q Q' : List V → Hp → Prop) (k : ∀ vs H, Q vs H → Q' vs H) (h : tL G W E m σ H Q) : tL G W E m σ H Q' := by
  obtain ⟨δ, gv, gt, A, q⟩ := h
  refine ⟨δ, gv, gt, A, ?_⟩
  cases e : m δ with
  | no => rw [e] at q; exact q
  | exn y δ1 => rw [e] at q; exact q
  | ok as δ1 => rw [e] at q; exact fun vs H1 A1 o => k _ _ (q vs H1 A1 o)
/-- keywords -/
structure SK (G : Gd) (W : WX) (C : Cf) (X : Cx) (ies : IEs) (kws : List Keyword) : Prop where
  K : PK X kws (tL G W elA (args C ies))
  len : ∀ δ as δ', args C ies δ = .ok as δ' → as.length = kws.length
  nil : kws = [] → ies = .nil
theorem PK.imp {es : List Keyword} {t t' : TA} (h : PK X es t) (k : ∀ σ H Q, t' σ H Q → t σ H Q) : PK X es t' := ⟨fun pos pins s σ H Q I q => h.run pos pins s σ H Q I (k σ H Q q)⟩
theorem sk_nil : SK G W C X .nil [] := ⟨PK.imp pk_nil fun σ H Q q => tL_nil q, fun δ as δ' h => by cases h; rfl, fun _ => rfl⟩
theorem sk_cons {e : Expr} {kws : List Keyword} {ie : IE} {ies : IEs} {nm : Option Str} {kp : Pos} (a : SE G W C X ie e) (b : SK G W C X ies kws) : SK G W C X (.cons ie ies) (⟨nm, e, kp⟩ :: kws) := by
  refine ⟨PK.imp (pk_cons a.A b.K) fun σ H Q ⟨δ, gv, gt, A, h⟩ => ?_, fun δ as δ' h => ?_, fun h => by cases h⟩
  · refine ⟨δ, gv, gt, A, (sCons_in (r := arg ie (den C ie)) (rs := args C ies) h).mono fun v H1 q => ?_⟩
    obtain ⟨a, δ1, A1, q⟩ := q
    exact ⟨δ1, v :: gv, elA.t a :: gt, A1, q⟩
  · obtain ⟨a', as', δ1, rfl, h2⟩ := sCons_len (r := arg ie (den C ie)) (rs := args C ies) h
    simp [b.len _ _ _ h2]
theorem kws_len : ∀ {kws : List Keyword} {ns : List Str}, kwNames kws = some ns → kws.length = ns.length
  | [], _, h => by cases h; rfl
  | ⟨none, _, _⟩ :: _, _, h => by cases h
  | ⟨some a, v, p⟩ :: ks, ns, h => by
    simp only [kwNames] at h
    split at h
    · rename_i r e
      cases h
      simp [kws_len e]
    · cases h
theorem se_call (hx : XOk G C S sc sf X) {f : Nat} {es : List Expr} {kws : List Keyword} {ies iks : IEs} {ns : List Str} (h1 : Ev.gl sc x = true) (h2 : nmOk x = true) (h3 : S.dfs.lookup x = some f) (h4 : (f, es.length, ns) ∈ S.shp) (h5 : kwNames kws = some ns) (hp : es.all pl = true) (hne : es ≠ [] ∨ kws ≠ [])
    (L : SL G W C X ies es) (K : SK G W C X iks kws) : SE G W C X (.call f ies iks) (.Call (.Name x p) es kws pos) := by
  obtain ⟨k, fa, fd, ps, dvs, ds, F, room, hm, hk, hb, hv, hd, hl⟩ := hx.dfs x f _ _ h3 h4
  have hlk := kws_len h5
  have hln : ns.length = kws.length := hlk.symm
  refine .mkN rfl rfl (s_call (n := es.length) (m := ns.length) (np := ps.length) (dvs := dvs) ?_ L.len (fun δ as δ' h => (K.len δ as δ' h).trans hlk) hd hl) (fun _ => rfl) fun _ => rfl
  obtain ⟨ka, kn, kf⟩ := kws_all (env := X.env) (pos := pos) h5
  cases es with
  | nil =>
    have hi : ies = .nil := L.lenO.mpr rfl
    subst hi
    refine PE.imp (pe_callGK0 F room hx.ok.hg (hx.gl h1) hm hk hb hv K.K ka kf (nm_in h2).1 ?_) fun σ H Q q => ?_
    · show (false || _) = false
      rw [kn]; rfl
    · exact tL_nil q
  | cons e es =>
    simp only [List.all_cons, Bool.and_eq_true] at hp
    cases kws with
    | nil =>
      have hi := K.nil rfl
      subst hi
      have hns : ns = [] := by cases ns; rfl; simp at hlk
      subst hns
      refine pe_swapK (pe_callG F room hx.ok.hg (hx.gl h1) hm hk hb hv L.A (nm_in h2).1 (star_pl hp.1) (any_pl hp.2)) (fun σ H Q q => tL_nil q) tL_mono
    | cons kw kws =>
      refine pe_callGK F room hx.ok.hg (hx.gl h1) hm hk hb hv L.A K.K ka kf (nm_in h2).1 (star_pl hp.1) ?_
      rw [kn, any_pl (by simp [hp])]
      rfl
/-! methods -/
theorem mN_nm (m : Mth) : mN m = mthNm m := by cases m <;> rfl
theorem few_pl {es : List Expr} (hp : es.all pl = true) (hl : es.length ≤ 20) : ((backTo pos (starEach es X.env)).all (fun x => !x.1) && (backToKw pos (keywordEach [] X.env)).all (fun x => x.1.isSome) && decide (es.length + ([] : List Keyword).length + (if ([] : List Keyword).isEmpty then 0 else 1) < 30)) = true := by
  rw [all_pl hp]
  show (true && true && _) = true
  simp
  omega
theorem se_mth (hx : XOk G C S sc sf X) {m : Mth} {eo : Expr} {io : IE} {es : List Expr} {ies : IEs} {apos : Pos} (hln : (apos.endLine == pos.line) = true) (hc : notCall eo = true) (hp : es.all pl = true) (h20 : es.length ≤ 20) (hne : isMut m = true ∨ es ≠ []) (o : SE G W C X io eo) (L : SL G W C X ies es) :
    SE G W C X (.mth m io ies) (.Call (.Attribute eo (mN m) apos) es [] pos) := by
  have mg : ∀ {to : TE} {t : TA} {e : Expr} {es' : List Expr}, es = e :: es' → PE X eo to → PA X es t → PE X (.Call (.Attribute eo (mN m) apos) es [] pos) (tMG X (mN m) to t) := by
    rintro to t e es' rfl ho ha
    have hp' := hp
    simp only [List.all_cons, Bool.and_eq_true] at hp'
    exact pe_mG ho ha (base_nc hc) (few_pl hp h20) hln (star_pl hp'.1) (any_pl hp'.2)
  have E : PE X (.Call (.Attribute eo (mN m) apos) es [] pos) (t1 G W elT (den C (.mth m io ies))) := by
    cases hmu : isMut m with
    | false =>
      cases es with
      | nil => rw [hmu] at hne; rcases hne with h | h; cases h; exact absurd rfl h
      | cons e es' => exact s_mth hx.ok hmu (mg rfl o.O L.O)
    | true =>
      refine s_mthU hmu ?_
      cases es with
      | nil =>
        have hi : ies = .nil := L.lenO.mpr rfl
        subst hi
        cases hnm : isNm io with
        | false => exact s_mutP0 hnm hx.ok (pe_mG0 o.Q (base_nc hc) hln)
        | true =>
          cases io with
          | v s => exact s_mutV0 hx.ok (pe_mG0 (o.V s rfl) (base_nc hc) hln)
          | _ => cases hnm
      | cons e es' =>
        cases hnm : isNm io with
        | false => exact s_mutP hnm hx.ok (mg rfl o.Q L.P)
        | true =>
          cases io with
          | v s => exact s_mutV hx.ok (mg rfl (o.V s rfl) L.L)
          | _ => cases hnm
  have P : PE X (.Call (.Attribute eo (mN m) apos) es [] pos) (tPur G C.gd (.mth m io ies)) := by
    match ies, L with
    | .cons ie .nil, L =>
      obtain ⟨e, rfl⟩ := L.pure1 ie rfl
      have pe := L.one e ie rfl rfl
      have hp' := hp
      simp only [List.all_cons, Bool.and_eq_true] at hp'
      exact p_mth hx.ok (mg rfl o.F (pa_cons pe pa_nil (star_pl hp'.1)))
    | .nil, _ => exact p_no fun _ => rfl
    | .cons _ (.cons _ _), _ => exact p_no fun _ => rfl
  exact .mkV rfl rfl E P fun _ => rfl
end
end Ev
set_option Elab.async false
set_option linter.all false
set_option maxRecDepth 100000
set_option maxHeartbeats 4000000
set_option autoImplicit false
/-! Snd37: what a checked text tells: ranges, walks, comprehensions; all of it. -/
namespace Ev
open PySem PySem.W PySem.Spec L2
open PyProof.Rows hiding St

section
variable {G : Gd} {W : WX} {C : Cf} {S : Stat} {sc sf : Scope} {X : Cx}
variable {ea eb ec : Expr} {ia ib ic : IE} {p pos : Pos} {x : Str}
theorem blt_ne {nm : Str} (h : nm = "list" ∨ nm = "tuple" ∨ nm = "range" ∨ nm = "zip" ∨ nm = "enumerate") : nm ≠ "__name__" ∧ (nm == ("__debug__" : Str)) = false := by
  rcases h with rfl | rfl | rfl | rfl | rfl <;> decide +kernel
/-! ranges as arguments -/
theorem rg1_of (hx : XOk G C S sc sf X) (hb : biN S sc "range" x = true) (hp : pl ea = true) (a : SE G W C X ia ea) : PRg X (.Call (.Name x p) [ea] [] pos) (tRgE G W (itm C (.rng1 ia)) (.Call (.Name x p) [ea] [] pos)) := by
  obtain ⟨rfl, hg, hm⟩ := hx.bi hb
  exact rg_1 (prg_1 hg hm a.E (star_pl hp))
theorem rg2_of (hx : XOk G C S sc sf X) (hb : biN S sc "range" x = true) (hp : pl ea = true) (hq : pl eb = true) (a : SE G W C X ia ea) (b : SE G W C X ib eb) : PRg X (.Call (.Name x p) [ea, eb] [] pos) (tRgE G W (itm C (.rng2 ia ib)) (.Call (.Name x p) [ea, eb] [] pos)) := by
  obtain ⟨rfl, hg, hm⟩ := hx.bi hb
  exact rg_2 (prg_2 hg hm a.E b.E (star_pl hp) (star_pl hq) (any_pl (by simp [hq])))
theorem se_lrng (hx : XOk G C S sc sf X) {e : Expr} {it : It} (hb : biN S sc "list" x = true) (hp : pl e = true) (h : PRg X e (tRgE G W (itm C it) e)) : SE G W C X (.lrng it) (.Call (.Name x p) [e] [] pos) := by
  obtain ⟨rfl, hg, hm⟩ := hx.bi hb
  exact .mkN rfl rfl (s_lrng (pe_listRg hx.ok.hc hg hm h (star_pl hp))) (fun _ => rfl) fun _ => rfl
theorem se_trng (hx : XOk G C S sc sf X) {e : Expr} {it : It} (hb : biN S sc "tuple" x = true) (hp : pl e = true) (h : PRg X e (tRgE G W (itm C it) e)) : SE G W C X (.trng it) (.Call (.Name x p) [e] [] pos) := by
  obtain ⟨rfl, hg, hm⟩ := hx.bi hb
  exact .mkN rfl rfl (s_trng (pe_tupRgD hx.ok.hc hg hm h (star_pl hp))) (fun _ => rfl) fun _ => rfl
/-! what is walked -/
theorem tL_two {ra rb : List T → R T} {σ : L2.St} {H : Hp} {Q : List V → Hp → Prop} (h : tCons (t1 G W elT ra) (tCons (t1 G W elT rb) tNil) σ H Q) : tCons (t1 G W elT ra) (tCons (t1 G W elT rb) tNil) σ H Q := h
theorem wk_seq (hx : XOk G C S sc sf X) {tg e : Expr} (a : SE G W C X ia e) : PI X tg e (iW G W false (itm C (.seq ia))) := w_seq hx.ok a.E
theorem wk_rng1 (hx : XOk G C S sc sf X) {tg : Expr} (hb : biN S sc "range" x = true) (hp : pl ea = true) (a : SE G W C X ia ea) : PI X tg (.Call (.Name x p) [ea] [] pos) (iW G W false (itm C (.rng1 ia))) := by
  obtain ⟨rfl, hg, hm⟩ := hx.bi hb
  exact w_rng1 (pi_range1 hg hm (pa_cons a.E pa_nil (star_pl hp)) (star_pl hp))
theorem wk_rng2 (hx : XOk G C S sc sf X) {tg : Expr} (hb : biN S sc "range" x = true) (hp : pl ea = true) (hq : pl eb = true) (a : SE G W C X ia ea) (b : SE G W C X ib eb) : PI X tg (.Call (.Name x p) [ea, eb] [] pos) (iW G W false (itm C (.rng2 ia ib))) := by
  obtain ⟨rfl, hg, hm⟩ := hx.bi hb
  exact w_rng2 (pi_range2 hg hm (pa_cons a.E (pa_cons b.E pa_nil (star_pl hq)) (star_pl hp)) (by rw [star_pl hp, star_pl hq]; rfl) (star_pl hq))
theorem wk_zip (hx : XOk G C S sc sf X) {es : List Expr} {k : Nat} {pt : Pos} (hb : biN S sc "zip" x = true) (hp : pl ea = true) (hq : pl eb = true) (a : SE G W C X ia ea) (b : SE G W C X ib eb) : PI X (.Tuple es k pt) (.Call (.Name x p) [ea, eb] [] pos) (iW G W true (itm C (.zip2 ia ib))) := by
  obtain ⟨rfl, hg, hm⟩ := hx.bi hb
  exact w_zip hx.ok.hK.symm (RZ.pi_zipA hg hm (pa_cons a.E (pa_cons b.E pa_nil (star_pl hq)) (star_pl hp)) (star_pl hp) (any_pl (by simp [hq])))
theorem wk_enm (hx : XOk G C S sc sf X) {es : List Expr} {k : Nat} {pt : Pos} (hb : biN S sc "enumerate" x = true) (hp : pl ea = true) (a : SE G W C X ia ea) : PI X (.Tuple es k pt) (.Call (.Name x p) [ea] [] pos) (iW G W true (itm C (.enm ia))) := by
  obtain ⟨rfl, hg, hm⟩ := hx.bi hb
  exact w_enm hx.ok.hK.symm (pi_enum hg hm (pa_cons a.E pa_nil (star_pl hp)) (star_pl hp))
/-! targets -/
mutual
theorem tg_of (hx : XOk G C S sc sf X) {okS : Nat → Bool} : ∀ (g : Tg) (e : Expr), ckTg S.N sf okS g e = true → PG X e (gT G (fun i => okS i = false) g)
  | .nm i, e, h => by
    unfold ckTg at h
    split at h
    · rename_i h1; cases h1
      simp only [Bool.and_eq_true] at h
      obtain ⟨z1, z2⟩ := hx.fn _ h.1.2
      have z3 := loc_in z1
      rw [← hx.hsc] at z3 z2
      exact g_nm (fun z => by rw [h.2] at z; cases z) (pg_name hx.nodup (by rw [hx.hN]; exact atN_in h.1.1) z3 z2)
    · rename_i h1; cases h1
    · cases h
  | .tup gs, e, h => by
    unfold ckTg at h
    split at h
    · rename_i h1; cases h1
    · rename_i h1; cases h1
      obtain ⟨z1, z2, z3⟩ := tgs_of hx gs _ h
      exact g_tupA hx.ok z1 z2 z3
    · cases h
theorem tgs_of (hx : XOk G C S sc sf X) {okS : Nat → Bool} : ∀ (gs : Tgs) (es : List Expr), ckTgs S.N sf okS gs es = true → PGs X es (gTs G (fun i => okS i = false) gs) ∧ (assignEach es X.env).length = tgsLen gs ∧ (assignEach es X.env).findIdx? (·.1) = none
  | .nil, es, h => by
    unfold ckTgs at h
    split at h
    · exact ⟨g_nil, rfl, rfl⟩
    · rename_i h1; cases h1
    · cases h
  | .cons g gs, es, h => by
    unfold ckTgs at h
    split at h
    · rename_i h1; cases h1
    · rename_i h1; cases h1
      simp only [Bool.and_eq_true] at h
      have t1 := tg_of hx g _ h.1.1
      obtain ⟨z1, z2, z3⟩ := tgs_of hx gs _ h.1.2
      refine ⟨g_cons t1 z1 (pgs_cons t1 z1 (by rw [asg_pl h.2]; rfl)), ?_, ?_⟩
      · rw [asg_pl h.2]
        show (assignEach _ X.env).length + 1 = _
        rw [z2]
        rfl
      · rw [asg_pl h.2, List.findIdx?_cons]
        simp [z3]
    · cases h
end
theorem wt_of (hx : XOk G C S sc sf X) {okS : Nat → Bool} {it : It} {tg : Tg} {e : Expr} (h : ckWt S.N sf okS it tg e = true) : PG X e (gW G (fun i => okS i = false) (pairIt it) tg) ∧ (pairIt it = true → ∃ gs, tg = .tup gs) ∧ (pairIt it = true → ∃ es k pt, e = .Tuple es k pt) := by
  unfold ckWt at h
  simp only [Bool.and_eq_true] at h
  cases hp : pairIt it with
  | false => exact ⟨tg_of hx tg e h.1, (fun z => by cases z), fun z => by cases z⟩
  | true =>
    rw [hp] at h
    cases tg with
    | nm i => simp [isTup] at h
    | tup gs =>
      have h1 := h.1
      unfold ckTg at h1
      split at h1
      · rename_i h2; cases h2
      · rename_i h2; cases h2
        obtain ⟨z1, z2, z3⟩ := tgs_of hx gs _ h1
        exact ⟨g_tuA hx.ok z1 z2 z3, fun _ => ⟨gs, rfl⟩, fun _ => ⟨_, _, _, rfl⟩⟩
      · cases h1
theorem wt_pr {N : List Str} {okS : Nat → Bool} {it : It} {tg : Tg} {e : Expr} (h : ckWt N sf okS it tg e = true) : pairIt it = true → ∃ gs, tg = .tup gs := fun z => by
  unfold ckWt at h
  simp only [Bool.and_eq_true] at h
  rw [z] at h
  cases tg with
  | nm i => simp [isTup] at h
  | tup gs => exact ⟨gs, rfl⟩
theorem ckWt_tup {N : List Str} {okS : Nat → Bool} {it : It} {tg : Tg} {e : Expr} (h : ckWt N sf okS it tg e = true) : pairIt it = true → ∃ es k pt, e = .Tuple es k pt := fun z => by
  obtain ⟨gs, rfl⟩ := wt_pr h z
  unfold ckWt at h
  simp only [Bool.and_eq_true] at h
  have h1 := h.1
  unfold ckTg at h1
  split at h1
  · rename_i h2; cases h2
  · exact ⟨_, _, _, rfl⟩
  · cases h1
theorem gW_congr {f g : Nat → Prop} (h : ∀ i, f i ↔ g i) : f = g := funext fun i => propext (h i)
theorem own_fx (own : List Nat) : (fun i => own.contains i = false) = fun i => i ∉ own := gW_congr fun i => by simp
/-- the tests of a clause -/
theorem ts_none : PTs X [] (tTs G W none) := pts_nil
theorem ts_some {e : Expr} (a : SE G W C X ia e) : PTs X [e] (tTs G W (some (den C ia))) := pts_one a.T
/-! comprehensions -/
theorem SE.mkC {ie : IE} {e : Expr} (n : isNm ie = false) (hv : valF e = true) (hE : PE X e (t1 G W elT (den C ie))) (hP : ∀ δ, pur C.gd δ ie = none) (hQ : ∀ δ, plc C.gd δ ie = none)
    (hZ : ∀ (i : Nat) (y : Str) (py spos : Pos), X.N[i]? = some y → X.env.scope.names.lookup y = some .local → swapsWith e (some (.Name y py)) spos.line X.env = pure true → PS X (.Assign [.Name y py] e spos) (tAsg (t1 G W elT (den C ie)) (gName i))) : SE G W C X ie e :=
  ⟨hE, s_opd n hE, s_arg n hE, t_valF hE hv, p_no hP, p_F n (p_no hP), q_no hQ, not_bool hv, (fun i h => by subst h; cases n), fun _ => hZ⟩
theorem se_lc (hx : XOk G C S sc sf X) {own : List Nat} {tg : Tg} {it : It} {cc : IEo} {eel etg eit : Expr} {ifs : List Expr} {scope : Scope} (hp : pl eit = true) (ho : (ownP S.N own).map (·.2) = own) (hb : blkC S.N sc scope (ownP S.N own) = true) (hi : PI X etg eit (iW G W (pairIt it) (itm C it)))
    (ht : ckWt S.N scope (fun i => own.contains i) it tg etg = true) (hE : ∀ Y, XOk G C S (relS scope sc) scope Y → SE G W C Y ia eel) (hC : ∀ Y, XOk G C S (relS scope sc) scope Y → PTs Y ifs (tTs G W (denc C cc))) :
    SE G W C X (.lc own ia tg it cc) (.ListComp eel [⟨etg, eit, ifs, 0⟩] scope pos) := by
  have bo : BlkOk X.N X.env.scope scope (ownP S.N own) := by rw [hx.hN, hx.hsc]; exact blkOk_by hb
  have bx : BlkCx X scope fun Y => XOk G C S (relS scope sc) scope Y := fun s H A cl fp => hx.blk bo.kind s H A cl fp
  have hpr := wt_pr ht
  have key : ∀ σ H Q, t1 G W elT (den C (.lc own ia tg it cc)) σ H Q → tLc (iW G W (pairIt it) (itm C it)) (gW G (fun i => own.contains i = false) (pairIt it) tg) (tTs G W (denc C cc)) (t1 G W elT (den C ia)) ((ownP S.N own).map (·.2)) σ H Q := fun σ H Q q => by
    rw [ho, own_fx]
    exact lc_in (wi := fun _ _ _ => True) hpr q
  refine .mkC rfl rfl (PE.imp (pe_lc hx.ok.hc hx.nodup hi bo (fun s H A cl fp => (wt_of (bx s H A cl fp) ht).1) (fun s H A cl fp => hC _ (bx s H A cl fp)) (fun s H A cl fp => (hE _ (bx s H A cl fp)).E) (fsi_pl hp _)) key) (fun _ => rfl) (fun _ => rfl) fun i y py spos hy hl hsw => ?_
  exact PS.imp (ps_setLc hx.ok.hc hx.nodup hy hl hsw hi bo (fun s H A cl fp => (wt_of (bx s H A cl fp) ht).1) (fun s H A cl fp => hC _ (bx s H A cl fp)) (fun s H A cl fp => (hE _ (bx s H A cl fp)).E) (fsi_pl hp _)) fun D σ H q => key σ H _ q
theorem se_lc2 (hx : XOk G C S sc sf X) {own : List Nat} {tg tg1 : Tg} {it it1 : It} {cc : IEo} {eel etg eit etg1 eit1 : Expr} {ifs : List Expr} {scope : Scope} (hp : pl eit = true) (hp1 : pl eit1 = true) (ho : (ownP S.N own).map (·.2) = own) (hb : blkC S.N sc scope (ownP S.N own) = true)
    (hi : PI X etg eit (iW G W (pairIt it) (itm C it))) (ht : ckWt S.N scope (fun i => own.contains i) it tg etg = true) (hv : (tgN tg1).all (fun i => own.contains i) = true) (hi1 : ∀ Y, XOk G C S (relS scope sc) scope Y → PI Y etg1 eit1 (iW G W (pairIt it1) (itm C it1)))
    (ht1 : ckWt S.N scope (fun i => (tgN tg1).contains i) it1 tg1 etg1 = true) (hE : ∀ Y, XOk G C S (relS scope sc) scope Y → SE G W C Y ia eel) (hC : ∀ Y, XOk G C S (relS scope sc) scope Y → PTs Y ifs (tTs G W (denc C cc))) :
    SE G W C X (.lc2 own ia tg it tg1 it1 cc) (.ListComp eel [⟨etg, eit, [], 0⟩, ⟨etg1, eit1, ifs, 0⟩] scope pos) := by
  have bo : BlkOk X.N X.env.scope scope (ownP S.N own) := by rw [hx.hN, hx.hsc]; exact blkOk_by hb
  have bx : BlkCx X scope fun Y => XOk G C S (relS scope sc) scope Y := fun s H A cl fp => hx.blk bo.kind s H A cl fp
  have hpr := wt_pr ht
  have hpr1 := wt_pr ht1
  have hv' : ∀ i ∈ tgN tg1, i ∈ own := fun i h => by simpa using List.all_eq_true.mp hv i h
  have key : ∀ σ H Q, t1 G W elT (den C (.lc2 own ia tg it tg1 it1 cc)) σ H Q → tLc2 (iW G W (pairIt it) (itm C it)) (gW G (fun i => own.contains i = false) (pairIt it) tg) tYes (iW G W (pairIt it1) (itm C it1)) (gW G (fun i => (tgN tg1).contains i = false) (pairIt it1) tg1) (tTs G W (denc C cc)) (t1 G W elT (den C ia)) ((ownP S.N own).map (·.2)) (tgN tg1) σ H Q := fun σ H Q q => by
    rw [ho, own_fx, own_fx]
    exact lc2_in hpr hpr1 hv' q
  refine .mkC rfl rfl (PE.imp (pe_lc2 (vs1 := tgN tg1) hx.ok.hc hx.nodup hi bo (fun i h => by rw [ho]; exact hv' i h) (fun s H A cl fp => (wt_of (bx s H A cl fp) ht).1) (fun s H A cl fp => pts_nil) (fun s H A cl fp => hi1 _ (bx s H A cl fp)) (fun s H A cl fp => (wt_of (bx s H A cl fp) ht1).1)
    (fun s H A cl fp => hC _ (bx s H A cl fp)) (fun s H A cl fp => (hE _ (bx s H A cl fp)).E) (fsi_pl hp _) (fsi_pl hp1)) key) (fun _ => rfl) (fun _ => rfl) fun i y py spos hy hl hsw => ?_
  exact PS.imp (ps_setLc2 (vs1 := tgN tg1) hx.ok.hc hx.nodup hy hl hsw hi bo (fun i h => by rw [ho]; exact hv' i h) (fun s H A cl fp => (wt_of (bx s H A cl fp) ht).1) (fun s H A cl fp => pts_nil) (fun s H A cl fp => hi1 _ (bx s H A cl fp)) (fun s H A cl fp => (wt_of (bx s H A cl fp) ht1).1)
    (fun s H A cl fp => hC _ (bx s H A cl fp)) (fun s H A cl fp => (hE _ (bx s H A cl fp)).E) (fsi_pl hp _) (fsi_pl hp1)) fun D σ H q => key σ H _ q
theorem se_dc (hx : XOk G C S sc sf X) {own : List Nat} {tg : Tg} {it : It} {cc : IEo} {ek ev etg eit : Expr} {ifs : List Expr} {scope : Scope} (hp : pl eit = true) (ho : (ownP S.N own).map (·.2) = own) (hb : blkC S.N sc scope (ownP S.N own) = true) (hi : PI X etg eit (iW G W (pairIt it) (itm C it)))
    (ht : ckWt S.N scope (fun i => own.contains i) it tg etg = true) (hE : ∀ Y, XOk G C S (relS scope sc) scope Y → SE G W C Y ia ek) (hV : ∀ Y, XOk G C S (relS scope sc) scope Y → SE G W C Y ib ev) (hC : ∀ Y, XOk G C S (relS scope sc) scope Y → PTs Y ifs (tTs G W (denc C cc))) :
    SE G W C X (.dc own ia ib tg it cc) (.DictComp ek ev [⟨etg, eit, ifs, 0⟩] scope pos) := by
  have bo : BlkOk X.N X.env.scope scope (ownP S.N own) := by rw [hx.hN, hx.hsc]; exact blkOk_by hb
  have bx : BlkCx X scope fun Y => XOk G C S (relS scope sc) scope Y := fun s H A cl fp => hx.blk bo.kind s H A cl fp
  have hpr := wt_pr ht
  have key : ∀ σ H Q, t1 G W elT (den C (.dc own ia ib tg it cc)) σ H Q → tDcG (iW G W (pairIt it) (itm C it)) (gW G (fun i => own.contains i = false) (pairIt it) tg) (tTs G W (denc C cc)) (t1 G W elT (den C ia)) (t1 G W elT (den C ib)) (rDs G) ((ownP S.N own).map (·.2)) σ H Q := fun σ H Q q => by
    rw [ho, own_fx]
    exact dc_in hpr q
  refine .mkC rfl rfl (PE.imp (pe_dcG hx.ok.hc hx.nodup hi bo (fun s H A cl fp => (wt_of (bx s H A cl fp) ht).1) (fun s H A cl fp => hC _ (bx s H A cl fp)) (fun s H A cl fp => (hE _ (bx s H A cl fp)).E) (fun s H A cl fp => (hV _ (bx s H A cl fp)).E) (fun s H A cl fp => ds_own (bx s H A cl fp).ok) (fsi_pl hp _)) key) (fun _ => rfl) (fun _ => rfl) fun i y py spos hy hl hsw => ?_
  exact PS.imp (ps_setDcG hx.ok.hc hx.nodup hy hl hsw hi bo (fun s H A cl fp => (wt_of (bx s H A cl fp) ht).1) (fun s H A cl fp => hC _ (bx s H A cl fp)) (fun s H A cl fp => (hE _ (bx s H A cl fp)).E) (fun s H A cl fp => (hV _ (bx s H A cl fp)).E) (fun s H A cl fp => ds_own (bx s H A cl fp).ok) (fsi_pl hp _)) fun D σ H q => key σ H _ q
end
end Ev
set_option Elab.async false
set_option linter.all false
set_option maxRecDepth 100000
set_option maxHeartbeats 4000000
set_option autoImplicit false
/-! Snd38: a checked expression says what its intermediate form says. -/
namespace Ev
open PySem PySem.W PySem.Spec L2
open PyProof.Rows hiding St

section
variable {G : Gd} {W : WX} {C : Cf} {S : Stat}
theorem nil_of {α : Type} {l : List α} (h : l.isEmpty = true) : l = [] := List.isEmpty_iff.mp h
mutual
theorem sE : ∀ (ie : IE) (e : Expr) (sc sf : Scope) (X : Cx), XOk G C S sc sf X → ckE S sc sf ie e = true → SE G W C X ie e
  | .bad, e, sc, sf, X, hx, h => se_bad
  | .v i, e, sc, sf, X, hx, h => by
    unfold ckE at h
    split at h
    · simp only [Bool.and_eq_true] at h
      exact se_v (hx.var h.1.1 h.1.2 h.2)
    · cases h
  | .mv i, e, sc, sf, X, hx, h => by
    unfold ckE at h
    split at h
    · simp only [Bool.and_eq_true] at h
      exact se_mv (hx.var h.1.1 h.1.2 h.2)
    · cases h
  | .k c, e, sc, sf, X, hx, h => by
    unfold ckE at h
    split at h
    · exact se_k h
    · cases h
  | .g i, e, sc, sf, X, hx, h => by
    unfold ckE at h
    split at h
    · simp only [Bool.and_eq_true] at h
      exact se_g hx h.1.1 h.1.2 (eq_of_beq h.2)
    · cases h
  | .fnv i, e, sc, sf, X, hx, h => by
    unfold ckE at h
    cases h
  | .bin op a b, e, sc, sf, X, hx, h => by
    unfold ckE at h
    split at h
    · simp only [Bool.and_eq_true] at h
      exact se_bin hx.ok h.1.1 (sE a _ sc sf X hx h.1.2) (sE b _ sc sf X hx h.2)
    · cases h
  | .neg a, e, sc, sf, X, hx, h => by
    unfold ckE at h
    split at h
    · exact se_neg (sE a _ sc sf X hx h)
    · cases h
  | .not a, e, sc, sf, X, hx, h => by
    unfold ckE at h
    split at h
    · exact se_not (sE a _ sc sf X hx h)
    · cases h
  | .and a b, e, sc, sf, X, hx, h => by
    unfold ckE at h
    split at h
    · simp only [Bool.and_eq_true] at h
      exact se_and (sE a _ sc sf X hx h.1) (sE b _ sc sf X hx h.2)
    · simp only [Bool.and_eq_true] at h
      exact se_and3 (sE a _ sc sf X hx h.1) (sE b _ sc sf X hx h.2)
    · cases h
  | .or a b, e, sc, sf, X, hx, h => by
    unfold ckE at h
    split at h
    · simp only [Bool.and_eq_true] at h
      exact se_or (sE a _ sc sf X hx h.1) (sE b _ sc sf X hx h.2)
    · simp only [Bool.and_eq_true] at h
      exact se_or3 (sE a _ sc sf X hx h.1) (sE b _ sc sf X hx h.2)
    · cases h
  | .ife c a b, e, sc, sf, X, hx, h => by
    unfold ckE at h
    split at h
    · simp only [Bool.and_eq_true] at h
      exact se_ife (sE c _ sc sf X hx h.1.1) (sE a _ sc sf X hx h.1.2) (sE b _ sc sf X hx h.2)
    · cases h
  | .cmp op a b, e, sc, sf, X, hx, h => by
    unfold ckE at h
    split at h
    · simp only [Bool.and_eq_true] at h
      exact se_cmp hx.ok h.1.1.1 h.1.1.2 (sE a _ sc sf X hx h.1.2) (sE b _ sc sf X hx h.2)
    · cases h
  | .chain o1 o2 a b c, e, sc, sf, X, hx, h => by
    unfold ckE at h
    split at h
    · simp only [Bool.and_eq_true] at h
      exact se_chain hx.ok h.1.1.1.1.1 h.1.1.1.1.2 h.1.1.1.2 (sE a _ sc sf X hx h.1.1.2) (sE b _ sc sf X hx h.1.2) (sE c _ sc sf X hx h.2)
    · cases h
  | .isN a, e, sc, sf, X, hx, h => by
    unfold ckE at h
    split at h
    · exact se_isN (sE a _ sc sf X hx h)
    · cases h
  | .notN a, e, sc, sf, X, hx, h => by
    unfold ckE at h
    split at h
    · exact se_notN (sE a _ sc sf X hx h)
    · cases h
  | .tup es, e, sc, sf, X, hx, h => by
    unfold ckE at h
    split at h
    · exact se_tup (sL es _ sc sf X hx h)
    · cases h
  | .lst es, e, sc, sf, X, hx, h => by
    unfold ckE at h
    split at h
    · exact se_lst (sL es _ sc sf X hx h)
    · cases h
  | .dct es, e, sc, sf, X, hx, h => by
    unfold ckE at h
    split at h
    · simp only [Bool.and_eq_true] at h
      exact se_dct hx.ok (Nat.le_of_ble_eq_true h.1) (sD es _ _ sc sf X hx h.2)
    · cases h
  | .idx a i, e, sc, sf, X, hx, h => by
    unfold ckE at h
    split at h
    · simp only [Bool.and_eq_true] at h
      exact se_idx hx.ok h.1.1 (sE a _ sc sf X hx h.1.2) (sE i _ sc sf X hx h.2)
    · cases h
  | .slc a lo hi, e, sc, sf, X, hx, h => by
    unfold ckE at h
    split at h
    · simp only [Bool.and_eq_true] at h
      exact se_slc hx.ok (sE a _ sc sf X hx h.1.1) (sO lo _ sc sf X hx h.1.2) (sO hi _ sc sf X hx h.2)
    · cases h
  | .rev a, e, sc, sf, X, hx, h => by
    unfold ckE at h
    split at h
    · exact se_rev hx.ok (sE a _ sc sf X hx h)
    · cases h
  | .isi ts a, e, sc, sf, X, hx, h => by
    unfold ckE at h
    split at h
    · simp only [Bool.and_eq_true] at h
      have ha := sE a _ sc sf X hx h.1.2
      have h2 := h.2
      split at h2
      · exact se_isi1 hx h.1.1.1 h.1.1.2 h2 ha
      · simp only [Bool.and_eq_true] at h2
        have h3 := h2.2
        split at h3
        · exact se_isiN hx h.1.1.1 h.1.1.2 (Nat.le_of_ble_eq_true h2.1) h3 ha
        · cases h3
    · cases h
  | .call f es ks, e, sc, sf, X, hx, h => by
    unfold ckE at h
    split at h
    · simp only [Bool.and_eq_true] at h
      obtain ⟨⟨⟨⟨⟨⟨⟨h1, h2⟩, h3⟩, h4⟩, h5⟩, h6⟩, h7⟩, h8⟩ := h
      split at h8
      · rename_i ns hn
        refine se_call hx h1 h2 (eq_of_beq h3) (by simpa using h8) hn h4 ?_ (sL es _ sc sf X hx h5) (sK ks _ sc sf X hx h6)
        simp only [Bool.not_eq_true', Bool.and_eq_false_iff] at h7
        rcases h7 with h7 | h7
        · exact .inl fun z => by rw [z] at h7; cases h7
        · exact .inr fun z => by rw [z] at h7; cases h7
      · cases h8
    · cases h
  | .blt b es, e, sc, sf, X, hx, h => by
    unfold ckE at h
    split at h
    · simp only [Bool.and_eq_true] at h
      obtain ⟨⟨h1, h2⟩, h3⟩ := h
      have L := sL es _ sc sf X hx h2
      split at h3
      · simp only [Bool.and_eq_true] at h3
        obtain ⟨⟨h4, h5⟩, h6⟩ := h3
        have := nil_of h5
        subst this
        simp only [List.all_cons, Bool.and_eq_true] at h1
        exact se_srtR hx h4 h1.1 h6 L
      · simp only [Bool.and_eq_true] at h3
        obtain ⟨⟨⟨h4, h5⟩, h6⟩, h7⟩ := h3
        have := nil_of h7
        subst this
        exact se_gcd hx h4 h5 h6 (by simpa using h1) L
      · rename_i hn1 hn2
        simp only [Bool.and_eq_true] at h3
        have := nil_of h3.2
        subst this
        exact se_blt hx hn1 hn2 h3.1 (by simpa using h1) L
    · cases h
  | .mth m o es, e, sc, sf, X, hx, h => by
    unfold ckE at h
    split at h
    · simp only [Bool.and_eq_true] at h
      obtain ⟨⟨⟨⟨⟨⟨⟨h1, h3⟩, h4⟩, h5⟩, h6⟩, h7⟩, h8⟩, h9⟩ := h
      have hn := eq_of_beq h1
      subst hn
      rw [← mN_nm]
      refine se_mth hx h3 h4 h5 (Nat.le_of_ble_eq_true h6) ?_ (sE o _ sc sf X hx h7) (sL es _ sc sf X hx h8)
      simp only [Bool.or_eq_true, Bool.not_eq_true'] at h9
      rcases h9 with h9 | h9
      · exact .inl h9
      · exact .inr fun z => by rw [z] at h9; cases h9
    · cases h
  | .lc own el tg it c, e, sc, sf, X, hx, h => by
    unfold ckE at h
    split at h
    · simp only [Bool.and_eq_true] at h
      obtain ⟨⟨⟨⟨⟨⟨h1, h2⟩, h3⟩, h4⟩, h5⟩, h6⟩, h7⟩ := h
      exact se_lc hx h1 (eq_of_beq h2) h3 (sI it _ _ sc sf X hx h4 (fun z => (ckWt_tup h5 z))) h5 (fun Y hY => sE el _ _ _ Y hY h6) (fun Y hY => sC c _ _ _ Y hY h7)
    · cases h
  | .lc2 own el tg it tg1 it1 c, e, sc, sf, X, hx, h => by
    unfold ckE at h
    split at h
    · simp only [Bool.and_eq_true] at h
      obtain ⟨⟨⟨⟨⟨⟨⟨⟨⟨⟨h1, h1'⟩, h2⟩, h3⟩, h4⟩, h5⟩, hv⟩, h6⟩, h7⟩, h8⟩, h9⟩ := h
      exact se_lc2 hx h1 h1' (eq_of_beq h2) h3 (sI it _ _ sc sf X hx h4 (fun z => (ckWt_tup h5 z))) h5 hv (fun Y hY => sI it1 _ _ _ _ Y hY h6 (fun z => (ckWt_tup h7 z))) h7 (fun Y hY => sE el _ _ _ Y hY h8) (fun Y hY => sC c _ _ _ Y hY h9)
    · cases h
  | .dc own ke ve tg it c, e, sc, sf, X, hx, h => by
    unfold ckE at h
    split at h
    · simp only [Bool.and_eq_true] at h
      obtain ⟨⟨⟨⟨⟨⟨⟨h1, h2⟩, h3⟩, h4⟩, h5⟩, h6⟩, h7⟩, h8⟩ := h
      exact se_dc hx h1 (eq_of_beq h2) h3 (sI it _ _ sc sf X hx h4 (fun z => (ckWt_tup h5 z))) h5 (fun Y hY => sE ke _ _ _ Y hY h6) (fun Y hY => sE ve _ _ _ Y hY h7) (fun Y hY => sC c _ _ _ Y hY h8)
    · cases h
  | .lrng it, e, sc, sf, X, hx, h => by
    unfold ckE at h
    split at h
    · simp only [Bool.and_eq_true] at h
      exact se_lrng hx h.1.1 h.1.2 (sR it _ sc sf X hx h.2)
    · cases h
  | .trng it, e, sc, sf, X, hx, h => by
    unfold ckE at h
    split at h
    · simp only [Bool.and_eq_true] at h
      exact se_trng hx h.1.1 h.1.2 (sR it _ sc sf X hx h.2)
    · cases h
theorem sL : ∀ (es : IEs) (l : List Expr) (sc sf : Scope) (X : Cx), XOk G C S sc sf X → ckEs S sc sf es l = true → SL G W C X es l
  | .nil, l, sc, sf, X, hx, h => by
    unfold ckEs at h
    have := nil_of h
    subst this
    exact sl_nil
  | .cons e es, l, sc, sf, X, hx, h => by
    unfold ckEs at h
    split at h
    · simp only [Bool.and_eq_true] at h
      exact sl_cons h.1.1 (sE e _ sc sf X hx h.1.2) (sL es _ sc sf X hx h.2)
    · cases h
theorem sK : ∀ (es : IEs) (l : List Keyword) (sc sf : Scope) (X : Cx), XOk G C S sc sf X → ckKs S sc sf es l = true → SK G W C X es l
  | .nil, l, sc, sf, X, hx, h => by
    unfold ckKs at h
    have := nil_of h
    subst this
    exact sk_nil
  | .cons e es, l, sc, sf, X, hx, h => by
    unfold ckKs at h
    split at h
    · simp only [Bool.and_eq_true] at h
      exact sk_cons (sE e _ sc sf X hx h.1) (sK es _ sc sf X hx h.2)
    · cases h
theorem sD : ∀ (es : IEs) (ks : List (Option Expr)) (vs : List Expr) (sc sf : Scope) (X : Cx), XOk G C S sc sf X → ckD S sc sf es ks vs = true → SD G W C X es ks vs
  | .nil, ks, vs, sc, sf, X, hx, h => by
    unfold ckD at h
    simp only [Bool.and_eq_true] at h
    have h1 := nil_of h.1
    have h2 := nil_of h.2
    subst h1 h2
    exact sd_nil
  | .cons k .nil, ks, vs, sc, sf, X, hx, h => by
    unfold ckD at h
    cases h
  | .cons k (.cons v es), ks, vs, sc, sf, X, hx, h => by
    unfold ckD at h
    simp only at h
    split at h
    · simp only [Bool.and_eq_true] at h
      exact sd_cons (sE k _ sc sf X hx h.1.1) (sE v _ sc sf X hx h.1.2) (sD es _ _ sc sf X hx h.2)
    · cases h
theorem sO : ∀ (o : IEo) (e : Option Expr) (sc sf : Scope) (X : Cx), XOk G C S sc sf X → ckO S sc sf o e = true → PO X e (tO G W (deno C o))
  | .no, e, sc, sf, X, hx, h => by
    unfold ckO at h
    cases e with
    | none => exact s_oNo
    | some _ => cases h
  | .yes ie, e, sc, sf, X, hx, h => by
    unfold ckO at h
    split at h
    · exact s_oYes (sE ie _ sc sf X hx h).E
    · cases h
theorem sC : ∀ (o : IEo) (l : List Expr) (sc sf : Scope) (X : Cx), XOk G C S sc sf X → ckC S sc sf o l = true → PTs X l (tTs G W (denc C o))
  | .no, l, sc, sf, X, hx, h => by
    unfold ckC at h
    have := nil_of h
    subst this
    exact ts_none
  | .yes ie, l, sc, sf, X, hx, h => by
    unfold ckC at h
    split at h
    · exact ts_some (sE ie _ sc sf X hx h)
    · cases h
theorem sI : ∀ (it : It) (tg e : Expr) (sc sf : Scope) (X : Cx), XOk G C S sc sf X → ckI S sc sf it e = true → (pairIt it = true → ∃ es k pt, tg = .Tuple es k pt) → PI X tg e (iW G W (pairIt it) (itm C it))
  | .seq a, tg, e, sc, sf, X, hx, h, ht => by
    unfold ckI at h
    exact wk_seq hx (sE a _ sc sf X hx h)
  | .rng1 a, tg, e, sc, sf, X, hx, h, ht => by
    unfold ckI at h
    split at h
    · simp only [Bool.and_eq_true] at h
      exact wk_rng1 hx h.1.1 h.1.2 (sE a _ sc sf X hx h.2)
    · cases h
  | .rng2 a b, tg, e, sc, sf, X, hx, h, ht => by
    unfold ckI at h
    split at h
    · simp only [Bool.and_eq_true] at h
      exact wk_rng2 hx h.1.1.1.1 h.1.1.1.2 h.1.1.2 (sE a _ sc sf X hx h.1.2) (sE b _ sc sf X hx h.2)
    · cases h
  | .zip2 a b, tg, e, sc, sf, X, hx, h, ht => by
    unfold ckI at h
    split at h
    · simp only [Bool.and_eq_true] at h
      obtain ⟨es, k, pt, rfl⟩ := ht rfl
      exact wk_zip hx h.1.1.1.1 h.1.1.1.2 h.1.1.2 (sE a _ sc sf X hx h.1.2) (sE b _ sc sf X hx h.2)
    · cases h
  | .enm a, tg, e, sc, sf, X, hx, h, ht => by
    unfold ckI at h
    split at h
    · simp only [Bool.and_eq_true] at h
      obtain ⟨es, k, pt, rfl⟩ := ht rfl
      exact wk_enm hx h.1.1 h.1.2 (sE a _ sc sf X hx h.2)
    · cases h
  | .items a, tg, e, sc, sf, X, hx, h, ht => by
    unfold ckI at h
    cases h
theorem sR : ∀ (it : It) (e : Expr) (sc sf : Scope) (X : Cx), XOk G C S sc sf X → ckR S sc sf it e = true → PRg X e (tRgE G W (itm C it) e)
  | .rng1 a, e, sc, sf, X, hx, h => by
    unfold ckR at h
    split at h
    · simp only [Bool.and_eq_true] at h
      exact rg1_of hx h.1.1 h.1.2 (sE a _ sc sf X hx h.2)
    · cases h
  | .rng2 a b, e, sc, sf, X, hx, h => by
    unfold ckR at h
    split at h
    · simp only [Bool.and_eq_true] at h
      exact rg2_of hx h.1.1.1.1 h.1.1.1.2 h.1.1.2 (sE a _ sc sf X hx h.1.2) (sE b _ sc sf X hx h.2)
    · cases h
  | .seq _, _, _, _, _, _, h => by
    unfold ckR at h
    cases h
  | .zip2 _ _, _, _, _, _, _, h => by
    unfold ckR at h
    cases h
  | .enm _, _, _, _, _, _, h => by
    unfold ckR at h
    cases h
  | .items _, _, _, _, _, _, h => by
    unfold ckR at h
    cases h
end
end
end Ev
set_option Elab.async false
set_option linter.all false
set_option maxRecDepth 100000
set_option maxHeartbeats 4000000
set_option autoImplicit false
/-! Snd39: checked statements. -/
namespace Ev
open PySem PySem.W PySem.Spec L2
open PyProof.Rows hiding St

section
variable {G : Gd} {W : WX} {C : Cf} {S : Stat} {sc : Scope} {X : Cx}
abbrev fxP (S : Stat) : Nat → Prop := fun i => (!(S.fx.contains i)) = false
theorem blockKind_of {env : Env} (hk : env.scope.kind = .function) : env.blockKind = .function := by unfold Env.blockKind; rw [hk]; rfl
/-! stores -/
theorem sw_name (hs : X.env.scope = sc) (hk : sc.kind = .function) {e : Expr} {t : Str} {p : Pos} {l : Nat} : swapsWith e (some (.Name t p)) l X.env = pure (swB sc e t p) := by
  have hb := blockKind_of (env := X.env) (by rw [hs]; exact hk)
  have ky : X.env.kindOf t = sc.names.lookup t := by show X.env.scope.names.lookup t = _; rw [hs]
  unfold swapsWith swB
  cases e <;> first | rfl | (simp only [hb, ky]; rfl)
theorem sw_other {e t : Expr} {l : Nat} {env : Env} (ht : ∀ x p, t ≠ .Name x p) : swapsWith e (some t) l env = pure false := by
  unfold swapsWith
  cases e <;> first | rfl | (cases t <;> first | rfl | exact absurd rfl (ht _ _))
theorem sw_otherS {e t : Expr} {l : Nat} {env : Env} (ht : ∀ x p, t ≠ .Name x p) : swapsWithSole [t] e l env = pure false := sw_other ht
theorem sw_nameS (hs : X.env.scope = sc) (hk : sc.kind = .function) {e : Expr} {t : Str} {p : Pos} {l : Nat} : swapsWithSole [.Name t p] e l X.env = pure (swB sc e t p) := sw_name (l := l) hs hk
theorem tup_nn {ts : List Expr} {k : Nat} {p : Pos} : ∀ x q, Expr.Tuple ts k p ≠ .Name x q := fun _ _ h => by cases h
theorem sub_nn {o i : Expr} {p : Pos} : ∀ x q, Expr.Subscript o i p ≠ .Name x q := fun _ _ h => by cases h
theorem fx_no {i : Nat} (h : (!(S.fx.contains i)) = true) : ¬ fxP S i := fun z => by
  have z : (!(S.fx.contains i)) = false := z
  rw [h] at z
  cases z
theorem sw_drop {e : Expr} {l : Nat} {env : Env} (h : isComp e = false) : swapsWith e none l env = pure false := by
  cases e <;> first | rfl | cases h
theorem sst_name {x : Str} {p : Pos} {e : Expr} {env : Env} : swappedStores [.Name x p] e env = pure none := by cases e <;> rfl
theorem sst_sub {o i : Expr} {p : Pos} {e : Expr} {env : Env} : swappedStores [.Subscript o i p] e env = pure none := by cases e <;> rfl
theorem sst_tup (hs : X.env.scope = sc) (hk : sc.kind = .function) {ts : List Expr} {k : Nat} {p : Pos} {e : Expr} {r : Option (List Str)} (h : swE sc ts e = some r) : swappedStores [.Tuple ts k p] e X.env = pure r := by
  have hb := blockKind_of (env := X.env) (by rw [hs]; exact hk)
  have ky : ∀ t, X.env.kindOf t = sc.names.lookup t := fun t => by show X.env.scope.names.lookup t = _; rw [hs]
  cases e with
  | Tuple vs k2 p2 =>
    have h : swS sc ts vs = some r := h
    unfold swS at h
    dsimp only at h
    unfold swappedStores
    simp only [ky, hb]
    have hz : (ScopeKind.function != ScopeKind.function) = false := rfl
    simp only [hz, Bool.or_false]
    split at h
    · rename_i h1
      cases h
      exact if_pos h1
    · rename_i h1
      refine (if_neg h1).trans ?_
      split at h
      · rename_i h2
        cases h
        exact if_pos h2
      · rename_i h2
        refine (if_neg h2).trans ?_
        split at h
        · rename_i h3
          cases h
          exact if_pos h3
        · rename_i h3
          refine (if_neg h3).trans ?_
          split at h
          · rename_i h4
            cases h
            exact if_pos h4
          · rename_i h4
            refine (if_neg h4).trans ?_
            split at h
            · cases h
            · rename_i h5
              cases h
              exact if_neg h5
  | _ =>
    cases h
    rfl
/-! names set -/
theorem gN_in {i : Nat} (hi : ¬ fxP S i) {v : V} {σ : L2.St} {H : Hp} {Q : L2.St → Hp → Prop} (h : gT G (fxP S) (.nm i) v σ H Q) : gName i v σ H Q := by
  obtain ⟨δ, gv, gt, t, δ', A, e, q⟩ := h
  have e : some (put δ i t) = some δ' := by simpa [bindT] using e
  cases e
  exact q _ (Fix.set hi) A.storeA
theorem ss_nm (hx : XOk G C S sc sc X) {i : Nat} {ie : IE} {x : Str} {p pos : Pos} {e : Expr} (h1 : atN S.N i x = true) (h2 : loc sc x = true) (h3 : (!(S.fx.contains i)) = true) (h4 : (!(swB sc e x p) || (isComp e && sc.names.lookup x == some .local)) = true) (a : SE G W C X ie e) :
    PS X (.Assign [.Name x p] e pos) (tSt G W (fxP S) (sSet (.nm i) (den C ie))) := by
  have hi : ¬ fxP S i := fx_no h3
  obtain ⟨z1, z2⟩ := hx.fn _ h2
  have z3 := loc_in z1
  rw [← hx.hsc] at z3 z2
  have hN : X.N[i]? = some x := by rw [hx.hN]; exact atN_in h1
  refine S_set ?_
  cases hw : swB sc e x p with
  | false => exact ps_asg a.E (g_nm hi (pg_name hx.nodup hN z3 z2)) (by rw [sw_nameS hx.hsc hx.kind, hw]) sst_name rfl
  | true =>
    rw [hw] at h4
    simp only [Bool.not_true, Bool.false_or, Bool.and_eq_true] at h4
    have hl : X.env.scope.names.lookup x = some .local := by rw [hx.hsc]; exact eq_of_beq h4.2
    refine PS.imp (a.Z h4.1 i x p pos hN hl (by rw [sw_name hx.hsc hx.kind, hw])) fun D σ H q => ?_
    exact t1_mono q fun v H1 z => gN_in hi z
theorem ss_tup (hx : XOk G C S sc sc X) {gs : Tgs} {ie : IE} {ts : List Expr} {k : Nat} {p pos : Pos} {e : Expr} (h1 : ckTgs S.N sc (fun i => !(S.fx.contains i)) gs ts = true) (h2 : swE sc ts e = some none) (a : SE G W C X ie e) :
    PS X (.Assign [.Tuple ts k p] e pos) (tSt G W (fxP S) (sSet (.tup gs) (den C ie))) := by
  obtain ⟨z1, z2, z3⟩ := tgs_of hx gs ts h1
  exact S_set (ps_asg a.E (g_tupA hx.ok z1 z2 z3) (sw_otherS tup_nn) (sst_tup hx.hsc hx.kind h2) rfl)
theorem nms_of : ∀ {gs : Tgs} {is : List Nat}, nmsOf gs = some is → gs = nms is
  | .nil, _, h => by cases h; rfl
  | .cons (.nm i) gs, is, h => by
    simp only [nmsOf] at h
    split at h
    · rename_i is' e
      cases h
      rw [nms_of e]
      rfl
    · cases h
  | .cons (.tup _) _, _, h => by simp [nmsOf] at h
theorem ckTgs_fx : ∀ {is : List Nat} {ts : List Expr} {N : List Str} {sf : Scope} {okS : Nat → Bool}, ckTgs N sf okS (nms is) ts = true → ∀ i ∈ is, okS i = true
  | [], _, _, _, _, _, i, h => by cases h
  | j :: is, ts, N, sf, okS, h, i, hi => by
    unfold nms ckTgs at h
    split at h
    · rename_i h1; cases h1
    · rename_i h1; cases h1
      simp only [Bool.and_eq_true] at h
      rcases List.mem_cons.mp hi with rfl | hi
      · have h1 := h.1.1
        unfold ckTg at h1
        split at h1
        · rename_i h2; cases h2
          simp only [Bool.and_eq_true] at h1
          exact h1.2
        · rename_i h2; cases h2
        · cases h1
      · exact ckTgs_fx h.1.2 i hi
    · cases h
theorem ss_sw (hx : XOk G C S sc sc X) {gs : Tgs} {is : List Nat} {ns : List Str} {ie : IE} {ts : List Expr} {k : Nat} {p pos : Pos} {e : Expr} (h1 : ckTgs S.N sc (fun i => !(S.fx.contains i)) gs ts = true) (h2 : swE sc ts e = some (some ns)) (h3 : nmsOf gs = some is) (h4 : is.length = ns.length)
    (h5 : (is.zip ns).all (fun p => atN S.N p.1 p.2 && (sc.names.lookup p.2 == some .local)) = true) (h6 : is.Nodup) (a : SE G W C X ie e) : PS X (.Assign [.Tuple ts k p] e pos) (tSt G W (fxP S) (sSet (.tup gs) (den C ie))) := by
  have hg := nms_of h3
  subst hg
  have e1 : (is.zip ns).map (·.1) = is := List.map_fst_zip (by omega)
  have e2 : (is.zip ns).map (·.2) = ns := List.map_snd_zip (by omega)
  have main := S_sw (fx := fxP S) (ts := ts) (k1 := k) (p1 := p) (pos := pos) hx.ok hx.nodup (ns := is.zip ns) a.E (by rw [e1]; exact h6) (fun q hq => ?_) (sw_otherS tup_nn) (by rw [e2]; exact sst_tup hx.hsc hx.kind h2)
  · rw [e1] at main
    exact main
  · have z := List.all_eq_true.mp h5 q hq
    simp only [Bool.and_eq_true] at z
    refine ⟨by rw [hx.hN]; exact atN_in z.1, by rw [hx.hsc]; exact eq_of_beq z.2, fx_no (ckTgs_fx h1 q.1 (List.of_mem_zip (a := q.1) (b := q.2) hq).1)⟩
/-! places set -/
theorem pg_subA (hx : XOk G C S sc sc X) {eo ei : Expr} {io ii : IE} {p : Pos} (hp : pl ei = true) (o : SE G W C X io eo) (i : SE G W C X ii ei) : PG X (.Subscript eo ei p) (gSub (tPlc G C.gd io) (tPur G C.gd ii) (rSub G)) := by
  refine pg_sub o.Q i.P (set_place hx.ok) fun v => ?_
  cases ei <;> first | rfl | cases hp
theorem lg_of (hx : XOk G C S sc sc X) : ∀ {gs : Lgs} {ts : List Expr}, ckLg S sc (fun i => !(S.fx.contains i)) gs ts = true → PGs X ts (gSt G C (fxP S) gs) ∧ (assignEach ts X.env).length = lgsLen gs ∧ (assignEach ts X.env).findIdx? (·.1) = none
  | .nil, ts, h => by
    unfold ckLg at h
    split at h
    · exact ⟨gs_nil, rfl, rfl⟩
    · rename_i h1; cases h1
    · rename_i h1; cases h1
    · cases h
  | .nm i gs, ts, h => by
    unfold ckLg at h
    split at h
    · rename_i h1; cases h1
    · rename_i h1; cases h1
      simp only [Bool.and_eq_true] at h
      obtain ⟨⟨⟨h1, h2⟩, h3⟩, h4⟩ := h
      obtain ⟨z1, z2, z3⟩ := lg_of hx h4
      obtain ⟨y1, y2⟩ := hx.fn _ h2
      have y3 := loc_in y1
      rw [← hx.hsc] at y3 y2
      refine ⟨gs_nm (fx_no h3) (pgs_cons (pg_name hx.nodup (by rw [hx.hN]; exact atN_in h1) y3 y2) z1 (by rw [asg_pl rfl]; rfl)), ?_, ?_⟩
      · rw [asg_pl rfl]
        show (assignEach _ X.env).length + 1 = _
        rw [z2]
        rfl
      · rw [asg_pl rfl, List.findIdx?_cons]
        simp [z3]
    · rename_i h1; cases h1
    · cases h
  | .sb io ii gs, ts, h => by
    unfold ckLg at h
    split at h
    · rename_i h1; cases h1
    · rename_i h1; cases h1
    · rename_i h1; cases h1
      simp only [Bool.and_eq_true] at h
      obtain ⟨⟨⟨⟨h1, h2⟩, h3⟩, h4⟩, h5⟩ := h
      obtain ⟨z1, z2, z3⟩ := lg_of hx h5
      have o : SE G (fun _ _ _ _ => True) C X io _ := sE io _ sc sc X hx h3
      have i : SE G (fun _ _ _ _ => True) C X ii _ := sE ii _ sc sc X hx h4
      refine ⟨gs_sb (pgs_cons (pg_subA hx h1 o i) z1 (by rw [asg_pl rfl]; rfl)), ?_, ?_⟩
      · rw [asg_pl rfl]
        show (assignEach _ X.env).length + 1 = _
        rw [z2]
        rfl
      · rw [asg_pl rfl, List.findIdx?_cons]
        simp [z3]
    · cases h
theorem ss_sets (hx : XOk G C S sc sc X) {gs : Lgs} {ies : IEs} {ts es : List Expr} {k1 k2 : Nat} {p1 p2 pos : Pos} (h1 : ckLg S sc (fun i => !(S.fx.contains i)) gs ts = true) (h2 : swS sc ts es = some none) (h3 : ts.length ≤ 100) (L : SL G W C X ies es) :
    PS X (.Assign [.Tuple ts k1 p1] (.Tuple es k2 p2) pos) (tSt G W (fxP S) (sSets C gs (dens C ies))) := by
  obtain ⟨z1, z2, z3⟩ := lg_of hx h1
  have hl : lgsLen gs ≤ sizeLine := by
    have : ∀ (ts : List Expr), (assignEach ts X.env).length = ts.length := by
      intro ts
      induction ts with
      | nil => rfl
      | cons t ts ih => cases t <;> (show (assignEach ts X.env).length + 1 = _; rw [ih]; rfl)
    rw [← z2, this, sizeLine_eq]
    omega
  exact S_sets (ps_asg (pe_tupD L.L) (pg_tup hx.ok.hc z1 z2 z3) (sw_otherS tup_nn) (sst_tup hx.hsc hx.kind (e := .Tuple es k2 p2) h2) rfl) hl
theorem ss_sub (hx : XOk G C S sc sc X) {eo ei e : Expr} {io ii ie : IE} {p pos : Pos} (hp : pl ei = true) (o : SE G W C X io eo) (i : SE G W C X ii ei) (a : SE G W C X ie e) : PS X (.Assign [.Subscript eo ei p] e pos) (tSt G W (fxP S) (sSub C io ii (den C ie))) :=
  S_sub (ps_asg a.E (pg_subA hx hp o i) (sw_otherS sub_nn) sst_sub rfl)
theorem ss_aug (hx : XOk G C S sc sc X) {i : Nat} {op : Op} {o : Operator} {ie : IE} {x : Str} {p pos : Pos} {e : Expr} (h1 : atN S.N i x = true) (h2 : loc sc x = true) (h3 : (!(S.fx.contains i)) = true) (h4 : (op = .add ∧ o = .Add) ∨ (op = .sub ∧ o = .Sub)) (a : SE G W C X ie e) :
    PS X (.AugAssign (.Name x p) o e pos) (tSt G W (fxP S) (sAug i op (den C ie))) := by
  have hi : ¬ fxP S i := fx_no h3
  obtain ⟨z1, z2⟩ := hx.fn _ h2
  have z3 := loc_in z1
  rw [← hx.hsc] at z3 z2
  have hN : X.N[i]? = some x := by rw [hx.hN]; exact atN_in h1
  rcases h4 with ⟨rfl, rfl⟩ | ⟨rfl, rfl⟩
  · exact S_aug hi op2_addI op2_addN (ps_aug hx.nodup hN z3 a.E ip_add z2)
  · exact S_aug hi op2_subI op2_subN (ps_aug hx.nodup hN z3 a.E ip_sub z2)
theorem ss_fr (hx : XOk G C S sc sc X) (hno : X.xe = fun _ _ => False) {tg : Tg} {it : It} {b : List T → RS} {etg eit : Expr} {body : List Stmt} {pos : Pos} (hp : pl eit = true) (hi : PI X etg eit (iW G W (pairIt it) (itm C it))) (ht : ckWt S.N sc (fun i => !(S.fx.contains i)) it tg etg = true) (hb : PSs X body (tSt G W (fxP S) b)) :
    PS X (.For etg eit body [] pos) (tSt G W (fxP S) (sFr tg (itm C it) b)) := by
  have own : PassesOwn (model X.prog X.w) X.A X.env X.xe := by rw [hno]; exact PassesOwn.never
  obtain ⟨z1, z2, _⟩ := wt_of hx ht
  cases hpr : pairIt it with
  | false =>
    rw [hpr] at z1 hi
    exact S_for (ps_for own hx.ok.hc hi z1 hb (fsi_pl hp _))
  | true =>
    obtain ⟨gs, rfl⟩ := z2 hpr
    rw [hpr] at z1 hi
    exact S_forP (ps_for own hx.ok.hc hi z1 hb (fsi_pl hp _))
theorem ss_ret {ie : IE} {e : Expr} {pos : Pos} (a : SE G W C X ie e) : PS X (.Return (some e) pos) (tSt G W (fxP S) (sRet ie (den C ie))) := by
  cases ie with
  | v i =>
    obtain hv := a.V i rfl
    have : PE X e (t1 G W elT (mMv i)) := PE.imp hv fun σ H Q ⟨δ, gv, gt, A, q⟩ => by
      unfold mMv at q
      split at q
      · exact q.elim
      · exact q.elim
      · rename_i t n e
        obtain ⟨v, hv, A'⟩ := A.take e n
        exact ⟨v, hv, q v H A' trivial⟩
    exact S_ret this
  | _ => exact S_ret a.E
mutual
theorem sS (hno : X.xe = fun _ _ => False) (hx : XOk G C S sc sc X) : ∀ (s : IS) (st : Stmt), ckS S sc s st = true → PS X st (tSt G W (fxP S) (exe C s))
  | .bad, st, h => S_no fun _ => rfl
  | .pass, st, h => by
    unfold ckS at h
    split at h
    · exact S_pass
    · cases h
  | .set (.nm i) e, st, h => by
    unfold ckS at h
    split at h
    · simp only [Bool.and_eq_true] at h
      exact ss_nm hx h.1.1.1.1 h.1.1.1.2 h.1.1.2 h.2 (sE e _ sc sc X hx h.1.2)
    · cases h
  | .set (.tup gs) e, st, h => by
    unfold ckS at h
    split at h
    · simp only [Bool.and_eq_true] at h
      have a := sE (W := W) e _ sc sc X hx h.1.2
      have h2 := h.2
      split at h2
      · rename_i h3
        exact ss_tup hx h.1.1 h3 a
      · rename_i ns h3
        split at h2
        · rename_i is h4
          simp only [Bool.and_eq_true, decide_eq_true_eq] at h2
          exact ss_sw hx h.1.1 h3 h4 (eq_of_beq h2.1.1) h2.1.2 h2.2 a
        · cases h2
      · cases h2
    · cases h
  | .sets gs es, st, h => by
    unfold ckS at h
    split at h
    · simp only [Bool.and_eq_true] at h
      have h2 := h.1.2
      split at h2
      · rename_i h3
        exact ss_sets hx h.1.1.1 h3 (Nat.le_of_ble_eq_true h.2) (sL es _ sc sc X hx h.1.1.2)
      · cases h2
    · cases h
  | .sub o i e, st, h => by
    unfold ckS at h
    split at h
    · simp only [Bool.and_eq_true] at h
      exact ss_sub hx h.1.1.1.1 (sE o _ sc sc X hx h.1.1.2) (sE i _ sc sc X hx h.1.2) (sE e _ sc sc X hx h.2)
    · cases h
  | .aug i op e, st, h => by
    unfold ckS at h
    split at h
    · simp only [Bool.and_eq_true] at h
      have h2 := h.1.2
      refine ss_aug hx h.1.1.1.1 h.1.1.1.2 h.1.1.2 ?_ (sE e _ sc sc X hx h.2)
      split at h2
      · exact .inl ⟨rfl, rfl⟩
      · exact .inr ⟨rfl, rfl⟩
      · cases h2
    · cases h
  | .ex e, st, h => by
    unfold ckS at h
    split at h
    · simp only [Bool.and_eq_true, Bool.not_eq_true'] at h
      exact S_ex (ps_expr (sE e _ sc sc X hx h.2).E (sw_drop h.1))
    · cases h
  | .ite c a b, st, h => by
    unfold ckS at h
    split at h
    · simp only [Bool.and_eq_true] at h
      exact S_ite (sE c _ sc sc X hx h.1.1).T (sSs hno hx a _ h.1.2) (sSs hno hx b _ h.2)
    · cases h
  | .fr tg it b, st, h => by
    unfold ckS at h
    split at h
    · simp only [Bool.and_eq_true] at h
      exact ss_fr hx hno h.1.1.1 (sI it _ _ sc sc X hx h.1.1.2 (fun z => ckWt_tup h.1.2 z)) h.1.2 (sSs hno hx b _ h.2)
    · cases h
  | .wh c b, st, h => by
    unfold ckS at h
    split at h
    · simp only [Bool.and_eq_true] at h
      have own : PassesOwn (model X.prog X.w) X.A X.env X.xe := by rw [hno]; exact PassesOwn.never
      exact S_wh (ps_while own (sE c _ sc sc X hx h.1).T (sSs hno hx b _ h.2))
    · cases h
  | .ret e, st, h => by
    unfold ckS at h
    split at h
    · exact ss_ret (sE e _ sc sc X hx h)
    · cases h
  | .retN, st, h => by
    unfold ckS at h
    split at h
    · exact S_retN
    · cases h
  | .brk, st, h => by
    unfold ckS at h
    split at h
    · exact S_brk
    · cases h
  | .cnt, st, h => by
    unfold ckS at h
    split at h
    · exact S_cnt
    · cases h
theorem sSs (hno : X.xe = fun _ _ => False) (hx : XOk G C S sc sc X) : ∀ (ss : ISs) (sts : List Stmt), ckSs S sc ss sts = true → PSs X sts (tSt G W (fxP S) (exes C ss))
  | .nil, sts, h => by
    unfold ckSs at h
    split at h
    · exact S_nil
    · rename_i h1; cases h1
    · cases h
  | .cons s ss, sts, h => by
    unfold ckSs at h
    split at h
    · rename_i h1; cases h1
    · rename_i h1; cases h1
      simp only [Bool.and_eq_true] at h
      exact S_cons (sS hno hx s _ h.1) (sSs hno hx ss _ h.2)
    · cases h
end
end
end Ev
set_option Elab.async false
set_option linter.all false
set_option maxRecDepth 100000
set_option maxHeartbeats 4000000
set_option autoImplicit false
/-! Snd40: all defs of a program, by the level of calls. -/
namespace Ev
open PySem PySem.W PySem.Spec L2
open PyProof.Rows hiding St

def fxOf : List Bool → Nat → List Nat
  | [], _ => []
  | b :: bs, i => if b then i :: fxOf bs (i + 1) else fxOf bs (i + 1)
theorem fxOf_mem : ∀ {bs : List Bool} {i j : Nat}, nth bs j = some true → i + j ∈ fxOf bs i
  | [], _, _, h => by simp [nth] at h
  | b :: bs, i, 0, h => by
    simp only [nth, Option.some.injEq] at h
    subst h
    simp [fxOf]
  | b :: bs, i, j + 1, h => by
    have h : nth bs j = some true := h
    have := fxOf_mem (i := i + 1) h
    have e : i + 1 + j = i + (j + 1) := by omega
    rw [e] at this
    unfold fxOf
    split
    · exact List.mem_cons_of_mem _ this
    · exact this
structure DefS where
  x : Str
  qual : Str
  params : Arguments
  body : List Stmt
  scope : Scope
  dvs : List V
  kws : List (Str × V)
  fa : Addr
  fd : FuncData
  ps : List Str
  N : List Str
  deriving Inhabited
section
variable {G : Gd} {mg : Str → Option Value} {base : Heap} {P : Prog} {S0 : Stat} {Ds : Nat → DefS}
def statOf (S0 : Stat) (F : Fn) (D : DefS) : Stat := ⟨D.N, fxOf F.lent 0, S0.con, S0.dfs, S0.shp, S0.bln, S0.gcds⟩
structure DefOk (G : Gd) (S0 : Stat) (F : Fn) (D : DefS) : Prop where
  fund : FunD G.K D.x D.qual D.params D.body D.scope D.dvs D.kws D.fa D.fd
  fsc : FnScope D.N D.ps D.scope
  np : F.np = D.ps.length
  ns : F.ns = D.N.length
  ck : ckSs (statOf S0 F D) D.scope F.body D.body = true
structure PgOk (G : Gd) (mg : Str → Option Value) (P : Prog) (S0 : Stat) (Ds : Nat → DefS) : Prop where
  def' : ∀ j F, nth P.fns j = some F → DefOk G S0 F (Ds j)
  con : ∀ x i, S0.con.lookup x = some i → ∃ u v d, mg x = some u ∧ RelV v u ∧ nth P.gd i = some d ∧ ∀ H O, Rep G H O v d
  dfs : ∀ x f n ns, S0.dfs.lookup x = some f → (f, n, ns) ∈ S0.shp → (∃ F, nth P.fns f = some F) ∧ mg x = some (.ref (Ds f).fa) ∧ ∃ dvs ds, BindsG G.K (Ds f).fd (Ds f).ps n ns ds ∧ Vals dvs ds ∧ (∀ H O, Reps G H O dvs (P.df f (n + ns.length))) ∧ n + ns.length + dvs.length = (Ds f).ps.length
  bln : ∀ x, S0.bln.contains x = true → mg x = none
  gcd : ∀ x, S0.gcds.contains x = true → mg x = some (.builtin "math.gcd")
theorem Hold.swapB {H : Hp} {a b : List V} {a' b' : List T} (h : Hold G H (a ++ b) (a' ++ b')) (ha : a.length = a'.length) (hb : b.length = b'.length) : Hold G H (b ++ a) (b' ++ a') := by
  have := Hold.perm (a := []) (a' := []) (d := []) (d' := []) (by simpa using h) rfl ha hb
  simpa using this
theorem Hold.uns {H : Hp} {vs ws : List V} {ts : List T} (h : Hold G H vs ts) : Hold G H (ws ++ vs) (List.replicate ws.length .un ++ ts) := by
  obtain ⟨O, nd, r⟩ := h
  refine ⟨O, nd, ?_⟩
  induction ws with
  | nil => exact r
  | cons w ws ih => exact .cons (f := []) .un ih
theorem start_sv {N : List Str} {vs : List V} : sv (L2.start N vs) = vs ++ List.replicate (N.length - vs.length) .non := by
  unfold sv L2.start
  rw [List.map_append, List.map_map, List.map_replicate]
  have : List.map ((fun o : Option V => o.getD V.non) ∘ some) vs = vs := by
    induction vs with
    | nil => rfl
    | cons v vs ih => rw [List.map_cons, ih]; rfl
  rw [this]
  rfl
/-- a def's frame at its entry -/
theorem start_at {H : Hp} {N : List Str} {vs gv : List V} {ts gt : List T} (h : Hold G H (vs ++ gv) (ts ++ gt)) (l : vs.length = ts.length) (lg : gv.length = gt.length) (hN : vs.length ≤ N.length) :
    At G (L2.start N vs) H (ts ++ List.replicate (N.length - ts.length) .un) gv gt := by
  refine ⟨⟨by unfold L2.start; simp [l], fun i t e n => ?_⟩, lg, ?_⟩
  · rw [nth_eq] at e
    by_cases hi : i < vs.length
    · exact ⟨vs[i], by unfold L2.start; rw [List.getElem?_append_left (by simpa using hi)]; simp [hi]⟩
    · rw [List.getElem?_append_right (by omega)] at e
      have := List.getElem?_eq_some_iff.mp e
      obtain ⟨h1, h2⟩ := this
      rw [List.getElem_replicate] at h2
      exact absurd h2.symm n
  · rw [start_sv]
    have h1 := Hold.swapB h l lg
    have h2 := Hold.uns (ws := List.replicate (N.length - vs.length) V.non) h1
    have h3 : Hold G H ((gv ++ vs) ++ List.replicate (N.length - vs.length) V.non) ((gt ++ ts) ++ List.replicate (N.length - vs.length) T.un) := by
      have := Hold.swapB h2 (by simp) (by simp [l, lg])
      simpa using this
    rw [l] at h3 ⊢
    simpa using h3
theorem keepL_len : ∀ (fl : List Bool) (ts : List T), (keepL fl ts).length = ts.length
  | _, [] => by simp [keepL]
  | fl, t :: ts => by
    show (keepL fl.tail ts).length + 1 = _
    rw [keepL_len fl.tail ts]
    rfl
theorem keepL_at : ∀ (fl : List Bool) (ts : List T) (i : Nat) (t : T), nth (keepL fl ts) i = some t → t ≠ .un → nth ts i = some t ∧ nth fl i = some true
  | _, [], i, t, h, n => by simp [keepL, nth] at h
  | fl, u :: ts, 0, t, h, n => by
    cases fl with
    | nil =>
      have h : some T.un = some t := h
      cases h
      exact absurd rfl n
    | cons b fl =>
      cases b with
      | true =>
        have h : some u = some t := h
        exact ⟨h, rfl⟩
      | false =>
        have h : some T.un = some t := h
        cases h
        exact absurd rfl n
  | fl, u :: ts, i + 1, t, h, n => by
    have h : nth (keepL fl.tail ts) i = some t := h
    obtain ⟨h1, h2⟩ := keepL_at fl.tail ts i t h n
    refine ⟨h1, ?_⟩
    cases fl with
    | nil => simp [nth] at h2
    | cons b fl => exact h2
/-- a row in which some trees are forgotten -/
theorem RepTs.forget {H : Hp} {O : List Addr} : ∀ {ts us : List T} {vs : List V} {f : List Addr}, RepTs G H O vs ts f → ts.length = us.length → (∀ i t, nth us i = some t → t ≠ .un → nth ts i = some t) → ∃ g, g.Sublist f ∧ RepTs G H O vs us g
  | [], [], _, _, h, _, _ => ⟨_, List.Sublist.refl _, h⟩
  | [], _ :: _, _, _, _, l, _ => by simp at l
  | _ :: _, [], _, _, _, l, _ => by simp at l
  | t :: ts, u :: us, _, _, .cons (f := f) (g := g) h1 h2, l, k => by
    obtain ⟨g', s', r'⟩ := RepTs.forget h2 (by simpa using l) fun i t e n => k (i + 1) t e n
    by_cases n : u = .un
    · subst n
      exact ⟨g', (s'.trans (List.sublist_append_right _ _)), .cons (f := []) .un r'⟩
    · have := k 0 u rfl n
      cases this
      exact ⟨_, List.Sublist.append (List.Sublist.refl _) s', .cons h1 r'⟩
theorem RepTs.sub {H : Hp} {O O' : List Addr} {vs : List V} {ts : List T} {f : List Addr} (h : RepTs G H O vs ts f) (s : ∀ a ∈ O', a ∈ O) : RepTs G H O' vs ts f := h.up (.less s) fun _ _ => rfl
theorem Hold.forget {H : Hp} {vs : List V} {ts us : List T} (h : Hold G H vs ts) (l : ts.length = us.length) (k : ∀ i t, nth us i = some t → t ≠ .un → nth ts i = some t) : Hold G H vs us := by
  obtain ⟨O, nd, r⟩ := h
  obtain ⟨g, s, r'⟩ := r.forget l k
  exact ⟨g, nd.sublist s, r'.sub fun a ha => s.subset ha⟩
theorem Hold.swapV {H : Hp} {vs ws : List V} {ts : List T} (h : Hold G H vs ts) (l : vs.length = ws.length) (k : ∀ i t, nth ts i = some t → t ≠ .un → vs[i]? = ws[i]?) : Hold G H ws ts := by
  obtain ⟨O, nd, r⟩ := h
  exact ⟨O, nd, r.swapV l k⟩
/-- a def's frame at its end: what was lent comes back -/
theorem end_hold {H : Hp} {N : List Str} {vs : List V} {σ' : L2.St} {δ : List T} {gv0 : List V} {gt0 : List T} {fl : List Bool} (A : At G σ' H δ gv0 gt0) (hN : vs.length ≤ N.length) (f : Fix (fxP ⟨N, fxOf fl 0, [], [], [], [], []⟩) (L2.start N vs) σ') :
    Hold G H (gv0 ++ vs) (gt0 ++ keepL fl (δ.take vs.length)) := by
  have hl : σ'.length = N.length := by rw [f.1]; unfold L2.start; simp; omega
  have hd : δ.length = N.length := by rw [← A.env.len]; exact hl
  have h1 : Hold G H (gv0 ++ ((sv σ').take vs.length ++ (sv σ').drop vs.length)) (gt0 ++ (δ.take vs.length ++ δ.drop vs.length)) := by
    rw [List.take_append_drop, List.take_append_drop]
    exact A.hold
  have lt : ((sv σ').take vs.length).length = (δ.take vs.length).length := by simp [sv_len, hl, hd]
  have h2 : Hold G H (gv0 ++ (sv σ').take vs.length) (gt0 ++ δ.take vs.length) := by
    have := Hold.drop (a := gv0 ++ (sv σ').take vs.length) (a' := gt0 ++ δ.take vs.length) (b := (sv σ').drop vs.length) (b' := δ.drop vs.length) (c := []) (c' := []) (by simpa using h1) (by simp [A.len, sv_len, hl, hd]) (by simp [sv_len, hl, hd])
    simpa using this
  have key : ∀ i t, nth (keepL fl (δ.take vs.length)) i = some t → t ≠ .un → nth (δ.take vs.length) i = some t ∧ nth fl i = some true := fun i t e n => keepL_at fl _ i t e n
  have h3 : Hold G H (gv0 ++ (sv σ').take vs.length) (gt0 ++ keepL fl (δ.take vs.length)) := by
    refine h2.forget (by simp [keepL_len]) fun i t e n => ?_
    rw [nth_eq] at e ⊢
    by_cases hi : i < gt0.length
    · rw [List.getElem?_append_left hi] at e ⊢
      exact e
    · rw [List.getElem?_append_right (by omega)] at e ⊢
      have := (key (i - gt0.length) t (by rw [nth_eq]; exact e) n).1
      rwa [nth_eq] at this
  refine h3.swapV (by simp [sv_len, hl]; omega) fun i t e n => ?_
  rw [nth_eq] at e
  have hg := A.len
  by_cases hi : i < gv0.length
  · rw [List.getElem?_append_left hi, List.getElem?_append_left hi]
  · rw [List.getElem?_append_right (by omega)] at e
    rw [List.getElem?_append_right (by omega), List.getElem?_append_right (by omega)]
    rw [← hg] at e
    have hk := key (i - gv0.length) t (by rw [nth_eq]; exact e) n
    have hlt : i - gv0.length < vs.length := by
      have := nth_lt hk.1
      simp at this
      omega
    rw [List.getElem?_take_of_lt hlt]
    have hfx := f.2 (i - gv0.length) (by
      have := fxOf_mem (i := 0) hk.2
      rw [Nat.zero_add] at this
      show (!((fxOf fl 0).contains (i - gv0.length))) = false
      simpa using this)
    unfold sv
    rw [List.getElem?_map, hfx]
    unfold L2.start
    rw [List.getElem?_append_left (by simpa using hlt)]
    simp [hlt]
/-- all defs, at each level -/
theorem fns_ok (ok : PgOk G mg P S0 Ds) : ∀ (k j : Nat) (F : Fn), nth P.fns j = some F → FnG G.P G.w G.K mg base k (Ds j).fa (Ds j).fd (Ds j).ps (spF G F.np (P.call k j))
  | 0, j, F, hF => by
    have d := ok.def' j F hF
    refine ⟨fun vs H Q ⟨ts, gv, gt, lv, _⟩ => lv.trans d.np, fun A outer s H args us vs Q hr hg e0 bd rv ⟨ts, gv, gt, lv, lt, lg, hh, z⟩ => ?_⟩
    exact z.elim
  | k + 1, j, F, hF => by
    have d := ok.def' j F hF
    refine fnG_of d.fund d.fsc (fun vs H Q ⟨ts, gv, gt, lv, _⟩ => lv.trans d.np) fun cdv A outer s H vs Q room hg hsp => ?_
    obtain ⟨ts, gv, gt, lv, lt, lg, hh, z⟩ := hsp
    have hx : XOk G ⟨P.call k, P.gd, P.fl, P.df, P.wf⟩ (statOf S0 F (Ds j)) (Ds j).scope (Ds j).scope (cxG G.P G.w G.K mg base (Ds j).N (Ds j).qual (Ds j).scope (Ds j).fa cdv A outer s H) := by
      refine ⟨⟨rfl, rfl, rfl, ?_, rfl, hg⟩, rfl, d.fsc.nd, rfl, d.fsc.kind, fun x hx => ⟨hx, .inl rfl⟩, ok.con, fun x f n ns h1 h2 => ?_, ok.bln, ok.gcd⟩
      · have := room.un
        show (A.deeper _).units + 80 < cLine
        omega
      · obtain ⟨⟨Ff, hFf⟩, hm, dvs, ds, hb, hv, hd, hl⟩ := ok.dfs x f n ns h1 h2
        have Fk := fns_ok ok k f Ff hFf
        have df := ok.def' f Ff hFf
        rw [df.np] at Fk
        exact ⟨k, (Ds f).fa, (Ds f).fd, (Ds f).ps, dvs, ds, Fk, room, hm, df.fund.kp, hb, hv, hd, hl⟩
    refine ⟨_, sSs (W := fun _ _ _ _ => False) rfl hx F.body (Ds j).body d.ck, ?_⟩
    have hpl : (Ds j).ps.length ≤ (Ds j).N.length := by
      have := congrArg List.length d.fsc.pre
      rw [List.length_take] at this
      omega
    have hvn : vs.length ≤ (Ds j).N.length := by rw [lv, d.np]; exact hpl
    have A0 : At G (L2.start (Ds j).N vs) H (ts ++ List.replicate (F.ns - F.np) .un) gv gt := by
      have := start_at (N := (Ds j).N) hh (lv.trans lt.symm) lg hvn
      rw [d.ns, ← lt]
      exact this
    refine ⟨_, gv, gt, A0, ?_⟩
    have z0 : (match runFn ⟨P.call k, P.gd, P.fl, P.df, P.wf⟩ F ts with
      | .ok t us => ∀ v H', Hold G H' (v :: (vs ++ gv)) (t :: (us ++ gt)) → Q v H'
      | _ => False) := by
      have e : P.call (k + 1) j ts = runFn ⟨P.call k, P.gd, P.fl, P.df, P.wf⟩ F ts := by
        show (match nth P.fns j with
          | some F => runFn ⟨P.call k, P.gd, P.fl, P.df, P.wf⟩ F ts
          | none => .no) = _
        rw [hF]
      rw [← e]
      exact z
    unfold runFn at z0
    rw [if_pos (by simpa using lt)] at z0
    have fin : ∀ {σ' : L2.St} {H' : Hp} {δ : List T} {v : V} {t : T}, Fix (fxP (statOf S0 F (Ds j))) (L2.start (Ds j).N vs) σ' → At G σ' H' δ (v :: gv) (t :: gt) → Hold G H' (v :: (vs ++ gv)) (t :: (keepL F.lent (δ.take F.np) ++ gt)) := fun {σ' H' δ v t} f A' => by
      have h1 := end_hold (fl := F.lent) A' hvn f
      rw [lv] at h1
      have lk : vs.length = (keepL F.lent (δ.take F.np)).length := by
        have hd : δ.length = (Ds j).N.length := by
          rw [← A'.env.len, f.1]
          unfold L2.start
          simp
          omega
        rw [keepL_len, List.length_take, hd, lv]
        have := d.np
        omega
      have := Hold.perm (a := [v]) (a' := [t]) (b := gv) (b' := gt) (c := vs) (c' := keepL F.lent (δ.take F.np)) (d := []) (d' := []) (by simpa using h1) rfl lg lk
      simpa using this
    cases e : exes ⟨P.call k, P.gd, P.fl, P.df, P.wf⟩ F.body (ts ++ List.replicate (F.ns - F.np) .un) with
    | nx δ =>
      rw [e] at z0
      intro σ' H' f A'
      exact z0 _ _ (fin f (A'.pushD (v := .non) (x := .none) fun O _ _ => .non))
    | ret t δ =>
      rw [e] at z0
      intro v σ' H' f A'
      exact z0 _ _ (fin f A')
    | bk δ => rw [e] at z0; exact z0.elim
    | ct δ => rw [e] at z0; exact z0.elim
    | exn x δ => rw [e] at z0; exact z0.elim
    | no => rw [e] at z0; exact z0.elim
end
end Ev
set_option Elab.async false
set_option linter.all false
set_option maxRecDepth 100000
set_option maxHeartbeats 4000000
set_option autoImplicit false
/-! Snd41: a law's end. -/
namespace Ev
open PySem PySem.W PySem.Spec L2
open PyProof.Rows hiding St

theorem law_callG {P : Program} {w : World} {K : PySem.W.Frag} {mg mb : Str → Option Value} {k : Nat} {fa a : Addr} {fd : FuncData} {x : Str} {sp : SpG} {s₁ : Shared} {vs : List Value} {ns : List Int}
    (KX : K.In s₁.heap) (hns : s₁.heap.Ns mainGlobals mg) (hb : s₁.heap.Ns builtinsNs mb) (hbb : ∀ x : Str, x ≠ "__name__" → mb x = bootBuiltins x) (hlim : s₁.heap.NoLimit) (hg : s₁.gens = #[])
    (ha : s₁.heap.get? a = some { cls := .type "list", data := .seq vs.toArray }) (hi : IntsAre vs ns) (hl : ns.length ≤ sizeLine) (hr : Room k callerA)
    (F : ∀ base : Heap, K.In base → base.Ns mainGlobals mg → FnG P w K mg base k fa fd [x] sp) (hbind : ∀ (s : Shared) (u : Value), BindsTo s fd ⟨[u], []⟩ [(x, u)])
    (hsp : ∀ H : Hp, SqZ K H a (ns.map V.int) → sp [.ref a] H fun v _ => v = .bl true) :
    codeAny (model P w) callerA (.call (.ref fa) ⟨[.ref a], []⟩) (fun r s' => r = .ok (.ret (.bool true)) ∧ OldK s₁.heap s'.heap ∧ s'.os = s₁.os ∧ AllBare s'.gens) s₁ := by
  have run : ∀ H : Hp, (∀ b u, H b = some u → b = a ∧ K.lookup a = none ∧ ∃ o xs, u = .frz o (.lst xs)) → SqZ K H a (ns.map V.int) → HOk P w H s₁.heap →
      codeAny (model P w) callerA (.call (.ref fa) ⟨[.ref a], []⟩) (fun r s' => r = .ok (.ret (.bool true)) ∧ OldK s₁.heap s'.heap ∧ s'.os = s₁.os ∧ AllBare s'.gens) s₁ := by
    intro H sup hS hok
    have out : ∀ {b : Addr} {o : Obj}, s₁.heap.get? b = some o → (∀ v n, o.data ≠ .seq v n) → (hidT s₁.heap H).get? b = some o := fun {b o} e d => hidT_get e (by
      cases q : H b with
      | none => rfl
      | some u =>
        obtain ⟨rfl, _⟩ := sup _ _ q
        rw [ha] at e
        cases e
        exact absurd rfl (d _ _))
    have nsk : ∀ {b : Addr} {m : Str → Option Value}, s₁.heap.Ns b m → (hidT s₁.heap H).Ns b m := fun ⟨o, es, ep, e, d, r⟩ => ⟨o, es, ep, out e (by rw [d]; intro v n z; cases z), d, r⟩
    have kin : K.In (hidT s₁.heap H) := fun b o e => hidT_get (KX b o e) (by
      cases q : H b with
      | none => rfl
      | some u =>
        obtain ⟨rfl, hk, _⟩ := sup _ _ q
        rw [hk] at e
        cases e)
    obtain ⟨mc, l1, l2⟩ := hlim
    have e0 : Env0 P w K mg (hidT s₁.heap H) callerA [] s₁ H :=
      ⟨rfl, ⟨kin, nsk hns, ⟨mb, nsk hb, hbb⟩, ⟨mc, nsk l1, l2⟩⟩, fun b o e => of_hidT e, Nat.le_of_eq (hidT_size _ _), trivial, (fun b hb => nomatch hb), hok, .of_eq hg⟩
    refine codeAny_mono ((F _ kin (nsk hns)).run callerA [] s₁ H ⟨[.ref a], []⟩ [.ref a] [.ref a] (fun v _ => v = .bl true) hr rfl e0 (hbind s₁ (.ref a)) (.cons rfl .nil) (hsp H hS)) fun r s' hq => ?_
    obtain ⟨u, rfl, v, H', os, bare, un, hok', rv, rfl⟩ := hq
    cases rv
    refine ⟨rfl, OldK.of_keep fun b o e => ?_, os, bare⟩
    cases q : H b with
    | none => exact un.keep b o e q (fun z => nomatch z) (by simp)
    | some u =>
      obtain ⟨_, _, ob, xs, rfl⟩ := sup _ _ q
      obtain ⟨e1, _⟩ := hok b _ q
      obtain ⟨e2, _⟩ := hok' b _ (un.frzs b ob _ q)
      rw [e] at e1
      cases e1
      exact e2
  have rv := vals_ints hi
  have lv := hi.length
  cases hk : K.lookup a with
  | some o =>
    have e := KX a o hk
    rw [ha] at e
    cases e
    exact run (fun _ => none) (fun b u z => by cases z) (.inr ⟨_, vs.toArray, _, hk, rfl, rfl, rfl, by rw [List.size_toArray, lv]; exact hl, by simpa using rv⟩) fun b u z => by cases z
  | none =>
    let H0 : Hp := fun b => if b = a then some (.frz { cls := .type "list", data := .seq vs.toArray } (.lst (ns.map V.int))) else none
    have at0 : H0 a = some (.frz { cls := .type "list", data := .seq vs.toArray } (.lst (ns.map V.int))) := if_pos rfl
    have one : ∀ b u, H0 b = some u → b = a := fun b u z => by
      by_cases h : b = a
      · exact h
      · have : H0 b = none := if_neg h
        rw [this] at z
        cases z
    refine run H0 (fun b u z => ?_) (.inl ⟨_, at0⟩) fun b u z => ?_
    · have h := one b u z
      subst h
      rw [at0] at z
      cases z
      exact ⟨rfl, hk, _, _, rfl⟩
    · have h := one b u z
      subst h
      rw [at0] at z
      cases z
      exact ⟨ha, by rw [List.length_map]; exact hl, vs, _, rv, ha⟩
/-- a law, by the evaluator -/
theorem walk_ofG {l : PySem.W.OpenLaw} {n k : Nat} {q : Program} {loose : List Str} {XP : (Str → Option Value) → Heap → Prop} {YP : World → Heap → Prop} {d : DefRec} {x : Str} (hn : l.most = some n) (hn2 : n ≤ sizeLine) (hdf : d.params.defaults = []) (hr : Room k callerA)
    (F : ∀ (w : World) (mg : Str → Option Value) (fa : Addr) (h : Heap), YP w h → h.Ns mainGlobals mg → mg d.name = some (.ref fa) →
      ∃ (K : PySem.W.Frag) (fd : FuncData) (sp : SpG), K.In h ∧ (∀ (s : Shared) (u : Value), BindsTo s fd ⟨[u], []⟩ [(x, u)]) ∧ (∀ (H : Hp) (a : Addr) (ns : List Int), ns.length ≤ n → SqZ K H a (ns.map V.int) → sp [.ref a] H fun v _ => v = .bl true) ∧
        ∀ base : Heap, K.In base → base.Ns mainGlobals mg → FnG l.prog w K mg base k fa fd [x] sp) : PySem.W.WalkO q loose XP YP l.row.toRowW d [] (fun f vs => PySem.call f vs) :=
  Att.attach_call hn hdf fun w s₀ s₁ mg mb fa o pm cd doc a vs ns G0 Y ho hd hcd hmg hobj hints hlen hg => by
    obtain ⟨K, fd, sp, KX, hb, hsp, hF⟩ := F w mg fa _ Y G0.T.g hmg
    exact law_callG KX G0.T.g G0.T.b G0.T.builtins G0.T.nolimit hg hobj hints (Nat.le_trans hlen hn2) hr hF hb fun H hS => hsp H a ns hlen hS
/-- the law's answer, by the evaluator -/
theorem spF_law {G : Gd} {H : Hp} {a : Addr} {ns : List Int} {call : List T → CR} (hS : SqZ G.K H a (ns.map V.int)) (h : ∃ us, call [.fz (ns.map .int)] = .ok (.d (.bool true)) us ∧ us.length = 1) : spF G 1 call [.ref a] H fun v _ => v = .bl true := by
  obtain ⟨us, e, lu⟩ := h
  have reps : Reps G H [] (ns.map V.int) (ns.map PyData.int) := by
    clear e hS
    induction ns with
    | nil => exact .nil
    | cons n ns ih => exact .cons .int ih
  refine ⟨[.fz (ns.map .int)], [], [], rfl, rfl, rfl, ⟨[], .nil, .cons (f := []) (.fz hS reps) .nil⟩, ?_⟩
  rw [e]
  intro v H' hh
  obtain ⟨O, nd, R⟩ := hh
  cases R with
  | cons h1 _ =>
    cases h1 with
    | d r => cases r; rfl
end Ev
set_option Elab.async false
set_option linter.all false
set_option maxRecDepth 100000
set_option maxHeartbeats 4000000
set_option autoImplicit false
/-! Snd42: a law's head: what the module's top leaves, by one Hook. -/
namespace Ev
open PySem PySem.W PySem.Spec L2
open PyProof.Rows hiding St

/-- data among the module's own objects -/
def repB (K : PySem.W.Frag) : Nat → PyData → Value → Bool
  | _, .int i, .int j _ => decide (i = j)
  | _, .str x, .str y _ => decide (x = y)
  | _, .bool a, .bool b => a == b
  | _, .none, .none => true
  | n + 1, .tuple xs, .ref a => (match K.lookup a with
    | some ⟨.type c, none, .seq its _, _⟩ => decide (c = "tuple") && decide (its.size ≤ sizeLine) && (xs.length == its.toList.length) && (xs.zip its.toList).all fun p => repB K n p.1 p.2
    | _ => false)
  | _, _, _ => false
theorem reps_zip {G : Gd} {R : PyData → Value → Prop} (h : ∀ x u, R x u → ∃ v, RelV v u ∧ ∀ H O, Rep G H O v x) : ∀ {xs : List PyData} {us : List Value}, xs.length = us.length → (∀ p ∈ xs.zip us, R p.1 p.2) → ∃ vs, Vals vs us ∧ ∀ H O, Reps G H O vs xs
  | [], [], _, _ => ⟨[], .nil, fun _ _ => .nil⟩
  | [], _ :: _, l, _ => by simp at l
  | _ :: _, [], l, _ => by simp at l
  | x :: xs, u :: us, l, k => by
    obtain ⟨v, r, q⟩ := h x u (k (x, u) (by simp))
    obtain ⟨vs, rs, qs⟩ := reps_zip h (xs := xs) (us := us) (by simpa using l) fun p hp => k p (by simp [hp])
    exact ⟨v :: vs, .cons r rs, fun H O => .cons (q H O) (qs H O)⟩
theorem repB_ok {G : Gd} : ∀ (n : Nat) (x : PyData) (u : Value), repB G.K n x u = true → ∃ v, RelV v u ∧ ∀ H O, Rep G H O v x := by
  intro n
  induction n with
  | zero =>
    intro x u h
    unfold repB at h
    split at h
    · exact ⟨.int _, ⟨_, congrArg (Value.int · _) (of_decide_eq_true h).symm⟩, fun _ _ => .int⟩
    · exact ⟨.str _, ⟨_, congrArg (Value.str · _) (of_decide_eq_true h).symm⟩, fun _ _ => .str⟩
    · obtain rfl := eq_of_beq h
      exact ⟨.bl _, rfl, fun _ _ => .bl⟩
    · exact ⟨.non, rfl, fun _ _ => .non⟩
    · rename_i h1; cases h1
    · cases h
  | succ n ih =>
    intro x u h
    unfold repB at h
    split at h
    · exact ⟨.int _, ⟨_, congrArg (Value.int · _) (of_decide_eq_true h).symm⟩, fun _ _ => .int⟩
    · exact ⟨.str _, ⟨_, congrArg (Value.str · _) (of_decide_eq_true h).symm⟩, fun _ _ => .str⟩
    · obtain rfl := eq_of_beq h
      exact ⟨.bl _, rfl, fun _ _ => .bl⟩
    · exact ⟨.non, rfl, fun _ _ => .non⟩
    · rename_i n' xs a h1
      cases h1
      split at h
      · rename_i c its m sl q
        simp only [Bool.and_eq_true, decide_eq_true_eq] at h
        obtain ⟨⟨⟨h1, h2⟩, h3⟩, h4⟩ := h
        obtain ⟨vs, rv, rp⟩ := reps_zip (R := fun x u => repB G.K n x u = true) ih (eq_of_beq h3) (fun p hp => List.all_eq_true.mp h4 p hp)
        refine ⟨.ref a, rfl, fun H O => .tup (.inr ⟨_, its, m, q, ?_, rfl, rfl, h2, rv⟩) (rp H O)⟩
        rw [h1]
      · cases h
    · cases h
/-- what a law's program is made of -/
structure HD where
  fn : List He.DefD
  con : List (Str × Nat)
  gd : List PyData
  dfs : List (Str × Nat)
  bln : List Str
  gcds : List Str
abbrev nsG (K : PySem.W.Frag) (x : Str) : Option (Option Value) := PySem.W.nsIn K mainGlobals x
def conOk (K : PySem.W.Frag) (gd : List PyData) (p : Str × Nat) : Bool := match nsG K p.1 with
  | some (some u) => (match nth gd p.2 with
    | some d => repB K 8 d u
    | none => false)
  | _ => false
def dfsOk (K : PySem.W.Frag) (fn : List He.DefD) (p : Str × Nat) : Bool := match fn[p.2]? with
  | some d => He.eqO (nsG K p.1) (some (some (.ref (He.fAd K d.at_))))
  | none => false
def HD.ok (D : HD) (K : PySem.W.Frag) : Bool := (D.fn.all fun d => d.ok K) && (D.con.all (conOk K D.gd) && (D.dfs.all (dfsOk K D.fn) && ((D.bln.all fun x => He.eqO (nsG K x) (some none)) && D.gcds.all fun x => He.eqO (nsG K x) (some (some (.builtin "math.gcd"))))))
def obsE (D : HD) (K : PySem.W.Frag) : He.AlD := (D.ok K, D.fn.map fun d => He.fnW K d.at_)
def SaysE (D : HD) (K : PySem.W.Frag) : Prop := obsE D K = (true, D.fn.map He.DefD.val)
def obsEG (n : Nat) (D : HD) (g : Addr → Option Obj) : He.AlD := obsE D (He.frG g (He.asD g n))
def hookE (n : Nat) (D : HD) : PySem.W.Hook := ⟨He.AlD, fun s => obsEG n D s.heap.get?, fun _ => (true, D.fn.map He.DefD.val), fun _ h => ∃ K : PySem.W.Frag, K.In h ∧ SaysE D K, fun _ _ e => ⟨_, He.frG_in, e⟩, fun _ _ _ ⟨K, hK, c⟩ k => ⟨K, PySem.W.Frag.In.keeps hK k, c⟩⟩
theorem obsEG_eq {n : Nat} {D : HD} {g : Addr → Option Obj} {s : Shared} (h : ∀ a, g a = s.heap.get? a) : obsEG n D g = (hookE n D).obs s := by
  obtain rfl : g = s.heap.get? := funext h
  rfl
section
variable {D : HD} {K : PySem.W.Frag}
theorem SaysE.ok (c : SaysE D K) : D.ok K = true := congrArg (fun z : He.AlD => z.1) c
theorem SaysE.fnd (c : SaysE D K) {i : Nat} {d : He.DefD} (h : D.fn[i]? = some d) : ∃ fd, FunD K d.name d.qual d.params d.body d.scope (d.dvs K) (d.kws K) (He.fAd K d.at_) fd := by
  have c2 := (He.ba c.ok).1
  have e : D.fn.map (fun d => He.fnW K d.at_) = D.fn.map He.DefD.val := congrArg (fun z : He.AlD => z.2) c
  have e2 := congrArg (fun l => l[i]?) e
  simp only [List.getElem?_map, h, Option.map_some] at e2
  exact He.DefD.funD (Option.some.inj e2) (List.all_eq_true.mp c2 d (List.mem_of_getElem? h))
/-! ### calls: how arguments are bound -/
def psOf (d : He.DefD) : List Str := d.params.args.map (·.arg)
theorem bindsG_0 {x qual : Str} {params : Arguments} {body : List Stmt} {scope : Scope} {kws : List (Str × V)} {f : Addr} {fd : FuncData} {ps ks : List Str} {n : Nat} (F : FunD K x qual params body scope [] kws f fd)
    (h : ∀ (kV doc pm : Value) (an : Option Addr) (cdv ct : Value) (us ws : List Value), us.length = n → ws.length = ks.length → bindArgs (PySem.W.fnOf x qual params body scope .none kV doc pm an cdv ct) ⟨us, ks.zip ws⟩ = pure (ps.zip (us ++ ws ++ []))) : BindsG K fd ps n ks [] := by
  obtain ⟨oc, od, dV, kV, doc, pm, an, cdv, ct, osl, rfl, lk, hcd, hD, hK⟩ := F.ex
  rcases hD with ⟨_, rfl⟩ | ⟨e, _⟩
  · exact fun s us ws _ l1 l2 => .of_eq (h kV doc pm an cdv ct us ws l1 l2)
  · exact absurd rfl e
theorem bindsG_1 {x qual : Str} {params : Arguments} {body : List Stmt} {scope : Scope} {dvs : List V} {kws : List (Str × V)} {f : Addr} {fd : FuncData} {ps ks : List Str} {n : Nat} (j : Nat) (F : FunD K x qual params body scope dvs kws f fd) (hd : dvs ≠ [])
    (h : ∀ (T : Addr) (kV doc pm : Value) (an : Option Addr) (cdv ct : Value) (us ws its : List Value), us.length = n → ws.length = ks.length → its.length = dvs.length →
      ∃ k, bindArgs (PySem.W.fnOf x qual params body scope (.ref T) kV doc pm an cdv ct) ⟨us, ks.zip ws⟩ = seqItems? (.ref T) >>= k ∧ k (some its.toArray) = pure (ps.zip (us ++ ws ++ its.drop j))) : ∃ ds, BindsG K fd ps n ks ds ∧ Vals (dvs.drop j) ds := by
  obtain ⟨oc, od, dV, kV, doc, pm, an, cdv, ct, osl, rfl, lk, hcd, hD, hK⟩ := F.ex
  rcases hD with ⟨e, _⟩ | ⟨_, T, o, its, m, rfl, lT, oT, rT⟩
  · exact absurd e hd
  · refine ⟨its.drop j, fun s us ws KX l1 l2 => ?_, rT.drop j⟩
    obtain ⟨k, e1, e2⟩ := h T kV doc pm an cdv ct us ws its l1 l2 rT.length.symm
    refine BindsTo.of_looks fun M => ?_
    rw [e1]
    exact looks_items KX lT oT (.of_pure e2)
def ShOk (D : HD) (P : Prog) (p : Nat × Nat × List Str) : Prop := ∃ d F, D.fn[p.1]? = some d ∧ nth P.fns p.1 = some F ∧ ∀ (K : PySem.W.Frag) (fd : FuncData), FunD K d.name d.qual d.params d.body d.scope (d.dvs K) (d.kws K) (He.fAd K d.at_) fd →
  ∃ dvs ds, BindsG K fd (psOf d) p.2.1 p.2.2 ds ∧ Vals dvs ds ∧ (∀ (G : Gd) H O, Reps G H O dvs (P.df p.1 (p.2.1 + p.2.2.length))) ∧ p.2.1 + p.2.2.length + dvs.length = (psOf d).length
/-! ### the program -/
def fscB (N ps : List Str) (sc : Scope) : Bool := (sc.kind == .function) && !sc.isCoroutine && !sc.isGenerator && decide N.Nodup && (N.take ps.length == ps) && ps.all (loc sc) && sc.names.all fun y => !(y.2 == .free)
theorem fscB_ok {N ps : List Str} {sc : Scope} (h : fscB N ps sc = true) : FnScope N ps sc := by
  unfold fscB at h
  simp only [Bool.and_eq_true, Bool.not_eq_true', decide_eq_true_eq] at h
  obtain ⟨⟨⟨⟨⟨⟨h1, h2⟩, h3⟩, h4⟩, h5⟩, h6⟩, h7⟩ := h
  refine ⟨eq_of_beq h1, h2, h3, h4, eq_of_beq h5, fun x hx => loc_in (List.all_eq_true.mp h6 x hx), fun y hy z => ?_⟩
  have := List.all_eq_true.mp h7 y hy
  rw [z] at this
  simp at this
/-- one def, text against form -/
def defB (S0 : Stat) (F : Fn) (d : He.DefD) (N : List Str) : Bool := fscB N (psOf d) d.scope && (F.np == (psOf d).length) && (F.ns == N.length) && ckSs ⟨N, fxOf F.lent 0, S0.con, S0.dfs, S0.shp, S0.bln, S0.gcds⟩ d.scope F.body d.body
def defsB (S0 : Stat) : List Fn → List He.DefD → List (List Str) → Bool
  | [], [], [] => true
  | F :: Fs, d :: ds, N :: Ns => defB S0 F d N && defsB S0 Fs ds Ns
  | _, _, _ => false
theorem defsB_at {S0 : Stat} : ∀ {Fs : List Fn} {ds : List He.DefD} {Ns : List (List Str)} {j : Nat} {F : Fn}, defsB S0 Fs ds Ns = true → nth Fs j = some F → ∃ d N, ds[j]? = some d ∧ Ns[j]? = some N ∧ defB S0 F d N = true
  | [], _, _, _, _, _, h => by simp [nth] at h
  | F :: Fs, [], _, _, _, h, _ => by simp [defsB] at h
  | F :: Fs, d :: ds, [], _, _, h, _ => by simp [defsB] at h
  | F :: Fs, d :: ds, N :: Ns, 0, _, h, e => by
    cases e
    simp only [defsB, Bool.and_eq_true] at h
    exact ⟨d, N, rfl, rfl, h.1⟩
  | F :: Fs, d :: ds, N :: Ns, j + 1, _, h, e => by
    simp only [defsB, Bool.and_eq_true] at h
    obtain ⟨d', N', h1, h2, h3⟩ := defsB_at (j := j) h.2 e
    exact ⟨d', N', by simpa using h1, by simpa using h2, h3⟩
open Classical in
noncomputable def dsOf (D : HD) (Ns : List (List Str)) (K : PySem.W.Frag) (j : Nat) : DefS := match D.fn[j]? with
  | some d => ⟨d.name, d.qual, d.params, d.body, d.scope, d.dvs K, d.kws K, He.fAd K d.at_, if h : ∃ fd, FunD K d.name d.qual d.params d.body d.scope (d.dvs K) (d.kws K) (He.fAd K d.at_) fd then choose h else default, psOf d, (Ns[j]?).getD []⟩
  | none => default
theorem lookup_mem {β : Type} : ∀ {l : List (Str × β)} {x : Str} {y : β}, l.lookup x = some y → (x, y) ∈ l
  | [], _, _, h => by simp at h
  | (a, b) :: l, x, y, h => by
    rw [List.lookup_cons] at h
    split at h
    · rename_i e
      cases h
      rw [eq_of_beq e]
      exact List.mem_cons_self
    · exact List.mem_cons_of_mem _ (lookup_mem h)
theorem pg_ok {G : Gd} {h : Heap} {mg : Str → Option Value} {P : Prog} {shp : List (Nat × Nat × List Str)} {Ns : List (List Str)} (KX : G.K.In h) (ns : h.Ns mainGlobals mg) (c : SaysE D G.K) (hg : P.gd = D.gd) (hb : defsB ⟨[], [], D.con, D.dfs, shp, D.bln, D.gcds⟩ P.fns D.fn Ns = true) (hs : ∀ p ∈ shp, ShOk D P p) :
    PgOk G mg P ⟨[], [], D.con, D.dfs, shp, D.bln, D.gcds⟩ (dsOf D Ns G.K) := by
  obtain ⟨k1, kr⟩ := He.ba c.ok
  obtain ⟨k2, kr⟩ := He.ba kr
  obtain ⟨k3, kr⟩ := He.ba kr
  obtain ⟨k4, k5⟩ := He.ba kr
  have fun_ : ∀ {j d}, D.fn[j]? = some d → FunD G.K d.name d.qual d.params d.body d.scope (d.dvs G.K) (d.kws G.K) (He.fAd G.K d.at_) (dsOf D Ns G.K j).fd := fun {j d} e => by
    have he := c.fnd e
    unfold dsOf
    rw [e]
    simp only
    rw [dif_pos he]
    exact Classical.choose_spec he
  refine ⟨fun j F hF => ?_, fun x i hx => ?_, fun x f n ks hx hm => ?_, fun x hx => ?_, fun x hx => ?_⟩
  · obtain ⟨d, N, e1, e2, hd⟩ := defsB_at hb hF
    have ff := fun_ e1
    unfold defB at hd
    simp only [Bool.and_eq_true] at hd
    obtain ⟨⟨⟨h1, h2⟩, h3⟩, h4⟩ := hd
    have eN : (Ns[j]?).getD [] = N := by rw [e2]; rfl
    have eD : dsOf D Ns G.K j = ⟨d.name, d.qual, d.params, d.body, d.scope, d.dvs G.K, d.kws G.K, He.fAd G.K d.at_, (dsOf D Ns G.K j).fd, psOf d, N⟩ := by
      conv => lhs; unfold dsOf
      conv => rhs; unfold dsOf
      rw [e1]
      simp only [eN]
    rw [eD]
    exact ⟨ff, fscB_ok h1, eq_of_beq h2, eq_of_beq h3, h4⟩
  · have z := List.all_eq_true.mp k2 _ (lookup_mem hx)
    unfold conOk at z
    split at z
    · rename_i u e
      split at z
      · rename_i d e2
        obtain ⟨v, r, q⟩ := repB_ok (G := G) 8 d u z
        exact ⟨u, v, d, PySem.W.mg_of KX ns e, r, by rw [hg]; exact e2, q⟩
      · cases z
    · cases z
  · have z := List.all_eq_true.mp k3 _ (lookup_mem hx)
    unfold dfsOk at z
    split at z
    · rename_i d e
      have hm' := PySem.W.mg_of KX ns (He.eqO_ok z)
      obtain ⟨d', F, e', eF, hsh⟩ := hs _ hm
      rw [show ((f, n, ks) : Nat × Nat × List Str).1 = f from rfl] at e'
      rw [e] at e'
      cases e'
      obtain ⟨dvs, ds, b1, b2, b3, b4⟩ := hsh G.K _ (fun_ e)
      have ep : (dsOf D Ns G.K f).ps = psOf d := by unfold dsOf; rw [e]
      have ea : (dsOf D Ns G.K f).fa = He.fAd G.K d.at_ := by unfold dsOf; rw [e]
      refine ⟨⟨F, eF⟩, by rw [ea]; exact hm', dvs, ds, by rw [ep]; exact b1, b2, fun H O => b3 G H O, by rw [ep]; exact b4⟩
    · cases z
  · exact PySem.W.mg_none_of KX ns (He.eqO_ok (List.all_eq_true.mp k4 x (by simpa using hx)))
  · exact PySem.W.mg_of KX ns (He.eqO_ok (List.all_eq_true.mp k5 x (by simpa using hx)))
/-- the law's def, by the evaluator -/
theorem law_of {G : Gd} {h : Heap} {mg : Str → Option Value} {P : Prog} {shp : List (Nat × Nat × List Str)} {Ns : List (List Str)} {F : Fn} {d : He.DefD} {j k m : Nat} {fa : Addr} {x : Str} (KX : G.K.In h) (ns : h.Ns mainGlobals mg) (c : SaysE D G.K) (hg : P.gd = D.gd)
    (hb : defsB ⟨[], [], D.con, D.dfs, shp, D.bln, D.gcds⟩ P.fns D.fn Ns = true) (hs : ∀ p ∈ shp, ShOk D P p) (e1 : D.fn[j]? = some d) (eF : nth P.fns j = some F) (ep : psOf d = [x]) (ed : d.dfl = []) (np : F.np = 1)
    (bd : ∀ (kV doc pm : Value) (an : Option Addr) (cdv ct u : Value), bindArgs (PySem.W.fnOf d.name d.qual d.params d.body d.scope .none kV doc pm an cdv ct) ⟨[u], []⟩ = pure [(x, u)]) {ln : Str} (lk : D.dfs.lookup ln = some j) (hmg : mg ln = some (.ref fa))
    (hl : ∀ ns : List Int, ns.length ≤ m → ∃ us, P.call k j [.fz (ns.map .int)] = .ok (.d (.bool true)) us ∧ us.length = 1) :
    ∃ (K : PySem.W.Frag) (fd : FuncData) (sp : SpG), K.In h ∧ (∀ (s : Shared) (u : Value), BindsTo s fd ⟨[u], []⟩ [(x, u)]) ∧ (∀ (H : Hp) (a : Addr) (ns : List Int), ns.length ≤ m → SqZ K H a (ns.map V.int) → sp [.ref a] H fun v _ => v = .bl true) ∧
      ∀ base : Heap, K.In base → base.Ns mainGlobals mg → FnG G.P G.w K mg base k fa fd [x] sp := by
  have z := List.all_eq_true.mp (He.ba (He.ba (He.ba c.ok).2).2).1 _ (lookup_mem lk)
  unfold dfsOk at z
  rw [show ((ln, j) : Str × Nat).2 = j from rfl, e1] at z
  have em := PySem.W.mg_of KX ns (He.eqO_ok z)
  have ef := hmg.symm.trans em
  simp only [Option.some.injEq, Value.ref.injEq] at ef
  have FF : FunD G.K d.name d.qual d.params d.body d.scope [] (d.kws G.K) (He.fAd G.K d.at_) (dsOf D Ns G.K j).fd := by
    have he := c.fnd e1
    have hv : d.dvs G.K = [] := by unfold He.DefD.dvs; rw [ed]; rfl
    have : (dsOf D Ns G.K j).fd = Classical.choose he := by
      unfold dsOf
      rw [e1]
      simp only
      rw [dif_pos he]
    rw [this, ← hv]
    exact Classical.choose_spec he
  have eps : (dsOf D Ns G.K j).ps = [x] := by unfold dsOf; rw [e1]; exact ep
  have efa : (dsOf D Ns G.K j).fa = fa := by rw [ef]; unfold dsOf; rw [e1]
  refine ⟨G.K, (dsOf D Ns G.K j).fd, spF G 1 (P.call k j), KX, fun s u => ?_, fun H a ns hn hS => spF_law hS (hl ns hn), fun base Kb nb => ?_⟩
  · obtain ⟨oc, od, dV, kV, doc, pm, an, cdv, ct, osl, e, lk, hcd, hD, hK⟩ := FF.ex
    rcases hD with ⟨_, rfl⟩ | ⟨e, _⟩
    · rw [e]
      exact .of_eq (bd kV doc pm an cdv ct u)
    · exact absurd rfl e
  · have ok := pg_ok (Ns := Ns) Kb nb c hg hb hs
    have := fns_ok (base := base) ok k j F eF
    rw [np, eps, efa] at this
    exact this
end
end Ev
set_option Elab.async false
set_option linter.all false
set_option maxRecDepth 100000
set_option maxHeartbeats 4000000
set_option autoImplicit false
/-! Drw: what the laws draw from: _law_begun, _law_mixed, _law_draw, _law_pick. -/
namespace Ev
open PySem PySem.W

def kGreat : PyData := .str ⟨#[103, 114, 101, 97, 116]⟩
def kCells : PyData := .str ⟨#[99, 101, 108, 108, 115]⟩
def kRest : PyData := .str ⟨#[114, 101, 115, 116]⟩
def kTurn : PyData := .str ⟨#[116, 117, 114, 110]⟩
def cellB : ISs := .cons (.set (.nm 4) (.bin .mod (.blt .int (.cons (.bin .add (.bin .add (.bin .mul (.v 4) (.k (.int (.ofNat 48271)))) (.v 5)) (.v 1)) .nil)) (.v 3))) .nil
def primeB : ISs := .cons (.set (.nm 4) (.bin .add (.bin .mul (.k (.int (.ofNat 69621))) (.v 1)) (.bin .fdiv (.v 3) (.k (.int (.ofNat 41)))))) (.cons (.fr (.nm 5) (.seq (.idx (.v 0) (.k kCells))) cellB)
  (.cons (.set (.nm 2) (.bin .add (.bin .mul (.v 2) (.k (.int (.ofNat 2147483659)))) (.bin .mod (.blt .int (.cons (.bin .pow (.v 4) (.k (.int (.ofNat 5)))) .nil)) (.v 3)))) .nil))
def primes : IEs := .cons (.k (.int (.ofNat 2147483629))) (.cons (.k (.int (.ofNat 2147483587))) (.cons (.k (.int (.ofNat 2147483579))) (.cons (.k (.int (.ofNat 2147483563))) .nil)))
def mixedF : Fn := ⟨1, 6, [true], [], .cons (.set (.tup (.cons (.nm 1) (.cons (.nm 2) .nil))) (.tup (.cons (.bin .add (.idx (.v 0) (.k kTurn)) (.k (.int (.ofNat 1)))) (.cons (.k (.int (.ofNat 0))) .nil)))) (.cons (.sub (.v 0) (.k kTurn) (.v 1))
  (.cons (.fr (.nm 3) (.seq (.lst primes)) primeB) (.cons (.ret (.v 2)) .nil)))⟩
def drawF (i : Nat) : Fn := ⟨2, 3, [true, false], [], .cons (.ite (.cmp .eq (.idx (.v 0) (.k kRest)) (.k (.int (.ofNat 0)))) (.cons (.sub (.v 0) (.k kRest) (.ife (.cmp .ne (.idx (.v 0) (.k kGreat)) (.lst .nil)) (.mth .popAt (.idx (.v 0) (.k kGreat)) (.cons (.k (.int (.ofNat 0))) .nil)) (.call i (.cons (.v 0) .nil) .nil))) .nil) .nil)
  (.cons (.set (.nm 2) (.bin .mod (.blt .int (.cons (.idx (.v 0) (.k kRest)) .nil)) (.v 1))) (.cons (.sub (.v 0) (.k kRest) (.bin .fdiv (.idx (.v 0) (.k kRest)) (.v 1))) (.cons (.ret (.v 2)) .nil)))⟩
def pickF (j : Nat) : Fn := ⟨2, 2, [true, false], [], .cons (.ret (.idx (.v 1) (.call j (.cons (.v 0) (.cons (.blt .len (.cons (.v 1) .nil)) .nil)) .nil))) .nil⟩
abbrev dI (i : Int) : T := .d (.int i)
/-- the state -/
def stT (gs : List Int) (c : T) (rest turn : Int) : T := .dct [kGreat, kCells, kRest, kTurn] [.lst (gs.map dI), c, dI rest, dI turn]
/-- the cells: own, or let go -/
def CellsOk (cs : List Int) (c : T) : Prop := c = .lst (cs.map dI) ∨ c = .d (.list (cs.map .int))
def StOk (b : Nat) (t : T) : Prop := ∃ gs cs c rest turn, CellsOk cs c ∧ gs.length ≤ 64 ∧ cs.length ≤ 64 ∧ 0 ≤ turn ∧ turn ≤ (b : Int) ∧ t = stT gs c rest turn
theorem ds_ints : ∀ cs : List Int, ds (cs.map dI) = some (cs.map .int)
  | [] => rfl
  | c :: cs => by
    show (match ds (cs.map dI) with | some xs => some (PyData.int c :: xs) | none => none) = _
    rw [ds_ints cs]
    rfl
theorem datas_ints : ∀ cs : List Int, T.datas (cs.map dI) = some (cs.map .int)
  | [] => by simp [T.datas]
  | c :: cs => by
    simp only [List.map_cons, T.datas, T.data, datas_ints cs]
theorem log2_small {n k : Nat} (h : n < 2 ^ k) (hk : 0 < k) : n.log2 < k := by
  by_cases h0 : n = 0
  · subst h0
    simpa using hk
  · exact (Nat.log2_lt h0).mpr h
theorem mulOk_small {i j : Int} (hi : i.natAbs < 2 ^ 250) (hj : j.natAbs < 2 ^ 250) : mulOk i j = true := by
  have h1 := log2_small hi (by decide)
  have h2 := log2_small hj (by decide)
  unfold mulOk
  simp [Nat.blt]
  omega
/-- one cell mixed in -/
theorem cell_step {C : Cf} {s : T} {u f p b c : Int} (hb : mulOk b 48271 = true) (hp : p ≠ 0) : exes C cellB [s, dI u, dI f, dI p, dI b, dI c] = .nx [s, dI u, dI f, dI p, dI ((b * 48271 + c + u).fmod p), dI c] := by
  have hp' : (!(p == 0)) = true := by simpa using hp
  have hb' : mulOk b (Int.ofNat 48271) = true := hb
  unfold cellB
  simp only [exes, exe, sSeq, sSet, onR, den, opds, mBlt, mBin, bind1, bind2, opd, opdE, opdV, nth, two, rsv, rsvs, T.fd, mK, fromO, op2, sCons, sNil, bltD, intD, bindT, put, toS, sPass, hb', hp', if_true]
  rfl
theorem cell_loop {C : Cf} {s : T} {u f p : Int} (hp : 0 < p) (hp2 : p < 2147483648) : ∀ (cs : List Int) (b : Int) (x : T), 0 ≤ b → b < 9223372036854775808 → ∃ b' x', frL (exes C cellB) (.nm 5) (cs.map .int) [s, dI u, dI f, dI p, dI b, x] = .nx [s, dI u, dI f, dI p, dI b', x'] ∧ 0 ≤ b' ∧ b' < 9223372036854775808
  | [], b, x, h1, h2 => ⟨b, x, rfl, h1, h2⟩
  | c :: cs, b, x, h1, h2 => by
    have hm : mulOk b 48271 = true := mulOk_small (by omega) (by decide)
    have h3 : 0 ≤ (b * 48271 + c + u).fmod p := Int.fmod_nonneg_of_pos _ hp
    have h4 : (b * 48271 + c + u).fmod p < p := Int.fmod_lt_of_pos _ hp
    obtain ⟨b', x', e, r⟩ := cell_loop hp hp2 cs ((b * 48271 + c + u).fmod p) (dI c) h3 (by omega)
    refine ⟨b', x', ?_, r⟩
    show (match bindT (.nm 5) (dI c) [s, dI u, dI f, dI p, dI b, x] with
      | none => RS.no
      | some δ => match exes C cellB δ with
        | .nx δ => frL (exes C cellB) (.nm 5) (cs.map .int) δ
        | .ct δ => frL (exes C cellB) (.nm 5) (cs.map .int) δ
        | .bk δ => .nx δ
        | r => r) = _
    have e0 : bindT (.nm 5) (dI c) [s, dI u, dI f, dI p, dI b, x] = some [s, dI u, dI f, dI p, dI b, dI c] := by simp [bindT, put]
    rw [e0]
    simp only
    rw [cell_step hm (by omega)]
    exact e
theorem seq_nx {a b : S} {δ δ' : List T} (h : a δ = .nx δ') : sSeq a b δ = b δ' := by unfold sSeq; rw [h]
abbrev stKs : List PyData := [kGreat, kCells, kRest, kTurn]
theorem chi_great {gs : List Int} {c : T} {r u : Int} : chi (stT gs c r u) kGreat = some 0 := by
  show (if kfit stKs kGreat then kix stKs kGreat else none) = some 0
  decide +kernel
theorem chi_cells {gs : List Int} {c : T} {r u : Int} : chi (stT gs c r u) kCells = some 1 := by
  show (if kfit stKs kCells then kix stKs kCells else none) = some 1
  decide +kernel
theorem chi_rest {gs : List Int} {c : T} {r u : Int} : chi (stT gs c r u) kRest = some 2 := by
  show (if kfit stKs kRest then kix stKs kRest else none) = some 2
  decide +kernel
theorem chi_turn {gs : List Int} {c : T} {r u : Int} : chi (stT gs c r u) kTurn = some 3 := by
  show (if kfit stKs kTurn then kix stKs kTurn else none) = some 3
  decide +kernel
theorem kid_st {gd : List PyData} {gs : List Int} {c u : T} {r w : Int} {k : PyData} {n : Nat} {δ : List T} (hc : chi (stT gs c r w) k = some n) (hn : nth (kids (stT gs c r w)) n = some u) : kidAt gd (stT gs c r w :: δ) (.v 0) (.k k) = some (0, [k], u) := by
  show (match getS (stT gs c r w :: δ) 0 [] with
    | none => none
    | some t => if isOwn t then (match getP t [k] with
      | none => none
      | some u => some (0, [k], u)) else none) = _
  show (match getP (stT gs c r w) [k] with
      | none => none
      | some u => some (0, [k], u)) = _
  simp only [getP, hc, hn]
theorem set_st {gs : List Int} {c u : T} {r w : Int} {k : PyData} {n : Nat} {t' : T} {δ : List T} (hc : chi (stT gs c r w) k = some n) (hn : nth (kids (stT gs c r w)) n = some u) : setS (stT gs c r w :: δ) 0 [k] t' = reKid (stT gs c r w) n t' :: δ := by
  show setP (stT gs c r w) [k] t' :: δ = _
  simp only [setP, hc, hn]
theorem ite_t {C : Cf} {c : IE} {a b : ISs} {δ δ' : List T} (h : den C c δ = .ok (.d (.bool true)) δ') : exe C (.ite c a b) δ = exes C a δ' := by
  show sIte (den C c) (exes C a) (exes C b) δ = _
  unfold sIte onR
  rw [h]
theorem ite_f {C : Cf} {c : IE} {a b : ISs} {δ δ' : List T} (h : den C c δ = .ok (.d (.bool false)) δ') : exe C (.ite c a b) δ = exes C b δ' := by
  show sIte (den C c) (exes C a) (exes C b) δ = _
  unfold sIte onR
  rw [h]
theorem sub_nx {C : Cf} {o i e : IE} {δ δ' δ'' : List T} {t : T} (h : den C e δ = .ok t δ') (h2 : stSub C o i t δ' = some δ'') : exe C (.sub o i e) δ = .nx δ'' := by
  show sSub C o i (den C e) δ = _
  unfold sSub onR
  rw [h]
  show toS (stSub C o i t δ') = _
  rw [h2]
  rfl
theorem set_nx {C : Cf} {g : Tg} {e : IE} {δ δ' δ'' : List T} {t : T} (h : den C e δ = .ok t δ') (h2 : bindT g t δ' = some δ'') : exe C (.set g e) δ = .nx δ'' := by
  show sSet g (den C e) δ = _
  unfold sSet onR
  rw [h]
  show toS (bindT g t δ') = _
  rw [h2]
  rfl
theorem exes_nx {C : Cf} {s : IS} {ss : ISs} {δ δ' : List T} (h : exe C s δ = .nx δ') : exes C (.cons s ss) δ = exes C ss δ' := by
  show sSeq (exe C s) (exes C ss) δ = _
  unfold sSeq
  rw [h]
theorem exes_ret {C : Cf} {s : IS} {ss : ISs} {δ δ' : List T} {t : T} (h : exe C s δ = .ret t δ') : exes C (.cons s ss) δ = .ret t δ' := by
  show sSeq (exe C s) (exes C ss) δ = _
  unfold sSeq
  rw [h]
theorem exes_one {C : Cf} {s : IS} {δ δ' : List T} (h : exe C s δ = .nx δ') : exes C (.cons s .nil) δ = .nx δ' := (exes_nx h).trans rfl
theorem cells_walk {C : Cf} {gs cs : List Int} {c : T} {r u : Int} {a1 a2 a3 a4 a5 : T} (hc : CellsOk cs c) : itm C (.seq (.idx (.v 0) (.k kCells))) [stT gs c r u, a1, a2, a3, a4, a5] = .ok (cs.map .int) [stT gs (.d (.list (cs.map .int))) r u, a1, a2, a3, a4, a5] := by
  show bind1 (mIdx C (.v 0) (mV 0) (.k kCells) (mK kCells)) (fun t δ => fromO (seqT t) δ) _ = _
  unfold bind1 mIdx
  rw [kid_st chi_cells (rfl : nth (kids (stT gs c r u)) 1 = some c)]
  rcases hc with rfl | rfl
  · have e : T.data (.lst (cs.map dI)) = some (.list (cs.map .int)) := by simp only [T.data, datas_ints cs]
    simp only [e]
    rw [set_st chi_cells (rfl : nth (kids (stT gs (.lst (cs.map dI)) r u)) 1 = some (.lst (cs.map dI)))]
    rfl
  · rfl
theorem blend_step {C : Cf} {s : T} {u f p : Int} {x y : T} (hu : u.natAbs < 2 ^ 250) : exe C (.set (.nm 4) (.bin .add (.bin .mul (.k (.int (.ofNat 69621))) (.v 1)) (.bin .fdiv (.v 3) (.k (.int (.ofNat 41)))))) [s, dI u, dI f, dI p, x, y] = .nx [s, dI u, dI f, dI p, dI (69621 * u + p.fdiv 41), y] := by
  have h1 : mulOk (Int.ofNat 69621) u = true := mulOk_small (by decide) hu
  have h2 : divOk (Int.ofNat 41) = true := by decide
  simp only [exe, sSet, onR, den, mBin, bind2, opd, opdE, opdV, nth, two, rsv, T.fd, mK, fromO, op2, bindT, put, toS, h1, h2, if_true]
  rfl
theorem found_step {C : Cf} {s : T} {u f p b : Int} {y : T} (hf : f.natAbs < 2 ^ 250) (hp : p ≠ 0) (hb : b.natAbs < 18446744073709551616) : exe C (.set (.nm 2) (.bin .add (.bin .mul (.v 2) (.k (.int (.ofNat 2147483659)))) (.bin .mod (.blt .int (.cons (.bin .pow (.v 4) (.k (.int (.ofNat 5)))) .nil)) (.v 3)))) [s, dI u, dI f, dI p, dI b, y] =
    .nx [s, dI u, dI (f * 2147483659 + (b ^ 5).fmod p), dI p, dI b, y] := by
  have h1 : mulOk f (Int.ofNat 2147483659) = true := mulOk_small hf (by decide)
  have h2 : powOk b (Int.ofNat 5) = true := by
    unfold powOk
    simp [Nat.blt]
    omega
  have h3 : (!(p == 0)) = true := by simpa using hp
  simp only [exe, sSet, onR, den, opds, mBlt, mBin, bind1, bind2, opd, opdE, opdV, nth, two, rsv, rsvs, T.fd, mK, fromO, op2, sCons, sNil, bltD, intD, bindT, put, toS, h1, h2, h3, if_true]
  rfl
/-- one prime's round -/
theorem prime_step {C : Cf} {gs cs : List Int} {c : T} {r u f p : Int} {x y : T} (hc : CellsOk cs c) (hu : 0 ≤ u) (hu2 : u < 1099511627776) (hf : f.natAbs < 2 ^ 250) (hp : 0 < p) (hp2 : p < 2147483648) :
    ∃ g b x', exes C primeB [stT gs c r u, dI u, dI f, dI p, x, y] = .nx [stT gs (.d (.list (cs.map .int))) r u, dI u, dI (f * 2147483659 + g), dI p, dI b, x'] ∧ 0 ≤ g ∧ g < 2147483648 := by
  have hd : 0 ≤ p.fdiv 41 ∧ p.fdiv 41 < 2147483648 := ⟨Int.fdiv_nonneg (by omega) (by decide), by rw [Int.fdiv_eq_ediv_of_nonneg _ (by decide)]; omega⟩
  obtain ⟨b', x', e, h1, h2⟩ := cell_loop (C := C) (s := stT gs (.d (.list (cs.map .int))) r u) (u := u) (f := f) hp hp2 cs (69621 * u + p.fdiv 41) y (by omega) (by omega)
  refine ⟨(b' ^ 5).fmod p, b', x', ?_, Int.fmod_nonneg_of_pos _ hp, by have := Int.fmod_lt_of_pos (b' ^ 5) hp; omega⟩
  unfold primeB
  show sSeq (exe C _) (sSeq (exe C _) (sSeq (exe C _) sPass)) _ = _
  rw [seq_nx (blend_step (by omega))]
  have e2 : exe C (.fr (.nm 5) (.seq (.idx (.v 0) (.k kCells))) cellB) [stT gs c r u, dI u, dI f, dI p, dI (69621 * u + p.fdiv 41), y] = .nx [stT gs (.d (.list (cs.map .int))) r u, dI u, dI f, dI p, dI b', x'] := by
    show onR (itm C (.seq (.idx (.v 0) (.k kCells)))) (fun xs δ => frL (exes C cellB) (.nm 5) xs δ) _ = _
    unfold onR
    rw [cells_walk hc]
    exact e
  rw [seq_nx e2, seq_nx (found_step hf (by omega) (by omega))]
  rfl
/-- the mixing: some whole number -/
theorem mixed_ok {C : Cf} {gs cs : List Int} {c : T} {r u : Int} (hc : CellsOk cs c) (hu : 0 ≤ u) (hu2 : u < 1000000000) : ∃ f, runFn C mixedF [stT gs c r u] = .ok (dI f) [stT gs (.d (.list (cs.map .int))) r (u + 1)] := by
  have hc2 : CellsOk cs (.d (.list (cs.map .int))) := .inr rfl
  have b1 : (2147483659 : Nat) < 2 ^ 32 := by decide
  obtain ⟨g1, v1, w1, e1, l1, m1⟩ := prime_step (C := C) (gs := gs) (r := r) (u := u + 1) (f := 0) (p := 2147483629) (x := .un) (y := .un) hc (by omega) (by omega) (by decide) (by decide) (by decide)
  obtain ⟨g2, v2, w2, e2, l2, m2⟩ := prime_step (C := C) (gs := gs) (r := r) (u := u + 1) (f := 0 * 2147483659 + g1) (p := 2147483587) (x := dI v1) (y := w1) hc2 (by omega) (by omega) (by omega) (by decide) (by decide)
  obtain ⟨g3, v3, w3, e3, l3, m3⟩ := prime_step (C := C) (gs := gs) (r := r) (u := u + 1) (f := (0 * 2147483659 + g1) * 2147483659 + g2) (p := 2147483579) (x := dI v2) (y := w2) hc2 (by omega) (by omega) (by omega) (by decide) (by decide)
  obtain ⟨g4, v4, w4, e4, l4, m4⟩ := prime_step (C := C) (gs := gs) (r := r) (u := u + 1) (f := ((0 * 2147483659 + g1) * 2147483659 + g2) * 2147483659 + g3) (p := 2147483563) (x := dI v3) (y := w3) hc2 (by omega) (by omega) (by omega) (by decide) (by decide)
  refine ⟨(((0 * 2147483659 + g1) * 2147483659 + g2) * 2147483659 + g3) * 2147483659 + g4, ?_⟩
  have s1 : exe C (.set (.tup (.cons (.nm 1) (.cons (.nm 2) .nil))) (.tup (.cons (.bin .add (.idx (.v 0) (.k kTurn)) (.k (.int (.ofNat 1)))) (.cons (.k (.int (.ofNat 0))) .nil)))) [stT gs c r u, .un, .un, .un, .un, .un] = .nx [stT gs c r u, dI (u + 1), dI 0, .un, .un, .un] := rfl
  have s2 : exe C (.sub (.v 0) (.k kTurn) (.v 1)) [stT gs c r u, dI (u + 1), dI 0, .un, .un, .un] = .nx [stT gs c r (u + 1), dI (u + 1), dI 0, .un, .un, .un] := rfl
  have s3 : exe C (.fr (.nm 3) (.seq (.lst primes)) primeB) [stT gs c r (u + 1), dI (u + 1), dI 0, .un, .un, .un] = .nx [stT gs (.d (.list (cs.map .int))) r (u + 1), dI (u + 1), dI ((((0 * 2147483659 + g1) * 2147483659 + g2) * 2147483659 + g3) * 2147483659 + g4), dI 2147483563, dI v4, w4] := by
    have w0 : itm C (.seq (.lst primes)) [stT gs c r (u + 1), dI (u + 1), dI 0, .un, .un, .un] = .ok [.int 2147483629, .int 2147483587, .int 2147483579, .int 2147483563] [stT gs c r (u + 1), dI (u + 1), dI 0, .un, .un, .un] := rfl
    show onR (itm C (.seq (.lst primes))) (fun xs δ => frL (exes C primeB) (.nm 3) xs δ) _ = _
    unfold onR
    rw [w0]
    simp only [frL, bindT, put, e1, e2, e3, e4]
  unfold runFn
  have body : exes C mixedF.body ([stT gs c r u] ++ List.replicate (mixedF.ns - mixedF.np) .un) = .ret (dI ((((0 * 2147483659 + g1) * 2147483659 + g2) * 2147483659 + g3) * 2147483659 + g4)) [stT gs (.d (.list (cs.map .int))) r (u + 1), dI (u + 1), .un, dI 2147483563, dI v4, w4] := by
    show sSeq (exe C _) (sSeq (exe C _) (sSeq (exe C _) (sSeq (exe C _) sPass))) [stT gs c r u, .un, .un, .un, .un, .un] = _
    rw [seq_nx s1, seq_nx s2, seq_nx s3]
    rfl
  rw [body]
  rfl
/-! ### draws -/
theorem canLay_ints : ∀ cs : List Int, PyData.canLayAll0 (cs.map .int) = true := by
  intro cs
  induction cs with
  | nil => rfl
  | cons c cs ih => simp_all [PyData.canLayAll0, PyData.canLay0]
theorem depth_ints : ∀ cs : List Int, PyData.depthAll (cs.map .int) = 0 := by
  intro cs
  induction cs with
  | nil => rfl
  | cons c cs ih => simp_all [PyData.depthAll, PyData.depth]
theorem ints_ne (gs : List Int) : cmpD .ne (.list (gs.map .int)) (.list []) = some (!gs.isEmpty) := by
  have h1 : shp (.list (gs.map .int)) = true := by
    unfold shp SeqAt.shaped
    have := canLay_ints gs
    have := depth_ints gs
    simp_all [PyData.canLay0, PyData.depth]
  have h2 : shp (.list []) = true := by decide
  show (if shp (.list (gs.map .int)) && shp (.list []) then some (PyData.eqv (.list (gs.map .int)) (.list [])) else none).map (!·) = _
  rw [h1, h2]
  cases gs <;> rfl
theorem st_rest {C : Cf} {gs : List Int} {c : T} {r u : Int} {δ : List T} : den C (.idx (.v 0) (.k kRest)) (stT gs c r u :: δ) = .ok (dI r) (stT gs c r u :: δ) := by
  show mIdx C (.v 0) _ (.k kRest) _ _ = _
  unfold mIdx
  rw [kid_st chi_rest (rfl : nth (kids (stT gs c r u)) 2 = some (dI r))]
theorem set_rest {C : Cf} {gs : List Int} {c : T} {r u f : Int} {δ : List T} : stSub C (.v 0) (.k kRest) (dI f) (stT gs c r u :: δ) = some (stT gs c f u :: δ) := by
  have hk : kidSet (stT gs c r u) kRest (dI f) = some (stT gs c f u) := by
    show (if kfit stKs kRest && Nat.blt stKs.length sizeLine then some (T.dct (dput stKs _ kRest (dI f)).1 (dput stKs _ kRest (dI f)).2) else none) = _
    have h1 : (kfit stKs kRest && Nat.blt stKs.length sizeLine) = true := by decide +kernel
    have h2 : kix stKs kRest = some 2 := by decide +kernel
    rw [if_pos h1]
    unfold dput
    rw [h2]
    rfl
  show (match kidSet (stT gs c r u) kRest (dI f) with
    | some u' => some (setS (stT gs c r u :: δ) 0 [] u')
    | none => none) = _
  rw [hk]
  rfl
/-- what is kept of the draws: the room's part -/
theorem draw_tail {C : Cf} {gs : List Int} {c : T} {r u room : Int} (h1 : 0 < room) (h2 : room < 1000000) : exes C (.cons (.set (.nm 2) (.bin .mod (.blt .int (.cons (.idx (.v 0) (.k kRest)) .nil)) (.v 1))) (.cons (.sub (.v 0) (.k kRest) (.bin .fdiv (.idx (.v 0) (.k kRest)) (.v 1))) (.cons (.ret (.v 2)) .nil))) [stT gs c r u, dI room, .un] =
    .ret (dI (r.fmod room)) [stT gs c (r.fdiv room) u, dI room, .un] := by
  have hm : (!(room == 0)) = true := by simp; omega
  have hd : divOk room = true := by
    unfold divOk
    rw [hm]
    have := log2_small (n := room.natAbs) (k := 20) (by omega) (by decide)
    simp [Nat.blt]
    omega
  have s1 : exe C (.set (.nm 2) (.bin .mod (.blt .int (.cons (.idx (.v 0) (.k kRest)) .nil)) (.v 1))) [stT gs c r u, dI room, .un] = .nx [stT gs c r u, dI room, dI (r.fmod room)] := by
    have e := st_rest (C := C) (gs := gs) (c := c) (r := r) (u := u) (δ := [dI room, .un])
    show onR (mBin .mod (.blt .int _) (mBlt .int (sCons (opdE (den C (.idx (.v 0) (.k kRest)))) sNil)) (.v 1) (mV 1)) (fun t δ => toS (bindT (.nm 2) t δ)) _ = _
    simp only [onR, mBin, mBlt, bind1, bind2, opd, opdE, opdV, sCons, sNil, e, nth, two, rsv, rsvs, T.fd, fromO, op2, bltD, intD, bindT, put, toS, hm, if_true]
  have s2 : exe C (.sub (.v 0) (.k kRest) (.bin .fdiv (.idx (.v 0) (.k kRest)) (.v 1))) [stT gs c r u, dI room, dI (r.fmod room)] = .nx [stT gs c (r.fdiv room) u, dI room, dI (r.fmod room)] := by
    have e := st_rest (C := C) (gs := gs) (c := c) (r := r) (u := u) (δ := [dI room, dI (r.fmod room)])
    have e2 := set_rest (C := C) (gs := gs) (c := c) (r := r) (u := u) (f := r.fdiv room) (δ := [dI room, dI (r.fmod room)])
    show onR (mBin .fdiv (.idx (.v 0) (.k kRest)) (den C (.idx (.v 0) (.k kRest))) (.v 1) (mV 1)) (fun t δ => toS (stSub C (.v 0) (.k kRest) t δ)) _ = _
    simp only [onR, mBin, bind2, opd, opdE, opdV, e, nth, two, rsv, T.fd, fromO, op2, hd, if_true, e2, toS]
  show sSeq (exe C _) (sSeq (exe C _) (sSeq (exe C _) sPass)) _ = _
  rw [seq_nx s1, seq_nx s2]
  rfl
/-- a number from the great ones, or a mixed one -/
theorem draw_head {C : Cf} {i : Nat} {gs cs : List Int} {c : T} {r u room : Int} (hc : CellsOk cs c) (hm : ∃ f, C.call i [stT gs c r u] = .ok (dI f) [stT gs (.d (.list (cs.map .int))) r (u + 1)]) (hfl : C.fl i = [true]) (hdf : C.df i 1 = []) :
    ∃ gs' c' r' u', CellsOk cs c' ∧ gs'.length ≤ gs.length ∧ u ≤ u' ∧ u' ≤ u + 1 ∧
      exe C (.ite (.cmp .eq (.idx (.v 0) (.k kRest)) (.k (.int (.ofNat 0)))) (.cons (.sub (.v 0) (.k kRest) (.ife (.cmp .ne (.idx (.v 0) (.k kGreat)) (.lst .nil)) (.mth .popAt (.idx (.v 0) (.k kGreat)) (.cons (.k (.int (.ofNat 0))) .nil)) (.call i (.cons (.v 0) .nil) .nil))) .nil) .nil) [stT gs c r u, dI room, .un] =
        .nx [stT gs' c' r' u', dI room, .un] := by
  have k2 : kidAt C.gd [stT gs c r u, dI room, .un] (.v 0) (.k kRest) = some (0, [kRest], dI r) := kid_st chi_rest rfl
  have p1 : peek C.gd [stT gs c r u, dI room, .un] (.idx (.v 0) (.k kRest)) (.k (.int (.ofNat 0))) = none := by
    unfold peek
    simp only [k2]
  have c1 : den C (.cmp .eq (.idx (.v 0) (.k kRest)) (.k (.int (.ofNat 0)))) [stT gs c r u, dI room, .un] = .ok (.d (.bool (r == 0))) [stT gs c r u, dI room, .un] := by
    show mCmp C .eq (.idx (.v 0) (.k kRest)) (den C (.idx (.v 0) (.k kRest))) (.k (.int (.ofNat 0))) (mK (.int (.ofNat 0))) _ = _
    unfold mCmp
    rw [p1]
    simp only [bind2, opd, opdE, st_rest, mK, two, rsv, T.fd, bl, cmpD, eqP]
    rfl
  by_cases hr : r = 0
  · subst hr
    have k1 : kidAt C.gd [stT gs c 0 u, dI room, .un] (.v 0) (.k kGreat) = some (0, [kGreat], .lst (gs.map dI)) := kid_st chi_great rfl
    have fdg : T.fd (.lst (gs.map dI)) = some (.list (gs.map .int)) := by
      show (match ds (gs.map dI) with
        | some xs => some (PyData.list xs)
        | none => none) = _
      rw [ds_ints]
    have p2 : peek C.gd [stT gs c 0 u, dI room, .un] (.idx (.v 0) (.k kGreat)) (.lst .nil) = some (.list (gs.map .int), .list []) := by
      unfold peek
      simp only [k1, fdg]
      rfl
    have c2 : den C (.cmp .ne (.idx (.v 0) (.k kGreat)) (.lst .nil)) [stT gs c 0 u, dI room, .un] = .ok (.d (.bool (!gs.isEmpty))) [stT gs c 0 u, dI room, .un] := by
      show mCmp C .ne (.idx (.v 0) (.k kGreat)) _ (.lst .nil) _ _ = _
      unfold mCmp
      rw [p2]
      show bl (cmpD .ne (.list (gs.map .int)) (.list [])) _ = _
      rw [ints_ne]
      rfl
    cases gs with
    | nil =>
      obtain ⟨f, hm⟩ := hm
      have c3 : den C (.ife (.cmp .ne (.idx (.v 0) (.k kGreat)) (.lst .nil)) (.mth .popAt (.idx (.v 0) (.k kGreat)) (.cons (.k (.int (.ofNat 0))) .nil)) (.call i (.cons (.v 0) .nil) .nil)) [stT [] c 0 u, dI room, .un] = .ok (dI f) [stT [] (.d (.list (cs.map .int))) 0 (u + 1), dI room, .un] := by
        show mIf (den C (.cmp .ne _ _)) _ (mCall C i (sCons (argV 0) sNil) sNil) _ = _
        unfold mIf bind1
        rw [c2]
        show mCall C i (sCons (argV 0) sNil) sNil _ = _
        have e1 : (sCons (argV 0) sNil : List T → R (List A)) [stT [] c 0 u, dI room, .un] = .ok [.sl 0] [stT [] c 0 u, dI room, .un] := rfl
        unfold mCall bind2
        rw [e1]
        show (match prep [stT [] c 0 u, dI room, .un] [A.sl 0] (C.fl i) with
          | none => R.no
          | some (ts, δ) => match C.call i (ts ++ (C.df i 1).map T.d) with
            | .ok t us => .ok t (back δ [A.sl 0] (C.fl i) us)
            | _ => .no) = _
        rw [hfl, hdf]
        show (match C.call i [stT [] c 0 u] with
            | .ok t us => R.ok t (back [.un, dI room, .un] [A.sl 0] [true] us)
            | _ => .no) = _
        rw [hm]
        rfl
      refine ⟨[], .d (.list (cs.map .int)), f, u + 1, .inr rfl, Nat.le_refl _, by omega, by omega, ?_⟩
      exact (ite_t c1).trans (exes_one (sub_nx c3 set_rest))
    | cons g gs =>
      have c3 : den C (.ife (.cmp .ne (.idx (.v 0) (.k kGreat)) (.lst .nil)) (.mth .popAt (.idx (.v 0) (.k kGreat)) (.cons (.k (.int (.ofNat 0))) .nil)) (.call i (.cons (.v 0) .nil) .nil)) [stT (g :: gs) c 0 u, dI room, .un] = .ok (dI g) [stT gs c 0 u, dI room, .un] := by
        show mIf (den C (.cmp .ne _ _)) (mMut C .popAt (.idx (.v 0) (.k kGreat)) (.cons (.k (.int (.ofNat 0))) .nil) (dens C (.cons (.k (.int (.ofNat 0))) .nil))) (mCall C i (sCons (argV 0) sNil) sNil) _ = _
        unfold mIf bind1
        rw [c2]
        show mMut C .popAt (.idx (.v 0) (.k kGreat)) (.cons (.k (.int (.ofNat 0))) .nil) (dens C (.cons (.k (.int (.ofNat 0))) .nil)) _ = _
        have g1 : getS [stT (g :: gs) c 0 u, dI room, .un] 0 [kGreat] = some (.lst ((g :: gs).map dI)) := (kid_in k1).2
        have pl : plc C.gd [stT (g :: gs) c 0 u, dI room, .un] (.idx (.v 0) (.k kGreat)) = some (0, [kGreat]) := rfl
        unfold mMut
        simp only [pl, g1, isOwn, isL, mutOk, Bool.and_true, if_true, purs, pur]
        show mthAt true .popAt [stT (g :: gs) c 0 u, dI room, .un] 0 [kGreat] [dI 0] = _
        unfold mthAt
        rw [g1]
        show (match mthO .popAt (.lst (dI g :: gs.map dI)) [dI 0] with
          | some (r, t') => R.ok r (setS [stT (g :: gs) c 0 u, dI room, .un] 0 [kGreat] t')
          | none => .no) = _
        have e1 : mthO .popAt (.lst (dI g :: gs.map dI)) [dI 0] = some (dI g, .lst (gs.map dI)) := by
          show (if inR 0 then (match ixOf (dI g :: gs.map dI).length 0 with
            | some n => match nth (dI g :: gs.map dI) n with
              | some t => some (t, T.lst ((dI g :: gs.map dI).eraseIdx n))
              | none => none
            | none => none) else none) = _
          rw [if_pos (by decide)]
          rfl
        rw [e1]
        show R.ok (dI g) (setS (stT (g :: gs) c 0 u :: [dI room, .un]) 0 [kGreat] (.lst (gs.map dI))) = _
        rw [set_st chi_great (rfl : nth (kids (stT (g :: gs) c 0 u)) 0 = some (.lst ((g :: gs).map dI)))]
        rfl
      refine ⟨gs, c, g, u, hc, by simp, by omega, by omega, ?_⟩
      exact (ite_t c1).trans (exes_one (sub_nx c3 set_rest))
  · refine ⟨gs, c, r, u, hc, Nat.le_refl _, by omega, by omega, ?_⟩
    have hb : (r == 0) = false := by simpa using hr
    rw [hb] at c1
    exact (ite_f c1).trans rfl
/-- a draw: below the room -/
theorem draw_ok {C : Cf} {i b : Nat} {s : T} {room : Int} (hs : StOk b s) (hb : b < 1000000000) (h1 : 0 < room) (h2 : room < 1000000) (hm : ∀ gs cs c r u, CellsOk cs c → 0 ≤ u → u < 1000000000 → ∃ f, C.call i [stT gs c r u] = .ok (dI f) [stT gs (.d (.list (cs.map .int))) r (u + 1)]) (hfl : C.fl i = [true]) (hdf : C.df i 1 = []) :
    ∃ v s', runFn C (drawF i) [s, dI room] = .ok (dI v) [s', .un] ∧ 0 ≤ v ∧ v < room ∧ StOk (b + 1) s' := by
  obtain ⟨gs, cs, c, r, u, hc, hg, hcl, hu, hu2, rfl⟩ := hs
  obtain ⟨gs', c', r', u', hc', hg', hu', hu'', e⟩ := draw_head (room := room) hc (hm gs cs c r u hc hu (by omega)) hfl hdf
  refine ⟨r'.fmod room, stT gs' c' (r'.fdiv room) u', ?_, Int.fmod_nonneg_of_pos _ h1, Int.fmod_lt_of_pos _ h1, gs', cs, c', _, u', hc', by omega, hcl, by omega, by push_cast; omega, rfl⟩
  unfold runFn
  have body : exes C (drawF i).body ([stT gs c r u, dI room] ++ List.replicate ((drawF i).ns - (drawF i).np) .un) = .ret (dI (r'.fmod room)) [stT gs' c' (r'.fdiv room) u', dI room, .un] := by
    show sSeq (exe C _) (exes C _) [stT gs c r u, dI room, .un] = _
    rw [seq_nx e]
    exact draw_tail h1 h2
  rw [body]
  rfl
/-! the state made -/
abbrev e18 : IE := .bin .pow (.k (.int (.ofNat 10))) (.k (.int (.ofNat 18)))
def begunF : Fn := ⟨1, 3, [false], [], .cons (.set (.nm 1) (.lc [2] (.bin .sub (.blt .abs (.cons (.v 2) .nil)) e18) (.nm 2) (.seq (.v 0)) (.yes (.cmp .ge (.blt .abs (.cons (.v 2) .nil)) e18))))
  (.cons (.ret (.dct (.cons (.k kGreat) (.cons (.mv 1) (.cons (.k kCells) (.cons (.lc [2] (.blt .abs (.cons (.v 2) .nil)) (.nm 2) (.seq (.v 0)) .no) (.cons (.k kRest) (.cons (.k (.int (.ofNat 0))) (.cons (.k kTurn) (.cons (.k (.int (.ofNat 0))) .nil)))))))))) .nil)⟩
def absI (i : Int) : Int := if i < 0 then -i else i
theorem small63 {n : Nat} (h : n ≤ 64) : small n = true := by
  unfold small
  have : n ≤ sizeLine := Nat.le_trans h (by decide)
  exact Nat.ble_eq_true_of_le this
theorem lc_great {C : Cf} {f a : T} : ∀ ns : List Int, ∃ gs : List Int, gs.length ≤ ns.length ∧ lcL (some (den C (.cmp .ge (.blt .abs (.cons (.v 2) .nil)) e18))) (den C (.bin .sub (.blt .abs (.cons (.v 2) .nil)) e18)) (.nm 2) [2] (ns.map .int) [f, a, .un] = .ok (gs.map dI) [f, a, .un]
  | [] => ⟨[], Nat.le_refl _, rfl⟩
  | n :: ns => by
    obtain ⟨gs, hl, e⟩ := lc_great (C := C) (f := f) (a := a) ns
    have ht : den C (.cmp .ge (.blt .abs (.cons (.v 2) .nil)) e18) [f, a, dI n] = .ok (.d (.bool (decide (10 ^ 18 ≤ absI n)))) [f, a, dI n] := rfl
    have he : den C (.bin .sub (.blt .abs (.cons (.v 2) .nil)) e18) [f, a, dI n] = .ok (dI (absI n - 10 ^ 18)) [f, a, dI n] := rfl
    have hu : unset [f, a, dI n] [2] = [f, a, .un] := rfl
    by_cases h : 10 ^ 18 ≤ absI n
    · refine ⟨(absI n - 10 ^ 18) :: gs, by simpa using hl, ?_⟩
      rw [decide_eq_true h] at ht
      have hb : bindT (.nm 2) (dI n) [f, a, .un] = some [f, a, dI n] := by simp [bindT, put]
      show lcL _ _ _ _ (.int n :: ns.map .int) _ = _
      unfold lcL
      rw [hb]
      simp only [tstL, ht, he, hu, e, List.map_cons]
    · refine ⟨gs, by simp; omega, ?_⟩
      rw [decide_eq_false h] at ht
      have hb : bindT (.nm 2) (dI n) [f, a, .un] = some [f, a, dI n] := by simp [bindT, put]
      show lcL _ _ _ _ (.int n :: ns.map .int) _ = _
      unfold lcL
      rw [hb]
      simp only [tstL, ht, hu, e]
theorem lc_cells {C : Cf} {f a : T} : ∀ ns : List Int, lcL none (den C (.blt .abs (.cons (.v 2) .nil))) (.nm 2) [2] (ns.map .int) [f, a, .un] = .ok ((ns.map absI).map dI) [f, a, .un]
  | [] => rfl
  | n :: ns => by
    have e := lc_cells (C := C) (f := f) (a := a) ns
    have he : den C (.blt .abs (.cons (.v 2) .nil)) [f, a, dI n] = .ok (dI (absI n)) [f, a, dI n] := rfl
    have hu : unset [f, a, dI n] [2] = [f, a, .un] := rfl
    have hb : bindT (.nm 2) (dI n) [f, a, .un] = some [f, a, dI n] := by simp [bindT, put]
    show lcL _ _ _ _ (.int n :: ns.map .int) _ = _
    unfold lcL
    rw [hb]
    simp only [tstL, he, hu, e, List.map_cons]
theorem lc_den {C : Cf} {own : List Nat} {el : IE} {tg : Tg} {it : It} {c : IEo} {δ δ' δ'' : List T} {xs : List PyData} {ts : List T} (h1 : itm C it δ = .ok xs δ') (h2 : lcL (denc C c) (den C el) tg own xs (unset δ' own) = .ok ts δ'') (h3 : small ts.length = true) : den C (.lc own el tg it c) δ = .ok (.lst ts) δ'' := by
  show mLc own (den C el) tg (itm C it) (denc C c) δ = _
  unfold mLc bind1
  rw [h1]
  simp only [h2, h3, if_true]
theorem begun_ok {C : Cf} {ns : List Int} (hn : ns.length ≤ 63) : ∃ s, runFn C begunF [.fz (ns.map .int)] = .ok s [.un] ∧ StOk 0 s := by
  obtain ⟨gs, hl, e1⟩ := lc_great (C := C) (f := .fz (ns.map .int)) (a := .un) ns
  have e2 := lc_cells (C := C) (f := .fz (ns.map .int)) (a := .un) ns
  refine ⟨stT gs (.lst ((ns.map absI).map dI)) 0 0, ?_, gs, ns.map absI, _, 0, 0, .inl rfl, by omega, by simp; omega, by omega, by omega, rfl⟩
  have s1 : exe C (.set (.nm 1) (.lc [2] (.bin .sub (.blt .abs (.cons (.v 2) .nil)) e18) (.nm 2) (.seq (.v 0)) (.yes (.cmp .ge (.blt .abs (.cons (.v 2) .nil)) e18)))) [.fz (ns.map .int), .un, .un] = .nx [.fz (ns.map .int), .lst (gs.map dI), .un] :=
    set_nx (lc_den (rfl : itm C (.seq (.v 0)) [.fz (ns.map .int), .un, .un] = .ok (ns.map .int) [.fz (ns.map .int), .un, .un]) e1 (small63 (by simp; omega))) (by simp [bindT, put])
  have c2 : den C (.lc [2] (.blt .abs (.cons (.v 2) .nil)) (.nm 2) (.seq (.v 0)) .no) [.fz (ns.map .int), .un, .un] = .ok (.lst ((ns.map absI).map dI)) [.fz (ns.map .int), .un, .un] :=
    lc_den (rfl : itm C (.seq (.v 0)) [.fz (ns.map .int), .un, .un] = .ok (ns.map .int) [.fz (ns.map .int), .un, .un]) e2 (small63 (by simp; omega))
  have s2 : exe C (.ret (.dct (.cons (.k kGreat) (.cons (.mv 1) (.cons (.k kCells) (.cons (.lc [2] (.blt .abs (.cons (.v 2) .nil)) (.nm 2) (.seq (.v 0)) .no) (.cons (.k kRest) (.cons (.k (.int (.ofNat 0))) (.cons (.k kTurn) (.cons (.k (.int (.ofNat 0))) .nil)))))))))) [.fz (ns.map .int), .lst (gs.map dI), .un] =
      .ret (stT gs (.lst ((ns.map absI).map dI)) 0 0) [.fz (ns.map .int), .un, .un] := by
    have m1 : mkDct [] [] [.d kGreat, .lst (gs.map dI), .d kCells, .lst ((ns.map absI).map dI), .d kRest, dI 0, .d kTurn, dI 0] = some (stT gs (.lst ((ns.map absI).map dI)) 0 0) := rfl
    show onR (mDct (sCons (mK kGreat) (sCons (mMv 1) (sCons (mK kCells) (sCons (den C (.lc _ _ _ _ _)) _))))) (fun t δ => .ret t δ) _ = _
    unfold onR mDct bind1
    simp only [sCons, sNil, bind2, mK, mMv, nth, put, c2]
    show (match fromO (mkDct [] [] [.d kGreat, .lst (gs.map dI), .d kCells, .lst ((ns.map absI).map dI), .d kRest, dI 0, .d kTurn, dI 0]) [.fz (ns.map .int), .un, .un] with
      | .ok t δ => RS.ret t δ
      | .exn e δ => .exn e δ
      | .no => .no) = _
    rw [m1]
    rfl
  unfold runFn
  have body : exes C begunF.body ([.fz (ns.map .int)] ++ List.replicate (begunF.ns - begunF.np) .un) = .ret (stT gs (.lst ((ns.map absI).map dI)) 0 0) [.fz (ns.map .int), .un, .un] := (exes_nx s1).trans (exes_ret s2)
  rw [body]
  rfl
/-! one of some -/
def DrawOk (call : Nat → List T → CR) (j : Nat) : Prop := ∀ (b : Nat) (s : T) (room : Int), StOk b s → b < 1000000000 → 0 < room → room < 1000000 → ∃ v s', call j [s, dI room] = .ok (dI v) [s', .un] ∧ 0 ≤ v ∧ v < room ∧ StOk (b + 1) s'
theorem ix_nat {n : Nat} {v : Int} (h1 : 0 ≤ v) (h2 : v < n) : ixOf n v = some v.toNat := by
  cases v with
  | ofNat k =>
    show (if k < n then some k else none) = _
    rw [if_pos (by simpa using h2)]
    rfl
  | negSucc k => omega
/-- a call with a lent state and a value -/
theorem call_lent {C : Cf} {j : Nat} {e : IE} {s s' x t w : T} {rest : List T} (hfl : C.fl j = [true, false]) (hdf : C.df j 2 = []) (hs : isOwn s = true) (he : arg e (den C e) (s :: rest) = .ok (.val x) (s :: rest)) (hx : prepV false x = some w) (hc : C.call j [s, w] = .ok t [s', .un]) :
    den C (.call j (.cons (.v 0) (.cons e .nil)) .nil) (s :: rest) = .ok t (s' :: rest) := by
  have a0 : argV 0 (s :: rest) = .ok (.sl 0) (s :: rest) := by
    cases s <;> first | rfl | cases hs
  show mCall C j (sCons (argV 0) (sCons (arg e (den C e)) sNil)) sNil (s :: rest) = _
  unfold mCall
  simp only [bind2, sCons, sNil, a0, he, hfl]
  have p0 : prep (s :: rest) [.sl 0, .val x] [true, false] = some ([s, w], .un :: rest) := by
    cases s <;> first | (cases hs; done) | (simp only [prep, prepA, hd1, nth, put, List.tail, hx])
  show (match prep (s :: rest) ([A.sl 0, A.val x] ++ []) [true, false] with
    | none => R.no
    | some (ts, δ) => match C.call j (ts ++ (C.df j ([A.sl 0, A.val x] ++ []).length).map T.d) with
      | .ok t us => .ok t (back δ ([A.sl 0, A.val x] ++ []) [true, false] us)
      | _ => .no) = _
  rw [List.append_nil, p0]
  show (match C.call j ([s, w] ++ (C.df j 2).map T.d) with
      | .ok t us => R.ok t (back (.un :: rest) [A.sl 0, A.val x] [true, false] us)
      | _ => .no) = _
  rw [hdf]
  show (match C.call j [s, w] with
      | .ok t us => R.ok t (back (.un :: rest) [A.sl 0, A.val x] [true, false] us)
      | _ => .no) = _
  rw [hc]
  rfl
theorem own_st {b : Nat} {s : T} (h : StOk b s) : isOwn s = true := by
  obtain ⟨gs, cs, c, r, u, _, _, _, _, _, rfl⟩ := h
  rfl
theorem pick_ok {C : Cf} {j b : Nat} {s : T} {xs : List PyData} (hd : DrawOk C.call j) (hs : StOk b s) (hb : b < 1000000000) (hx : xs ≠ []) (hl : xs.length < 1000000) (hfl : C.fl j = [true, false]) (hdf : C.df j 2 = []) :
    ∃ (n : Nat) (x : PyData) (s' : T), runFn C (pickF j) [s, .d (.list xs)] = .ok (.d x) [s', .un] ∧ xs[n]? = some x ∧ StOk (b + 1) s' := by
  have hpos : 0 < xs.length := List.length_pos_iff.mpr hx
  obtain ⟨v, s', hc, h1, h2, hs'⟩ := hd b s xs.length hs hb (by omega) (by omega)
  have hlt : v.toNat < xs.length := by omega
  refine ⟨v.toNat, xs[v.toNat], s', ?_, by simp [hlt], hs'⟩
  have cl := call_lent (C := C) (j := j) (e := .blt .len (.cons (.v 1) .nil)) (s := s) (rest := [.d (.list xs)]) hfl hdf (own_st hs) (rfl : arg (.blt .len (.cons (.v 1) .nil)) (den C (.blt .len (.cons (.v 1) .nil))) [s, .d (.list xs)] = .ok (.val (dI xs.length)) [s, .d (.list xs)]) rfl hc
  have ix : idxD (.list xs) (.int v) = some xs[v.toNat] := by
    show (match ixOf xs.length v with
      | some n => nth xs n
      | none => none) = _
    rw [ix_nat h1 h2]
    show nth xs v.toNat = _
    rw [nth_eq]
    simp [hlt]
  have e : exe C (.ret (.idx (.v 1) (.call j (.cons (.v 0) (.cons (.blt .len (.cons (.v 1) .nil)) .nil)) .nil))) [s, .d (.list xs)] = .ret (.d xs[v.toNat]) [s', .d (.list xs)] := by
    show onR (mIdx C (.v 1) (mV 1) _ (den C (.call j _ .nil))) (fun t δ => .ret t δ) _ = _
    have k0 : kidAt C.gd [s, .d (.list xs)] (.v 1) (.call j (.cons (.v 0) (.cons (.blt .len (.cons (.v 1) .nil)) .nil)) .nil) = none := rfl
    unfold onR mIdx
    simp only [k0, bind2, opd, opdV, opdE, nth, cl, two, rsv, T.fd, ix]
  unfold runFn
  have body : exes C (pickF j).body ([s, .d (.list xs)] ++ List.replicate ((pickF j).ns - (pickF j).np) .un) = .ret (.d xs[v.toNat]) [s', .d (.list xs)] := exes_ret e
  rw [body]
  rfl
end Ev
set_option Elab.async false
set_option linter.all false
set_option maxRecDepth 100000
set_option maxHeartbeats 4000000
set_option autoImplicit false
/-! Memo: tables of answers, a law's laps. -/
namespace Ev
open PySem PySem.W

mutual
/-- alike, for sure -/
def pq : PyData → PyData → Bool
  | .none, .none => true
  | .bool b, .bool c => b == c
  | .int i, .int j => decide (i = j)
  | .str x, .str y => decide (x = y)
  | .tuple xs, .tuple ys => pqs xs ys
  | .list xs, .list ys => pqs xs ys
  | _, _ => false
def pqs : List PyData → List PyData → Bool
  | [], [] => true
  | x :: xs, y :: ys => match pq x y with
    | true => pqs xs ys
    | false => false
  | _, _ => false
end
mutual
theorem pq_eq : ∀ x y : PyData, pq x y = true → x = y
  | .none, .none, _ => rfl
  | .bool _, .bool _, h => by
    simp only [pq, beq_iff_eq] at h
    rw [h]
  | .int _, .int _, h => by
    simp only [pq, decide_eq_true_eq] at h
    rw [h]
  | .str _, .str _, h => by
    simp only [pq, decide_eq_true_eq] at h
    rw [h]
  | .tuple xs, .tuple ys, h => by
    simp only [pq] at h
    rw [pqs_eq xs ys h]
  | .list xs, .list ys, h => by
    simp only [pq] at h
    rw [pqs_eq xs ys h]
  | .none, .bool _, h | .none, .int _, h | .none, .str _, h | .none, .tuple _, h | .none, .list _, h => by simp [pq] at h
  | .bool _, .none, h | .bool _, .int _, h | .bool _, .str _, h | .bool _, .tuple _, h | .bool _, .list _, h => by simp [pq] at h
  | .int _, .none, h | .int _, .bool _, h | .int _, .str _, h | .int _, .tuple _, h | .int _, .list _, h => by simp [pq] at h
  | .str _, .none, h | .str _, .bool _, h | .str _, .int _, h | .str _, .tuple _, h | .str _, .list _, h => by simp [pq] at h
  | .tuple _, .none, h | .tuple _, .bool _, h | .tuple _, .int _, h | .tuple _, .str _, h | .tuple _, .list _, h => by simp [pq] at h
  | .list _, .none, h | .list _, .bool _, h | .list _, .int _, h | .list _, .str _, h | .list _, .tuple _, h => by simp [pq] at h
  | x, .dict _, h => by cases x <;> simp [pq] at h
  | .dict _, y, h => by cases y <;> simp [pq] at h
theorem pqs_eq : ∀ xs ys : List PyData, pqs xs ys = true → xs = ys
  | [], [], _ => rfl
  | [], _ :: _, h => by simp [pqs] at h
  | _ :: _, [], h => by simp [pqs] at h
  | x :: xs, y :: ys, h => by
    unfold pqs at h
    split at h
    · rename_i e
      rw [pq_eq x y e, pqs_eq xs ys h]
    · cases h
end
mutual
def tq : T → T → Bool
  | .un, .un => true
  | .d x, .d y => pq x y
  | .tup ts, .tup us => tqs ts us
  | .lst ts, .lst us => tqs ts us
  | _, _ => false
def tqs : List T → List T → Bool
  | [], [] => true
  | t :: ts, u :: us => match tq t u with
    | true => tqs ts us
    | false => false
  | _, _ => false
end
mutual
theorem tq_eq : ∀ t u : T, tq t u = true → t = u
  | .un, u, h => by cases u <;> first | rfl | simp [tq] at h
  | .d x, u, h => by
    cases u with
    | d y =>
      simp only [tq] at h
      rw [pq_eq x y h]
    | _ => simp [tq] at h
  | .tup ts, u, h => by
    cases u with
    | tup us =>
      simp only [tq] at h
      rw [tqs_eq ts us h]
    | _ => simp [tq] at h
  | .lst ts, u, h => by
    cases u with
    | lst us =>
      simp only [tq] at h
      rw [tqs_eq ts us h]
    | _ => simp [tq] at h
  | .fn _, u, h => by simp [tq] at h
  | .fz _, u, h => by simp [tq] at h
  | .lk _ _, u, h => by simp [tq] at h
  | .dct _ _, u, h => by simp [tq] at h
theorem tqs_eq : ∀ ts us : List T, tqs ts us = true → ts = us
  | [], [], _ => rfl
  | [], _ :: _, h => by simp [tqs] at h
  | _ :: _, [], h => by simp [tqs] at h
  | t :: ts, u :: us, h => by
    unfold tqs at h
    split at h
    · rename_i e
      rw [tq_eq t u e, tqs_eq ts us h]
    · cases h
end
/-- an answer known -/
structure En where
  j : Nat
  a : List PyData
  r : T
def lookE : List En → Nat → List PyData → Option T
  | [], _, _ => none
  | e :: es, j, xs => match Nat.beq e.j j with
    | true => (match pqs e.a xs with
      | true => some e.r
      | false => lookE es j xs)
    | false => lookE es j xs
abbrev Ca := Nat → List T → CR
def memo (tab : List En) (c : Ca) : Ca := fun j ts => match ds ts with
  | some xs => (match lookE tab j xs with
    | some t => .ok t (List.replicate xs.length .un)
    | none => c j ts)
  | none => c j ts
def EnOk (c : Ca) (e : En) : Prop := c e.j (e.a.map .d) = .ok e.r (List.replicate e.a.length .un)
theorem lookE_in : ∀ {tab : List En} {j : Nat} {xs : List PyData} {t : T}, lookE tab j xs = some t → ⟨j, xs, t⟩ ∈ tab
  | [], _, _, _, h => by cases h
  | e :: es, j, xs, t, h => by
    unfold lookE at h
    split at h
    · rename_i h1
      split at h
      · rename_i h2
        cases h
        have e1 := Nat.eq_of_beq_eq_true h1
        have e2 := pqs_eq _ _ h2
        subst e1 e2
        exact List.mem_cons_self
      · exact List.mem_cons_of_mem _ (lookE_in h)
    · exact List.mem_cons_of_mem _ (lookE_in h)
theorem memo_eq {tab : List En} {c : Ca} (h : ∀ e ∈ tab, EnOk c e) : memo tab c = c := by
  funext j ts
  unfold memo
  split
  · rename_i xs e
    split
    · rename_i t e2
      have := h _ (lookE_in e2)
      have e3 : ts = xs.map .d := ds_map e
      rw [e3]
      exact this.symm
    · rfl
  · rfl
/-- an answer looked after -/
def chk (c : Ca) (e : En) : Bool := match c e.j (e.a.map .d) with
  | .ok t us => (match tq t e.r with
    | true => tqs us (List.replicate e.a.length .un)
    | false => false)
  | _ => false
theorem chk_ok {c : Ca} {e : En} (h : chk c e = true) : EnOk c e := by
  unfold chk at h
  unfold EnOk
  split at h
  · rename_i t us e1
    split at h
    · rename_i h1
      rw [e1, tq_eq _ _ h1, tqs_eq _ _ h]
    · cases h
  · cases h
theorem chks_ok {c : Ca} {tab : List En} (h : tab.all (chk c) = true) : ∀ e ∈ tab, EnOk c e := fun e he => chk_ok (List.all_eq_true.mp h e he)
def up (P : Prog) (c : Ca) : Ca := fun f ts => match nth P.fns f with
  | some F => runFn ⟨c, P.gd, P.fl, P.df, P.wf⟩ F ts
  | none => .no
theorem call_up (P : Prog) (k : Nat) : P.call (k + 1) = up P (P.call k) := rfl
abbrev Prog.cf (P : Prog) (c : Ca) : Cf := ⟨c, P.gd, P.fl, P.df, P.wf⟩
theorem all_app {α : Type} {p : α → Prop} {xs ys : List α} (h1 : ∀ x ∈ xs, p x) (h2 : ∀ x ∈ ys, p x) : ∀ x ∈ xs ++ ys, p x := fun x h => by
  rcases List.mem_append.mp h with h | h
  · exact h1 x h
  · exact h2 x h
/-! a call to which the state is lent -/
theorem call_lentG {C : Cf} {i j : Nat} {e : IE} {δ : List T} {s s' x t w : T} (hfl : C.fl j = [true, false]) (hdf : C.df j 2 = []) (hn : nth δ i = some s) (hs : isOwn s = true) (he : arg e (den C e) δ = .ok (.val x) δ) (hx : prepV false x = some w) (hc : C.call j [s, w] = .ok t [s', .un]) :
    den C (.call j (.cons (.v i) (.cons e .nil)) .nil) δ = .ok t (put (put δ i .un) i s') := by
  have a0 : argV i δ = .ok (.sl i) δ := by
    unfold argV
    rw [hn]
    cases s <;> first | rfl | cases hs
  show mCall C j (sCons (argV i) (sCons (arg e (den C e)) sNil)) sNil δ = _
  unfold mCall
  simp only [bind2, sCons, sNil, a0, he, hfl]
  have p0 : prep δ [A.sl i, A.val x] [true, false] = some ([s, w], put δ i .un) := by
    cases s <;> first | (cases hs; done) | (simp only [prep, prepA, hd1, hn, List.tail, hx])
  show (match prep δ ([A.sl i, A.val x] ++ []) [true, false] with
    | none => R.no
    | some (ts, δ) => match C.call j (ts ++ (C.df j ([A.sl i, A.val x] ++ []).length).map T.d) with
      | .ok t us => .ok t (back δ ([A.sl i, A.val x] ++ []) [true, false] us)
      | _ => .no) = _
  rw [List.append_nil, p0]
  show (match C.call j ([s, w] ++ (C.df j 2).map T.d) with
      | .ok t us => R.ok t (back (put δ i .un) [A.sl i, A.val x] [true, false] us)
      | _ => .no) = _
  rw [hdf]
  show (match C.call j [s, w] with
      | .ok t us => R.ok t (back (put δ i .un) [A.sl i, A.val x] [true, false] us)
      | _ => .no) = _
  rw [hc]
  rfl
/-- laps -/
theorem laps {f : List T → RS} {g : Tg} {I : Nat → List T → Prop} {c : Nat} (h : ∀ b i δ, I b δ → b < 100000000 → ∃ δ1 δ2, bindT g (.d (.int i)) δ = some δ1 ∧ f δ1 = .nx δ2 ∧ I (b + c) δ2) :
    ∀ (n : Nat) (i : Int) (b : Nat) (δ : List T), I b δ → b + n * c < 100000000 → ∃ δ', frL f g (rangeI i n) δ = .nx δ' ∧ I (b + n * c) δ'
  | 0, i, b, δ, hI, _ => ⟨δ, rfl, by simpa using hI⟩
  | n + 1, i, b, δ, hI, hb => by
    have hm : (n + 1) * c = n * c + c := Nat.succ_mul n c
    obtain ⟨δ1, δ2, e1, e2, I2⟩ := h b i δ hI (by omega)
    obtain ⟨δ', e3, I3⟩ := laps h n (i + 1) (b + c) δ2 I2 (by omega)
    refine ⟨δ', ?_, by rw [hm]; rw [show b + (n * c + c) = b + c + n * c by omega]; exact I3⟩
    show (match bindT g (.d (.int i)) δ with
      | none => RS.no
      | some δ => match f δ with
        | .nx δ => frL f g (rangeI (i + 1) n) δ
        | .ct δ => frL f g (rangeI (i + 1) n) δ
        | .bk δ => .nx δ
        | r => r) = _
    rw [e1]
    simp only [e2]
    exact e3
/-! the state's defs at a level -/
theorem mixed_at {P : Prog} {i k : Nat} (h : nth P.fns i = some mixedF) : ∀ gs cs c r u, CellsOk cs c → 0 ≤ u → u < 1000000000 → ∃ f, P.call (k + 1) i [stT gs c r u] = .ok (dI f) [stT gs (.d (.list (cs.map .int))) r (u + 1)] := fun gs cs c r u hc h1 h2 => by
  show ∃ f, (match nth P.fns i with
    | some F => runFn ⟨P.call k, P.gd, P.fl, P.df, P.wf⟩ F [stT gs c r u]
    | none => .no) = _
  rw [h]
  exact mixed_ok hc h1 h2
theorem draw_at {P : Prog} {i j k : Nat} (hi : nth P.fns i = some mixedF) (h : nth P.fns j = some (drawF i)) : DrawOk (P.call (k + 2)) j := fun b s room hs hb h1 h2 => by
  show ∃ v s', (match nth P.fns j with
    | some F => runFn ⟨P.call (k + 1), P.gd, P.fl, P.df, P.wf⟩ F [s, dI room]
    | none => .no) = _ ∧ _
  rw [h]
  refine draw_ok hs hb h1 h2 (mixed_at hi) ?_ ?_
  · show (match nth P.fns i with | some F => F.lent | none => []) = _
    rw [hi]
    rfl
  · show (match nth P.fns i with | some F => F.dfl.drop (1 + F.dfl.length - F.np) | none => []) = _
    rw [hi]
    rfl
def PickOk (call : Ca) (j : Nat) : Prop := ∀ (b : Nat) (s : T) (xs : List PyData), StOk b s → b < 1000000000 → xs ≠ [] → xs.length < 1000000 → ∃ (x : PyData) (s' : T), call j [s, .d (.list xs)] = .ok (.d x) [s', .un] ∧ x ∈ xs ∧ StOk (b + 1) s'
theorem pickC_at {P : Prog} {i j l k : Nat} (hi : nth P.fns i = some mixedF) (hj : nth P.fns j = some (drawF i)) (h : nth P.fns l = some (pickF j)) : PickOk (P.call (k + 3)) l := fun b s xs hs hb h1 h2 => by
  obtain ⟨n, x, s', e, hx, hs'⟩ := pick_ok (C := P.cf (P.call (k + 2))) (j := j) (draw_at hi hj) hs hb h1 h2 (by
    show (match nth P.fns j with | some F => F.lent | none => []) = _
    rw [hj]
    rfl) (by
    show (match nth P.fns j with | some F => F.dfl.drop (2 + F.dfl.length - F.np) | none => []) = _
    rw [hj]
    rfl)
  refine ⟨x, s', ?_, List.mem_of_getElem? hx, hs'⟩
  show (match nth P.fns l with
    | some F => runFn ⟨P.call (k + 2), P.gd, P.fl, P.df, P.wf⟩ F [s, .d (.list xs)]
    | none => .no) = _
  rw [h]
  exact e
theorem begun_at {P : Prog} {i k : Nat} (h : nth P.fns i = some begunF) {ns : List Int} (hn : ns.length ≤ 63) : ∃ s, P.call (k + 1) i [.fz (ns.map .int)] = .ok s [.un] ∧ StOk 0 s := by
  show ∃ s, (match nth P.fns i with
    | some F => runFn ⟨P.call k, P.gd, P.fl, P.df, P.wf⟩ F [.fz (ns.map .int)]
    | none => .no) = _ ∧ _
  rw [h]
  exact begun_ok hn
/-! parts of a body -/
def nthS : ISs → Nat → IS
  | .cons s _, 0 => s
  | .cons _ ss, n + 1 => nthS ss n
  | .nil, _ => .pass
def dropS : ISs → Nat → ISs
  | ss, 0 => ss
  | .cons _ ss, n + 1 => dropS ss n
  | .nil, _ => .nil
def frB : IS → ISs
  | .fr _ _ b => b
  | _ => .nil
/-! a law's loop head -/
abbrev kN (n : Nat) : IE := .k (.int (.ofNat n))
abbrev lapsE (a c : Nat) : IE := .bin .add (kN a) (.blt .min2 (.cons (.blt .len (.cons (.v 0) .nil)) (.cons (kN c) .nil)))
theorem den_laps {C : Cf} {xs : List PyData} {δ : List T} (a c : Nat) (hn : nth δ 0 = some (.fz xs)) : ∃ n : Nat, n ≤ a + c ∧ den C (lapsE a c) δ = .ok (.d (.int (.ofNat n))) δ := by
  have h1 : opdV 0 δ = .ok (.val (.fz xs)) δ := by
    unfold opdV
    rw [hn]
  have h2 : den C (.blt .len (.cons (.v 0) .nil)) δ = .ok (.d (.int xs.length)) δ := by
    show mBlt .len (sCons (opdV 0) sNil) δ = _
    unfold mBlt bind1
    simp only [sCons, sNil, bind2, h1]
    rfl
  have h3 : den C (.blt .min2 (.cons (.blt .len (.cons (.v 0) .nil)) (.cons (kN c) .nil))) δ = .ok (.d (.int (if (Int.ofNat c) < (xs.length : Int) then Int.ofNat c else xs.length))) δ := by
    show mBlt .min2 (sCons (opdE (den C (.blt .len _))) (sCons (opdE (mK _)) sNil)) δ = _
    unfold mBlt bind1
    simp only [sCons, sNil, bind2, opdE, h2, mK]
    rfl
  refine ⟨a + (if (Int.ofNat c) < (xs.length : Int) then c else xs.length), ?_, ?_⟩
  · split <;> rename_i h
    · omega
    · have : (xs.length : Int) ≤ (c : Int) := by
        have : ¬ (c : Int) < (xs.length : Int) := h
        omega
      omega
  · show mBin .add (kN a) (mK _) (.blt .min2 _) (den C (.blt .min2 _)) δ = _
    unfold mBin
    simp only [bind2, opd, opdE, h3, mK, two, rsv, T.fd, op2, fromO]
    split <;> rfl
theorem itm_laps {C : Cf} {xs : List PyData} {δ : List T} (a c : Nat) (hn : nth δ 0 = some (.fz xs)) (hs : a + c < 100000) : ∃ n : Nat, n ≤ a + c ∧ itm C (.rng1 (lapsE a c)) δ = .ok (rangeI 0 n) δ := by
  obtain ⟨n, h1, h2⟩ := den_laps (C := C) a c hn
  refine ⟨n, h1, ?_⟩
  show iRng1 (den C (lapsE a c)) δ = _
  unfold iRng1 bind1
  rw [h2]
  have : inR (.ofNat n) = true := by
    unfold inR
    simp only [Bool.and_eq_true, decide_eq_true_eq]
    have : (Int.ofNat n) = (n : Int) := rfl
    omega
  simp only [this, if_true]
  rfl
theorem fr_nx {C : Cf} {g : Tg} {it : It} {b : ISs} {δ δ' δ'' : List T} {xs : List PyData} (h : itm C it δ = .ok xs δ') (h2 : frL (exes C b) g xs δ' = .nx δ'') : exe C (.fr g it b) δ = .nx δ'' := by
  show onR (itm C it) (fun xs δ => frL (exes C b) g xs δ) δ = _
  unfold onR
  rw [h]
  exact h2
theorem datas_ds : ∀ xs : List PyData, T.datas (xs.map .d) = some xs
  | [] => by simp [T.datas]
  | x :: xs => by simp only [List.map_cons, T.datas, T.data, datas_ds xs]
theorem prep_lst (xs : List PyData) : prepV false (.lst (xs.map .d)) = some (.d (.list xs)) := by
  show (match T.data (.lst (xs.map .d)) with
    | some x => some (T.d x)
    | none => none) = _
  simp only [T.data, datas_ds]
theorem add_draw {C : Cf} {e : IE} {a : Nat} {v : Int} {δ δ' : List T} (hv : isNm e = false) (h : den C e δ = .ok (.d (.int v)) δ') : den C (.bin .add (kN a) e) δ = .ok (.d (.int (.ofNat a + v))) δ' := by
  show mBin .add (kN a) (mK _) e (den C e) δ = _
  have ho : opd e (den C e) = opdE (den C e) := by cases e <;> first | rfl | cases hv
  unfold mBin
  rw [ho]
  simp only [bind2, opd, opdE, h, mK, two, rsv, T.fd, op2, fromO]
/-- a call with one value -/
theorem den_call1 {C : Cf} {j i : Nat} {δ : List T} {t w u : T} {us : List T} (hfl : C.fl j = [false]) (hdf : C.df j 1 = []) (ha : argV i δ = .ok (.val t) δ) (hp : prepV false t = some w) (hc : C.call j [w] = .ok u us) : den C (.call j (.cons (.v i) .nil) .nil) δ = .ok u δ := by
  show mCall C j (sCons (argV i) sNil) sNil δ = _
  unfold mCall
  simp only [bind2, sCons, sNil, ha, hfl]
  show (match prep δ ([A.val t] ++ []) [false] with
    | none => R.no
    | some (ts, δ) => match C.call j (ts ++ (C.df j ([A.val t] ++ []).length).map T.d) with
      | .ok t' us => .ok t' (back δ ([A.val t] ++ []) [false] us)
      | _ => .no) = _
  have p0 : prep δ [A.val t] [false] = some ([w], δ) := by simp only [prep, prepA, hd1, List.tail, hp]
  rw [List.append_nil, p0]
  show (match C.call j ([w] ++ (C.df j 1).map T.d) with
      | .ok t' us => R.ok t' (back δ [A.val t] [false] us)
      | _ => .no) = _
  rw [hdf]
  show (match C.call j [w] with
      | .ok t' us => R.ok t' (back δ [A.val t] [false] us)
      | _ => .no) = _
  rw [hc]
  cases us with
  | nil => rfl
  | cons u0 us => cases us <;> rfl
def appS : ISs → ISs → ISs
  | .nil, b => b
  | .cons s a, b => .cons s (appS a b)
def takeS : ISs → Nat → ISs
  | .cons s ss, n + 1 => .cons s (takeS ss n)
  | _, _ => .nil
theorem exes_app {C : Cf} {b : ISs} : ∀ {a : ISs} {δ δ' : List T}, exes C a δ = .nx δ' → exes C (appS a b) δ = exes C b δ'
  | .nil, δ, δ', h => by
    cases h
    rfl
  | .cons s a, δ, δ', h => by
    have h' : sSeq (exe C s) (exes C a) δ = .nx δ' := h
    show sSeq (exe C s) (exes C (appS a b)) δ = _
    unfold sSeq at h' ⊢
    cases e : exe C s δ with
    | nx δ1 =>
      rw [e] at h'
      exact exes_app h'
    | _ =>
      rw [e] at h'
      cases h'
/-- one of a list that a def tells -/
theorem pick_lst {C : Cf} {p j i m b : Nat} {δ : List T} {s t w : T} {xs : List PyData} (hP : PickOk C.call p) (hfp : C.fl p = [true, false]) (hdp : C.df p 2 = []) (hfj : C.fl j = [false]) (hdj : C.df j 1 = []) (hn : nth δ i = some s) (hs : StOk b s) (hb : b < 1000000000)
    (ha : argV m δ = .ok (.val t) δ) (hw : prepV false t = some w) (hc : C.call j [w] = .ok (.lst (xs.map .d)) [.un]) (hne : xs ≠ []) (hl : xs.length < 1000000) :
    ∃ x s', x ∈ xs ∧ StOk (b + 1) s' ∧ den C (.call p (.cons (.v i) (.cons (.call j (.cons (.v m) .nil) .nil) .nil)) .nil) δ = .ok (.d x) (put (put δ i .un) i s') := by
  obtain ⟨x, s', hp, hx, hs'⟩ := hP b s xs hs hb hne hl
  refine ⟨x, s', hx, hs', ?_⟩
  have e1 := den_call1 (C := C) hfj hdj ha hw hc
  have h : arg (.call j (.cons (.v m) .nil) .nil) (den C (.call j (.cons (.v m) .nil) .nil)) δ = .ok (.val (.lst (xs.map .d))) δ := by
    show opdE (den C (.call j (.cons (.v m) .nil) .nil)) _ = _
    unfold opdE
    rw [e1]
  exact call_lentG hfp hdp hn (own_st hs) h (prep_lst xs) hp
theorem tup3 {C : Cf} {a b c : IE} {δ δ1 δ2 δ3 : List T} {x y z : PyData} (h1 : den C a δ = .ok (.d x) δ1) (h2 : den C b δ1 = .ok (.d y) δ2) (h3 : den C c δ2 = .ok (.d z) δ3) : den C (.tup (.cons a (.cons b (.cons c .nil)))) δ = .ok (.d (.tuple [x, y, z])) δ3 := by
  show mTup (sCons (den C a) (sCons (den C b) (sCons (den C c) sNil))) δ = _
  unfold mTup bind1
  simp only [sCons, sNil, bind2, h1, h2, h3]
  rfl
theorem tup2 {C : Cf} {a b : IE} {δ δ1 δ2 : List T} {x y : PyData} (h1 : den C a δ = .ok (.d x) δ1) (h2 : den C b δ1 = .ok (.d y) δ2) : den C (.tup (.cons a (.cons b .nil))) δ = .ok (.d (.tuple [x, y])) δ2 := by
  show mTup (sCons (den C a) (sCons (den C b) sNil)) δ = _
  unfold mTup bind1
  simp only [sCons, sNil, bind2, h1, h2]
  rfl
end Ev
set_option Elab.async false
set_option linter.all false
set_option maxRecDepth 100000
set_option maxHeartbeats 4000000
set_option autoImplicit false
/-! Intr: defs of the laws whose answers are told by a formula. -/
namespace Ev
open PySem PySem.W

/-! ### small steps -/
theorem call_fn {P : Prog} {j k : Nat} {F : Fn} {ts : List T} (h : nth P.fns j = some F) : P.call (k + 1) j ts = runFn (P.cf (P.call k)) F ts := by
  show (match nth P.fns j with
    | some F => runFn ⟨P.call k, P.gd, P.fl, P.df, P.wf⟩ F ts
    | none => .no) = _
  rw [h]
theorem fl_fn {P : Prog} {j : Nat} {F : Fn} (h : nth P.fns j = some F) : P.fl j = F.lent := by
  show (match nth P.fns j with | some F => F.lent | none => []) = _
  rw [h]
theorem df_fn {P : Prog} {j n : Nat} {F : Fn} (h : nth P.fns j = some F) : P.df j n = F.dfl.drop (n + F.dfl.length - F.np) := by
  show (match nth P.fns j with | some F => F.dfl.drop (n + F.dfl.length - F.np) | none => []) = _
  rw [h]
theorem opd_nn {e : IE} (h : isNm e = false) {r : M} : opd e r = opdE r := by cases e <;> first | rfl | cases h
theorem arg_nn {e : IE} (h : isNm e = false) {r : M} : arg e r = opdE r := by cases e <;> first | rfl | cases h
/-- an operand is data -/
def OD (C : Cf) (e : IE) (x : PyData) (δ δ' : List T) : Prop := opd e (den C e) δ = .ok (.val (.d x)) δ'
section
variable {C : Cf} {a b : IE} {x y : PyData} {δ δ' δ'' : List T}
theorem od_nn (h : isNm a = false) (e : den C a δ = .ok (.d x) δ') : OD C a x δ δ' := by
  unfold OD
  rw [opd_nn h]
  unfold opdE
  rw [e]
theorem od_v {i : Nat} (h : nth δ i = some (.d x)) : OD C (.v i) x δ δ := by
  show opdV i δ = _
  unfold opdV
  rw [h]
theorem od_k : OD C (.k x) x δ δ := rfl
theorem den_v {i : Nat} (h : nth δ i = some (.d x)) : den C (.v i) δ = .ok (.d x) δ := by
  show mV i δ = _
  unfold mV
  rw [h]
theorem bin_od {op : Op} {t : T} (h1 : OD C a x δ δ') (h2 : OD C b y δ' δ'') (h : op2 op x y = some t) : den C (.bin op a b) δ = .ok t δ'' := by
  show mBin op a (den C a) b (den C b) δ = _
  unfold OD at h1 h2
  unfold mBin
  simp only [bind2, h1, h2, two, rsv, T.fd, h, fromO]
theorem bin_add {i j : Int} (h1 : OD C a (.int i) δ δ') (h2 : OD C b (.int j) δ' δ'') : den C (.bin .add a b) δ = .ok (.d (.int (i + j))) δ'' := bin_od h1 h2 rfl
theorem bin_sub {i j : Int} (h1 : OD C a (.int i) δ δ') (h2 : OD C b (.int j) δ' δ'') : den C (.bin .sub a b) δ = .ok (.d (.int (i - j))) δ'' := bin_od h1 h2 rfl
theorem bin_mul {i j : Int} (h1 : OD C a (.int i) δ δ') (h2 : OD C b (.int j) δ' δ'') (h : mulOk i j = true) : den C (.bin .mul a b) δ = .ok (.d (.int (i * j))) δ'' := bin_od h1 h2 (by show (if mulOk i j then _ else none) = _; rw [if_pos h])
theorem bin_fdiv {i j : Int} (h1 : OD C a (.int i) δ δ') (h2 : OD C b (.int j) δ' δ'') (h : divOk j = true) : den C (.bin .fdiv a b) δ = .ok (.d (.int (i.fdiv j))) δ'' := bin_od h1 h2 (by show (if divOk j then _ else none) = _; rw [if_pos h])
theorem bin_mod {i j : Int} (h1 : OD C a (.int i) δ δ') (h2 : OD C b (.int j) δ' δ'') (h : j ≠ 0) : den C (.bin .mod a b) δ = .ok (.d (.int (i.fmod j))) δ'' := bin_od h1 h2 (by
  have : (!(j == 0)) = true := by simpa using h
  show (if !(j == 0) then _ else none) = _
  rw [if_pos this])
theorem ret_nn (h : isNm a = false) (e : den C a δ = .ok (.d x) δ') : exe C (.ret a) δ = .ret (.d x) δ' := by
  have : exe C (.ret a) = onR (den C a) fun t δ => .ret t δ := by cases a <;> first | rfl | cases h
  rw [this]
  unfold onR
  rw [e]
theorem ret_v {i : Nat} (h : nth δ i = some (.d x)) : exe C (.ret (.v i)) δ = .ret (.d x) (put δ i .un) := by
  show onR (mMv i) (fun t δ => .ret t δ) δ = _
  unfold onR mMv
  rw [h]
/-- an index into data -/
theorem idx_od {z : PyData} (hk : kidAt C.gd δ a b = none) (h1 : OD C a x δ δ') (h2 : OD C b y δ' δ'') (h : idxD x y = some z) : den C (.idx a b) δ = .ok (.d z) δ'' := by
  show mIdx C a (den C a) b (den C b) δ = _
  unfold OD at h1 h2
  unfold mIdx
  rw [hk]
  simp only [bind2, h1, h2, two, rsv, T.fd, h]
theorem arg_nnd (h : isNm a = false) {t : T} (e : den C a δ = .ok t δ') : arg a (den C a) δ = .ok (.val t) δ' := by
  rw [arg_nn h]
  unfold opdE
  rw [e]
theorem arg_v {i : Nat} (h : nth δ i = some (.d x)) : arg (.v i) (den C (.v i)) δ = .ok (.val (.d x)) δ := by
  show argV i δ = _
  unfold argV
  rw [h]
/-- calls with one, two values -/
theorem callE1 {j : Nat} {t w u : T} {us : List T} (hfl : C.fl j = [false]) (hdf : C.df j 1 = []) (ha : arg a (den C a) δ = .ok (.val t) δ') (hp : prepV false t = some w) (hc : C.call j [w] = .ok u us) : den C (.call j (.cons a .nil) .nil) δ = .ok u δ' := by
  show mCall C j (sCons (arg a (den C a)) sNil) sNil δ = _
  unfold mCall
  simp only [bind2, sCons, sNil, ha, hfl]
  show (match prep δ' ([A.val t] ++ []) [false] with
    | none => R.no
    | some (ts, δ) => match C.call j (ts ++ (C.df j ([A.val t] ++ []).length).map T.d) with
      | .ok t' us => .ok t' (back δ ([A.val t] ++ []) [false] us)
      | _ => .no) = _
  have p0 : prep δ' [A.val t] [false] = some ([w], δ') := by simp only [prep, prepA, hd1, List.tail, hp]
  rw [List.append_nil, p0]
  show (match C.call j ([w] ++ (C.df j 1).map T.d) with
      | .ok t' us => R.ok t' (back δ' [A.val t] [false] us)
      | _ => .no) = _
  rw [hdf]
  show (match C.call j [w] with
      | .ok t' us => R.ok t' (back δ' [A.val t] [false] us)
      | _ => .no) = _
  rw [hc]
  cases us with
  | nil => rfl
  | cons u0 us => cases us <;> rfl
theorem callE2 {j : Nat} {t1 t2 w1 w2 u : T} {us : List T} (hfl : C.fl j = [false, false]) (hdf : C.df j 2 = []) (h1 : arg a (den C a) δ = .ok (.val t1) δ') (h2 : arg b (den C b) δ' = .ok (.val t2) δ'') (p1 : prepV false t1 = some w1) (p2 : prepV false t2 = some w2)
    (hc : C.call j [w1, w2] = .ok u us) : den C (.call j (.cons a (.cons b .nil)) .nil) δ = .ok u δ'' := by
  show mCall C j (sCons (arg a (den C a)) (sCons (arg b (den C b)) sNil)) sNil δ = _
  unfold mCall
  simp only [bind2, sCons, sNil, h1, h2, hfl]
  show (match prep δ'' ([A.val t1, A.val t2] ++ []) [false, false] with
    | none => R.no
    | some (ts, δ) => match C.call j (ts ++ (C.df j ([A.val t1, A.val t2] ++ []).length).map T.d) with
      | .ok t' us => .ok t' (back δ ([A.val t1, A.val t2] ++ []) [false, false] us)
      | _ => .no) = _
  have p0 : prep δ'' [A.val t1, A.val t2] [false, false] = some ([w1, w2], δ'') := by simp only [prep, prepA, hd1, List.tail, p1, p2]
  rw [List.append_nil, p0]
  show (match C.call j ([w1, w2] ++ (C.df j 2).map T.d) with
      | .ok t' us => R.ok t' (back δ'' [A.val t1, A.val t2] [false, false] us)
      | _ => .no) = _
  rw [hdf]
  show (match C.call j [w1, w2] with
      | .ok t' us => R.ok t' (back δ'' [A.val t1, A.val t2] [false, false] us)
      | _ => .no) = _
  rw [hc]
  rcases us with _ | ⟨u0, _ | ⟨u1, _ | ⟨u2, us⟩⟩⟩ <;> rfl
/-- a comprehension, item by item -/
def optMap {α β : Type} (f : α → Option β) : List α → Option (List β)
  | [] => some []
  | x :: xs => match f x with
    | some y => (match optMap f xs with
      | some ys => some (y :: ys)
      | none => none)
    | none => none
theorem optMap_len {α β : Type} {f : α → Option β} : ∀ {xs : List α} {ys : List β}, optMap f xs = some ys → ys.length = xs.length
  | [], ys, h => by
    simp only [optMap, Option.some.injEq] at h
    subst h
    rfl
  | x :: xs, ys, h => by
    unfold optMap at h
    split at h
    · split at h
      · rename_i e
        simp only [Option.some.injEq] at h
        subst h
        simp [optMap_len e]
      · cases h
    · cases h
theorem lc_opt {re : M} {tg : Tg} {own : List Nat} {J : List T → Prop} {f : PyData → Option PyData} : ∀ {xs : List PyData} {ys : List PyData} {δ : List T}, (∀ x ∈ xs, ∀ y δ, J δ → f x = some y → ∃ δ1 δ2, bindT tg (.d x) δ = some δ1 ∧ re δ1 = .ok (.d y) δ2 ∧ J (unset δ2 own)) →
    optMap f xs = some ys → J δ → ∃ δ', lcL none re tg own xs δ = .ok (ys.map .d) δ' ∧ J δ'
  | [], ys, δ, _, e, hJ => by
    simp only [optMap, Option.some.injEq] at e
    subst e
    exact ⟨δ, rfl, hJ⟩
  | x :: xs, ys, δ, h, e, hJ => by
    unfold optMap at e
    split at e
    · rename_i y e1
      split at e
      · rename_i ys e2
        simp only [Option.some.injEq] at e
        subst e
        obtain ⟨δ1, δ2, h1, h2, h3⟩ := h x List.mem_cons_self y δ hJ e1
        obtain ⟨δ', h4, h5⟩ := lc_opt (fun x hx => h x (List.mem_cons_of_mem _ hx)) e2 h3
        refine ⟨δ', ?_, h5⟩
        unfold lcL
        simp only [h1, tstL, h2, h4, List.map_cons]
      · cases e
    · cases e
theorem lc_den' {el : IE} {tg : Tg} {own : List Nat} {it : It} {xs : List PyData} {ts : List T} (h1 : itm C it δ = .ok xs δ') (h2 : lcL none (den C el) tg own xs (unset δ' own) = .ok ts δ'') (h3 : small ts.length = true) : den C (.lc own el tg it .no) δ = .ok (.lst ts) δ'' := lc_den (c := .no) h1 h2 h3
theorem ds_maps (xs : List PyData) : ds (xs.map .d) = some xs := by
  induction xs with
  | nil => rfl
  | cons x xs ih =>
    show (match ds (xs.map .d) with | some xs => some (x :: xs) | none => none) = _
    rw [ih]
/-- tuple(a list) -/
theorem tup_lst {xs : List PyData} (ha : isNm a = false) (h : den C a δ = .ok (.lst (xs.map .d)) δ') : den C (.blt .tuple (.cons a .nil)) δ = .ok (.d (.tuple xs)) δ' := by
  show mBlt .tuple (sCons (opd a (den C a)) sNil) δ = _
  rw [opd_nn ha]
  unfold mBlt bind1
  simp only [sCons, sNil, bind2, opdE, h, rsvs, rsv, T.fd, ds_maps]
  rfl
end
/-! ### the greatest common divisor -/
def commonF : Fn := ⟨2, 2, [false, false], [], .cons (.wh (.cmp .ne (.v 1) (.k (.int (.ofNat 0)))) (.cons (.set (.tup (.cons (.nm 0) (.cons (.nm 1) .nil))) (.tup (.cons (.v 1) (.cons (.bin .mod (.blt .int (.cons (.v 0) .nil)) (.v 1)) .nil)))) .nil)) (.cons (.ret (.blt .abs (.cons (.v 0) .nil))) .nil)⟩
def gcdC : IE := .cmp .ne (.v 1) (.k (.int (.ofNat 0)))
def gcdB : ISs := .cons (.set (.tup (.cons (.nm 0) (.cons (.nm 1) .nil))) (.tup (.cons (.v 1) (.cons (.bin .mod (.blt .int (.cons (.v 0) .nil)) (.v 1)) .nil)))) .nil
theorem gcd_c {C : Cf} {a b : Int} : den C gcdC [dI a, dI b] = .ok (.d (.bool (!(b == 0)))) [dI a, dI b] := rfl
theorem gcd_b {C : Cf} {a b : Int} (h : b ≠ 0) : exes C gcdB [dI a, dI b] = .nx [dI b, dI (a.fmod b)] := by
  have h' : (!(b == 0)) = true := by simpa using h
  have e : den C (.bin .mod (.blt .int (.cons (.v 0) .nil)) (.v 1)) [dI a, dI b] = .ok (.d (.int (a.fmod b))) [dI a, dI b] := bin_mod (od_nn rfl rfl) (od_v rfl) h
  exact exes_one (set_nx (tup2 (den_v rfl) e) rfl)
theorem wh_t {c : List T → R T} {b : List T → RS} {n : Nat} {δ δ' : List T} (h1 : c δ = .ok (.d (.bool true)) δ) (h2 : b δ = .nx δ') : whL c b (n + 1) δ = whL c b n δ' := by
  show (match c δ with
    | .ok (.d (.bool true)) δ => (match b δ with
      | .nx δ => whL c b n δ
      | .ct δ => whL c b n δ
      | .bk δ => .nx δ
      | r => r)
    | .ok (.d (.bool false)) δ => .nx δ
    | .exn e δ => .exn e δ
    | _ => RS.no) = _
  rw [h1]
  simp only [h2]
theorem wh_f {c : List T → R T} {b : List T → RS} {n : Nat} {δ : List T} (h1 : c δ = .ok (.d (.bool false)) δ) : whL c b (n + 1) δ = .nx δ := by
  show (match c δ with
    | .ok (.d (.bool true)) δ => (match b δ with
      | .nx δ => whL c b n δ
      | .ct δ => whL c b n δ
      | .bk δ => .nx δ
      | r => r)
    | .ok (.d (.bool false)) δ => .nx δ
    | .exn e δ => .exn e δ
    | _ => RS.no) = _
  rw [h1]
theorem gcd_step {a b : Int} : Int.gcd b (a.fmod b) = Int.gcd a b := by
  rw [Int.fmod_def, Int.gcd_comm a b, Int.sub_eq_add_neg, ← Int.mul_neg, Int.gcd_add_mul_left_right]
theorem gcd_wh {C : Cf} : ∀ (n : Nat) (a b : Int), 0 ≤ b → b < 2 ^ n → ∀ f, 2 * n + 1 ≤ f → ∃ g, whL (den C gcdC) (exes C gcdB) f [dI a, dI b] = .nx [dI g, dI 0] ∧ g.natAbs = Int.gcd a b
  | 0, a, b, h0, h1, f, hf => by
    have hb : b = 0 := by
      have : (2 : Int) ^ 0 = 1 := rfl
      omega
    subst hb
    obtain ⟨f, rfl⟩ : ∃ f', f = f' + 1 := ⟨f - 1, by omega⟩
    exact ⟨a, wh_f gcd_c, by simp⟩
  | n + 1, a, b, h0, h1, f, hf => by
    obtain ⟨f, rfl⟩ : ∃ f', f = f' + 1 := ⟨f - 1, by omega⟩
    by_cases hb : b = 0
    · subst hb
      exact ⟨a, wh_f gcd_c, by simp⟩
    · have ht : den C gcdC [dI a, dI b] = .ok (.d (.bool true)) [dI a, dI b] := by
        rw [gcd_c]
        have : (!(b == 0)) = true := by simpa using hb
        rw [this]
      rw [wh_t ht (gcd_b hb), ← gcd_step]
      have p1 : 0 ≤ a.fmod b := Int.fmod_nonneg_of_pos _ (by omega)
      have p2 : a.fmod b < b := Int.fmod_lt_of_pos _ (by omega)
      generalize a.fmod b = c at p1 p2
      obtain ⟨f, rfl⟩ : ∃ f', f = f' + 1 := ⟨f - 1, by omega⟩
      by_cases hc : c = 0
      · subst hc
        exact ⟨b, wh_f gcd_c, by simp⟩
      · have ht : den C gcdC [dI b, dI c] = .ok (.d (.bool true)) [dI b, dI c] := by
          rw [gcd_c]
          have : (!(c == 0)) = true := by simpa using hc
          rw [this]
        rw [wh_t ht (gcd_b hc), ← gcd_step]
        have q1 : 0 ≤ b.fmod c := Int.fmod_nonneg_of_pos _ (by omega)
        have q2 : b.fmod c < c := Int.fmod_lt_of_pos _ (by omega)
        have q3 : b.fmod c ≤ b - c := by
          rw [Int.fmod_def]
          have : 1 ≤ b.fdiv c := by
            rw [Int.fdiv_eq_ediv_of_nonneg _ p1]
            exact Int.le_ediv_of_mul_le (by omega) (by omega)
          have : c * 1 ≤ c * b.fdiv c := Int.mul_le_mul_of_nonneg_left this p1
          omega
        have h2 : (2 : Int) ^ (n + 1) = 2 ^ n * 2 := rfl
        exact gcd_wh n c (b.fmod c) q1 (by omega) f (by omega)
theorem common_ok {P : Prog} {c k : Nat} {u l : Int} (hc : nth P.fns c = some commonF) (hw : P.wf = 100000) (h0 : 0 ≤ l) (hl : l < 2 ^ 250) : P.call (k + 1) c [dI u, dI l] = .ok (dI (Int.gcd u l : Nat)) [.un, .un] := by
  rw [call_fn hc]
  obtain ⟨g, e, hg⟩ := gcd_wh (C := P.cf (P.call k)) 250 u l h0 hl 100000 (by decide)
  have s1 : exe (P.cf (P.call k)) (.wh gcdC gcdB) [dI u, dI l] = .nx [dI g, dI 0] := by
    show whL (den _ gcdC) (exes _ gcdB) P.wf [dI u, dI l] = _
    rw [hw]
    exact e
  have ha : (if g < 0 then -g else g) = ((g.natAbs : Nat) : Int) := by split <;> omega
  have s2 : exe (P.cf (P.call k)) (.ret (.blt .abs (.cons (.v 0) .nil))) [dI g, dI 0] = .ret (dI (Int.gcd u l : Nat)) [dI g, dI 0] := by
    refine ret_nn rfl ?_
    rw [← hg, ← ha]
    rfl
  unfold runFn
  have body : exes (P.cf (P.call k)) commonF.body ([dI u, dI l] ++ List.replicate (commonF.ns - commonF.np) .un) = .ret (dI (Int.gcd u l : Nat)) [dI g, dI 0] := (exes_nx s1).trans (exes_ret s2)
  rw [body]
  rfl
/-! ### fractions -/
def noF (c : Nat) : Fn := ⟨2, 3, [false, false], [], .cons (.set (.nm 2) (.bin .mul (.call c (.cons (.v 0) (.cons (.v 1) .nil)) .nil) (.ife (.cmp .gt (.v 1) (.k (.int (.ofNat 0)))) (.k (.int (.ofNat 1))) (.bin .sub (.k (.int (.ofNat 0))) (.k (.int (.ofNat 1))))))) (.cons (.ret (.tup (.cons (.bin .fdiv (.v 0) (.v 2)) (.cons (.bin .fdiv (.v 1) (.v 2)) .nil)))) .nil)⟩
/-- a fraction made small -/
def frI (u l : Int) : PyData := .tuple [.int (u.fdiv (Int.gcd u l : Nat)), .int (l.fdiv (Int.gcd u l : Nat))]
theorem gcd_lt {u l : Int} (h0 : 0 < l) : 0 < Int.gcd u l ∧ (Int.gcd u l : Int) ≤ l := by
  refine ⟨Int.gcd_pos_of_ne_zero_right _ (by omega), ?_⟩
  exact Int.le_of_dvd h0 (Int.gcd_dvd_right ..)
theorem no_ok {P : Prog} {c j k : Nat} {u l : Int} (hc : nth P.fns c = some commonF) (hj : nth P.fns j = some (noF c)) (hw : P.wf = 100000) (h0 : 0 < l) (hl : l < 2 ^ 240) : P.call (k + 2) j [dI u, dI l] = .ok (.d (frI u l)) [.un, .un] := by
  rw [call_fn hj]
  have hg := gcd_lt (u := u) h0
  have hc1 := common_ok (k := k) (u := u) hc hw (Int.le_of_lt h0) (Int.lt_trans hl (by decide))
  generalize hG : (Int.gcd u l : Nat) = g at hc1 hg
  have e1 : den (P.cf (P.call (k + 1))) (.call c (.cons (.v 0) (.cons (.v 1) .nil)) .nil) [dI u, dI l, .un] = .ok (dI g) [dI u, dI l, .un] :=
    callE2 (C := P.cf (P.call (k + 1))) ((fl_fn hc).trans rfl) ((df_fn hc).trans rfl) (arg_v rfl) (arg_v rfl) rfl rfl hc1
  have e2 : den (P.cf (P.call (k + 1))) (.ife (.cmp .gt (.v 1) (.k (.int (.ofNat 0)))) (.k (.int (.ofNat 1))) (.bin .sub (.k (.int (.ofNat 0))) (.k (.int (.ofNat 1))))) [dI u, dI l, .un] = .ok (dI 1) [dI u, dI l, .un] := by
    have c1 : den (P.cf (P.call (k + 1))) (.cmp .gt (.v 1) (.k (.int (.ofNat 0)))) [dI u, dI l, .un] = .ok (.d (.bool (decide (0 < l)))) [dI u, dI l, .un] := rfl
    show mIf (den _ (.cmp .gt _ _)) _ _ _ = _
    unfold mIf bind1
    rw [c1, decide_eq_true h0]
    rfl
  have hb : mulOk (g : Int) 1 = true := mulOk_small (by omega) (by decide)
  have e3 : den (P.cf (P.call (k + 1))) (.bin .mul (.call c (.cons (.v 0) (.cons (.v 1) .nil)) .nil) (.ife (.cmp .gt (.v 1) (.k (.int (.ofNat 0)))) (.k (.int (.ofNat 1))) (.bin .sub (.k (.int (.ofNat 0))) (.k (.int (.ofNat 1)))))) [dI u, dI l, .un] = .ok (dI (g * 1)) [dI u, dI l, .un] :=
    bin_mul (od_nn rfl e1) (od_nn rfl e2) hb
  rw [Int.mul_one] at e3
  have hd : divOk (g : Int) = true := by
    unfold divOk
    have h1 : ((g : Int) == 0) = false := by
      simp
      omega
    have h2 : (g : Int).natAbs.log2 < 250 := log2_small (by omega) (by decide)
    simp [h1, Nat.blt]
    have : (g : Int).natAbs = g := rfl
    rw [this] at h2
    omega
  have e4 : den (P.cf (P.call (k + 1))) (.tup (.cons (.bin .fdiv (.v 0) (.v 2)) (.cons (.bin .fdiv (.v 1) (.v 2)) .nil))) [dI u, dI l, dI g] = .ok (.d (.tuple [.int (u.fdiv g), .int (l.fdiv g)])) [dI u, dI l, dI g] :=
    tup2 (bin_fdiv (od_v rfl) (od_v rfl) hd) (bin_fdiv (od_v rfl) (od_v rfl) hd)
  unfold runFn
  have body : exes (P.cf (P.call (k + 1))) (noF c).body ([dI u, dI l] ++ List.replicate ((noF c).ns - (noF c).np) .un) = .ret (.d (frI u l)) [dI u, dI l, dI g] := by
    unfold frI
    rw [hG]
    exact (exes_nx (set_nx e3 rfl)).trans (exes_ret (ret_nn rfl e4))
  rw [body]
  rfl
def sml (i : Int) : Bool := Nat.blt i.natAbs 1267650600228229401496703205376
theorem sml_lt {i : Int} (h : sml i = true) : i.natAbs < 2 ^ 100 := by
  have := Nat.le_of_ble_eq_true h
  have e : (2 : Nat) ^ 100 = 1267650600228229401496703205376 := by decide
  omega
theorem mul_lt {i j : Int} {a b : Nat} (h1 : i.natAbs < 2 ^ a) (h2 : j.natAbs < 2 ^ b) : (i * j).natAbs < 2 ^ (a + b) := by
  rw [Int.natAbs_mul, Nat.pow_add]
  exact Nat.mul_lt_mul'' h1 h2
def plusF (n : Nat) : Fn := ⟨2, 2, [false, false], [], .cons (.ret (.call n (.cons (.bin .add (.bin .mul (.idx (.v 0) (.k (.int (.ofNat 0)))) (.idx (.v 1) (.k (.int (.ofNat 1))))) (.bin .mul (.idx (.v 1) (.k (.int (.ofNat 0)))) (.idx (.v 0) (.k (.int (.ofNat 1)))))) (.cons (.bin .mul (.idx (.v 0) (.k (.int (.ofNat 1)))) (.idx (.v 1) (.k (.int (.ofNat 1))))) .nil)) .nil)) .nil⟩
def timesF (n : Nat) : Fn := ⟨2, 2, [false, false], [], .cons (.ret (.call n (.cons (.bin .mul (.idx (.v 0) (.k (.int (.ofNat 0)))) (.idx (.v 1) (.k (.int (.ofNat 0))))) (.cons (.bin .mul (.idx (.v 0) (.k (.int (.ofNat 1)))) (.idx (.v 1) (.k (.int (.ofNat 1))))) .nil)) .nil)) .nil⟩
def plusI (x y : PyData) : Option PyData := match x with
  | .tuple [.int a, .int b] => (match y with
    | .tuple [.int c, .int d] => if sml a && sml b && sml c && sml d && decide (0 < b) && decide (0 < d) then some (frI (a * d + c * b) (b * d)) else none
    | _ => none)
  | _ => none
def timesI (x y : PyData) : Option PyData := match x with
  | .tuple [.int a, .int b] => (match y with
    | .tuple [.int c, .int d] => if sml a && sml b && sml c && sml d && decide (0 < b) && decide (0 < d) then some (frI (a * c) (b * d)) else none
    | _ => none)
  | _ => none
theorem pair_in {x y z : PyData} {f : Int → Int → Int → Int → Option PyData} (h : (match x with
  | .tuple [.int a, .int b] => (match y with
    | .tuple [.int c, .int d] => f a b c d
    | _ => none)
  | _ => none) = some z) : ∃ a b c d, x = .tuple [.int a, .int b] ∧ y = .tuple [.int c, .int d] ∧ f a b c d = some z := by
  split at h
  · split at h
    · exact ⟨_, _, _, _, rfl, rfl, h⟩
    · cases h
  · cases h
structure FrP (P : Prog) (c n p t : Nat) : Prop where
  hc : nth P.fns c = some commonF
  hn : nth P.fns n = some (noF c)
  hp : nth P.fns p = some (plusF n)
  ht : nth P.fns t = some (timesF n)
  hw : P.wf = 100000
section
variable {P : Prog} {c n p t k : Nat}
theorem plus_ok (F : FrP P c n p t) {x y z : PyData} (h : plusI x y = some z) : P.call (k + 3) p [.d x, .d y] = .ok (.d z) [.un, .un] := by
  obtain ⟨a1, b1, a2, b2, rfl, rfl, h2⟩ := pair_in h
  clear h
  have h := h2
  clear h2
  split at h
  · rename_i hs
    simp only [Bool.and_eq_true, decide_eq_true_eq] at hs
    obtain ⟨⟨⟨⟨⟨s1, s2⟩, s3⟩, s4⟩, p1⟩, p2⟩ := hs
    have s1 := sml_lt s1
    have s2 := sml_lt s2
    have s3 := sml_lt s3
    have s4 := sml_lt s4
    simp only [Option.some.injEq] at h
    subst h
    rw [call_fn F.hp]
    have m1 := mul_lt s1 s4
    have m2 := mul_lt s3 s2
    have m3 := mul_lt s2 s4
    have hpos : 0 < b1 * b2 := Int.mul_pos p1 p2
    have hlt : b1 * b2 < 2 ^ 240 := by
      have : (2 : Nat) ^ (100 + 100) < 2 ^ 240 := by decide
      omega
    have hc := no_ok (k := k) (u := a1 * b2 + a2 * b1) F.hc F.hn F.hw hpos hlt
    have i1 : ∀ (a : IE), True := fun _ => trivial
    have d1 : den (P.cf (P.call (k + 2))) (.bin .mul (.idx (.v 0) (.k (.int (.ofNat 0)))) (.idx (.v 1) (.k (.int (.ofNat 1))))) [.d (.tuple [.int a1, .int b1]), .d (.tuple [.int a2, .int b2])] = .ok (dI (a1 * b2)) [.d (.tuple [.int a1, .int b1]), .d (.tuple [.int a2, .int b2])] :=
      bin_mul (od_nn rfl rfl) (od_nn rfl rfl) (mulOk_small (by omega) (by omega))
    have d2 : den (P.cf (P.call (k + 2))) (.bin .mul (.idx (.v 1) (.k (.int (.ofNat 0)))) (.idx (.v 0) (.k (.int (.ofNat 1))))) [.d (.tuple [.int a1, .int b1]), .d (.tuple [.int a2, .int b2])] = .ok (dI (a2 * b1)) [.d (.tuple [.int a1, .int b1]), .d (.tuple [.int a2, .int b2])] :=
      bin_mul (od_nn rfl rfl) (od_nn rfl rfl) (mulOk_small (by omega) (by omega))
    have d3 : den (P.cf (P.call (k + 2))) (.bin .mul (.idx (.v 0) (.k (.int (.ofNat 1)))) (.idx (.v 1) (.k (.int (.ofNat 1))))) [.d (.tuple [.int a1, .int b1]), .d (.tuple [.int a2, .int b2])] = .ok (dI (b1 * b2)) [.d (.tuple [.int a1, .int b1]), .d (.tuple [.int a2, .int b2])] :=
      bin_mul (od_nn rfl rfl) (od_nn rfl rfl) (mulOk_small (by omega) (by omega))
    have e := callE2 (C := P.cf (P.call (k + 2))) (j := n) ((fl_fn F.hn).trans rfl) ((df_fn F.hn).trans rfl) (arg_nnd rfl (bin_add (od_nn rfl d1) (od_nn rfl d2))) (arg_nnd rfl d3) rfl rfl hc
    unfold runFn
    have body : exes (P.cf (P.call (k + 2))) (plusF n).body ([.d (.tuple [.int a1, .int b1]), .d (.tuple [.int a2, .int b2])] ++ List.replicate ((plusF n).ns - (plusF n).np) .un) = .ret (.d (frI (a1 * b2 + a2 * b1) (b1 * b2))) [.d (.tuple [.int a1, .int b1]), .d (.tuple [.int a2, .int b2])] := exes_ret (ret_nn rfl e)
    rw [body]
    rfl
  · cases h
theorem times_ok (F : FrP P c n p t) {x y z : PyData} (h : timesI x y = some z) : P.call (k + 3) t [.d x, .d y] = .ok (.d z) [.un, .un] := by
  obtain ⟨a1, b1, a2, b2, rfl, rfl, h2⟩ := pair_in h
  clear h
  have h := h2
  clear h2
  split at h
  · rename_i hs
    simp only [Bool.and_eq_true, decide_eq_true_eq] at hs
    obtain ⟨⟨⟨⟨⟨s1, s2⟩, s3⟩, s4⟩, p1⟩, p2⟩ := hs
    have s1 := sml_lt s1
    have s2 := sml_lt s2
    have s3 := sml_lt s3
    have s4 := sml_lt s4
    simp only [Option.some.injEq] at h
    subst h
    rw [call_fn F.ht]
    have m3 := mul_lt s2 s4
    have hpos : 0 < b1 * b2 := Int.mul_pos p1 p2
    have hlt : b1 * b2 < 2 ^ 240 := by
      have : (2 : Nat) ^ (100 + 100) < 2 ^ 240 := by decide
      omega
    have hc := no_ok (k := k) (u := a1 * a2) F.hc F.hn F.hw hpos hlt
    have d1 : den (P.cf (P.call (k + 2))) (.bin .mul (.idx (.v 0) (.k (.int (.ofNat 0)))) (.idx (.v 1) (.k (.int (.ofNat 0))))) [.d (.tuple [.int a1, .int b1]), .d (.tuple [.int a2, .int b2])] = .ok (dI (a1 * a2)) [.d (.tuple [.int a1, .int b1]), .d (.tuple [.int a2, .int b2])] :=
      bin_mul (od_nn rfl rfl) (od_nn rfl rfl) (mulOk_small (by omega) (by omega))
    have d3 : den (P.cf (P.call (k + 2))) (.bin .mul (.idx (.v 0) (.k (.int (.ofNat 1)))) (.idx (.v 1) (.k (.int (.ofNat 1))))) [.d (.tuple [.int a1, .int b1]), .d (.tuple [.int a2, .int b2])] = .ok (dI (b1 * b2)) [.d (.tuple [.int a1, .int b1]), .d (.tuple [.int a2, .int b2])] :=
      bin_mul (od_nn rfl rfl) (od_nn rfl rfl) (mulOk_small (by omega) (by omega))
    have e := callE2 (C := P.cf (P.call (k + 2))) (j := n) ((fl_fn F.hn).trans rfl) ((df_fn F.hn).trans rfl) (arg_nnd rfl d1) (arg_nnd rfl d3) rfl rfl hc
    unfold runFn
    have body : exes (P.cf (P.call (k + 2))) (timesF n).body ([.d (.tuple [.int a1, .int b1]), .d (.tuple [.int a2, .int b2])] ++ List.replicate ((timesF n).ns - (timesF n).np) .un) = .ret (.d (frI (a1 * a2) (b1 * b2))) [.d (.tuple [.int a1, .int b1]), .d (.tuple [.int a2, .int b2])] := exes_ret (ret_nn rfl e)
    rw [body]
    rfl
  · cases h
/-! sums -/
def totalF (p : Nat) : Fn := ⟨1, 3, [false], [], .cons (.set (.nm 1) (.tup (.cons (.k (.int (.ofNat 0))) (.cons (.k (.int (.ofNat 1))) .nil)))) (.cons (.fr (.nm 2) (.seq (.v 0)) (.cons (.set (.nm 1) (.call p (.cons (.v 1) (.cons (.v 2) .nil)) .nil)) .nil)) (.cons (.ret (.v 1)) .nil))⟩
def totI (x : PyData) : List PyData → Option PyData
  | [] => some x
  | y :: ys => match plusI x y with
    | some z => totI z ys
    | none => none
abbrev zI : PyData := .tuple [.int 0, .int 1]
def totalI (x : PyData) : Option PyData := match x with
  | .list xs => totI zI xs
  | .tuple xs => totI zI xs
  | _ => none
theorem tot_fr (F : FrP P c n p t) {w : T} : ∀ {ys : List PyData} {x z : PyData} {o : T}, totI x ys = some z → ∃ o', frL (exes (P.cf (P.call (k + 3))) (.cons (.set (.nm 1) (.call p (.cons (.v 1) (.cons (.v 2) .nil)) .nil)) .nil)) (.nm 2) ys [w, .d x, o] = .nx [w, .d z, o']
  | [], x, z, o, h => by
    simp only [totI, Option.some.injEq] at h
    subst h
    exact ⟨o, rfl⟩
  | y :: ys, x, z, o, h => by
    unfold totI at h
    split at h
    · rename_i u e
      obtain ⟨o', h2⟩ := tot_fr F (w := w) (o := .d y) h
      refine ⟨o', ?_⟩
      have e1 := callE2 (C := P.cf (P.call (k + 3))) (j := p) (δ := [w, .d x, .d y]) ((fl_fn F.hp).trans rfl) ((df_fn F.hp).trans rfl) (arg_v (i := 1) rfl) (arg_v (i := 2) rfl) rfl rfl (plus_ok (k := k) F e)
      have e2 : exes (P.cf (P.call (k + 3))) (.cons (.set (.nm 1) (.call p (.cons (.v 1) (.cons (.v 2) .nil)) .nil)) .nil) [w, .d x, .d y] = .nx [w, .d u, .d y] := exes_one (set_nx e1 rfl)
      show (match bindT (.nm 2) (.d y) [w, .d x, o] with
        | none => RS.no
        | some δ => match exes (P.cf (P.call (k + 3))) _ δ with
          | .nx δ => frL (exes (P.cf (P.call (k + 3))) _) (.nm 2) ys δ
          | .ct δ => frL (exes (P.cf (P.call (k + 3))) _) (.nm 2) ys δ
          | .bk δ => .nx δ
          | r => r) = _
      have e0 : bindT (.nm 2) (.d y) [w, .d x, o] = some [w, .d x, .d y] := rfl
      rw [e0]
      simp only [e2]
      exact h2
    · cases h
theorem total_ok (F : FrP P c n p t) {j : Nat} (hj : nth P.fns j = some (totalF p)) {x z : PyData} (h : totalI x = some z) : P.call (k + 4) j [.d x] = .ok (.d z) [.un] := by
  have main : ∀ {xs : List PyData}, seqT (.d x) = some xs → totI zI xs = some z → P.call (k + 4) j [.d x] = .ok (.d z) [.un] := by
    intro xs hs h
    rw [call_fn hj]
    obtain ⟨o', e⟩ := tot_fr (k := k) F (w := .d x) (o := .un) h
    have s1 : exe (P.cf (P.call (k + 3))) (.set (.nm 1) (.tup (.cons (.k (.int (.ofNat 0))) (.cons (.k (.int (.ofNat 1))) .nil)))) [.d x, .un, .un] = .nx [.d x, .d zI, .un] := set_nx (tup2 (rfl : den _ (.k (.int (.ofNat 0))) _ = .ok (.d (.int 0)) _) (rfl : den _ (.k (.int (.ofNat 1))) _ = .ok (.d (.int 1)) _)) rfl
    have s2 : exe (P.cf (P.call (k + 3))) (.fr (.nm 2) (.seq (.v 0)) (.cons (.set (.nm 1) (.call p (.cons (.v 1) (.cons (.v 2) .nil)) .nil)) .nil)) [.d x, .d zI, .un] = .nx [.d x, .d z, o'] := by
      refine fr_nx (δ' := [.d x, .d zI, .un]) (xs := xs) ?_ e
      show iSeq (mV 0) _ = _
      show fromO (seqT (.d x)) [T.d x, .d zI, .un] = _
      rw [hs]
      rfl
    unfold runFn
    have body : exes (P.cf (P.call (k + 3))) (totalF p).body ([.d x] ++ List.replicate ((totalF p).ns - (totalF p).np) .un) = .ret (.d z) [.d x, .un, o'] := (exes_nx s1).trans ((exes_nx s2).trans (exes_ret (ret_v rfl)))
    rw [body]
    rfl
  unfold totalI at h
  split at h
  · exact main rfl h
  · exact main rfl h
  · cases h
end
/-! ### orders, squares -/
def afterF : Fn := ⟨2, 3, [false, false], [], .cons (.ret (.blt .tuple (.cons (.lc [2] (.idx (.v 0) (.v 2)) (.nm 2) (.seq (.v 1)) .no) .nil))) .nil⟩
def afterI (x y : PyData) : Option PyData := match y with
  | .tuple ys => if small ys.length then (match optMap (idxD x) ys with
    | some zs => some (.tuple zs)
    | none => none) else none
  | _ => none
theorem after_ok {P : Prog} {j k : Nat} {x y z : PyData} (hj : nth P.fns j = some afterF) (h : afterI x y = some z) : P.call (k + 1) j [.d x, .d y] = .ok (.d z) [.un, .un] := by
  unfold afterI at h
  split at h
  · rename_i ys
    split at h
    · rename_i hs
      split at h
      · rename_i zs e
        simp only [Option.some.injEq] at h
        subst h
        rw [call_fn hj]
        obtain ⟨δ', e2, rfl⟩ := lc_opt (re := den (P.cf (P.call k)) (.idx (.v 0) (.v 2))) (tg := .nm 2) (own := [2]) (J := fun δ => δ = [.d x, .d (.tuple ys), .un]) (δ := [.d x, .d (.tuple ys), .un]) (f := idxD x) (by
          rintro a _ b δ rfl hab
          exact ⟨[.d x, .d (.tuple ys), .d a], [.d x, .d (.tuple ys), .d a], rfl, idx_od rfl (od_v rfl) (od_v rfl) hab, rfl⟩) e rfl
        have e3 : den (P.cf (P.call k)) (.lc [2] (.idx (.v 0) (.v 2)) (.nm 2) (.seq (.v 1)) .no) [.d x, .d (.tuple ys), .un] = .ok (.lst (zs.map .d)) [.d x, .d (.tuple ys), .un] :=
          lc_den' (δ' := [.d x, .d (.tuple ys), .un]) (xs := ys) rfl e2 (by rw [List.length_map, optMap_len e]; exact hs)
        unfold runFn
        have body : exes (P.cf (P.call k)) afterF.body ([.d x, .d (.tuple ys)] ++ List.replicate (afterF.ns - afterF.np) .un) = .ret (.d (.tuple zs)) [.d x, .d (.tuple ys), .un] := exes_ret (ret_nn rfl (tup_lst rfl e3))
        rw [body]
        rfl
      · cases h
    · cases h
  · cases h
def multF (tt tm : Nat) : Fn := ⟨2, 6, [false, false], [], .cons (.set (.nm 2) (.lrng (.rng1 (.blt .len (.cons (.v 0) .nil))))) (.cons (.ret (.blt .tuple (.cons (.lc [5] (.blt .tuple (.cons (.lc [4] (.call tt (.cons (.lc [3] (.call tm (.cons (.idx (.v 5) (.v 3)) (.cons (.idx (.idx (.v 1) (.v 3)) (.v 4)) .nil)) .nil) (.nm 3) (.seq (.v 2)) .no) .nil) .nil) (.nm 4) (.seq (.v 2)) .no) .nil)) (.nm 5) (.seq (.v 0)) .no) .nil))) .nil)⟩
def cellI (r B : PyData) (to i : PyData) : Option PyData := match idxD r i with
  | some x => (match idxD B i with
    | some row => (match idxD row to with
      | some y => timesI x y
      | none => none)
    | none => none)
  | none => none
def dotI (r B : PyData) (is : List PyData) (to : PyData) : Option PyData := match optMap (cellI r B to) is with
  | some xs => totalI (.list xs)
  | none => none
def rowI (B : PyData) (is : List PyData) (r : PyData) : Option PyData := match optMap (dotI r B is) is with
  | some ys => some (.tuple ys)
  | none => none
def multI (A B : PyData) : Option PyData := match A with
  | .tuple rows => if Nat.ble rows.length 64 then (match optMap (rowI B (rangeI 0 rows.length)) rows with
    | some zs => some (.tuple zs)
    | none => none) else none
  | _ => none
theorem rangeI_int : ∀ (n : Nat) (i : Int), ∀ x ∈ rangeI i n, ∃ j, x = .int j
  | 0, _, x, h => nomatch h
  | n + 1, i, x, h => by
    rcases List.mem_cons.mp h with rfl | h
    · exact ⟨_, rfl⟩
    · exact rangeI_int n (i + 1) x h
section
variable {P : Prog} {c n p t k tt : Nat}
/-- the list of places, own or let go -/
def Wi (is : List PyData) (w : T) : Prop := w = .lst (is.map .d) ∨ w = .d (.list is)
theorem Wi.walk {C : Cf} {is : List PyData} {A B w a b d : T} (h : Wi is w) : itm C (.seq (.v 2)) [A, B, w, a, b, d] = .ok is [A, B, .d (.list is), a, b, d] := by
  show iSeq (mV 2) _ = _
  rcases h with rfl | rfl
  · have e : T.data (.lst (is.map .d)) = some (.list is) := by simp only [T.data, datas_ds]
    unfold iSeq bind1 mV
    simp only [nth, e]
    rfl
  · rfl
theorem cell_ok (F : FrP P c n p t) {A B r to i z : PyData} {W : T} (hk : ∃ j, i = .int j) (h : cellI r B to i = some z) :
    den (P.cf (P.call (k + 3))) (.call t (.cons (.idx (.v 5) (.v 3)) (.cons (.idx (.idx (.v 1) (.v 3)) (.v 4)) .nil)) .nil) [.d A, .d B, W, .d i, .d to, .d r] = .ok (.d z) [.d A, .d B, W, .d i, .d to, .d r] := by
  obtain ⟨j, rfl⟩ := hk
  unfold cellI at h
  split at h
  · rename_i x e1
    split at h
    · rename_i row e2
      split at h
      · rename_i y e3
        have h1 : den (P.cf (P.call (k + 3))) (.idx (.v 5) (.v 3)) [.d A, .d B, W, .d (.int j), .d to, .d r] = .ok (.d x) [.d A, .d B, W, .d (.int j), .d to, .d r] := idx_od rfl (od_v rfl) (od_v rfl) e1
        have h2 : den (P.cf (P.call (k + 3))) (.idx (.v 1) (.v 3)) [.d A, .d B, W, .d (.int j), .d to, .d r] = .ok (.d row) [.d A, .d B, W, .d (.int j), .d to, .d r] := idx_od rfl (od_v rfl) (od_v rfl) e2
        have h3 : den (P.cf (P.call (k + 3))) (.idx (.idx (.v 1) (.v 3)) (.v 4)) [.d A, .d B, W, .d (.int j), .d to, .d r] = .ok (.d y) [.d A, .d B, W, .d (.int j), .d to, .d r] := idx_od rfl (od_nn rfl h2) (od_v rfl) e3
        exact callE2 (C := P.cf (P.call (k + 3))) (j := t) ((fl_fn F.ht).trans rfl) ((df_fn F.ht).trans rfl) (arg_nnd rfl h1) (arg_nnd rfl h3) rfl rfl (times_ok F h)
      · cases h
    · cases h
  · cases h
theorem dot_ok (F : FrP P c n p t) (ht : nth P.fns tt = some (totalF p)) {A B r to z : PyData} {is : List PyData} {w : T} (hw : Wi is w) (hi : ∀ x ∈ is, ∃ j, x = .int j) (hl : is.length ≤ 64) (h : dotI r B is to = some z) :
    den (P.cf (P.call (k + 4))) (.call tt (.cons (.lc [3] (.call t (.cons (.idx (.v 5) (.v 3)) (.cons (.idx (.idx (.v 1) (.v 3)) (.v 4)) .nil)) .nil) (.nm 3) (.seq (.v 2)) .no) .nil) .nil) [.d A, .d B, w, .un, .d to, .d r] = .ok (.d z) [.d A, .d B, .d (.list is), .un, .d to, .d r] := by
  unfold dotI at h
  split at h
  · rename_i xs e
    obtain ⟨δ', e2, rfl⟩ := lc_opt (re := den (P.cf (P.call (k + 4))) (.call t (.cons (.idx (.v 5) (.v 3)) (.cons (.idx (.idx (.v 1) (.v 3)) (.v 4)) .nil)) .nil)) (tg := .nm 3) (own := [3]) (J := fun δ => δ = [.d A, .d B, .d (.list is), .un, .d to, .d r]) (δ := [.d A, .d B, .d (.list is), .un, .d to, .d r]) (f := cellI r B to) (by
      rintro i hin z δ rfl hz
      exact ⟨[.d A, .d B, .d (.list is), .d i, .d to, .d r], _, rfl, cell_ok (k := k + 1) F (hi i hin) hz, rfl⟩) e rfl
    have e3 := lc_den' (C := P.cf (P.call (k + 4))) (δ := [.d A, .d B, w, .un, .d to, .d r]) (hw.walk) e2 (small63 (by rw [List.length_map, optMap_len e]; exact hl))
    exact callE1 (C := P.cf (P.call (k + 4))) (j := tt) ((fl_fn ht).trans rfl) ((df_fn ht).trans rfl) (arg_nnd rfl e3) (prep_lst xs) (total_ok F ht h)
  · cases h
theorem row_ok (F : FrP P c n p t) (ht : nth P.fns tt = some (totalF p)) {A B r z : PyData} {is : List PyData} {w : T} (hw : Wi is w) (hi : ∀ x ∈ is, ∃ j, x = .int j) (hl : is.length ≤ 64) (h : rowI B is r = some z) :
    den (P.cf (P.call (k + 4))) (.blt .tuple (.cons (.lc [4] (.call tt (.cons (.lc [3] (.call t (.cons (.idx (.v 5) (.v 3)) (.cons (.idx (.idx (.v 1) (.v 3)) (.v 4)) .nil)) .nil) (.nm 3) (.seq (.v 2)) .no) .nil) .nil) (.nm 4) (.seq (.v 2)) .no) .nil)) [.d A, .d B, w, .un, .un, .d r] = .ok (.d z) [.d A, .d B, .d (.list is), .un, .un, .d r] := by
  unfold rowI at h
  split at h
  · rename_i ys e
    simp only [Option.some.injEq] at h
    subst h
    obtain ⟨δ', e2, rfl⟩ := lc_opt (re := den (P.cf (P.call (k + 4))) (.call tt (.cons (.lc [3] (.call t (.cons (.idx (.v 5) (.v 3)) (.cons (.idx (.idx (.v 1) (.v 3)) (.v 4)) .nil)) .nil) (.nm 3) (.seq (.v 2)) .no) .nil) .nil)) (tg := .nm 4) (own := [4]) (J := fun δ => δ = [.d A, .d B, .d (.list is), .un, .un, .d r]) (δ := [.d A, .d B, .d (.list is), .un, .un, .d r]) (f := dotI r B is) (by
      rintro to _ z δ rfl hz
      exact ⟨[.d A, .d B, .d (.list is), .un, .d to, .d r], _, rfl, dot_ok F ht (.inr rfl) hi hl hz, rfl⟩) e rfl
    have e3 := lc_den' (C := P.cf (P.call (k + 4))) (δ := [.d A, .d B, w, .un, .un, .d r]) (hw.walk) e2 (small63 (by rw [List.length_map, optMap_len e]; exact hl))
    exact tup_lst rfl e3
  · cases h
theorem rng1_ok {C : Cf} {e : IE} {n : Nat} {δ δ' : List T} (h : den C e δ = .ok (.d (.int (n : Int))) δ') (hn : n ≤ 1000000) : itm C (.rng1 e) δ = .ok (rangeI 0 n) δ' := by
  have hr : inR (n : Int) = true := by
    unfold inR
    simp only [Bool.and_eq_true, decide_eq_true_eq]
    omega
  have ht : (n : Int).toNat = n := by simp
  show iRng1 (den C e) δ = _
  unfold iRng1 bind1
  rw [h]
  simp only [hr, if_true, ht]
theorem lrng_ok {C : Cf} {it : It} {xs : List PyData} {δ δ' : List T} (h : itm C it δ = .ok xs δ') (hs : small xs.length = true) : den C (.lrng it) δ = .ok (.lst (xs.map .d)) δ' := by
  show mLrng (itm C it) δ = _
  unfold mLrng bind1
  rw [h]
  simp only [hs, if_true]
theorem mult_ok (F : FrP P c n p t) (ht : nth P.fns tt = some (totalF p)) {m : Nat} (hm : nth P.fns m = some (multF tt t)) {A B z : PyData} (h : multI A B = some z) : P.call (k + 5) m [.d A, .d B] = .ok (.d z) [.un, .un] := by
  unfold multI at h
  split at h
  · rename_i rows
    split at h
    · rename_i hs
      split at h
      · rename_i zs e
        simp only [Option.some.injEq] at h
        subst h
        have hl := Nat.le_of_ble_eq_true hs
        have hll : (rangeI 0 rows.length).length ≤ 64 := by rw [rangeI_len]; exact hl
        rw [call_fn hm]
        have e0 : den (P.cf (P.call (k + 4))) (.blt .len (.cons (.v 0) .nil)) [.d (.tuple rows), .d B, .un, .un, .un, .un] = .ok (.d (.int rows.length)) [.d (.tuple rows), .d B, .un, .un, .un, .un] := rfl
        have e1 : den (P.cf (P.call (k + 4))) (.lrng (.rng1 (.blt .len (.cons (.v 0) .nil)))) [.d (.tuple rows), .d B, .un, .un, .un, .un] = .ok (.lst ((rangeI 0 rows.length).map .d)) [.d (.tuple rows), .d B, .un, .un, .un, .un] := by
          exact lrng_ok (rng1_ok e0 (by omega)) (small63 hll)
        obtain ⟨δ', e2, w', rfl, hw'⟩ := lc_opt (re := den (P.cf (P.call (k + 4))) (.blt .tuple (.cons (.lc [4] (.call tt (.cons (.lc [3] (.call t (.cons (.idx (.v 5) (.v 3)) (.cons (.idx (.idx (.v 1) (.v 3)) (.v 4)) .nil)) .nil) (.nm 3) (.seq (.v 2)) .no) .nil) .nil) (.nm 4) (.seq (.v 2)) .no) .nil))) (tg := .nm 5) (own := [5]) (J := fun δ => ∃ w, δ = [.d (.tuple rows), .d B, w, .un, .un, .un] ∧ Wi (rangeI 0 rows.length) w) (δ := [.d (.tuple rows), .d B, .lst ((rangeI 0 rows.length).map .d), .un, .un, .un]) (f := rowI B (rangeI 0 rows.length)) (by
          rintro r _ z δ ⟨w, rfl, hw⟩ hz
          exact ⟨[.d (.tuple rows), .d B, w, .un, .un, .d r], _, rfl, row_ok F ht hw (rangeI_int _ _) hll hz, _, rfl, .inr rfl⟩) e ⟨_, rfl, .inl rfl⟩
        have e3 := lc_den' (C := P.cf (P.call (k + 4))) (δ := [.d (.tuple rows), .d B, .lst ((rangeI 0 rows.length).map .d), .un, .un, .un]) (δ' := [.d (.tuple rows), .d B, .lst ((rangeI 0 rows.length).map .d), .un, .un, .un]) (it := .seq (.v 0)) rfl e2 (small63 (by rw [List.length_map, optMap_len e]; exact hl))
        unfold runFn
        have body : exes (P.cf (P.call (k + 4))) (multF tt t).body ([.d (.tuple rows), .d B] ++ List.replicate ((multF tt t).ns - (multF tt t).np) .un) = .ret (.d (.tuple zs)) [.d (.tuple rows), .d B, w', .un, .un, .un] :=
          (exes_nx (set_nx e1 rfl)).trans (exes_ret (ret_nn rfl (tup_lst rfl e3)))
        rw [body]
        rfl
      · cases h
    · cases h
  · cases h
end
theorem not_t {C : Cf} {a : IE} {δ δ' : List T} {b : Bool} (h : den C a δ = .ok (.d (.bool b)) δ') : den C (.not a) δ = .ok (.d (.bool (!b))) δ' := by
  show mNot (den C a) δ = _
  unfold mNot bind1
  rw [h]
end Ev
set_option maxRecDepth 1000000
set_option maxHeartbeats 0
namespace Lw
open PySem Ev
/- 0: is_whole(thing) thing=0 -/
def f0 : Fn := ⟨1, 1, [false], [], (.cons (.ret (.and (.isi [.int] (.v 0)) (.not (.isi [.bool] (.v 0))))) .nil)⟩
/- 1: is_below(thing, many) thing=0 many=1 -/
def f1 : Fn := ⟨2, 2, [false, false], [], (.cons (.ret (.and (.call 0 (.cons (.v 0) .nil) .nil) (.chain .le .lt (.k (.int (.ofNat 0))) (.v 0) (.v 1)))) .nil)⟩
/- 2: number(upper, lower) upper=0 lower=1 by=2 -/
def f2 : Fn := ⟨2, 3, [false, false], [(.int (.ofNat 1))], (.cons (.set (.nm 2) (.ife (.cmp .gt (.v 1) (.k (.int (.ofNat 0)))) (.blt .gcd (.cons (.v 0) (.cons (.v 1) .nil))) (.bin .sub (.k (.int (.ofNat 0))) (.blt .gcd (.cons (.v 0) (.cons (.v 1) .nil)))))) (.cons (.ret (.tup (.cons (.bin .fdiv (.v 0) (.v 2)) (.cons (.bin .fdiv (.v 1) (.v 2)) .nil)))) .nil))⟩
/- 3: plus(one, other) one=0 other=1 -/
def f3 : Fn := ⟨2, 2, [false, false], [], (.cons (.ret (.call 2 (.cons (.bin .add (.bin .mul (.idx (.v 0) (.k (.int (.ofNat 0)))) (.idx (.v 1) (.k (.int (.ofNat 1))))) (.bin .mul (.idx (.v 1) (.k (.int (.ofNat 0)))) (.idx (.v 0) (.k (.int (.ofNat 1)))))) (.cons (.bin .mul (.idx (.v 0) (.k (.int (.ofNat 1)))) (.idx (.v 1) (.k (.int (.ofNat 1))))) .nil)) .nil)) .nil)⟩
/- 4: times(one, other) one=0 other=1 -/
def f4 : Fn := ⟨2, 2, [false, false], [], (.cons (.ret (.call 2 (.cons (.bin .mul (.idx (.v 0) (.k (.int (.ofNat 0)))) (.idx (.v 1) (.k (.int (.ofNat 0))))) (.cons (.bin .mul (.idx (.v 0) (.k (.int (.ofNat 1)))) (.idx (.v 1) (.k (.int (.ofNat 1))))) .nil)) .nil)) .nil)⟩
/- 5: is_like(thing, told) thing=0 told=1 one=2 other=3 -/
def f5 : Fn := ⟨2, 4, [false, false], [], (.cons (.ite (.isi [.tuple] (.v 1)) (.cons (.ite (.or (.not (.isi [.tuple] (.v 0))) (.cmp .ne (.blt .len (.cons (.v 0) .nil)) (.blt .len (.cons (.v 1) .nil)))) (.cons (.ret (.k (.bool false))) .nil) .nil) (.cons (.ret (.blt .all (.cons (.lc [2, 3] (.call 5 (.cons (.v 2) (.cons (.v 3) .nil)) .nil) (.tup (.cons (.nm 2) (.cons (.nm 3) .nil))) (.zip2 (.v 0) (.v 1)) .no) .nil))) .nil)) .nil) (.cons (.ite (.isi [.str] (.v 1)) (.cons (.ret (.and (.isi [.str] (.v 0)) (.cmp .eq (.v 0) (.v 1)))) .nil) .nil) (.cons (.ret (.and (.isi [.int] (.v 0)) (.and (.not (.isi [.bool] (.v 0))) (.cmp .eq (.v 0) (.v 1))))) .nil)))⟩
/- 6: need_many(many) many=0 -/
def f6 : Fn := ⟨1, 1, [false], [], (.cons (.ite (.or (.not (.call 1 (.cons (.v 0) (.cons (.bin .add (.g 2) (.k (.int (.ofNat 1)))) .nil)) .nil)) (.cmp .eq (.v 0) (.k (.int (.ofNat 0))))) (.cons .bad .nil) .nil) .nil)⟩
/- 7: need_order(order) order=0 one=1 -/
def f7 : Fn := ⟨1, 2, [false], [], (.cons (.ite (.or (.not (.isi [.tuple] (.v 0))) (.not (.chain .le .le (.k (.int (.ofNat 1))) (.blt .len (.cons (.v 0) .nil)) (.g 2)))) (.cons .bad .nil) .nil) (.cons (.ite (.or (.not (.blt .all (.cons (.lc [1] (.call 1 (.cons (.v 1) (.cons (.blt .len (.cons (.v 0) .nil)) .nil)) .nil) (.nm 1) (.seq (.v 0)) .no) .nil))) (.cmp .ne (.blt .sorted (.cons (.v 0) .nil)) (.lrng (.rng1 (.blt .len (.cons (.v 0) .nil)))))) (.cons .bad .nil) .nil) .nil))⟩
/- 8: grown(shape) shape=0 found=1 at=2 -/
def f8 : Fn := ⟨1, 3, [false], [], (.cons (.set (.nm 1) (.lst (.cons (.bin .add (.v 0) (.tup (.cons (.k (.int (.ofNat 1))) .nil))) .nil))) (.cons (.fr (.nm 2) (.rng1 (.blt .len (.cons (.v 0) .nil))) (.cons (.ite (.or (.cmp .eq (.v 2) (.k (.int (.ofNat 0)))) (.cmp .gt (.idx (.v 0) (.bin .sub (.v 2) (.k (.int (.ofNat 1))))) (.idx (.v 0) (.v 2)))) (.cons (.ex (.mth .append (.v 1) (.cons (.bin .add (.bin .add (.slc (.v 0) .no (.yes (.v 2))) (.tup (.cons (.bin .add (.idx (.v 0) (.v 2)) (.k (.int (.ofNat 1)))) .nil))) (.slc (.v 0) (.yes (.bin .add (.v 2) (.k (.int (.ofNat 1))))) .no)) .nil))) .nil) .nil) .nil)) (.cons (.ret (.v 1)) .nil)))⟩
/- 9: shapes_of(many) many=0 found=1 lap=2 later=3 shape=4 one=5 -/
def f9 : Fn := ⟨1, 6, [false], [], (.cons (.set (.nm 1) (.dct (.cons (.tup (.cons (.k (.int (.ofNat 1))) .nil)) (.cons (.k (.bool true)) .nil)))) (.cons (.fr (.nm 2) (.rng1 (.bin .sub (.v 0) (.k (.int (.ofNat 1))))) (.cons (.set (.nm 3) (.dct .nil)) (.cons (.fr (.nm 4) (.seq (.v 1)) (.cons (.ex (.mth .update (.v 3) (.cons (.dc [5] (.v 5) (.k (.bool true)) (.nm 5) (.seq (.call 8 (.cons (.v 4) .nil) .nil)) .no) .nil))) .nil)) (.cons (.set (.nm 1) (.v 3)) .nil)))) (.cons (.ret (.blt .sortedR (.cons (.v 1) .nil))) .nil)))⟩
/- 10: shapes(things) things=0 -/
def f10 : Fn := ⟨1, 1, [false], [], (.cons (.ex (.call 6 (.cons (.v 0) .nil) .nil)) (.cons (.ret (.blt .tuple (.cons (.call 9 (.cons (.v 0) .nil) .nil) .nil))) .nil))⟩
/- 11: need_shape(shape) shape=0 many=1 one=2 -/
def f11 : Fn := ⟨1, 3, [false], [], (.cons (.fr (.nm 1) (.rng2 (.k (.int (.ofNat 1))) (.bin .add (.g 2) (.k (.int (.ofNat 1))))) (.cons (.ite (.blt .any (.cons (.lc [2] (.call 5 (.cons (.v 0) (.cons (.v 2) .nil)) .nil) (.nm 2) (.seq (.call 9 (.cons (.v 1) .nil) .nil)) .no) .nil)) (.cons .retN .nil) .nil) .nil)) (.cons .bad .nil))⟩
/- 12: fillings_of(shape) shape=0 found=1 lap=2 later=3 rows=4 row=5 wide=6 -/
def f12 : Fn := ⟨1, 7, [false], [], (.cons (.set (.nm 1) (.lst (.cons (.tup .nil) .nil))) (.cons (.fr (.nm 2) (.rng1 (.blt .sum (.cons (.v 0) .nil))) (.cons (.set (.nm 3) (.lst .nil)) (.cons (.fr (.nm 4) (.seq (.v 1)) (.cons (.fr (.nm 5) (.rng1 (.blt .len (.cons (.v 0) .nil))) (.cons (.set (.nm 6) (.mth .count (.v 4) (.cons (.v 5) .nil))) (.cons (.ite (.and (.cmp .lt (.v 6) (.idx (.v 0) (.v 5))) (.or (.cmp .eq (.v 5) (.k (.int (.ofNat 0)))) (.cmp .gt (.mth .count (.v 4) (.cons (.bin .sub (.v 5) (.k (.int (.ofNat 1)))) .nil)) (.v 6)))) (.cons (.ex (.mth .append (.v 3) (.cons (.bin .add (.v 4) (.tup (.cons (.v 5) .nil))) .nil))) .nil) .nil) .nil))) .nil)) (.cons (.set (.nm 1) (.v 3)) .nil)))) (.cons (.ret (.blt .sorted (.cons (.v 1) .nil))) .nil)))⟩
/- 13: fillings(shape) shape=0 -/
def f13 : Fn := ⟨1, 1, [false], [], (.cons (.ex (.call 11 (.cons (.v 0) .nil) .nil)) (.cons (.ret (.blt .tuple (.cons (.call 12 (.cons (.v 0) .nil) .nil) .nil))) .nil))⟩
/- 14: lean_of(rows, thing) rows=0 thing=1 -/
def f14 : Fn := ⟨2, 2, [false, false], [], (.cons (.ret (.bin .sub (.mth .count (.slc (.v 0) .no (.yes (.v 1))) (.cons (.idx (.v 0) (.v 1)) .nil)) (.idx (.v 0) (.v 1)))) .nil)⟩
/- 15: swap_square(shape, at) shape=0 at=1 some=2 found=3 one=4 place=5 rows=6 off=7 other=8 -/
def f15 : Fn := ⟨2, 9, [false, false], [], (.cons (.set (.nm 2) (.call 12 (.cons (.v 0) .nil) .nil)) (.cons (.set (.nm 3) (.lc [4] (.bin .mul (.lst (.cons (.g 0) .nil)) (.blt .len (.cons (.v 2) .nil))) (.nm 4) (.seq (.v 2)) .no)) (.cons (.fr (.tup (.cons (.nm 5) (.cons (.nm 6) .nil))) (.enm (.v 2)) (.cons (.set (.nm 7) (.bin .sub (.call 14 (.cons (.v 6) (.cons (.bin .add (.v 1) (.k (.int (.ofNat 1)))) .nil)) .nil) (.call 14 (.cons (.v 6) (.cons (.v 1) .nil)) .nil))) (.cons (.sub (.idx (.v 3) (.v 5)) (.v 5) (.call 2 (.cons (.k (.int (.ofNat 1))) (.cons (.v 7) .nil)) .nil)) (.cons (.set (.nm 8) (.bin .add (.bin .add (.slc (.v 6) .no (.yes (.v 1))) (.tup (.cons (.idx (.v 6) (.bin .add (.v 1) (.k (.int (.ofNat 1))))) (.cons (.idx (.v 6) (.v 1)) .nil)))) (.slc (.v 6) (.yes (.bin .add (.v 1) (.k (.int (.ofNat 2))))) .no))) (.cons (.ite (.and (.cmp .ne (.v 8) (.v 6)) (.cmp .isin (.v 8) (.v 2))) (.cons (.sub (.idx (.v 3) (.mth .index (.v 2) (.cons (.v 8) .nil))) (.v 5) (.call 2 (.cons (.bin .add (.v 7) (.k (.int (.ofNat 1)))) (.cons (.v 7) .nil)) .nil)) .nil) .nil) .nil))))) (.cons (.ret (.v 3)) .nil))))⟩
/- 16: multiplied(one, other) one=0 other=1 wide=2 at=3 to=4 row=5 -/
def f16 : Fn := ⟨2, 6, [false, false], [], (.cons (.set (.nm 2) (.lrng (.rng1 (.blt .len (.cons (.v 0) .nil))))) (.cons (.ret (.lc [5] (.lc [4] (.call 17 (.cons (.lc [3] (.call 4 (.cons (.idx (.v 5) (.v 3)) (.cons (.idx (.idx (.v 1) (.v 3)) (.v 4)) .nil)) .nil) (.nm 3) (.seq (.v 2)) .no) .nil) .nil) (.nm 4) (.seq (.v 2)) .no) (.nm 5) (.seq (.v 0)) .no)) .nil))⟩
/- 17: total_of(some) some=0 found=1 one=2 -/
def f17 : Fn := ⟨1, 3, [false], [], (.cons (.set (.nm 1) (.g 0)) (.cons (.fr (.nm 2) (.seq (.v 0)) (.cons (.set (.nm 1) (.call 3 (.cons (.v 1) (.cons (.v 2) .nil)) .nil)) .nil)) (.cons (.ret (.v 1)) .nil)))⟩
/- 18: unit_square(wide) wide=0 to=1 at=2 -/
def f18 : Fn := ⟨1, 3, [false], [], (.cons (.ret (.lc [2] (.lc [1] (.ife (.cmp .eq (.v 2) (.v 1)) (.g 1) (.g 0)) (.nm 1) (.rng1 (.v 0)) .no) (.nm 2) (.rng1 (.v 0)) .no)) .nil)⟩
/- 19: swaps_of(order) order=0 left=1 found=2 at=3 place=4 -/
def f19 : Fn := ⟨1, 5, [false], [], (.cons (.set (.tup (.cons (.nm 1) (.cons (.nm 2) .nil))) (.tup (.cons (.blt .list (.cons (.v 0) .nil)) (.cons (.lst .nil) .nil)))) (.cons (.wh (.cmp .ne (.v 1) (.blt .sorted (.cons (.v 1) .nil))) (.cons (.set (.nm 3) (.idx (.lc [4] (.v 4) (.nm 4) (.rng1 (.bin .sub (.blt .len (.cons (.v 1) .nil)) (.k (.int (.ofNat 1))))) (.yes (.cmp .gt (.idx (.v 1) (.v 4)) (.idx (.v 1) (.bin .add (.v 4) (.k (.int (.ofNat 1)))))))) (.k (.int (.ofNat 0))))) (.cons (.sets (.sb (.v 1) (.v 3) (.sb (.v 1) (.bin .add (.v 3) (.k (.int (.ofNat 1)))) .nil)) (.cons (.idx (.v 1) (.bin .add (.v 3) (.k (.int (.ofNat 1))))) (.cons (.idx (.v 1) (.v 3)) .nil))) (.cons (.ex (.mth .append (.v 2) (.cons (.v 3) .nil))) .nil)))) (.cons (.ret (.v 2)) .nil)))⟩
/- 20: square_of(shape, order) shape=0 order=1 found=2 at=3 -/
def f20 : Fn := ⟨2, 4, [false, false], [], (.cons (.set (.nm 2) (.call 18 (.cons (.blt .len (.cons (.call 12 (.cons (.v 0) .nil) .nil) .nil)) .nil) .nil)) (.cons (.fr (.nm 3) (.seq (.rev (.call 19 (.cons (.v 1) .nil) .nil))) (.cons (.set (.nm 2) (.call 16 (.cons (.v 2) (.cons (.call 15 (.cons (.v 0) (.cons (.v 3) .nil)) .nil) .nil)) .nil)) .nil)) (.cons (.ret (.v 2)) .nil)))⟩
/- 21: told_square(square) square=0 row=1 -/
def f21 : Fn := ⟨1, 2, [false], [], (.cons (.ret (.blt .tuple (.cons (.lc [1] (.blt .tuple (.cons (.v 1) .nil)) (.nm 1) (.seq (.v 0)) .no) .nil))) .nil)⟩
/- 22: order_part(shape, order) shape=0 order=1 -/
def f22 : Fn := ⟨2, 2, [false, false], [], (.cons (.ex (.call 11 (.cons (.v 0) .nil) .nil)) (.cons (.ex (.call 7 (.cons (.v 1) .nil) .nil)) (.cons (.ite (.cmp .ne (.blt .sum (.cons (.v 0) .nil)) (.blt .len (.cons (.v 1) .nil))) (.cons .bad .nil) .nil) (.cons (.ret (.call 21 (.cons (.call 20 (.cons (.v 0) (.cons (.v 1) .nil)) .nil) .nil) .nil)) .nil))))⟩
/- 23: _law_begun(script) script=0 great=1 cell=2 -/
def f23 : Fn := ⟨1, 3, [false], [], (.cons (.set (.nm 1) (.lc [2] (.bin .sub (.blt .abs (.cons (.v 2) .nil)) (.bin .pow (.k (.int (.ofNat 10))) (.k (.int (.ofNat 18))))) (.nm 2) (.seq (.v 0)) (.yes (.cmp .ge (.blt .abs (.cons (.v 2) .nil)) (.bin .pow (.k (.int (.ofNat 10))) (.k (.int (.ofNat 18)))))))) (.cons (.ret (.dct (.cons (.k (.str ⟨#[103, 114, 101, 97, 116]⟩)) (.cons (.mv 1) (.cons (.k (.str ⟨#[99, 101, 108, 108, 115]⟩)) (.cons (.lc [2] (.blt .abs (.cons (.v 2) .nil)) (.nm 2) (.seq (.v 0)) .no) (.cons (.k (.str ⟨#[114, 101, 115, 116]⟩)) (.cons (.k (.int (.ofNat 0))) (.cons (.k (.str ⟨#[116, 117, 114, 110]⟩)) (.cons (.k (.int (.ofNat 0))) .nil)))))))))) .nil))⟩
/- 24: _law_mixed(state) state=0 turn=1 found=2 prime=3 blend=4 cell=5 -/
def f24 : Fn := ⟨1, 6, [true], [], (.cons (.set (.tup (.cons (.nm 1) (.cons (.nm 2) .nil))) (.tup (.cons (.bin .add (.idx (.v 0) (.k (.str ⟨#[116, 117, 114, 110]⟩))) (.k (.int (.ofNat 1)))) (.cons (.k (.int (.ofNat 0))) .nil)))) (.cons (.sub (.v 0) (.k (.str ⟨#[116, 117, 114, 110]⟩)) (.v 1)) (.cons (.fr (.nm 3) (.seq (.lst (.cons (.k (.int (.ofNat 2147483629))) (.cons (.k (.int (.ofNat 2147483587))) (.cons (.k (.int (.ofNat 2147483579))) (.cons (.k (.int (.ofNat 2147483563))) .nil)))))) (.cons (.set (.nm 4) (.bin .add (.bin .mul (.k (.int (.ofNat 69621))) (.v 1)) (.bin .fdiv (.v 3) (.k (.int (.ofNat 41)))))) (.cons (.fr (.nm 5) (.seq (.idx (.v 0) (.k (.str ⟨#[99, 101, 108, 108, 115]⟩)))) (.cons (.set (.nm 4) (.bin .mod (.blt .int (.cons (.bin .add (.bin .add (.bin .mul (.v 4) (.k (.int (.ofNat 48271)))) (.v 5)) (.v 1)) .nil)) (.v 3))) .nil)) (.cons (.set (.nm 2) (.bin .add (.bin .mul (.v 2) (.k (.int (.ofNat 2147483659)))) (.bin .mod (.blt .int (.cons (.bin .pow (.v 4) (.k (.int (.ofNat 5)))) .nil)) (.v 3)))) .nil)))) (.cons (.ret (.v 2)) .nil))))⟩
/- 25: _law_draw(state, room) state=0 room=1 found=2 -/
def f25 : Fn := ⟨2, 3, [true, false], [], (.cons (.ite (.cmp .eq (.idx (.v 0) (.k (.str ⟨#[114, 101, 115, 116]⟩))) (.k (.int (.ofNat 0)))) (.cons (.sub (.v 0) (.k (.str ⟨#[114, 101, 115, 116]⟩)) (.ife (.cmp .ne (.idx (.v 0) (.k (.str ⟨#[103, 114, 101, 97, 116]⟩))) (.lst .nil)) (.mth .popAt (.idx (.v 0) (.k (.str ⟨#[103, 114, 101, 97, 116]⟩))) (.cons (.k (.int (.ofNat 0))) .nil)) (.call 24 (.cons (.v 0) .nil) .nil))) .nil) .nil) (.cons (.set (.nm 2) (.bin .mod (.blt .int (.cons (.idx (.v 0) (.k (.str ⟨#[114, 101, 115, 116]⟩))) .nil)) (.v 1))) (.cons (.sub (.v 0) (.k (.str ⟨#[114, 101, 115, 116]⟩)) (.bin .fdiv (.idx (.v 0) (.k (.str ⟨#[114, 101, 115, 116]⟩))) (.v 1))) (.cons (.ret (.v 2)) .nil))))⟩
/- 26: _law_pick(state, some) state=0 some=1 -/
def f26 : Fn := ⟨2, 2, [true, false], [], (.cons (.ret (.idx (.v 1) (.call 25 (.cons (.v 0) (.cons (.blt .len (.cons (.v 1) .nil)) .nil)) .nil))) .nil)⟩
/- 27: _law_plain(value) value=0 one=1 -/
def f27 : Fn := ⟨1, 2, [false], [], (.cons (.ite (.isi [.list, .tuple] (.v 0)) (.cons (.ret (.cmp .eq (.lc [1] (.k (.int (.ofNat 1))) (.nm 1) (.seq (.v 0)) (.yes (.not (.call 27 (.cons (.v 1) .nil) .nil)))) (.lst .nil))) .nil) .nil) (.cons (.ite (.isi [.dict] (.v 0)) (.cons (.ret (.call 27 (.cons .bad .nil) .nil)) .nil) .nil) (.cons (.ret (.or (.isN (.v 0)) (.isi [.int, .str] (.v 0)))) .nil)))⟩
/- 28: _law_is(found, due) found=0 due=1 -/
def f28 : Fn := ⟨2, 2, [false, false], [], (.cons (.ret (.and (.call 27 (.cons (.v 0) .nil) .nil) (.and (.cmp .eq (.v 0) (.v 1)) (.and (.cmp .eq (.v 1) (.v 0)) (.cmp .eq (.blt .repr (.cons (.v 0) .nil)) (.blt .repr (.cons (.v 1) .nil))))))) .nil)⟩
/- 29: _law_common(one, other) one=0 other=1 -/
def f29 : Fn := ⟨2, 2, [false, false], [], (.cons (.wh (.cmp .ne (.v 1) (.k (.int (.ofNat 0)))) (.cons (.set (.tup (.cons (.nm 0) (.cons (.nm 1) .nil))) (.tup (.cons (.v 1) (.cons (.bin .mod (.blt .int (.cons (.v 0) .nil)) (.v 1)) .nil)))) .nil)) (.cons (.ret (.blt .abs (.cons (.v 0) .nil))) .nil))⟩
/- 30: _law_no(upper, lower) upper=0 lower=1 by=2 -/
def f30 : Fn := ⟨2, 3, [false, false], [], (.cons (.set (.nm 2) (.bin .mul (.call 29 (.cons (.v 0) (.cons (.v 1) .nil)) .nil) (.ife (.cmp .gt (.v 1) (.k (.int (.ofNat 0)))) (.k (.int (.ofNat 1))) (.bin .sub (.k (.int (.ofNat 0))) (.k (.int (.ofNat 1))))))) (.cons (.ret (.tup (.cons (.bin .fdiv (.v 0) (.v 2)) (.cons (.bin .fdiv (.v 1) (.v 2)) .nil)))) .nil))⟩
/- 31: _law_plus(one, other) one=0 other=1 -/
def f31 : Fn := ⟨2, 2, [false, false], [], (.cons (.ret (.call 30 (.cons (.bin .add (.bin .mul (.idx (.v 0) (.k (.int (.ofNat 0)))) (.idx (.v 1) (.k (.int (.ofNat 1))))) (.bin .mul (.idx (.v 1) (.k (.int (.ofNat 0)))) (.idx (.v 0) (.k (.int (.ofNat 1)))))) (.cons (.bin .mul (.idx (.v 0) (.k (.int (.ofNat 1)))) (.idx (.v 1) (.k (.int (.ofNat 1))))) .nil)) .nil)) .nil)⟩
/- 32: _law_times(one, other) one=0 other=1 -/
def f32 : Fn := ⟨2, 2, [false, false], [], (.cons (.ret (.call 30 (.cons (.bin .mul (.idx (.v 0) (.k (.int (.ofNat 0)))) (.idx (.v 1) (.k (.int (.ofNat 0))))) (.cons (.bin .mul (.idx (.v 0) (.k (.int (.ofNat 1)))) (.idx (.v 1) (.k (.int (.ofNat 1))))) .nil)) .nil)) .nil)⟩
/- 33: _law_total(numbers) numbers=0 found=1 number_v=2 -/
def f33 : Fn := ⟨1, 3, [false], [], (.cons (.set (.nm 1) (.tup (.cons (.k (.int (.ofNat 0))) (.cons (.k (.int (.ofNat 1))) .nil)))) (.cons (.fr (.nm 2) (.seq (.v 0)) (.cons (.set (.nm 1) (.call 31 (.cons (.v 1) (.cons (.v 2) .nil)) .nil)) .nil)) (.cons (.ret (.v 1)) .nil)))⟩
/- 34: _law_orders(many) many=0 found=1 lap=2 longer=3 one=4 thing=5 -/
def f34 : Fn := ⟨1, 6, [false], [], (.cons (.set (.nm 1) (.lst (.cons (.tup .nil) .nil))) (.cons (.fr (.nm 2) (.rng1 (.v 0)) (.cons (.set (.nm 3) (.lst .nil)) (.cons (.fr (.nm 4) (.seq (.v 1)) (.cons (.set (.nm 3) (.bin .add (.v 3) (.lc [5] (.bin .add (.v 4) (.tup (.cons (.v 5) .nil))) (.nm 5) (.rng1 (.v 0)) (.yes (.cmp .notin (.v 5) (.v 4)))))) .nil)) (.cons (.set (.nm 1) (.v 3)) .nil)))) (.cons (.ret (.blt .sorted (.cons (.v 1) .nil))) .nil)))⟩
/- 35: _law_after(one, other) one=0 other=1 thing=2 -/
def f35 : Fn := ⟨2, 3, [false, false], [], (.cons (.ret (.blt .tuple (.cons (.lc [2] (.idx (.v 0) (.v 2)) (.nm 2) (.seq (.v 1)) .no) .nil))) .nil)⟩
/- 36: _law_wide(many) many=0 -/
def f36 : Fn := ⟨1, 1, [false], [], (.cons (.ret (.blt .len (.cons (.call 34 (.cons (.v 0) .nil) .nil) .nil))) .nil)⟩
/- 37: _law_shapes(many) many=0 found=1 shape=2 -/
def f37 : Fn := ⟨1, 3, [false], [], (.cons (.set (.nm 1) (.lst (.cons (.tup .nil) (.cons (.tup (.cons (.k (.int (.ofNat 1))) .nil)) (.cons (.tup (.cons (.k (.int (.ofNat 2))) .nil)) (.cons (.tup (.cons (.k (.int (.ofNat 3))) .nil)) (.cons (.tup (.cons (.k (.int (.ofNat 4))) .nil)) (.cons (.tup (.cons (.k (.int (.ofNat 1))) (.cons (.k (.int (.ofNat 1))) .nil))) (.cons (.tup (.cons (.k (.int (.ofNat 2))) (.cons (.k (.int (.ofNat 1))) .nil))) (.cons (.tup (.cons (.k (.int (.ofNat 3))) (.cons (.k (.int (.ofNat 1))) .nil))) (.cons (.tup (.cons (.k (.int (.ofNat 2))) (.cons (.k (.int (.ofNat 2))) .nil))) (.cons (.tup (.cons (.k (.int (.ofNat 1))) (.cons (.k (.int (.ofNat 1))) (.cons (.k (.int (.ofNat 1))) .nil)))) (.cons (.tup (.cons (.k (.int (.ofNat 2))) (.cons (.k (.int (.ofNat 1))) (.cons (.k (.int (.ofNat 1))) .nil)))) (.cons (.tup (.cons (.k (.int (.ofNat 1))) (.cons (.k (.int (.ofNat 1))) (.cons (.k (.int (.ofNat 1))) (.cons (.k (.int (.ofNat 1))) .nil))))) .nil)))))))))))))) (.cons (.ret (.blt .sortedR (.cons (.lc [2] (.v 2) (.nm 2) (.seq (.v 1)) (.yes (.cmp .eq (.blt .sum (.cons (.v 2) .nil)) (.v 0)))) .nil))) .nil))⟩
/- 38: _law_swap(many, at) many=0 at=1 line=2 -/
def f38 : Fn := ⟨2, 3, [false, false], [], (.cons (.set (.nm 2) (.lrng (.rng1 (.v 0)))) (.cons (.sets (.sb (.v 2) (.v 1) (.sb (.v 2) (.bin .add (.v 1) (.k (.int (.ofNat 1)))) .nil)) (.cons (.bin .add (.v 1) (.k (.int (.ofNat 1)))) (.cons (.v 1) .nil))) (.cons (.ret (.blt .tuple (.cons (.v 2) .nil))) .nil)))⟩
/- 39: _law_multiplied(one, other) one=0 other=1 wide=2 at=3 to=4 row=5 -/
def f39 : Fn := ⟨2, 6, [false, false], [], (.cons (.set (.nm 2) (.lrng (.rng1 (.blt .len (.cons (.v 0) .nil))))) (.cons (.ret (.blt .tuple (.cons (.lc [5] (.blt .tuple (.cons (.lc [4] (.call 33 (.cons (.lc [3] (.call 32 (.cons (.idx (.v 5) (.v 3)) (.cons (.idx (.idx (.v 1) (.v 3)) (.v 4)) .nil)) .nil) (.nm 3) (.seq (.v 2)) .no) .nil) .nil) (.nm 4) (.seq (.v 2)) .no) .nil)) (.nm 5) (.seq (.v 0)) .no) .nil))) .nil))⟩
/- 40: _law_unit_square(wide) wide=0 to=1 at=2 -/
def f40 : Fn := ⟨1, 3, [false], [], (.cons (.ret (.blt .tuple (.cons (.lc [2] (.blt .tuple (.cons (.lc [1] (.tup (.cons (.blt .int (.cons (.cmp .eq (.v 2) (.v 1)) .nil)) (.cons (.k (.int (.ofNat 1))) .nil))) (.nm 1) (.rng1 (.v 0)) .no) .nil)) (.nm 2) (.rng1 (.v 0)) .no) .nil))) .nil)⟩
/- 41: _law_fillings(shape) shape=0 found=1 thing=2 longer=3 rows=4 row=5 counts=6 one=7 other=8 -/
def f41 : Fn := ⟨1, 9, [false], [], (.cons (.set (.nm 1) (.lst (.cons (.tup .nil) .nil))) (.cons (.fr (.nm 2) (.rng1 (.blt .sum (.cons (.v 0) .nil))) (.cons (.set (.nm 3) (.lst .nil)) (.cons (.fr (.nm 4) (.seq (.v 1)) (.cons (.fr (.nm 5) (.rng1 (.blt .len (.cons (.v 0) .nil))) (.cons (.set (.nm 6) (.lc [7] (.mth .count (.bin .add (.v 4) (.tup (.cons (.v 5) .nil))) (.cons (.v 7) .nil)) (.nm 7) (.rng1 (.blt .len (.cons (.v 0) .nil))) .no)) (.cons (.ite (.and (.cmp .le (.idx (.v 6) (.v 5)) (.idx (.v 0) (.v 5))) (.cmp .eq (.lc [7, 8] (.k (.int (.ofNat 1))) (.tup (.cons (.nm 7) (.cons (.nm 8) .nil))) (.zip2 (.v 6) (.slc (.v 6) (.yes (.k (.int (.ofNat 1)))) .no)) (.yes (.cmp .lt (.v 7) (.v 8)))) (.lst .nil))) (.cons (.ex (.mth .append (.v 3) (.cons (.bin .add (.v 4) (.tup (.cons (.v 5) .nil))) .nil))) .nil) .nil) .nil))) .nil)) (.cons (.set (.nm 1) (.v 3)) .nil)))) (.cons (.ret (.blt .sorted (.cons (.v 1) .nil))) .nil)))⟩
/- 42: _law_lean(rows, thing) rows=0 thing=1 one=2 -/
def f42 : Fn := ⟨2, 3, [false, false], [], (.cons (.ret (.bin .sub (.blt .len (.cons (.lc [2] (.v 2) (.nm 2) (.seq (.slc (.v 0) .no (.yes (.v 1)))) (.yes (.cmp .eq (.v 2) (.idx (.v 0) (.v 1))))) .nil)) (.idx (.v 0) (.v 1)))) .nil)⟩
/- 43: _law_swap_square(shape, at) shape=0 at=1 some=2 found=3 rows=4 place=5 d=6 other=7 row=8 -/
def f43 : Fn := ⟨2, 9, [false, false], [], (.cons (.set (.nm 2) (.call 41 (.cons (.v 0) .nil) .nil)) (.cons (.set (.nm 3) (.lc [4] (.bin .mul (.lst (.cons (.tup (.cons (.k (.int (.ofNat 0))) (.cons (.k (.int (.ofNat 1))) .nil))) .nil)) (.blt .len (.cons (.v 2) .nil))) (.nm 4) (.seq (.v 2)) .no)) (.cons (.fr (.tup (.cons (.nm 5) (.cons (.nm 4) .nil))) (.enm (.v 2)) (.cons (.set (.nm 6) (.bin .sub (.call 42 (.cons (.v 4) (.cons (.bin .add (.v 1) (.k (.int (.ofNat 1)))) .nil)) .nil) (.call 42 (.cons (.v 4) (.cons (.v 1) .nil)) .nil))) (.cons (.set (.nm 7) (.bin .add (.bin .add (.slc (.v 4) .no (.yes (.v 1))) (.tup (.cons (.idx (.v 4) (.bin .add (.v 1) (.k (.int (.ofNat 1))))) (.cons (.idx (.v 4) (.v 1)) .nil)))) (.slc (.v 4) (.yes (.bin .add (.v 1) (.k (.int (.ofNat 2))))) .no))) (.cons (.sub (.idx (.v 3) (.v 5)) (.v 5) (.call 30 (.cons (.k (.int (.ofNat 1))) (.cons (.v 6) .nil)) .nil)) (.cons (.ite (.and (.cmp .ne (.v 7) (.v 4)) (.cmp .isin (.v 7) (.v 2))) (.cons (.sub (.idx (.v 3) (.mth .index (.v 2) (.cons (.v 7) .nil))) (.v 5) (.call 30 (.cons (.bin .add (.v 6) (.k (.int (.ofNat 1)))) (.cons (.v 6) .nil)) .nil)) .nil) .nil) .nil))))) (.cons (.ret (.blt .tuple (.cons (.lc [8] (.blt .tuple (.cons (.v 8) .nil)) (.nm 8) (.seq (.v 3)) .no) .nil))) .nil))))⟩
/- 44: law(script) script=0 state=1 due=2 many=3 shape=4 lap=5 u=6 v=7 at=8 -/
def f44 : Fn := ⟨1, 9, [false], [], (.cons (.set (.nm 1) (.call 23 (.cons (.v 0) .nil) .nil)) (.cons (.set (.nm 2) (.tup (.cons (.tup (.cons (.tup (.cons (.neg (.k (.int (.ofNat 1)))) (.cons (.k (.int (.ofNat 2))) .nil))) (.cons (.tup (.cons (.k (.int (.ofNat 3))) (.cons (.k (.int (.ofNat 2))) .nil))) .nil))) (.cons (.tup (.cons (.tup (.cons (.k (.int (.ofNat 1))) (.cons (.k (.int (.ofNat 2))) .nil))) (.cons (.tup (.cons (.k (.int (.ofNat 1))) (.cons (.k (.int (.ofNat 2))) .nil))) .nil))) .nil)))) (.cons (.ite (.not (.call 28 (.cons (.lst (.cons (.call 10 (.cons (.k (.int (.ofNat 3))) .nil) .nil) (.cons (.call 13 (.cons (.tup (.cons (.k (.int (.ofNat 2))) (.cons (.k (.int (.ofNat 1))) .nil))) .nil) .nil) (.cons (.call 22 (.cons (.tup (.cons (.k (.int (.ofNat 2))) (.cons (.k (.int (.ofNat 1))) .nil))) (.cons (.tup (.cons (.k (.int (.ofNat 1))) (.cons (.k (.int (.ofNat 0))) (.cons (.k (.int (.ofNat 2))) .nil)))) .nil)) .nil) .nil)))) (.cons (.lst (.cons (.tup (.cons (.tup (.cons (.k (.int (.ofNat 3))) .nil)) (.cons (.tup (.cons (.k (.int (.ofNat 2))) (.cons (.k (.int (.ofNat 1))) .nil))) (.cons (.tup (.cons (.k (.int (.ofNat 1))) (.cons (.k (.int (.ofNat 1))) (.cons (.k (.int (.ofNat 1))) .nil)))) .nil)))) (.cons (.tup (.cons (.tup (.cons (.k (.int (.ofNat 0))) (.cons (.k (.int (.ofNat 0))) (.cons (.k (.int (.ofNat 1))) .nil)))) (.cons (.tup (.cons (.k (.int (.ofNat 0))) (.cons (.k (.int (.ofNat 1))) (.cons (.k (.int (.ofNat 0))) .nil)))) .nil))) (.cons (.tup (.cons (.tup (.cons (.tup (.cons (.k (.int (.ofNat 1))) (.cons (.k (.int (.ofNat 1))) .nil))) (.cons (.tup (.cons (.k (.int (.ofNat 0))) (.cons (.k (.int (.ofNat 1))) .nil))) .nil))) (.cons (.tup (.cons (.tup (.cons (.k (.int (.ofNat 0))) (.cons (.k (.int (.ofNat 1))) .nil))) (.cons (.tup (.cons (.neg (.k (.int (.ofNat 1)))) (.cons (.k (.int (.ofNat 1))) .nil))) .nil))) .nil))) .nil)))) .nil)) .nil)) (.cons (.ret (.k (.bool false))) .nil) .nil) (.cons (.ite (.or (.cmp .ne (.call 22 .nil (.cons (.tup (.cons (.k (.int (.ofNat 2))) (.cons (.k (.int (.ofNat 1))) .nil))) (.cons (.tup (.cons (.k (.int (.ofNat 0))) (.cons (.k (.int (.ofNat 2))) (.cons (.k (.int (.ofNat 1))) .nil)))) .nil))) (.v 2)) (.cmp .ne (.call 22 (.cons (.tup (.cons (.k (.int (.ofNat 1))) (.cons (.k (.int (.ofNat 1))) (.cons (.k (.int (.ofNat 1))) .nil)))) (.cons (.tup (.cons (.k (.int (.ofNat 1))) (.cons (.k (.int (.ofNat 2))) (.cons (.k (.int (.ofNat 0))) .nil)))) .nil)) .nil) (.tup (.cons (.tup (.cons (.tup (.cons (.k (.int (.ofNat 1))) (.cons (.k (.int (.ofNat 1))) .nil))) .nil)) .nil)))) (.cons (.ret (.k (.bool false))) .nil) .nil) (.cons (.fr (.nm 3) (.seq (.lst (.cons (.k (.int (.ofNat 1))) (.cons (.k (.int (.ofNat 2))) (.cons (.k (.int (.ofNat 3))) (.cons (.k (.int (.ofNat 4))) .nil)))))) (.cons (.ite (.or (.not (.call 28 (.cons (.call 10 .nil (.cons (.v 3) .nil)) (.cons (.blt .tuple (.cons (.call 37 (.cons (.v 3) .nil) .nil) .nil)) .nil)) .nil)) (.cmp .ne (.blt .sum (.cons (.lc [4] (.bin .mul (.blt .len (.cons (.call 13 (.cons (.v 4) .nil) .nil) .nil)) (.blt .len (.cons (.call 13 (.cons (.v 4) .nil) .nil) .nil))) (.nm 4) (.seq (.call 10 (.cons (.v 3) .nil) .nil)) .no) .nil)) (.call 36 (.cons (.v 3) .nil) .nil))) (.cons (.ret (.k (.bool false))) .nil) .nil) .nil)) (.cons (.fr (.nm 5) (.rng1 (.bin .add (.k (.int (.ofNat 5))) (.blt .min2 (.cons (.blt .len (.cons (.v 0) .nil)) (.cons (.k (.int (.ofNat 7))) .nil))))) (.cons (.set (.nm 3) (.bin .add (.k (.int (.ofNat 1))) (.call 25 (.cons (.v 1) (.cons (.k (.int (.ofNat 4))) .nil)) .nil))) (.cons (.set (.tup (.cons (.nm 4) (.cons (.nm 6) (.cons (.nm 7) .nil)))) (.tup (.cons (.call 26 (.cons (.v 1) (.cons (.call 37 (.cons (.v 3) .nil) .nil) .nil)) .nil) (.cons (.call 26 (.cons (.v 1) (.cons (.call 34 (.cons (.v 3) .nil) .nil) .nil)) .nil) (.cons (.call 26 (.cons (.v 1) (.cons (.call 34 (.cons (.v 3) .nil) .nil) .nil)) .nil) .nil))))) (.cons (.ite (.or (.not (.call 28 (.cons (.call 13 (.cons (.v 4) .nil) .nil) (.cons (.blt .tuple (.cons (.call 41 (.cons (.v 4) .nil) .nil) .nil)) .nil)) .nil)) (.not (.call 28 (.cons (.call 22 (.cons (.v 4) (.cons (.trng (.rng1 (.v 3))) .nil)) .nil) (.cons (.call 40 (.cons (.blt .len (.cons (.call 13 (.cons (.v 4) .nil) .nil) .nil)) .nil) .nil) .nil)) .nil))) (.cons (.ret (.k (.bool false))) .nil) .nil) (.cons (.ite (.not (.call 28 (.cons (.call 22 (.cons (.v 4) (.cons (.call 35 (.cons (.v 6) (.cons (.v 7) .nil)) .nil) .nil)) .nil) (.cons (.call 39 (.cons (.call 22 (.cons (.v 4) (.cons (.v 6) .nil)) .nil) (.cons (.call 22 (.cons (.v 4) (.cons (.v 7) .nil)) .nil) .nil)) .nil) .nil)) .nil)) (.cons (.ret (.k (.bool false))) .nil) .nil) (.cons (.ite (.cmp .gt (.v 3) (.k (.int (.ofNat 1)))) (.cons (.set (.nm 8) (.call 25 (.cons (.v 1) (.cons (.bin .sub (.v 3) (.k (.int (.ofNat 1)))) .nil)) .nil)) (.cons (.ite (.not (.call 28 (.cons (.call 22 (.cons (.v 4) (.cons (.call 38 (.cons (.v 3) (.cons (.v 8) .nil)) .nil) .nil)) .nil) (.cons (.call 43 (.cons (.v 4) (.cons (.v 8) .nil)) .nil) .nil)) .nil)) (.cons (.ret (.k (.bool false))) .nil) .nil) .nil)) .nil) .nil)))))) (.cons (.ret (.k (.bool true))) .nil)))))))⟩
def nms : List String := ["is_whole", "is_below", "number", "plus", "times", "is_like", "need_many", "need_order", "grown", "shapes_of", "shapes", "need_shape", "fillings_of", "fillings", "lean_of", "swap_square", "multiplied", "total_of", "unit_square", "swaps_of", "square_of", "told_square", "order_part", "_law_begun", "_law_mixed", "_law_draw", "_law_pick", "_law_plain", "_law_is", "_law_common", "_law_no", "_law_plus", "_law_times", "_law_total", "_law_orders", "_law_after", "_law_wide", "_law_shapes", "_law_swap", "_law_multiplied", "_law_unit_square", "_law_fillings", "_law_lean", "_law_swap_square", "law"]
def gd : List PyData := [(.tuple [(.int (.ofNat 0)), (.int (.ofNat 1))]), (.tuple [(.int (.ofNat 1)), (.int (.ofNat 1))]), (.int (.ofNat 4))]
def fns : List Fn := [f0, f1, f2, f3, f4, f5, f6, f7, f8, f9, f10, f11, f12, f13, f14, f15, f16, f17, f18, f19, f20, f21, f22, f23, f24, f25, f26, f27, f28, f29, f30, f31, f32, f33, f34, f35, f36, f37, f38, f39, f40, f41, f42, f43, f44]
def P : Prog := ⟨fns, gd, 100000⟩
def con : List (Str × Nat) := [((.ofString "ZERO"), 0), ((.ofString "ONE"), 1), ((.ofString "MOST_THINGS"), 2)]
def dfs : List (Str × Nat) := [((.ofString "is_whole"), 0), ((.ofString "is_below"), 1), ((.ofString "number"), 2), ((.ofString "plus"), 3), ((.ofString "times"), 4), ((.ofString "is_like"), 5), ((.ofString "need_many"), 6), ((.ofString "need_order"), 7), ((.ofString "grown"), 8), ((.ofString "shapes_of"), 9), ((.ofString "shapes"), 10), ((.ofString "need_shape"), 11), ((.ofString "fillings_of"), 12), ((.ofString "fillings"), 13), ((.ofString "lean_of"), 14), ((.ofString "swap_square"), 15), ((.ofString "multiplied"), 16), ((.ofString "total_of"), 17), ((.ofString "unit_square"), 18), ((.ofString "swaps_of"), 19), ((.ofString "square_of"), 20), ((.ofString "told_square"), 21), ((.ofString "order_part"), 22), ((.ofString "_law_begun"), 23), ((.ofString "_law_mixed"), 24), ((.ofString "_law_draw"), 25), ((.ofString "_law_pick"), 26), ((.ofString "_law_plain"), 27), ((.ofString "_law_is"), 28), ((.ofString "_law_common"), 29), ((.ofString "_law_no"), 30), ((.ofString "_law_plus"), 31), ((.ofString "_law_times"), 32), ((.ofString "_law_total"), 33), ((.ofString "_law_orders"), 34), ((.ofString "_law_after"), 35), ((.ofString "_law_wide"), 36), ((.ofString "_law_shapes"), 37), ((.ofString "_law_swap"), 38), ((.ofString "_law_multiplied"), 39), ((.ofString "_law_unit_square"), 40), ((.ofString "_law_fillings"), 41), ((.ofString "_law_lean"), 42), ((.ofString "_law_swap_square"), 43), ((.ofString "law"), 44)]
def shp : List (Nat × Nat × List Str) := [(0, 1, []), (1, 2, []), (2, 2, []), (3, 2, []), (4, 2, []), (5, 2, []), (6, 1, []), (7, 1, []), (8, 1, []), (9, 1, []), (10, 0, [(.ofString "things")]), (10, 1, []), (11, 1, []), (12, 1, []), (13, 1, []), (14, 2, []), (15, 2, []), (16, 2, []), (17, 1, []), (18, 1, []), (19, 1, []), (20, 2, []), (21, 1, []), (22, 0, [(.ofString "shape"), (.ofString "order")]), (22, 2, []), (23, 1, []), (24, 1, []), (25, 2, []), (26, 2, []), (27, 1, []), (28, 2, []), (29, 2, []), (30, 2, []), (31, 2, []), (32, 2, []), (33, 1, []), (34, 1, []), (35, 2, []), (36, 1, []), (37, 1, []), (38, 2, []), (39, 2, []), (40, 1, []), (41, 1, []), (42, 2, []), (43, 2, [])]
def bln : List Str := [(.ofString "len"), (.ofString "isinstance"), (.ofString "int"), (.ofString "tuple"), (.ofString "range"), (.ofString "all"), (.ofString "any"), (.ofString "sorted"), (.ofString "list"), (.ofString "sum"), (.ofString "abs"), (.ofString "min"), (.ofString "max"), (.ofString "repr"), (.ofString "dict"), (.ofString "str"), (.ofString "bool"), (.ofString "zip"), (.ofString "enumerate")]
def gcds : List Str := [(.ofString "gcd")]
def Ns : List (List Str) := [[(.ofString "thing")],
  [(.ofString "thing"), (.ofString "many")],
  [(.ofString "upper"), (.ofString "lower"), (.ofString "by")],
  [(.ofString "one"), (.ofString "other")],
  [(.ofString "one"), (.ofString "other")],
  [(.ofString "thing"), (.ofString "told"), (.ofString "one"), (.ofString "other")],
  [(.ofString "many")],
  [(.ofString "order"), (.ofString "one")],
  [(.ofString "shape"), (.ofString "found"), (.ofString "at")],
  [(.ofString "many"), (.ofString "found"), (.ofString "lap"), (.ofString "later"), (.ofString "shape"), (.ofString "one")],
  [(.ofString "things")],
  [(.ofString "shape"), (.ofString "many"), (.ofString "one")],
  [(.ofString "shape"), (.ofString "found"), (.ofString "lap"), (.ofString "later"), (.ofString "rows"), (.ofString "row"), (.ofString "wide")],
  [(.ofString "shape")],
  [(.ofString "rows"), (.ofString "thing")],
  [(.ofString "shape"), (.ofString "at"), (.ofString "some"), (.ofString "found"), (.ofString "one"), (.ofString "place"), (.ofString "rows"), (.ofString "off"), (.ofString "other")],
  [(.ofString "one"), (.ofString "other"), (.ofString "wide"), (.ofString "at"), (.ofString "to"), (.ofString "row")],
  [(.ofString "some"), (.ofString "found"), (.ofString "one")],
  [(.ofString "wide"), (.ofString "to"), (.ofString "at")],
  [(.ofString "order"), (.ofString "left"), (.ofString "found"), (.ofString "at"), (.ofString "place")],
  [(.ofString "shape"), (.ofString "order"), (.ofString "found"), (.ofString "at")],
  [(.ofString "square"), (.ofString "row")],
  [(.ofString "shape"), (.ofString "order")],
  [(.ofString "script"), (.ofString "great"), (.ofString "cell")],
  [(.ofString "state"), (.ofString "turn"), (.ofString "found"), (.ofString "prime"), (.ofString "blend"), (.ofString "cell")],
  [(.ofString "state"), (.ofString "room"), (.ofString "found")],
  [(.ofString "state"), (.ofString "some")],
  [(.ofString "value"), (.ofString "one")],
  [(.ofString "found"), (.ofString "due")],
  [(.ofString "one"), (.ofString "other")],
  [(.ofString "upper"), (.ofString "lower"), (.ofString "by")],
  [(.ofString "one"), (.ofString "other")],
  [(.ofString "one"), (.ofString "other")],
  [(.ofString "numbers"), (.ofString "found"), (.ofString "number_v")],
  [(.ofString "many"), (.ofString "found"), (.ofString "lap"), (.ofString "longer"), (.ofString "one"), (.ofString "thing")],
  [(.ofString "one"), (.ofString "other"), (.ofString "thing")],
  [(.ofString "many")],
  [(.ofString "many"), (.ofString "found"), (.ofString "shape")],
  [(.ofString "many"), (.ofString "at"), (.ofString "line")],
  [(.ofString "one"), (.ofString "other"), (.ofString "wide"), (.ofString "at"), (.ofString "to"), (.ofString "row")],
  [(.ofString "wide"), (.ofString "to"), (.ofString "at")],
  [(.ofString "shape"), (.ofString "found"), (.ofString "thing"), (.ofString "longer"), (.ofString "rows"), (.ofString "row"), (.ofString "counts"), (.ofString "one"), (.ofString "other")],
  [(.ofString "rows"), (.ofString "thing"), (.ofString "one")],
  [(.ofString "shape"), (.ofString "at"), (.ofString "some"), (.ofString "found"), (.ofString "rows"), (.ofString "place"), (.ofString "d"), (.ofString "other"), (.ofString "row")],
  [(.ofString "script"), (.ofString "state"), (.ofString "due"), (.ofString "many"), (.ofString "shape"), (.ofString "lap"), (.ofString "u"), (.ofString "v"), (.ofString "at")]]
def fxs : List (List Nat) := [[], [], [], [], [], [], [], [], [], [], [], [], [], [], [], [], [], [], [], [], [], [], [], [], [0], [0], [0], [], [], [], [], [], [], [], [], [], [], [], [], [], [], [], [], [], []]
def sts : List Stat := (Ns.zip fxs).map fun p => ⟨p.1, p.2, con, dfs, shp, bln, gcds⟩
def tops : List Nat := [7, 8, 12, 13, 14, 16, 19, 20, 21, 22, 23, 24, 25, 26, 27, 28, 29, 30, 31, 32, 33, 34, 35, 37, 38, 39, 40, 41, 42, 43, 44, 45, 46, 47, 48, 49, 50, 51, 52, 53, 54, 55, 56, 57, 58]
def t17_0 : List En := [
  ⟨15, [.tuple [.int (.ofNat 2)], .int (.ofNat 0)], .lst [.lst [.d (.tuple [.int (.ofNat 1), .int (.ofNat 1)])]]⟩,
    ⟨15, [.tuple [.int (.ofNat 1), .int (.ofNat 1)], .int (.ofNat 0)], .lst [.lst [.d (.tuple [.int (.negSucc 0), .int (.ofNat 1)])]]⟩,
    ⟨15, [.tuple [.int (.ofNat 3)], .int (.ofNat 0)], .lst [.lst [.d (.tuple [.int (.ofNat 1), .int (.ofNat 1)])]]⟩,
    ⟨15, [.tuple [.int (.ofNat 3)], .int (.ofNat 1)], .lst [.lst [.d (.tuple [.int (.ofNat 1), .int (.ofNat 1)])]]⟩,
    ⟨15, [.tuple [.int (.ofNat 2), .int (.ofNat 1)], .int (.ofNat 0)], .lst [.lst [.d (.tuple [.int (.ofNat 1), .int (.ofNat 1)]), .d (.tuple [.int (.ofNat 0), .int (.ofNat 1)])], .lst [.d (.tuple [.int (.ofNat 0), .int (.ofNat 1)]), .d (.tuple [.int (.negSucc 0), .int (.ofNat 1)])]]⟩,
    ⟨15, [.tuple [.int (.ofNat 2), .int (.ofNat 1)], .int (.ofNat 1)], .lst [.lst [.d (.tuple [.int (.negSucc 0), .int (.ofNat 2)]), .d (.tuple [.int (.ofNat 3), .int (.ofNat 2)])], .lst [.d (.tuple [.int (.ofNat 1), .int (.ofNat 2)]), .d (.tuple [.int (.ofNat 1), .int (.ofNat 2)])]]⟩]
theorem t17_0_ok : ∀ e ∈ t17_0, EnOk (Lw.P.call 17) e := by
  have h := chks_ok (c := Lw.P.call 17) (tab := t17_0) (by decide +kernel)
  exact h
def t17_1 : List En := [
  ⟨15, [.tuple [.int (.ofNat 1), .int (.ofNat 1), .int (.ofNat 1)], .int (.ofNat 0)], .lst [.lst [.d (.tuple [.int (.negSucc 0), .int (.ofNat 1)])]]⟩,
    ⟨15, [.tuple [.int (.ofNat 1), .int (.ofNat 1), .int (.ofNat 1)], .int (.ofNat 1)], .lst [.lst [.d (.tuple [.int (.negSucc 0), .int (.ofNat 1)])]]⟩,
    ⟨15, [.tuple [.int (.ofNat 4)], .int (.ofNat 0)], .lst [.lst [.d (.tuple [.int (.ofNat 1), .int (.ofNat 1)])]]⟩,
    ⟨15, [.tuple [.int (.ofNat 4)], .int (.ofNat 1)], .lst [.lst [.d (.tuple [.int (.ofNat 1), .int (.ofNat 1)])]]⟩,
    ⟨15, [.tuple [.int (.ofNat 4)], .int (.ofNat 2)], .lst [.lst [.d (.tuple [.int (.ofNat 1), .int (.ofNat 1)])]]⟩,
    ⟨15, [.tuple [.int (.ofNat 3), .int (.ofNat 1)], .int (.ofNat 0)], .lst [.lst [.d (.tuple [.int (.ofNat 1), .int (.ofNat 1)]), .d (.tuple [.int (.ofNat 0), .int (.ofNat 1)]), .d (.tuple [.int (.ofNat 0), .int (.ofNat 1)])], .lst [.d (.tuple [.int (.ofNat 0), .int (.ofNat 1)]), .d (.tuple [.int (.ofNat 1), .int (.ofNat 1)]), .d (.tuple [.int (.ofNat 0), .int (.ofNat 1)])], .lst [.d (.tuple [.int (.ofNat 0), .int (.ofNat 1)]), .d (.tuple [.int (.ofNat 0), .int (.ofNat 1)]), .d (.tuple [.int (.negSucc 0), .int (.ofNat 1)])]]⟩]
theorem t17_1_ok : ∀ e ∈ t17_1, EnOk (Lw.P.call 17) e := by
  have h := chks_ok (c := Lw.P.call 17) (tab := t17_1) (by decide +kernel)
  exact h
def t17_2 : List En := [
  ⟨15, [.tuple [.int (.ofNat 3), .int (.ofNat 1)], .int (.ofNat 1)], .lst [.lst [.d (.tuple [.int (.ofNat 1), .int (.ofNat 1)]), .d (.tuple [.int (.ofNat 0), .int (.ofNat 1)]), .d (.tuple [.int (.ofNat 0), .int (.ofNat 1)])], .lst [.d (.tuple [.int (.ofNat 0), .int (.ofNat 1)]), .d (.tuple [.int (.negSucc 0), .int (.ofNat 2)]), .d (.tuple [.int (.ofNat 3), .int (.ofNat 2)])], .lst [.d (.tuple [.int (.ofNat 0), .int (.ofNat 1)]), .d (.tuple [.int (.ofNat 1), .int (.ofNat 2)]), .d (.tuple [.int (.ofNat 1), .int (.ofNat 2)])]]⟩,
    ⟨15, [.tuple [.int (.ofNat 3), .int (.ofNat 1)], .int (.ofNat 2)], .lst [.lst [.d (.tuple [.int (.negSucc 0), .int (.ofNat 3)]), .d (.tuple [.int (.ofNat 4), .int (.ofNat 3)]), .d (.tuple [.int (.ofNat 0), .int (.ofNat 1)])], .lst [.d (.tuple [.int (.ofNat 2), .int (.ofNat 3)]), .d (.tuple [.int (.ofNat 1), .int (.ofNat 3)]), .d (.tuple [.int (.ofNat 0), .int (.ofNat 1)])], .lst [.d (.tuple [.int (.ofNat 0), .int (.ofNat 1)]), .d (.tuple [.int (.ofNat 0), .int (.ofNat 1)]), .d (.tuple [.int (.ofNat 1), .int (.ofNat 1)])]]⟩,
    ⟨15, [.tuple [.int (.ofNat 2), .int (.ofNat 2)], .int (.ofNat 0)], .lst [.lst [.d (.tuple [.int (.ofNat 1), .int (.ofNat 1)]), .d (.tuple [.int (.ofNat 0), .int (.ofNat 1)])], .lst [.d (.tuple [.int (.ofNat 0), .int (.ofNat 1)]), .d (.tuple [.int (.negSucc 0), .int (.ofNat 1)])]]⟩,
    ⟨15, [.tuple [.int (.ofNat 2), .int (.ofNat 2)], .int (.ofNat 1)], .lst [.lst [.d (.tuple [.int (.negSucc 0), .int (.ofNat 2)]), .d (.tuple [.int (.ofNat 3), .int (.ofNat 2)])], .lst [.d (.tuple [.int (.ofNat 1), .int (.ofNat 2)]), .d (.tuple [.int (.ofNat 1), .int (.ofNat 2)])]]⟩,
    ⟨15, [.tuple [.int (.ofNat 2), .int (.ofNat 2)], .int (.ofNat 2)], .lst [.lst [.d (.tuple [.int (.ofNat 1), .int (.ofNat 1)]), .d (.tuple [.int (.ofNat 0), .int (.ofNat 1)])], .lst [.d (.tuple [.int (.ofNat 0), .int (.ofNat 1)]), .d (.tuple [.int (.negSucc 0), .int (.ofNat 1)])]]⟩,
    ⟨15, [.tuple [.int (.ofNat 2), .int (.ofNat 1), .int (.ofNat 1)], .int (.ofNat 0)], .lst [.lst [.d (.tuple [.int (.ofNat 1), .int (.ofNat 1)]), .d (.tuple [.int (.ofNat 0), .int (.ofNat 1)]), .d (.tuple [.int (.ofNat 0), .int (.ofNat 1)])], .lst [.d (.tuple [.int (.ofNat 0), .int (.ofNat 1)]), .d (.tuple [.int (.negSucc 0), .int (.ofNat 1)]), .d (.tuple [.int (.ofNat 0), .int (.ofNat 1)])], .lst [.d (.tuple [.int (.ofNat 0), .int (.ofNat 1)]), .d (.tuple [.int (.ofNat 0), .int (.ofNat 1)]), .d (.tuple [.int (.negSucc 0), .int (.ofNat 1)])]]⟩]
theorem t17_2_ok : ∀ e ∈ t17_2, EnOk (Lw.P.call 17) e := by
  have h := chks_ok (c := Lw.P.call 17) (tab := t17_2) (by decide +kernel)
  exact h
def t17_3 : List En := [
  ⟨15, [.tuple [.int (.ofNat 2), .int (.ofNat 1), .int (.ofNat 1)], .int (.ofNat 1)], .lst [.lst [.d (.tuple [.int (.negSucc 0), .int (.ofNat 2)]), .d (.tuple [.int (.ofNat 3), .int (.ofNat 2)]), .d (.tuple [.int (.ofNat 0), .int (.ofNat 1)])], .lst [.d (.tuple [.int (.ofNat 1), .int (.ofNat 2)]), .d (.tuple [.int (.ofNat 1), .int (.ofNat 2)]), .d (.tuple [.int (.ofNat 0), .int (.ofNat 1)])], .lst [.d (.tuple [.int (.ofNat 0), .int (.ofNat 1)]), .d (.tuple [.int (.ofNat 0), .int (.ofNat 1)]), .d (.tuple [.int (.negSucc 0), .int (.ofNat 1)])]]⟩,
    ⟨15, [.tuple [.int (.ofNat 2), .int (.ofNat 1), .int (.ofNat 1)], .int (.ofNat 2)], .lst [.lst [.d (.tuple [.int (.negSucc 0), .int (.ofNat 1)]), .d (.tuple [.int (.ofNat 0), .int (.ofNat 1)]), .d (.tuple [.int (.ofNat 0), .int (.ofNat 1)])], .lst [.d (.tuple [.int (.ofNat 0), .int (.ofNat 1)]), .d (.tuple [.int (.negSucc 0), .int (.ofNat 3)]), .d (.tuple [.int (.ofNat 4), .int (.ofNat 3)])], .lst [.d (.tuple [.int (.ofNat 0), .int (.ofNat 1)]), .d (.tuple [.int (.ofNat 2), .int (.ofNat 3)]), .d (.tuple [.int (.ofNat 1), .int (.ofNat 3)])]]⟩,
    ⟨15, [.tuple [.int (.ofNat 1), .int (.ofNat 1), .int (.ofNat 1), .int (.ofNat 1)], .int (.ofNat 0)], .lst [.lst [.d (.tuple [.int (.negSucc 0), .int (.ofNat 1)])]]⟩,
    ⟨15, [.tuple [.int (.ofNat 1), .int (.ofNat 1), .int (.ofNat 1), .int (.ofNat 1)], .int (.ofNat 1)], .lst [.lst [.d (.tuple [.int (.negSucc 0), .int (.ofNat 1)])]]⟩,
    ⟨15, [.tuple [.int (.ofNat 1), .int (.ofNat 1), .int (.ofNat 1), .int (.ofNat 1)], .int (.ofNat 2)], .lst [.lst [.d (.tuple [.int (.negSucc 0), .int (.ofNat 1)])]]⟩]
theorem t17_3_ok : ∀ e ∈ t17_3, EnOk (Lw.P.call 17) e := by
  have h := chks_ok (c := Lw.P.call 17) (tab := t17_3) (by decide +kernel)
  exact h
def t17 : List En := t17_0 ++ (t17_1 ++ (t17_2 ++ (t17_3)))
theorem t17_ok : ∀ e ∈ t17, EnOk (Lw.P.call 17) e := all_app t17_0_ok (all_app t17_1_ok (all_app t17_2_ok (t17_3_ok)))
def t18_0 : List En := [
  ⟨11, [.tuple [.int (.ofNat 1)]], .d (.none)⟩,
    ⟨11, [.tuple [.int (.ofNat 2)]], .d (.none)⟩,
    ⟨11, [.tuple [.int (.ofNat 1), .int (.ofNat 1)]], .d (.none)⟩,
    ⟨11, [.tuple [.int (.ofNat 3)]], .d (.none)⟩,
    ⟨11, [.tuple [.int (.ofNat 2), .int (.ofNat 1)]], .d (.none)⟩,
    ⟨11, [.tuple [.int (.ofNat 1), .int (.ofNat 1), .int (.ofNat 1)]], .d (.none)⟩]
theorem t18_0_ok : ∀ e ∈ t18_0, EnOk (Lw.P.call 18) e := by
  have h := chks_ok (c := Lw.P.call 18) (tab := t18_0) (by decide +kernel)
  exact h
def t18_1 : List En := [
  ⟨11, [.tuple [.int (.ofNat 4)]], .d (.none)⟩,
    ⟨11, [.tuple [.int (.ofNat 3), .int (.ofNat 1)]], .d (.none)⟩,
    ⟨11, [.tuple [.int (.ofNat 2), .int (.ofNat 2)]], .d (.none)⟩,
    ⟨11, [.tuple [.int (.ofNat 2), .int (.ofNat 1), .int (.ofNat 1)]], .d (.none)⟩,
    ⟨11, [.tuple [.int (.ofNat 1), .int (.ofNat 1), .int (.ofNat 1), .int (.ofNat 1)]], .d (.none)⟩]
theorem t18_1_ok : ∀ e ∈ t18_1, EnOk (Lw.P.call 18) e := by
  have h := chks_ok (c := Lw.P.call 18) (tab := t18_1) (by decide +kernel)
  exact h
def t18 : List En := t18_0 ++ (t18_1)
theorem t18_ok : ∀ e ∈ t18, EnOk (Lw.P.call 18) e := all_app t18_0_ok (t18_1_ok)
def tp_0 : List En := [
  ⟨22, [.tuple [.int (.ofNat 1)], .tuple [.int (.ofNat 0)]], .d (.tuple [.tuple [.tuple [.int (.ofNat 1), .int (.ofNat 1)]]])⟩,
    ⟨22, [.tuple [.int (.ofNat 2)], .tuple [.int (.ofNat 0), .int (.ofNat 1)]], .d (.tuple [.tuple [.tuple [.int (.ofNat 1), .int (.ofNat 1)]]])⟩,
    ⟨22, [.tuple [.int (.ofNat 2)], .tuple [.int (.ofNat 1), .int (.ofNat 0)]], .d (.tuple [.tuple [.tuple [.int (.ofNat 1), .int (.ofNat 1)]]])⟩,
    ⟨22, [.tuple [.int (.ofNat 1), .int (.ofNat 1)], .tuple [.int (.ofNat 0), .int (.ofNat 1)]], .d (.tuple [.tuple [.tuple [.int (.ofNat 1), .int (.ofNat 1)]]])⟩,
    ⟨22, [.tuple [.int (.ofNat 1), .int (.ofNat 1)], .tuple [.int (.ofNat 1), .int (.ofNat 0)]], .d (.tuple [.tuple [.tuple [.int (.negSucc 0), .int (.ofNat 1)]]])⟩,
    ⟨22, [.tuple [.int (.ofNat 3)], .tuple [.int (.ofNat 0), .int (.ofNat 1), .int (.ofNat 2)]], .d (.tuple [.tuple [.tuple [.int (.ofNat 1), .int (.ofNat 1)]]])⟩,
    ⟨22, [.tuple [.int (.ofNat 3)], .tuple [.int (.ofNat 0), .int (.ofNat 2), .int (.ofNat 1)]], .d (.tuple [.tuple [.tuple [.int (.ofNat 1), .int (.ofNat 1)]]])⟩,
    ⟨22, [.tuple [.int (.ofNat 3)], .tuple [.int (.ofNat 1), .int (.ofNat 0), .int (.ofNat 2)]], .d (.tuple [.tuple [.tuple [.int (.ofNat 1), .int (.ofNat 1)]]])⟩,
    ⟨22, [.tuple [.int (.ofNat 3)], .tuple [.int (.ofNat 1), .int (.ofNat 2), .int (.ofNat 0)]], .d (.tuple [.tuple [.tuple [.int (.ofNat 1), .int (.ofNat 1)]]])⟩,
    ⟨22, [.tuple [.int (.ofNat 3)], .tuple [.int (.ofNat 2), .int (.ofNat 0), .int (.ofNat 1)]], .d (.tuple [.tuple [.tuple [.int (.ofNat 1), .int (.ofNat 1)]]])⟩,
    ⟨22, [.tuple [.int (.ofNat 3)], .tuple [.int (.ofNat 2), .int (.ofNat 1), .int (.ofNat 0)]], .d (.tuple [.tuple [.tuple [.int (.ofNat 1), .int (.ofNat 1)]]])⟩,
    ⟨22, [.tuple [.int (.ofNat 2), .int (.ofNat 1)], .tuple [.int (.ofNat 0), .int (.ofNat 1), .int (.ofNat 2)]], .d (.tuple [.tuple [.tuple [.int (.ofNat 1), .int (.ofNat 1)], .tuple [.int (.ofNat 0), .int (.ofNat 1)]], .tuple [.tuple [.int (.ofNat 0), .int (.ofNat 1)], .tuple [.int (.ofNat 1), .int (.ofNat 1)]]])⟩]
theorem tp_0_ok : ∀ e ∈ tp_0, EnOk (Lw.P.call 19) e := by
  have h := chks_ok (c := up Lw.P (memo t18 (up Lw.P (memo t17 (Lw.P.call 17))))) (tab := tp_0) (by decide +kernel)
  rw [memo_eq t17_ok, ← call_up, memo_eq t18_ok] at h
  exact h
def tp_1 : List En := [
  ⟨22, [.tuple [.int (.ofNat 2), .int (.ofNat 1)], .tuple [.int (.ofNat 0), .int (.ofNat 2), .int (.ofNat 1)]], .d (.tuple [.tuple [.tuple [.int (.negSucc 0), .int (.ofNat 2)], .tuple [.int (.ofNat 3), .int (.ofNat 2)]], .tuple [.tuple [.int (.ofNat 1), .int (.ofNat 2)], .tuple [.int (.ofNat 1), .int (.ofNat 2)]]])⟩,
    ⟨22, [.tuple [.int (.ofNat 2), .int (.ofNat 1)], .tuple [.int (.ofNat 1), .int (.ofNat 0), .int (.ofNat 2)]], .d (.tuple [.tuple [.tuple [.int (.ofNat 1), .int (.ofNat 1)], .tuple [.int (.ofNat 0), .int (.ofNat 1)]], .tuple [.tuple [.int (.ofNat 0), .int (.ofNat 1)], .tuple [.int (.negSucc 0), .int (.ofNat 1)]]])⟩,
    ⟨22, [.tuple [.int (.ofNat 2), .int (.ofNat 1)], .tuple [.int (.ofNat 1), .int (.ofNat 2), .int (.ofNat 0)]], .d (.tuple [.tuple [.tuple [.int (.negSucc 0), .int (.ofNat 2)], .tuple [.int (.ofNat 3), .int (.ofNat 2)]], .tuple [.tuple [.int (.negSucc 0), .int (.ofNat 2)], .tuple [.int (.negSucc 0), .int (.ofNat 2)]]])⟩,
    ⟨22, [.tuple [.int (.ofNat 2), .int (.ofNat 1)], .tuple [.int (.ofNat 2), .int (.ofNat 0), .int (.ofNat 1)]], .d (.tuple [.tuple [.tuple [.int (.negSucc 0), .int (.ofNat 2)], .tuple [.int (.negSucc 2), .int (.ofNat 2)]], .tuple [.tuple [.int (.ofNat 1), .int (.ofNat 2)], .tuple [.int (.negSucc 0), .int (.ofNat 2)]]])⟩,
    ⟨22, [.tuple [.int (.ofNat 2), .int (.ofNat 1)], .tuple [.int (.ofNat 2), .int (.ofNat 1), .int (.ofNat 0)]], .d (.tuple [.tuple [.tuple [.int (.negSucc 0), .int (.ofNat 2)], .tuple [.int (.negSucc 2), .int (.ofNat 2)]], .tuple [.tuple [.int (.negSucc 0), .int (.ofNat 2)], .tuple [.int (.ofNat 1), .int (.ofNat 2)]]])⟩,
    ⟨22, [.tuple [.int (.ofNat 1), .int (.ofNat 1), .int (.ofNat 1)], .tuple [.int (.ofNat 0), .int (.ofNat 1), .int (.ofNat 2)]], .d (.tuple [.tuple [.tuple [.int (.ofNat 1), .int (.ofNat 1)]]])⟩,
    ⟨22, [.tuple [.int (.ofNat 1), .int (.ofNat 1), .int (.ofNat 1)], .tuple [.int (.ofNat 0), .int (.ofNat 2), .int (.ofNat 1)]], .d (.tuple [.tuple [.tuple [.int (.negSucc 0), .int (.ofNat 1)]]])⟩,
    ⟨22, [.tuple [.int (.ofNat 1), .int (.ofNat 1), .int (.ofNat 1)], .tuple [.int (.ofNat 1), .int (.ofNat 0), .int (.ofNat 2)]], .d (.tuple [.tuple [.tuple [.int (.negSucc 0), .int (.ofNat 1)]]])⟩,
    ⟨22, [.tuple [.int (.ofNat 1), .int (.ofNat 1), .int (.ofNat 1)], .tuple [.int (.ofNat 1), .int (.ofNat 2), .int (.ofNat 0)]], .d (.tuple [.tuple [.tuple [.int (.ofNat 1), .int (.ofNat 1)]]])⟩,
    ⟨22, [.tuple [.int (.ofNat 1), .int (.ofNat 1), .int (.ofNat 1)], .tuple [.int (.ofNat 2), .int (.ofNat 0), .int (.ofNat 1)]], .d (.tuple [.tuple [.tuple [.int (.ofNat 1), .int (.ofNat 1)]]])⟩,
    ⟨22, [.tuple [.int (.ofNat 1), .int (.ofNat 1), .int (.ofNat 1)], .tuple [.int (.ofNat 2), .int (.ofNat 1), .int (.ofNat 0)]], .d (.tuple [.tuple [.tuple [.int (.negSucc 0), .int (.ofNat 1)]]])⟩,
    ⟨22, [.tuple [.int (.ofNat 4)], .tuple [.int (.ofNat 0), .int (.ofNat 1), .int (.ofNat 2), .int (.ofNat 3)]], .d (.tuple [.tuple [.tuple [.int (.ofNat 1), .int (.ofNat 1)]]])⟩]
theorem tp_1_ok : ∀ e ∈ tp_1, EnOk (Lw.P.call 19) e := by
  have h := chks_ok (c := up Lw.P (memo t18 (up Lw.P (memo t17 (Lw.P.call 17))))) (tab := tp_1) (by decide +kernel)
  rw [memo_eq t17_ok, ← call_up, memo_eq t18_ok] at h
  exact h
def tp_2 : List En := [
  ⟨22, [.tuple [.int (.ofNat 4)], .tuple [.int (.ofNat 0), .int (.ofNat 1), .int (.ofNat 3), .int (.ofNat 2)]], .d (.tuple [.tuple [.tuple [.int (.ofNat 1), .int (.ofNat 1)]]])⟩,
    ⟨22, [.tuple [.int (.ofNat 4)], .tuple [.int (.ofNat 0), .int (.ofNat 2), .int (.ofNat 1), .int (.ofNat 3)]], .d (.tuple [.tuple [.tuple [.int (.ofNat 1), .int (.ofNat 1)]]])⟩,
    ⟨22, [.tuple [.int (.ofNat 4)], .tuple [.int (.ofNat 0), .int (.ofNat 2), .int (.ofNat 3), .int (.ofNat 1)]], .d (.tuple [.tuple [.tuple [.int (.ofNat 1), .int (.ofNat 1)]]])⟩,
    ⟨22, [.tuple [.int (.ofNat 4)], .tuple [.int (.ofNat 0), .int (.ofNat 3), .int (.ofNat 1), .int (.ofNat 2)]], .d (.tuple [.tuple [.tuple [.int (.ofNat 1), .int (.ofNat 1)]]])⟩,
    ⟨22, [.tuple [.int (.ofNat 4)], .tuple [.int (.ofNat 0), .int (.ofNat 3), .int (.ofNat 2), .int (.ofNat 1)]], .d (.tuple [.tuple [.tuple [.int (.ofNat 1), .int (.ofNat 1)]]])⟩,
    ⟨22, [.tuple [.int (.ofNat 4)], .tuple [.int (.ofNat 1), .int (.ofNat 0), .int (.ofNat 2), .int (.ofNat 3)]], .d (.tuple [.tuple [.tuple [.int (.ofNat 1), .int (.ofNat 1)]]])⟩,
    ⟨22, [.tuple [.int (.ofNat 4)], .tuple [.int (.ofNat 1), .int (.ofNat 0), .int (.ofNat 3), .int (.ofNat 2)]], .d (.tuple [.tuple [.tuple [.int (.ofNat 1), .int (.ofNat 1)]]])⟩,
    ⟨22, [.tuple [.int (.ofNat 4)], .tuple [.int (.ofNat 1), .int (.ofNat 2), .int (.ofNat 0), .int (.ofNat 3)]], .d (.tuple [.tuple [.tuple [.int (.ofNat 1), .int (.ofNat 1)]]])⟩,
    ⟨22, [.tuple [.int (.ofNat 4)], .tuple [.int (.ofNat 1), .int (.ofNat 2), .int (.ofNat 3), .int (.ofNat 0)]], .d (.tuple [.tuple [.tuple [.int (.ofNat 1), .int (.ofNat 1)]]])⟩,
    ⟨22, [.tuple [.int (.ofNat 4)], .tuple [.int (.ofNat 1), .int (.ofNat 3), .int (.ofNat 0), .int (.ofNat 2)]], .d (.tuple [.tuple [.tuple [.int (.ofNat 1), .int (.ofNat 1)]]])⟩,
    ⟨22, [.tuple [.int (.ofNat 4)], .tuple [.int (.ofNat 1), .int (.ofNat 3), .int (.ofNat 2), .int (.ofNat 0)]], .d (.tuple [.tuple [.tuple [.int (.ofNat 1), .int (.ofNat 1)]]])⟩,
    ⟨22, [.tuple [.int (.ofNat 4)], .tuple [.int (.ofNat 2), .int (.ofNat 0), .int (.ofNat 1), .int (.ofNat 3)]], .d (.tuple [.tuple [.tuple [.int (.ofNat 1), .int (.ofNat 1)]]])⟩]
theorem tp_2_ok : ∀ e ∈ tp_2, EnOk (Lw.P.call 19) e := by
  have h := chks_ok (c := up Lw.P (memo t18 (up Lw.P (memo t17 (Lw.P.call 17))))) (tab := tp_2) (by decide +kernel)
  rw [memo_eq t17_ok, ← call_up, memo_eq t18_ok] at h
  exact h
def tp_3 : List En := [
  ⟨22, [.tuple [.int (.ofNat 4)], .tuple [.int (.ofNat 2), .int (.ofNat 0), .int (.ofNat 3), .int (.ofNat 1)]], .d (.tuple [.tuple [.tuple [.int (.ofNat 1), .int (.ofNat 1)]]])⟩,
    ⟨22, [.tuple [.int (.ofNat 4)], .tuple [.int (.ofNat 2), .int (.ofNat 1), .int (.ofNat 0), .int (.ofNat 3)]], .d (.tuple [.tuple [.tuple [.int (.ofNat 1), .int (.ofNat 1)]]])⟩,
    ⟨22, [.tuple [.int (.ofNat 4)], .tuple [.int (.ofNat 2), .int (.ofNat 1), .int (.ofNat 3), .int (.ofNat 0)]], .d (.tuple [.tuple [.tuple [.int (.ofNat 1), .int (.ofNat 1)]]])⟩,
    ⟨22, [.tuple [.int (.ofNat 4)], .tuple [.int (.ofNat 2), .int (.ofNat 3), .int (.ofNat 0), .int (.ofNat 1)]], .d (.tuple [.tuple [.tuple [.int (.ofNat 1), .int (.ofNat 1)]]])⟩,
    ⟨22, [.tuple [.int (.ofNat 4)], .tuple [.int (.ofNat 2), .int (.ofNat 3), .int (.ofNat 1), .int (.ofNat 0)]], .d (.tuple [.tuple [.tuple [.int (.ofNat 1), .int (.ofNat 1)]]])⟩,
    ⟨22, [.tuple [.int (.ofNat 4)], .tuple [.int (.ofNat 3), .int (.ofNat 0), .int (.ofNat 1), .int (.ofNat 2)]], .d (.tuple [.tuple [.tuple [.int (.ofNat 1), .int (.ofNat 1)]]])⟩,
    ⟨22, [.tuple [.int (.ofNat 4)], .tuple [.int (.ofNat 3), .int (.ofNat 0), .int (.ofNat 2), .int (.ofNat 1)]], .d (.tuple [.tuple [.tuple [.int (.ofNat 1), .int (.ofNat 1)]]])⟩,
    ⟨22, [.tuple [.int (.ofNat 4)], .tuple [.int (.ofNat 3), .int (.ofNat 1), .int (.ofNat 0), .int (.ofNat 2)]], .d (.tuple [.tuple [.tuple [.int (.ofNat 1), .int (.ofNat 1)]]])⟩,
    ⟨22, [.tuple [.int (.ofNat 4)], .tuple [.int (.ofNat 3), .int (.ofNat 1), .int (.ofNat 2), .int (.ofNat 0)]], .d (.tuple [.tuple [.tuple [.int (.ofNat 1), .int (.ofNat 1)]]])⟩,
    ⟨22, [.tuple [.int (.ofNat 4)], .tuple [.int (.ofNat 3), .int (.ofNat 2), .int (.ofNat 0), .int (.ofNat 1)]], .d (.tuple [.tuple [.tuple [.int (.ofNat 1), .int (.ofNat 1)]]])⟩,
    ⟨22, [.tuple [.int (.ofNat 4)], .tuple [.int (.ofNat 3), .int (.ofNat 2), .int (.ofNat 1), .int (.ofNat 0)]], .d (.tuple [.tuple [.tuple [.int (.ofNat 1), .int (.ofNat 1)]]])⟩,
    ⟨22, [.tuple [.int (.ofNat 3), .int (.ofNat 1)], .tuple [.int (.ofNat 0), .int (.ofNat 1), .int (.ofNat 2), .int (.ofNat 3)]], .d (.tuple [.tuple [.tuple [.int (.ofNat 1), .int (.ofNat 1)], .tuple [.int (.ofNat 0), .int (.ofNat 1)], .tuple [.int (.ofNat 0), .int (.ofNat 1)]], .tuple [.tuple [.int (.ofNat 0), .int (.ofNat 1)], .tuple [.int (.ofNat 1), .int (.ofNat 1)], .tuple [.int (.ofNat 0), .int (.ofNat 1)]], .tuple [.tuple [.int (.ofNat 0), .int (.ofNat 1)], .tuple [.int (.ofNat 0), .int (.ofNat 1)], .tuple [.int (.ofNat 1), .int (.ofNat 1)]]])⟩]
theorem tp_3_ok : ∀ e ∈ tp_3, EnOk (Lw.P.call 19) e := by
  have h := chks_ok (c := up Lw.P (memo t18 (up Lw.P (memo t17 (Lw.P.call 17))))) (tab := tp_3) (by decide +kernel)
  rw [memo_eq t17_ok, ← call_up, memo_eq t18_ok] at h
  exact h
def tp_4 : List En := [
  ⟨22, [.tuple [.int (.ofNat 3), .int (.ofNat 1)], .tuple [.int (.ofNat 0), .int (.ofNat 1), .int (.ofNat 3), .int (.ofNat 2)]], .d (.tuple [.tuple [.tuple [.int (.negSucc 0), .int (.ofNat 3)], .tuple [.int (.ofNat 4), .int (.ofNat 3)], .tuple [.int (.ofNat 0), .int (.ofNat 1)]], .tuple [.tuple [.int (.ofNat 2), .int (.ofNat 3)], .tuple [.int (.ofNat 1), .int (.ofNat 3)], .tuple [.int (.ofNat 0), .int (.ofNat 1)]], .tuple [.tuple [.int (.ofNat 0), .int (.ofNat 1)], .tuple [.int (.ofNat 0), .int (.ofNat 1)], .tuple [.int (.ofNat 1), .int (.ofNat 1)]]])⟩,
    ⟨22, [.tuple [.int (.ofNat 3), .int (.ofNat 1)], .tuple [.int (.ofNat 0), .int (.ofNat 2), .int (.ofNat 1), .int (.ofNat 3)]], .d (.tuple [.tuple [.tuple [.int (.ofNat 1), .int (.ofNat 1)], .tuple [.int (.ofNat 0), .int (.ofNat 1)], .tuple [.int (.ofNat 0), .int (.ofNat 1)]], .tuple [.tuple [.int (.ofNat 0), .int (.ofNat 1)], .tuple [.int (.negSucc 0), .int (.ofNat 2)], .tuple [.int (.ofNat 3), .int (.ofNat 2)]], .tuple [.tuple [.int (.ofNat 0), .int (.ofNat 1)], .tuple [.int (.ofNat 1), .int (.ofNat 2)], .tuple [.int (.ofNat 1), .int (.ofNat 2)]]])⟩,
    ⟨22, [.tuple [.int (.ofNat 3), .int (.ofNat 1)], .tuple [.int (.ofNat 0), .int (.ofNat 2), .int (.ofNat 3), .int (.ofNat 1)]], .d (.tuple [.tuple [.tuple [.int (.negSucc 0), .int (.ofNat 3)], .tuple [.int (.ofNat 4), .int (.ofNat 3)], .tuple [.int (.ofNat 0), .int (.ofNat 1)]], .tuple [.tuple [.int (.negSucc 0), .int (.ofNat 3)], .tuple [.int (.negSucc 0), .int (.ofNat 6)], .tuple [.int (.ofNat 3), .int (.ofNat 2)]], .tuple [.tuple [.int (.ofNat 1), .int (.ofNat 3)], .tuple [.int (.ofNat 1), .int (.ofNat 6)], .tuple [.int (.ofNat 1), .int (.ofNat 2)]]])⟩,
    ⟨22, [.tuple [.int (.ofNat 3), .int (.ofNat 1)], .tuple [.int (.ofNat 0), .int (.ofNat 3), .int (.ofNat 1), .int (.ofNat 2)]], .d (.tuple [.tuple [.tuple [.int (.negSucc 0), .int (.ofNat 3)], .tuple [.int (.negSucc 1), .int (.ofNat 3)], .tuple [.int (.ofNat 2), .int (.ofNat 1)]], .tuple [.tuple [.int (.ofNat 2), .int (.ofNat 3)], .tuple [.int (.negSucc 0), .int (.ofNat 6)], .tuple [.int (.ofNat 1), .int (.ofNat 2)]], .tuple [.tuple [.int (.ofNat 0), .int (.ofNat 1)], .tuple [.int (.ofNat 1), .int (.ofNat 2)], .tuple [.int (.ofNat 1), .int (.ofNat 2)]]])⟩,
    ⟨22, [.tuple [.int (.ofNat 3), .int (.ofNat 1)], .tuple [.int (.ofNat 0), .int (.ofNat 3), .int (.ofNat 2), .int (.ofNat 1)]], .d (.tuple [.tuple [.tuple [.int (.negSucc 0), .int (.ofNat 3)], .tuple [.int (.negSucc 1), .int (.ofNat 3)], .tuple [.int (.ofNat 2), .int (.ofNat 1)]], .tuple [.tuple [.int (.negSucc 0), .int (.ofNat 3)], .tuple [.int (.ofNat 5), .int (.ofNat 6)], .tuple [.int (.ofNat 1), .int (.ofNat 2)]], .tuple [.tuple [.int (.ofNat 1), .int (.ofNat 3)], .tuple [.int (.ofNat 1), .int (.ofNat 6)], .tuple [.int (.ofNat 1), .int (.ofNat 2)]]])⟩,
    ⟨22, [.tuple [.int (.ofNat 3), .int (.ofNat 1)], .tuple [.int (.ofNat 1), .int (.ofNat 0), .int (.ofNat 2), .int (.ofNat 3)]], .d (.tuple [.tuple [.tuple [.int (.ofNat 1), .int (.ofNat 1)], .tuple [.int (.ofNat 0), .int (.ofNat 1)], .tuple [.int (.ofNat 0), .int (.ofNat 1)]], .tuple [.tuple [.int (.ofNat 0), .int (.ofNat 1)], .tuple [.int (.ofNat 1), .int (.ofNat 1)], .tuple [.int (.ofNat 0), .int (.ofNat 1)]], .tuple [.tuple [.int (.ofNat 0), .int (.ofNat 1)], .tuple [.int (.ofNat 0), .int (.ofNat 1)], .tuple [.int (.negSucc 0), .int (.ofNat 1)]]])⟩,
    ⟨22, [.tuple [.int (.ofNat 3), .int (.ofNat 1)], .tuple [.int (.ofNat 1), .int (.ofNat 0), .int (.ofNat 3), .int (.ofNat 2)]], .d (.tuple [.tuple [.tuple [.int (.negSucc 0), .int (.ofNat 3)], .tuple [.int (.ofNat 4), .int (.ofNat 3)], .tuple [.int (.ofNat 0), .int (.ofNat 1)]], .tuple [.tuple [.int (.ofNat 2), .int (.ofNat 3)], .tuple [.int (.ofNat 1), .int (.ofNat 3)], .tuple [.int (.ofNat 0), .int (.ofNat 1)]], .tuple [.tuple [.int (.ofNat 0), .int (.ofNat 1)], .tuple [.int (.ofNat 0), .int (.ofNat 1)], .tuple [.int (.negSucc 0), .int (.ofNat 1)]]])⟩,
    ⟨22, [.tuple [.int (.ofNat 3), .int (.ofNat 1)], .tuple [.int (.ofNat 1), .int (.ofNat 2), .int (.ofNat 0), .int (.ofNat 3)]], .d (.tuple [.tuple [.tuple [.int (.ofNat 1), .int (.ofNat 1)], .tuple [.int (.ofNat 0), .int (.ofNat 1)], .tuple [.int (.ofNat 0), .int (.ofNat 1)]], .tuple [.tuple [.int (.ofNat 0), .int (.ofNat 1)], .tuple [.int (.negSucc 0), .int (.ofNat 2)], .tuple [.int (.ofNat 3), .int (.ofNat 2)]], .tuple [.tuple [.int (.ofNat 0), .int (.ofNat 1)], .tuple [.int (.negSucc 0), .int (.ofNat 2)], .tuple [.int (.negSucc 0), .int (.ofNat 2)]]])⟩,
    ⟨22, [.tuple [.int (.ofNat 3), .int (.ofNat 1)], .tuple [.int (.ofNat 1), .int (.ofNat 2), .int (.ofNat 3), .int (.ofNat 0)]], .d (.tuple [.tuple [.tuple [.int (.negSucc 0), .int (.ofNat 3)], .tuple [.int (.ofNat 4), .int (.ofNat 3)], .tuple [.int (.ofNat 0), .int (.ofNat 1)]], .tuple [.tuple [.int (.negSucc 0), .int (.ofNat 3)], .tuple [.int (.negSucc 0), .int (.ofNat 6)], .tuple [.int (.ofNat 3), .int (.ofNat 2)]], .tuple [.tuple [.int (.negSucc 0), .int (.ofNat 3)], .tuple [.int (.negSucc 0), .int (.ofNat 6)], .tuple [.int (.negSucc 0), .int (.ofNat 2)]]])⟩,
    ⟨22, [.tuple [.int (.ofNat 3), .int (.ofNat 1)], .tuple [.int (.ofNat 1), .int (.ofNat 3), .int (.ofNat 0), .int (.ofNat 2)]], .d (.tuple [.tuple [.tuple [.int (.negSucc 0), .int (.ofNat 3)], .tuple [.int (.negSucc 1), .int (.ofNat 3)], .tuple [.int (.ofNat 2), .int (.ofNat 1)]], .tuple [.tuple [.int (.ofNat 2), .int (.ofNat 3)], .tuple [.int (.negSucc 0), .int (.ofNat 6)], .tuple [.int (.ofNat 1), .int (.ofNat 2)]], .tuple [.tuple [.int (.ofNat 0), .int (.ofNat 1)], .tuple [.int (.negSucc 0), .int (.ofNat 2)], .tuple [.int (.negSucc 0), .int (.ofNat 2)]]])⟩,
    ⟨22, [.tuple [.int (.ofNat 3), .int (.ofNat 1)], .tuple [.int (.ofNat 1), .int (.ofNat 3), .int (.ofNat 2), .int (.ofNat 0)]], .d (.tuple [.tuple [.tuple [.int (.negSucc 0), .int (.ofNat 3)], .tuple [.int (.negSucc 1), .int (.ofNat 3)], .tuple [.int (.ofNat 2), .int (.ofNat 1)]], .tuple [.tuple [.int (.negSucc 0), .int (.ofNat 3)], .tuple [.int (.ofNat 5), .int (.ofNat 6)], .tuple [.int (.ofNat 1), .int (.ofNat 2)]], .tuple [.tuple [.int (.negSucc 0), .int (.ofNat 3)], .tuple [.int (.negSucc 0), .int (.ofNat 6)], .tuple [.int (.negSucc 0), .int (.ofNat 2)]]])⟩,
    ⟨22, [.tuple [.int (.ofNat 3), .int (.ofNat 1)], .tuple [.int (.ofNat 2), .int (.ofNat 0), .int (.ofNat 1), .int (.ofNat 3)]], .d (.tuple [.tuple [.tuple [.int (.ofNat 1), .int (.ofNat 1)], .tuple [.int (.ofNat 0), .int (.ofNat 1)], .tuple [.int (.ofNat 0), .int (.ofNat 1)]], .tuple [.tuple [.int (.ofNat 0), .int (.ofNat 1)], .tuple [.int (.negSucc 0), .int (.ofNat 2)], .tuple [.int (.negSucc 2), .int (.ofNat 2)]], .tuple [.tuple [.int (.ofNat 0), .int (.ofNat 1)], .tuple [.int (.ofNat 1), .int (.ofNat 2)], .tuple [.int (.negSucc 0), .int (.ofNat 2)]]])⟩]
theorem tp_4_ok : ∀ e ∈ tp_4, EnOk (Lw.P.call 19) e := by
  have h := chks_ok (c := up Lw.P (memo t18 (up Lw.P (memo t17 (Lw.P.call 17))))) (tab := tp_4) (by decide +kernel)
  rw [memo_eq t17_ok, ← call_up, memo_eq t18_ok] at h
  exact h
def tp_5 : List En := [
  ⟨22, [.tuple [.int (.ofNat 3), .int (.ofNat 1)], .tuple [.int (.ofNat 2), .int (.ofNat 0), .int (.ofNat 3), .int (.ofNat 1)]], .d (.tuple [.tuple [.tuple [.int (.negSucc 0), .int (.ofNat 3)], .tuple [.int (.ofNat 4), .int (.ofNat 3)], .tuple [.int (.ofNat 0), .int (.ofNat 1)]], .tuple [.tuple [.int (.negSucc 0), .int (.ofNat 3)], .tuple [.int (.negSucc 0), .int (.ofNat 6)], .tuple [.int (.negSucc 2), .int (.ofNat 2)]], .tuple [.tuple [.int (.ofNat 1), .int (.ofNat 3)], .tuple [.int (.ofNat 1), .int (.ofNat 6)], .tuple [.int (.negSucc 0), .int (.ofNat 2)]]])⟩,
    ⟨22, [.tuple [.int (.ofNat 3), .int (.ofNat 1)], .tuple [.int (.ofNat 2), .int (.ofNat 1), .int (.ofNat 0), .int (.ofNat 3)]], .d (.tuple [.tuple [.tuple [.int (.ofNat 1), .int (.ofNat 1)], .tuple [.int (.ofNat 0), .int (.ofNat 1)], .tuple [.int (.ofNat 0), .int (.ofNat 1)]], .tuple [.tuple [.int (.ofNat 0), .int (.ofNat 1)], .tuple [.int (.negSucc 0), .int (.ofNat 2)], .tuple [.int (.negSucc 2), .int (.ofNat 2)]], .tuple [.tuple [.int (.ofNat 0), .int (.ofNat 1)], .tuple [.int (.negSucc 0), .int (.ofNat 2)], .tuple [.int (.ofNat 1), .int (.ofNat 2)]]])⟩,
    ⟨22, [.tuple [.int (.ofNat 3), .int (.ofNat 1)], .tuple [.int (.ofNat 2), .int (.ofNat 1), .int (.ofNat 3), .int (.ofNat 0)]], .d (.tuple [.tuple [.tuple [.int (.negSucc 0), .int (.ofNat 3)], .tuple [.int (.ofNat 4), .int (.ofNat 3)], .tuple [.int (.ofNat 0), .int (.ofNat 1)]], .tuple [.tuple [.int (.negSucc 0), .int (.ofNat 3)], .tuple [.int (.negSucc 0), .int (.ofNat 6)], .tuple [.int (.negSucc 2), .int (.ofNat 2)]], .tuple [.tuple [.int (.negSucc 0), .int (.ofNat 3)], .tuple [.int (.negSucc 0), .int (.ofNat 6)], .tuple [.int (.ofNat 1), .int (.ofNat 2)]]])⟩,
    ⟨22, [.tuple [.int (.ofNat 3), .int (.ofNat 1)], .tuple [.int (.ofNat 2), .int (.ofNat 3), .int (.ofNat 0), .int (.ofNat 1)]], .d (.tuple [.tuple [.tuple [.int (.negSucc 0), .int (.ofNat 3)], .tuple [.int (.negSucc 1), .int (.ofNat 3)], .tuple [.int (.ofNat 2), .int (.ofNat 1)]], .tuple [.tuple [.int (.negSucc 0), .int (.ofNat 3)], .tuple [.int (.negSucc 1), .int (.ofNat 3)], .tuple [.int (.negSucc 0), .int (.ofNat 1)]], .tuple [.tuple [.int (.ofNat 1), .int (.ofNat 3)], .tuple [.int (.negSucc 0), .int (.ofNat 3)], .tuple [.int (.ofNat 0), .int (.ofNat 1)]]])⟩,
    ⟨22, [.tuple [.int (.ofNat 3), .int (.ofNat 1)], .tuple [.int (.ofNat 2), .int (.ofNat 3), .int (.ofNat 1), .int (.ofNat 0)]], .d (.tuple [.tuple [.tuple [.int (.negSucc 0), .int (.ofNat 3)], .tuple [.int (.negSucc 1), .int (.ofNat 3)], .tuple [.int (.ofNat 2), .int (.ofNat 1)]], .tuple [.tuple [.int (.negSucc 0), .int (.ofNat 3)], .tuple [.int (.negSucc 1), .int (.ofNat 3)], .tuple [.int (.negSucc 0), .int (.ofNat 1)]], .tuple [.tuple [.int (.negSucc 0), .int (.ofNat 3)], .tuple [.int (.ofNat 1), .int (.ofNat 3)], .tuple [.int (.ofNat 0), .int (.ofNat 1)]]])⟩,
    ⟨22, [.tuple [.int (.ofNat 3), .int (.ofNat 1)], .tuple [.int (.ofNat 3), .int (.ofNat 0), .int (.ofNat 1), .int (.ofNat 2)]], .d (.tuple [.tuple [.tuple [.int (.negSucc 0), .int (.ofNat 3)], .tuple [.int (.negSucc 1), .int (.ofNat 3)], .tuple [.int (.negSucc 1), .int (.ofNat 1)]], .tuple [.tuple [.int (.ofNat 2), .int (.ofNat 3)], .tuple [.int (.negSucc 0), .int (.ofNat 6)], .tuple [.int (.negSucc 0), .int (.ofNat 2)]], .tuple [.tuple [.int (.ofNat 0), .int (.ofNat 1)], .tuple [.int (.ofNat 1), .int (.ofNat 2)], .tuple [.int (.negSucc 0), .int (.ofNat 2)]]])⟩,
    ⟨22, [.tuple [.int (.ofNat 3), .int (.ofNat 1)], .tuple [.int (.ofNat 3), .int (.ofNat 0), .int (.ofNat 2), .int (.ofNat 1)]], .d (.tuple [.tuple [.tuple [.int (.negSucc 0), .int (.ofNat 3)], .tuple [.int (.negSucc 1), .int (.ofNat 3)], .tuple [.int (.negSucc 1), .int (.ofNat 1)]], .tuple [.tuple [.int (.negSucc 0), .int (.ofNat 3)], .tuple [.int (.ofNat 5), .int (.ofNat 6)], .tuple [.int (.negSucc 0), .int (.ofNat 2)]], .tuple [.tuple [.int (.ofNat 1), .int (.ofNat 3)], .tuple [.int (.ofNat 1), .int (.ofNat 6)], .tuple [.int (.negSucc 0), .int (.ofNat 2)]]])⟩,
    ⟨22, [.tuple [.int (.ofNat 3), .int (.ofNat 1)], .tuple [.int (.ofNat 3), .int (.ofNat 1), .int (.ofNat 0), .int (.ofNat 2)]], .d (.tuple [.tuple [.tuple [.int (.negSucc 0), .int (.ofNat 3)], .tuple [.int (.negSucc 1), .int (.ofNat 3)], .tuple [.int (.negSucc 1), .int (.ofNat 1)]], .tuple [.tuple [.int (.ofNat 2), .int (.ofNat 3)], .tuple [.int (.negSucc 0), .int (.ofNat 6)], .tuple [.int (.negSucc 0), .int (.ofNat 2)]], .tuple [.tuple [.int (.ofNat 0), .int (.ofNat 1)], .tuple [.int (.negSucc 0), .int (.ofNat 2)], .tuple [.int (.ofNat 1), .int (.ofNat 2)]]])⟩,
    ⟨22, [.tuple [.int (.ofNat 3), .int (.ofNat 1)], .tuple [.int (.ofNat 3), .int (.ofNat 1), .int (.ofNat 2), .int (.ofNat 0)]], .d (.tuple [.tuple [.tuple [.int (.negSucc 0), .int (.ofNat 3)], .tuple [.int (.negSucc 1), .int (.ofNat 3)], .tuple [.int (.negSucc 1), .int (.ofNat 1)]], .tuple [.tuple [.int (.negSucc 0), .int (.ofNat 3)], .tuple [.int (.ofNat 5), .int (.ofNat 6)], .tuple [.int (.negSucc 0), .int (.ofNat 2)]], .tuple [.tuple [.int (.negSucc 0), .int (.ofNat 3)], .tuple [.int (.negSucc 0), .int (.ofNat 6)], .tuple [.int (.ofNat 1), .int (.ofNat 2)]]])⟩,
    ⟨22, [.tuple [.int (.ofNat 3), .int (.ofNat 1)], .tuple [.int (.ofNat 3), .int (.ofNat 2), .int (.ofNat 0), .int (.ofNat 1)]], .d (.tuple [.tuple [.tuple [.int (.negSucc 0), .int (.ofNat 3)], .tuple [.int (.negSucc 1), .int (.ofNat 3)], .tuple [.int (.negSucc 1), .int (.ofNat 1)]], .tuple [.tuple [.int (.negSucc 0), .int (.ofNat 3)], .tuple [.int (.negSucc 1), .int (.ofNat 3)], .tuple [.int (.ofNat 1), .int (.ofNat 1)]], .tuple [.tuple [.int (.ofNat 1), .int (.ofNat 3)], .tuple [.int (.negSucc 0), .int (.ofNat 3)], .tuple [.int (.ofNat 0), .int (.ofNat 1)]]])⟩,
    ⟨22, [.tuple [.int (.ofNat 3), .int (.ofNat 1)], .tuple [.int (.ofNat 3), .int (.ofNat 2), .int (.ofNat 1), .int (.ofNat 0)]], .d (.tuple [.tuple [.tuple [.int (.negSucc 0), .int (.ofNat 3)], .tuple [.int (.negSucc 1), .int (.ofNat 3)], .tuple [.int (.negSucc 1), .int (.ofNat 1)]], .tuple [.tuple [.int (.negSucc 0), .int (.ofNat 3)], .tuple [.int (.negSucc 1), .int (.ofNat 3)], .tuple [.int (.ofNat 1), .int (.ofNat 1)]], .tuple [.tuple [.int (.negSucc 0), .int (.ofNat 3)], .tuple [.int (.ofNat 1), .int (.ofNat 3)], .tuple [.int (.ofNat 0), .int (.ofNat 1)]]])⟩,
    ⟨22, [.tuple [.int (.ofNat 2), .int (.ofNat 2)], .tuple [.int (.ofNat 0), .int (.ofNat 1), .int (.ofNat 2), .int (.ofNat 3)]], .d (.tuple [.tuple [.tuple [.int (.ofNat 1), .int (.ofNat 1)], .tuple [.int (.ofNat 0), .int (.ofNat 1)]], .tuple [.tuple [.int (.ofNat 0), .int (.ofNat 1)], .tuple [.int (.ofNat 1), .int (.ofNat 1)]]])⟩]
theorem tp_5_ok : ∀ e ∈ tp_5, EnOk (Lw.P.call 19) e := by
  have h := chks_ok (c := up Lw.P (memo t18 (up Lw.P (memo t17 (Lw.P.call 17))))) (tab := tp_5) (by decide +kernel)
  rw [memo_eq t17_ok, ← call_up, memo_eq t18_ok] at h
  exact h
def tp_6 : List En := [
  ⟨22, [.tuple [.int (.ofNat 2), .int (.ofNat 2)], .tuple [.int (.ofNat 0), .int (.ofNat 1), .int (.ofNat 3), .int (.ofNat 2)]], .d (.tuple [.tuple [.tuple [.int (.ofNat 1), .int (.ofNat 1)], .tuple [.int (.ofNat 0), .int (.ofNat 1)]], .tuple [.tuple [.int (.ofNat 0), .int (.ofNat 1)], .tuple [.int (.negSucc 0), .int (.ofNat 1)]]])⟩,
    ⟨22, [.tuple [.int (.ofNat 2), .int (.ofNat 2)], .tuple [.int (.ofNat 0), .int (.ofNat 2), .int (.ofNat 1), .int (.ofNat 3)]], .d (.tuple [.tuple [.tuple [.int (.negSucc 0), .int (.ofNat 2)], .tuple [.int (.ofNat 3), .int (.ofNat 2)]], .tuple [.tuple [.int (.ofNat 1), .int (.ofNat 2)], .tuple [.int (.ofNat 1), .int (.ofNat 2)]]])⟩,
    ⟨22, [.tuple [.int (.ofNat 2), .int (.ofNat 2)], .tuple [.int (.ofNat 0), .int (.ofNat 2), .int (.ofNat 3), .int (.ofNat 1)]], .d (.tuple [.tuple [.tuple [.int (.negSucc 0), .int (.ofNat 2)], .tuple [.int (.negSucc 2), .int (.ofNat 2)]], .tuple [.tuple [.int (.ofNat 1), .int (.ofNat 2)], .tuple [.int (.negSucc 0), .int (.ofNat 2)]]])⟩,
    ⟨22, [.tuple [.int (.ofNat 2), .int (.ofNat 2)], .tuple [.int (.ofNat 0), .int (.ofNat 3), .int (.ofNat 1), .int (.ofNat 2)]], .d (.tuple [.tuple [.tuple [.int (.negSucc 0), .int (.ofNat 2)], .tuple [.int (.ofNat 3), .int (.ofNat 2)]], .tuple [.tuple [.int (.negSucc 0), .int (.ofNat 2)], .tuple [.int (.negSucc 0), .int (.ofNat 2)]]])⟩,
    ⟨22, [.tuple [.int (.ofNat 2), .int (.ofNat 2)], .tuple [.int (.ofNat 0), .int (.ofNat 3), .int (.ofNat 2), .int (.ofNat 1)]], .d (.tuple [.tuple [.tuple [.int (.negSucc 0), .int (.ofNat 2)], .tuple [.int (.negSucc 2), .int (.ofNat 2)]], .tuple [.tuple [.int (.negSucc 0), .int (.ofNat 2)], .tuple [.int (.ofNat 1), .int (.ofNat 2)]]])⟩,
    ⟨22, [.tuple [.int (.ofNat 2), .int (.ofNat 2)], .tuple [.int (.ofNat 1), .int (.ofNat 0), .int (.ofNat 2), .int (.ofNat 3)]], .d (.tuple [.tuple [.tuple [.int (.ofNat 1), .int (.ofNat 1)], .tuple [.int (.ofNat 0), .int (.ofNat 1)]], .tuple [.tuple [.int (.ofNat 0), .int (.ofNat 1)], .tuple [.int (.negSucc 0), .int (.ofNat 1)]]])⟩,
    ⟨22, [.tuple [.int (.ofNat 2), .int (.ofNat 2)], .tuple [.int (.ofNat 1), .int (.ofNat 0), .int (.ofNat 3), .int (.ofNat 2)]], .d (.tuple [.tuple [.tuple [.int (.ofNat 1), .int (.ofNat 1)], .tuple [.int (.ofNat 0), .int (.ofNat 1)]], .tuple [.tuple [.int (.ofNat 0), .int (.ofNat 1)], .tuple [.int (.ofNat 1), .int (.ofNat 1)]]])⟩,
    ⟨22, [.tuple [.int (.ofNat 2), .int (.ofNat 2)], .tuple [.int (.ofNat 1), .int (.ofNat 2), .int (.ofNat 0), .int (.ofNat 3)]], .d (.tuple [.tuple [.tuple [.int (.negSucc 0), .int (.ofNat 2)], .tuple [.int (.ofNat 3), .int (.ofNat 2)]], .tuple [.tuple [.int (.negSucc 0), .int (.ofNat 2)], .tuple [.int (.negSucc 0), .int (.ofNat 2)]]])⟩,
    ⟨22, [.tuple [.int (.ofNat 2), .int (.ofNat 2)], .tuple [.int (.ofNat 1), .int (.ofNat 2), .int (.ofNat 3), .int (.ofNat 0)]], .d (.tuple [.tuple [.tuple [.int (.negSucc 0), .int (.ofNat 2)], .tuple [.int (.negSucc 2), .int (.ofNat 2)]], .tuple [.tuple [.int (.negSucc 0), .int (.ofNat 2)], .tuple [.int (.ofNat 1), .int (.ofNat 2)]]])⟩,
    ⟨22, [.tuple [.int (.ofNat 2), .int (.ofNat 2)], .tuple [.int (.ofNat 1), .int (.ofNat 3), .int (.ofNat 0), .int (.ofNat 2)]], .d (.tuple [.tuple [.tuple [.int (.negSucc 0), .int (.ofNat 2)], .tuple [.int (.ofNat 3), .int (.ofNat 2)]], .tuple [.tuple [.int (.ofNat 1), .int (.ofNat 2)], .tuple [.int (.ofNat 1), .int (.ofNat 2)]]])⟩,
    ⟨22, [.tuple [.int (.ofNat 2), .int (.ofNat 2)], .tuple [.int (.ofNat 1), .int (.ofNat 3), .int (.ofNat 2), .int (.ofNat 0)]], .d (.tuple [.tuple [.tuple [.int (.negSucc 0), .int (.ofNat 2)], .tuple [.int (.negSucc 2), .int (.ofNat 2)]], .tuple [.tuple [.int (.ofNat 1), .int (.ofNat 2)], .tuple [.int (.negSucc 0), .int (.ofNat 2)]]])⟩,
    ⟨22, [.tuple [.int (.ofNat 2), .int (.ofNat 2)], .tuple [.int (.ofNat 2), .int (.ofNat 0), .int (.ofNat 1), .int (.ofNat 3)]], .d (.tuple [.tuple [.tuple [.int (.negSucc 0), .int (.ofNat 2)], .tuple [.int (.negSucc 2), .int (.ofNat 2)]], .tuple [.tuple [.int (.ofNat 1), .int (.ofNat 2)], .tuple [.int (.negSucc 0), .int (.ofNat 2)]]])⟩]
theorem tp_6_ok : ∀ e ∈ tp_6, EnOk (Lw.P.call 19) e := by
  have h := chks_ok (c := up Lw.P (memo t18 (up Lw.P (memo t17 (Lw.P.call 17))))) (tab := tp_6) (by decide +kernel)
  rw [memo_eq t17_ok, ← call_up, memo_eq t18_ok] at h
  exact h
def tp_7 : List En := [
  ⟨22, [.tuple [.int (.ofNat 2), .int (.ofNat 2)], .tuple [.int (.ofNat 2), .int (.ofNat 0), .int (.ofNat 3), .int (.ofNat 1)]], .d (.tuple [.tuple [.tuple [.int (.negSucc 0), .int (.ofNat 2)], .tuple [.int (.ofNat 3), .int (.ofNat 2)]], .tuple [.tuple [.int (.ofNat 1), .int (.ofNat 2)], .tuple [.int (.ofNat 1), .int (.ofNat 2)]]])⟩,
    ⟨22, [.tuple [.int (.ofNat 2), .int (.ofNat 2)], .tuple [.int (.ofNat 2), .int (.ofNat 1), .int (.ofNat 0), .int (.ofNat 3)]], .d (.tuple [.tuple [.tuple [.int (.negSucc 0), .int (.ofNat 2)], .tuple [.int (.negSucc 2), .int (.ofNat 2)]], .tuple [.tuple [.int (.negSucc 0), .int (.ofNat 2)], .tuple [.int (.ofNat 1), .int (.ofNat 2)]]])⟩,
    ⟨22, [.tuple [.int (.ofNat 2), .int (.ofNat 2)], .tuple [.int (.ofNat 2), .int (.ofNat 1), .int (.ofNat 3), .int (.ofNat 0)]], .d (.tuple [.tuple [.tuple [.int (.negSucc 0), .int (.ofNat 2)], .tuple [.int (.ofNat 3), .int (.ofNat 2)]], .tuple [.tuple [.int (.negSucc 0), .int (.ofNat 2)], .tuple [.int (.negSucc 0), .int (.ofNat 2)]]])⟩,
    ⟨22, [.tuple [.int (.ofNat 2), .int (.ofNat 2)], .tuple [.int (.ofNat 2), .int (.ofNat 3), .int (.ofNat 0), .int (.ofNat 1)]], .d (.tuple [.tuple [.tuple [.int (.ofNat 1), .int (.ofNat 1)], .tuple [.int (.ofNat 0), .int (.ofNat 1)]], .tuple [.tuple [.int (.ofNat 0), .int (.ofNat 1)], .tuple [.int (.ofNat 1), .int (.ofNat 1)]]])⟩,
    ⟨22, [.tuple [.int (.ofNat 2), .int (.ofNat 2)], .tuple [.int (.ofNat 2), .int (.ofNat 3), .int (.ofNat 1), .int (.ofNat 0)]], .d (.tuple [.tuple [.tuple [.int (.ofNat 1), .int (.ofNat 1)], .tuple [.int (.ofNat 0), .int (.ofNat 1)]], .tuple [.tuple [.int (.ofNat 0), .int (.ofNat 1)], .tuple [.int (.negSucc 0), .int (.ofNat 1)]]])⟩,
    ⟨22, [.tuple [.int (.ofNat 2), .int (.ofNat 2)], .tuple [.int (.ofNat 3), .int (.ofNat 0), .int (.ofNat 1), .int (.ofNat 2)]], .d (.tuple [.tuple [.tuple [.int (.negSucc 0), .int (.ofNat 2)], .tuple [.int (.negSucc 2), .int (.ofNat 2)]], .tuple [.tuple [.int (.negSucc 0), .int (.ofNat 2)], .tuple [.int (.ofNat 1), .int (.ofNat 2)]]])⟩,
    ⟨22, [.tuple [.int (.ofNat 2), .int (.ofNat 2)], .tuple [.int (.ofNat 3), .int (.ofNat 0), .int (.ofNat 2), .int (.ofNat 1)]], .d (.tuple [.tuple [.tuple [.int (.negSucc 0), .int (.ofNat 2)], .tuple [.int (.ofNat 3), .int (.ofNat 2)]], .tuple [.tuple [.int (.negSucc 0), .int (.ofNat 2)], .tuple [.int (.negSucc 0), .int (.ofNat 2)]]])⟩,
    ⟨22, [.tuple [.int (.ofNat 2), .int (.ofNat 2)], .tuple [.int (.ofNat 3), .int (.ofNat 1), .int (.ofNat 0), .int (.ofNat 2)]], .d (.tuple [.tuple [.tuple [.int (.negSucc 0), .int (.ofNat 2)], .tuple [.int (.negSucc 2), .int (.ofNat 2)]], .tuple [.tuple [.int (.ofNat 1), .int (.ofNat 2)], .tuple [.int (.negSucc 0), .int (.ofNat 2)]]])⟩,
    ⟨22, [.tuple [.int (.ofNat 2), .int (.ofNat 2)], .tuple [.int (.ofNat 3), .int (.ofNat 1), .int (.ofNat 2), .int (.ofNat 0)]], .d (.tuple [.tuple [.tuple [.int (.negSucc 0), .int (.ofNat 2)], .tuple [.int (.ofNat 3), .int (.ofNat 2)]], .tuple [.tuple [.int (.ofNat 1), .int (.ofNat 2)], .tuple [.int (.ofNat 1), .int (.ofNat 2)]]])⟩,
    ⟨22, [.tuple [.int (.ofNat 2), .int (.ofNat 2)], .tuple [.int (.ofNat 3), .int (.ofNat 2), .int (.ofNat 0), .int (.ofNat 1)]], .d (.tuple [.tuple [.tuple [.int (.ofNat 1), .int (.ofNat 1)], .tuple [.int (.ofNat 0), .int (.ofNat 1)]], .tuple [.tuple [.int (.ofNat 0), .int (.ofNat 1)], .tuple [.int (.negSucc 0), .int (.ofNat 1)]]])⟩,
    ⟨22, [.tuple [.int (.ofNat 2), .int (.ofNat 2)], .tuple [.int (.ofNat 3), .int (.ofNat 2), .int (.ofNat 1), .int (.ofNat 0)]], .d (.tuple [.tuple [.tuple [.int (.ofNat 1), .int (.ofNat 1)], .tuple [.int (.ofNat 0), .int (.ofNat 1)]], .tuple [.tuple [.int (.ofNat 0), .int (.ofNat 1)], .tuple [.int (.ofNat 1), .int (.ofNat 1)]]])⟩,
    ⟨22, [.tuple [.int (.ofNat 2), .int (.ofNat 1), .int (.ofNat 1)], .tuple [.int (.ofNat 0), .int (.ofNat 1), .int (.ofNat 2), .int (.ofNat 3)]], .d (.tuple [.tuple [.tuple [.int (.ofNat 1), .int (.ofNat 1)], .tuple [.int (.ofNat 0), .int (.ofNat 1)], .tuple [.int (.ofNat 0), .int (.ofNat 1)]], .tuple [.tuple [.int (.ofNat 0), .int (.ofNat 1)], .tuple [.int (.ofNat 1), .int (.ofNat 1)], .tuple [.int (.ofNat 0), .int (.ofNat 1)]], .tuple [.tuple [.int (.ofNat 0), .int (.ofNat 1)], .tuple [.int (.ofNat 0), .int (.ofNat 1)], .tuple [.int (.ofNat 1), .int (.ofNat 1)]]])⟩]
theorem tp_7_ok : ∀ e ∈ tp_7, EnOk (Lw.P.call 19) e := by
  have h := chks_ok (c := up Lw.P (memo t18 (up Lw.P (memo t17 (Lw.P.call 17))))) (tab := tp_7) (by decide +kernel)
  rw [memo_eq t17_ok, ← call_up, memo_eq t18_ok] at h
  exact h
def tp_8 : List En := [
  ⟨22, [.tuple [.int (.ofNat 2), .int (.ofNat 1), .int (.ofNat 1)], .tuple [.int (.ofNat 0), .int (.ofNat 1), .int (.ofNat 3), .int (.ofNat 2)]], .d (.tuple [.tuple [.tuple [.int (.negSucc 0), .int (.ofNat 1)], .tuple [.int (.ofNat 0), .int (.ofNat 1)], .tuple [.int (.ofNat 0), .int (.ofNat 1)]], .tuple [.tuple [.int (.ofNat 0), .int (.ofNat 1)], .tuple [.int (.negSucc 0), .int (.ofNat 3)], .tuple [.int (.ofNat 4), .int (.ofNat 3)]], .tuple [.tuple [.int (.ofNat 0), .int (.ofNat 1)], .tuple [.int (.ofNat 2), .int (.ofNat 3)], .tuple [.int (.ofNat 1), .int (.ofNat 3)]]])⟩,
    ⟨22, [.tuple [.int (.ofNat 2), .int (.ofNat 1), .int (.ofNat 1)], .tuple [.int (.ofNat 0), .int (.ofNat 2), .int (.ofNat 1), .int (.ofNat 3)]], .d (.tuple [.tuple [.tuple [.int (.negSucc 0), .int (.ofNat 2)], .tuple [.int (.ofNat 3), .int (.ofNat 2)], .tuple [.int (.ofNat 0), .int (.ofNat 1)]], .tuple [.tuple [.int (.ofNat 1), .int (.ofNat 2)], .tuple [.int (.ofNat 1), .int (.ofNat 2)], .tuple [.int (.ofNat 0), .int (.ofNat 1)]], .tuple [.tuple [.int (.ofNat 0), .int (.ofNat 1)], .tuple [.int (.ofNat 0), .int (.ofNat 1)], .tuple [.int (.negSucc 0), .int (.ofNat 1)]]])⟩,
    ⟨22, [.tuple [.int (.ofNat 2), .int (.ofNat 1), .int (.ofNat 1)], .tuple [.int (.ofNat 0), .int (.ofNat 2), .int (.ofNat 3), .int (.ofNat 1)]], .d (.tuple [.tuple [.tuple [.int (.ofNat 1), .int (.ofNat 2)], .tuple [.int (.negSucc 0), .int (.ofNat 2)], .tuple [.int (.ofNat 2), .int (.ofNat 1)]], .tuple [.tuple [.int (.negSucc 0), .int (.ofNat 2)], .tuple [.int (.negSucc 0), .int (.ofNat 6)], .tuple [.int (.ofNat 2), .int (.ofNat 3)]], .tuple [.tuple [.int (.ofNat 0), .int (.ofNat 1)], .tuple [.int (.negSucc 1), .int (.ofNat 3)], .tuple [.int (.negSucc 0), .int (.ofNat 3)]]])⟩,
    ⟨22, [.tuple [.int (.ofNat 2), .int (.ofNat 1), .int (.ofNat 1)], .tuple [.int (.ofNat 0), .int (.ofNat 3), .int (.ofNat 1), .int (.ofNat 2)]], .d (.tuple [.tuple [.tuple [.int (.ofNat 1), .int (.ofNat 2)], .tuple [.int (.negSucc 2), .int (.ofNat 2)], .tuple [.int (.ofNat 0), .int (.ofNat 1)]], .tuple [.tuple [.int (.negSucc 0), .int (.ofNat 6)], .tuple [.int (.negSucc 0), .int (.ofNat 6)], .tuple [.int (.negSucc 3), .int (.ofNat 3)]], .tuple [.tuple [.int (.ofNat 1), .int (.ofNat 3)], .tuple [.int (.ofNat 1), .int (.ofNat 3)], .tuple [.int (.negSucc 0), .int (.ofNat 3)]]])⟩,
    ⟨22, [.tuple [.int (.ofNat 2), .int (.ofNat 1), .int (.ofNat 1)], .tuple [.int (.ofNat 0), .int (.ofNat 3), .int (.ofNat 2), .int (.ofNat 1)]], .d (.tuple [.tuple [.tuple [.int (.negSucc 0), .int (.ofNat 2)], .tuple [.int (.ofNat 1), .int (.ofNat 2)], .tuple [.int (.negSucc 1), .int (.ofNat 1)]], .tuple [.tuple [.int (.ofNat 1), .int (.ofNat 6)], .tuple [.int (.negSucc 4), .int (.ofNat 6)], .tuple [.int (.negSucc 1), .int (.ofNat 3)]], .tuple [.tuple [.int (.negSucc 0), .int (.ofNat 3)], .tuple [.int (.negSucc 0), .int (.ofNat 3)], .tuple [.int (.ofNat 1), .int (.ofNat 3)]]])⟩,
    ⟨22, [.tuple [.int (.ofNat 2), .int (.ofNat 1), .int (.ofNat 1)], .tuple [.int (.ofNat 1), .int (.ofNat 0), .int (.ofNat 2), .int (.ofNat 3)]], .d (.tuple [.tuple [.tuple [.int (.ofNat 1), .int (.ofNat 1)], .tuple [.int (.ofNat 0), .int (.ofNat 1)], .tuple [.int (.ofNat 0), .int (.ofNat 1)]], .tuple [.tuple [.int (.ofNat 0), .int (.ofNat 1)], .tuple [.int (.negSucc 0), .int (.ofNat 1)], .tuple [.int (.ofNat 0), .int (.ofNat 1)]], .tuple [.tuple [.int (.ofNat 0), .int (.ofNat 1)], .tuple [.int (.ofNat 0), .int (.ofNat 1)], .tuple [.int (.negSucc 0), .int (.ofNat 1)]]])⟩,
    ⟨22, [.tuple [.int (.ofNat 2), .int (.ofNat 1), .int (.ofNat 1)], .tuple [.int (.ofNat 1), .int (.ofNat 0), .int (.ofNat 3), .int (.ofNat 2)]], .d (.tuple [.tuple [.tuple [.int (.negSucc 0), .int (.ofNat 1)], .tuple [.int (.ofNat 0), .int (.ofNat 1)], .tuple [.int (.ofNat 0), .int (.ofNat 1)]], .tuple [.tuple [.int (.ofNat 0), .int (.ofNat 1)], .tuple [.int (.ofNat 1), .int (.ofNat 3)], .tuple [.int (.negSucc 3), .int (.ofNat 3)]], .tuple [.tuple [.int (.ofNat 0), .int (.ofNat 1)], .tuple [.int (.negSucc 1), .int (.ofNat 3)], .tuple [.int (.negSucc 0), .int (.ofNat 3)]]])⟩,
    ⟨22, [.tuple [.int (.ofNat 2), .int (.ofNat 1), .int (.ofNat 1)], .tuple [.int (.ofNat 1), .int (.ofNat 2), .int (.ofNat 0), .int (.ofNat 3)]], .d (.tuple [.tuple [.tuple [.int (.negSucc 0), .int (.ofNat 2)], .tuple [.int (.ofNat 3), .int (.ofNat 2)], .tuple [.int (.ofNat 0), .int (.ofNat 1)]], .tuple [.tuple [.int (.negSucc 0), .int (.ofNat 2)], .tuple [.int (.negSucc 0), .int (.ofNat 2)], .tuple [.int (.ofNat 0), .int (.ofNat 1)]], .tuple [.tuple [.int (.ofNat 0), .int (.ofNat 1)], .tuple [.int (.ofNat 0), .int (.ofNat 1)], .tuple [.int (.ofNat 1), .int (.ofNat 1)]]])⟩,
    ⟨22, [.tuple [.int (.ofNat 2), .int (.ofNat 1), .int (.ofNat 1)], .tuple [.int (.ofNat 1), .int (.ofNat 2), .int (.ofNat 3), .int (.ofNat 0)]], .d (.tuple [.tuple [.tuple [.int (.ofNat 1), .int (.ofNat 2)], .tuple [.int (.negSucc 0), .int (.ofNat 2)], .tuple [.int (.ofNat 2), .int (.ofNat 1)]], .tuple [.tuple [.int (.ofNat 1), .int (.ofNat 2)], .tuple [.int (.ofNat 1), .int (.ofNat 6)], .tuple [.int (.negSucc 1), .int (.ofNat 3)]], .tuple [.tuple [.int (.ofNat 0), .int (.ofNat 1)], .tuple [.int (.ofNat 2), .int (.ofNat 3)], .tuple [.int (.ofNat 1), .int (.ofNat 3)]]])⟩,
    ⟨22, [.tuple [.int (.ofNat 2), .int (.ofNat 1), .int (.ofNat 1)], .tuple [.int (.ofNat 1), .int (.ofNat 3), .int (.ofNat 0), .int (.ofNat 2)]], .d (.tuple [.tuple [.tuple [.int (.ofNat 1), .int (.ofNat 2)], .tuple [.int (.negSucc 2), .int (.ofNat 2)], .tuple [.int (.ofNat 0), .int (.ofNat 1)]], .tuple [.tuple [.int (.ofNat 1), .int (.ofNat 6)], .tuple [.int (.ofNat 1), .int (.ofNat 6)], .tuple [.int (.ofNat 4), .int (.ofNat 3)]], .tuple [.tuple [.int (.negSucc 0), .int (.ofNat 3)], .tuple [.int (.negSucc 0), .int (.ofNat 3)], .tuple [.int (.ofNat 1), .int (.ofNat 3)]]])⟩,
    ⟨22, [.tuple [.int (.ofNat 2), .int (.ofNat 1), .int (.ofNat 1)], .tuple [.int (.ofNat 1), .int (.ofNat 3), .int (.ofNat 2), .int (.ofNat 0)]], .d (.tuple [.tuple [.tuple [.int (.negSucc 0), .int (.ofNat 2)], .tuple [.int (.ofNat 1), .int (.ofNat 2)], .tuple [.int (.negSucc 1), .int (.ofNat 1)]], .tuple [.tuple [.int (.negSucc 0), .int (.ofNat 6)], .tuple [.int (.ofNat 5), .int (.ofNat 6)], .tuple [.int (.ofNat 2), .int (.ofNat 3)]], .tuple [.tuple [.int (.ofNat 1), .int (.ofNat 3)], .tuple [.int (.ofNat 1), .int (.ofNat 3)], .tuple [.int (.negSucc 0), .int (.ofNat 3)]]])⟩,
    ⟨22, [.tuple [.int (.ofNat 2), .int (.ofNat 1), .int (.ofNat 1)], .tuple [.int (.ofNat 2), .int (.ofNat 0), .int (.ofNat 1), .int (.ofNat 3)]], .d (.tuple [.tuple [.tuple [.int (.negSucc 0), .int (.ofNat 2)], .tuple [.int (.negSucc 2), .int (.ofNat 2)], .tuple [.int (.ofNat 0), .int (.ofNat 1)]], .tuple [.tuple [.int (.ofNat 1), .int (.ofNat 2)], .tuple [.int (.negSucc 0), .int (.ofNat 2)], .tuple [.int (.ofNat 0), .int (.ofNat 1)]], .tuple [.tuple [.int (.ofNat 0), .int (.ofNat 1)], .tuple [.int (.ofNat 0), .int (.ofNat 1)], .tuple [.int (.ofNat 1), .int (.ofNat 1)]]])⟩]
theorem tp_8_ok : ∀ e ∈ tp_8, EnOk (Lw.P.call 19) e := by
  have h := chks_ok (c := up Lw.P (memo t18 (up Lw.P (memo t17 (Lw.P.call 17))))) (tab := tp_8) (by decide +kernel)
  rw [memo_eq t17_ok, ← call_up, memo_eq t18_ok] at h
  exact h
def tp_9 : List En := [
  ⟨22, [.tuple [.int (.ofNat 2), .int (.ofNat 1), .int (.ofNat 1)], .tuple [.int (.ofNat 2), .int (.ofNat 0), .int (.ofNat 3), .int (.ofNat 1)]], .d (.tuple [.tuple [.tuple [.int (.ofNat 1), .int (.ofNat 2)], .tuple [.int (.ofNat 1), .int (.ofNat 2)], .tuple [.int (.negSucc 1), .int (.ofNat 1)]], .tuple [.tuple [.int (.negSucc 0), .int (.ofNat 2)], .tuple [.int (.ofNat 1), .int (.ofNat 6)], .tuple [.int (.negSucc 1), .int (.ofNat 3)]], .tuple [.tuple [.int (.ofNat 0), .int (.ofNat 1)], .tuple [.int (.ofNat 2), .int (.ofNat 3)], .tuple [.int (.ofNat 1), .int (.ofNat 3)]]])⟩,
    ⟨22, [.tuple [.int (.ofNat 2), .int (.ofNat 1), .int (.ofNat 1)], .tuple [.int (.ofNat 2), .int (.ofNat 1), .int (.ofNat 0), .int (.ofNat 3)]], .d (.tuple [.tuple [.tuple [.int (.negSucc 0), .int (.ofNat 2)], .tuple [.int (.negSucc 2), .int (.ofNat 2)], .tuple [.int (.ofNat 0), .int (.ofNat 1)]], .tuple [.tuple [.int (.negSucc 0), .int (.ofNat 2)], .tuple [.int (.ofNat 1), .int (.ofNat 2)], .tuple [.int (.ofNat 0), .int (.ofNat 1)]], .tuple [.tuple [.int (.ofNat 0), .int (.ofNat 1)], .tuple [.int (.ofNat 0), .int (.ofNat 1)], .tuple [.int (.negSucc 0), .int (.ofNat 1)]]])⟩,
    ⟨22, [.tuple [.int (.ofNat 2), .int (.ofNat 1), .int (.ofNat 1)], .tuple [.int (.ofNat 2), .int (.ofNat 1), .int (.ofNat 3), .int (.ofNat 0)]], .d (.tuple [.tuple [.tuple [.int (.ofNat 1), .int (.ofNat 2)], .tuple [.int (.ofNat 1), .int (.ofNat 2)], .tuple [.int (.negSucc 1), .int (.ofNat 1)]], .tuple [.tuple [.int (.ofNat 1), .int (.ofNat 2)], .tuple [.int (.negSucc 0), .int (.ofNat 6)], .tuple [.int (.ofNat 2), .int (.ofNat 3)]], .tuple [.tuple [.int (.ofNat 0), .int (.ofNat 1)], .tuple [.int (.negSucc 1), .int (.ofNat 3)], .tuple [.int (.negSucc 0), .int (.ofNat 3)]]])⟩,
    ⟨22, [.tuple [.int (.ofNat 2), .int (.ofNat 1), .int (.ofNat 1)], .tuple [.int (.ofNat 2), .int (.ofNat 3), .int (.ofNat 0), .int (.ofNat 1)]], .d (.tuple [.tuple [.tuple [.int (.ofNat 0), .int (.ofNat 1)], .tuple [.int (.ofNat 1), .int (.ofNat 1)], .tuple [.int (.ofNat 2), .int (.ofNat 1)]], .tuple [.tuple [.int (.ofNat 1), .int (.ofNat 3)], .tuple [.int (.negSucc 1), .int (.ofNat 3)], .tuple [.int (.ofNat 2), .int (.ofNat 3)]], .tuple [.tuple [.int (.ofNat 1), .int (.ofNat 3)], .tuple [.int (.ofNat 1), .int (.ofNat 3)], .tuple [.int (.negSucc 0), .int (.ofNat 3)]]])⟩,
    ⟨22, [.tuple [.int (.ofNat 2), .int (.ofNat 1), .int (.ofNat 1)], .tuple [.int (.ofNat 2), .int (.ofNat 3), .int (.ofNat 1), .int (.ofNat 0)]], .d (.tuple [.tuple [.tuple [.int (.ofNat 0), .int (.ofNat 1)], .tuple [.int (.ofNat 1), .int (.ofNat 1)], .tuple [.int (.ofNat 2), .int (.ofNat 1)]], .tuple [.tuple [.int (.negSucc 0), .int (.ofNat 3)], .tuple [.int (.ofNat 2), .int (.ofNat 3)], .tuple [.int (.negSucc 1), .int (.ofNat 3)]], .tuple [.tuple [.int (.negSucc 0), .int (.ofNat 3)], .tuple [.int (.negSucc 0), .int (.ofNat 3)], .tuple [.int (.ofNat 1), .int (.ofNat 3)]]])⟩,
    ⟨22, [.tuple [.int (.ofNat 2), .int (.ofNat 1), .int (.ofNat 1)], .tuple [.int (.ofNat 3), .int (.ofNat 0), .int (.ofNat 1), .int (.ofNat 2)]], .d (.tuple [.tuple [.tuple [.int (.ofNat 1), .int (.ofNat 2)], .tuple [.int (.ofNat 3), .int (.ofNat 2)], .tuple [.int (.ofNat 0), .int (.ofNat 1)]], .tuple [.tuple [.int (.negSucc 0), .int (.ofNat 6)], .tuple [.int (.ofNat 1), .int (.ofNat 6)], .tuple [.int (.ofNat 4), .int (.ofNat 3)]], .tuple [.tuple [.int (.ofNat 1), .int (.ofNat 3)], .tuple [.int (.negSucc 0), .int (.ofNat 3)], .tuple [.int (.ofNat 1), .int (.ofNat 3)]]])⟩,
    ⟨22, [.tuple [.int (.ofNat 2), .int (.ofNat 1), .int (.ofNat 1)], .tuple [.int (.ofNat 3), .int (.ofNat 0), .int (.ofNat 2), .int (.ofNat 1)]], .d (.tuple [.tuple [.tuple [.int (.negSucc 0), .int (.ofNat 2)], .tuple [.int (.negSucc 0), .int (.ofNat 2)], .tuple [.int (.ofNat 2), .int (.ofNat 1)]], .tuple [.tuple [.int (.ofNat 1), .int (.ofNat 6)], .tuple [.int (.ofNat 5), .int (.ofNat 6)], .tuple [.int (.ofNat 2), .int (.ofNat 3)]], .tuple [.tuple [.int (.negSucc 0), .int (.ofNat 3)], .tuple [.int (.ofNat 1), .int (.ofNat 3)], .tuple [.int (.negSucc 0), .int (.ofNat 3)]]])⟩,
    ⟨22, [.tuple [.int (.ofNat 2), .int (.ofNat 1), .int (.ofNat 1)], .tuple [.int (.ofNat 3), .int (.ofNat 1), .int (.ofNat 0), .int (.ofNat 2)]], .d (.tuple [.tuple [.tuple [.int (.ofNat 1), .int (.ofNat 2)], .tuple [.int (.ofNat 3), .int (.ofNat 2)], .tuple [.int (.ofNat 0), .int (.ofNat 1)]], .tuple [.tuple [.int (.ofNat 1), .int (.ofNat 6)], .tuple [.int (.negSucc 0), .int (.ofNat 6)], .tuple [.int (.negSucc 3), .int (.ofNat 3)]], .tuple [.tuple [.int (.negSucc 0), .int (.ofNat 3)], .tuple [.int (.ofNat 1), .int (.ofNat 3)], .tuple [.int (.negSucc 0), .int (.ofNat 3)]]])⟩,
    ⟨22, [.tuple [.int (.ofNat 2), .int (.ofNat 1), .int (.ofNat 1)], .tuple [.int (.ofNat 3), .int (.ofNat 1), .int (.ofNat 2), .int (.ofNat 0)]], .d (.tuple [.tuple [.tuple [.int (.negSucc 0), .int (.ofNat 2)], .tuple [.int (.negSucc 0), .int (.ofNat 2)], .tuple [.int (.ofNat 2), .int (.ofNat 1)]], .tuple [.tuple [.int (.negSucc 0), .int (.ofNat 6)], .tuple [.int (.negSucc 4), .int (.ofNat 6)], .tuple [.int (.negSucc 1), .int (.ofNat 3)]], .tuple [.tuple [.int (.ofNat 1), .int (.ofNat 3)], .tuple [.int (.negSucc 0), .int (.ofNat 3)], .tuple [.int (.ofNat 1), .int (.ofNat 3)]]])⟩,
    ⟨22, [.tuple [.int (.ofNat 2), .int (.ofNat 1), .int (.ofNat 1)], .tuple [.int (.ofNat 3), .int (.ofNat 2), .int (.ofNat 0), .int (.ofNat 1)]], .d (.tuple [.tuple [.tuple [.int (.ofNat 0), .int (.ofNat 1)], .tuple [.int (.negSucc 0), .int (.ofNat 1)], .tuple [.int (.negSucc 1), .int (.ofNat 1)]], .tuple [.tuple [.int (.ofNat 1), .int (.ofNat 3)], .tuple [.int (.ofNat 2), .int (.ofNat 3)], .tuple [.int (.negSucc 1), .int (.ofNat 3)]], .tuple [.tuple [.int (.ofNat 1), .int (.ofNat 3)], .tuple [.int (.negSucc 0), .int (.ofNat 3)], .tuple [.int (.ofNat 1), .int (.ofNat 3)]]])⟩,
    ⟨22, [.tuple [.int (.ofNat 2), .int (.ofNat 1), .int (.ofNat 1)], .tuple [.int (.ofNat 3), .int (.ofNat 2), .int (.ofNat 1), .int (.ofNat 0)]], .d (.tuple [.tuple [.tuple [.int (.ofNat 0), .int (.ofNat 1)], .tuple [.int (.negSucc 0), .int (.ofNat 1)], .tuple [.int (.negSucc 1), .int (.ofNat 1)]], .tuple [.tuple [.int (.negSucc 0), .int (.ofNat 3)], .tuple [.int (.negSucc 1), .int (.ofNat 3)], .tuple [.int (.ofNat 2), .int (.ofNat 3)]], .tuple [.tuple [.int (.negSucc 0), .int (.ofNat 3)], .tuple [.int (.ofNat 1), .int (.ofNat 3)], .tuple [.int (.negSucc 0), .int (.ofNat 3)]]])⟩,
    ⟨22, [.tuple [.int (.ofNat 1), .int (.ofNat 1), .int (.ofNat 1), .int (.ofNat 1)], .tuple [.int (.ofNat 0), .int (.ofNat 1), .int (.ofNat 2), .int (.ofNat 3)]], .d (.tuple [.tuple [.tuple [.int (.ofNat 1), .int (.ofNat 1)]]])⟩]
theorem tp_9_ok : ∀ e ∈ tp_9, EnOk (Lw.P.call 19) e := by
  have h := chks_ok (c := up Lw.P (memo t18 (up Lw.P (memo t17 (Lw.P.call 17))))) (tab := tp_9) (by decide +kernel)
  rw [memo_eq t17_ok, ← call_up, memo_eq t18_ok] at h
  exact h
def tp_10 : List En := [
  ⟨22, [.tuple [.int (.ofNat 1), .int (.ofNat 1), .int (.ofNat 1), .int (.ofNat 1)], .tuple [.int (.ofNat 0), .int (.ofNat 1), .int (.ofNat 3), .int (.ofNat 2)]], .d (.tuple [.tuple [.tuple [.int (.negSucc 0), .int (.ofNat 1)]]])⟩,
    ⟨22, [.tuple [.int (.ofNat 1), .int (.ofNat 1), .int (.ofNat 1), .int (.ofNat 1)], .tuple [.int (.ofNat 0), .int (.ofNat 2), .int (.ofNat 1), .int (.ofNat 3)]], .d (.tuple [.tuple [.tuple [.int (.negSucc 0), .int (.ofNat 1)]]])⟩,
    ⟨22, [.tuple [.int (.ofNat 1), .int (.ofNat 1), .int (.ofNat 1), .int (.ofNat 1)], .tuple [.int (.ofNat 0), .int (.ofNat 2), .int (.ofNat 3), .int (.ofNat 1)]], .d (.tuple [.tuple [.tuple [.int (.ofNat 1), .int (.ofNat 1)]]])⟩,
    ⟨22, [.tuple [.int (.ofNat 1), .int (.ofNat 1), .int (.ofNat 1), .int (.ofNat 1)], .tuple [.int (.ofNat 0), .int (.ofNat 3), .int (.ofNat 1), .int (.ofNat 2)]], .d (.tuple [.tuple [.tuple [.int (.ofNat 1), .int (.ofNat 1)]]])⟩,
    ⟨22, [.tuple [.int (.ofNat 1), .int (.ofNat 1), .int (.ofNat 1), .int (.ofNat 1)], .tuple [.int (.ofNat 0), .int (.ofNat 3), .int (.ofNat 2), .int (.ofNat 1)]], .d (.tuple [.tuple [.tuple [.int (.negSucc 0), .int (.ofNat 1)]]])⟩,
    ⟨22, [.tuple [.int (.ofNat 1), .int (.ofNat 1), .int (.ofNat 1), .int (.ofNat 1)], .tuple [.int (.ofNat 1), .int (.ofNat 0), .int (.ofNat 2), .int (.ofNat 3)]], .d (.tuple [.tuple [.tuple [.int (.negSucc 0), .int (.ofNat 1)]]])⟩,
    ⟨22, [.tuple [.int (.ofNat 1), .int (.ofNat 1), .int (.ofNat 1), .int (.ofNat 1)], .tuple [.int (.ofNat 1), .int (.ofNat 0), .int (.ofNat 3), .int (.ofNat 2)]], .d (.tuple [.tuple [.tuple [.int (.ofNat 1), .int (.ofNat 1)]]])⟩,
    ⟨22, [.tuple [.int (.ofNat 1), .int (.ofNat 1), .int (.ofNat 1), .int (.ofNat 1)], .tuple [.int (.ofNat 1), .int (.ofNat 2), .int (.ofNat 0), .int (.ofNat 3)]], .d (.tuple [.tuple [.tuple [.int (.ofNat 1), .int (.ofNat 1)]]])⟩,
    ⟨22, [.tuple [.int (.ofNat 1), .int (.ofNat 1), .int (.ofNat 1), .int (.ofNat 1)], .tuple [.int (.ofNat 1), .int (.ofNat 2), .int (.ofNat 3), .int (.ofNat 0)]], .d (.tuple [.tuple [.tuple [.int (.negSucc 0), .int (.ofNat 1)]]])⟩,
    ⟨22, [.tuple [.int (.ofNat 1), .int (.ofNat 1), .int (.ofNat 1), .int (.ofNat 1)], .tuple [.int (.ofNat 1), .int (.ofNat 3), .int (.ofNat 0), .int (.ofNat 2)]], .d (.tuple [.tuple [.tuple [.int (.negSucc 0), .int (.ofNat 1)]]])⟩,
    ⟨22, [.tuple [.int (.ofNat 1), .int (.ofNat 1), .int (.ofNat 1), .int (.ofNat 1)], .tuple [.int (.ofNat 1), .int (.ofNat 3), .int (.ofNat 2), .int (.ofNat 0)]], .d (.tuple [.tuple [.tuple [.int (.ofNat 1), .int (.ofNat 1)]]])⟩,
    ⟨22, [.tuple [.int (.ofNat 1), .int (.ofNat 1), .int (.ofNat 1), .int (.ofNat 1)], .tuple [.int (.ofNat 2), .int (.ofNat 0), .int (.ofNat 1), .int (.ofNat 3)]], .d (.tuple [.tuple [.tuple [.int (.ofNat 1), .int (.ofNat 1)]]])⟩]
theorem tp_10_ok : ∀ e ∈ tp_10, EnOk (Lw.P.call 19) e := by
  have h := chks_ok (c := up Lw.P (memo t18 (up Lw.P (memo t17 (Lw.P.call 17))))) (tab := tp_10) (by decide +kernel)
  rw [memo_eq t17_ok, ← call_up, memo_eq t18_ok] at h
  exact h
def tp_11 : List En := [
  ⟨22, [.tuple [.int (.ofNat 1), .int (.ofNat 1), .int (.ofNat 1), .int (.ofNat 1)], .tuple [.int (.ofNat 2), .int (.ofNat 0), .int (.ofNat 3), .int (.ofNat 1)]], .d (.tuple [.tuple [.tuple [.int (.negSucc 0), .int (.ofNat 1)]]])⟩,
    ⟨22, [.tuple [.int (.ofNat 1), .int (.ofNat 1), .int (.ofNat 1), .int (.ofNat 1)], .tuple [.int (.ofNat 2), .int (.ofNat 1), .int (.ofNat 0), .int (.ofNat 3)]], .d (.tuple [.tuple [.tuple [.int (.negSucc 0), .int (.ofNat 1)]]])⟩,
    ⟨22, [.tuple [.int (.ofNat 1), .int (.ofNat 1), .int (.ofNat 1), .int (.ofNat 1)], .tuple [.int (.ofNat 2), .int (.ofNat 1), .int (.ofNat 3), .int (.ofNat 0)]], .d (.tuple [.tuple [.tuple [.int (.ofNat 1), .int (.ofNat 1)]]])⟩,
    ⟨22, [.tuple [.int (.ofNat 1), .int (.ofNat 1), .int (.ofNat 1), .int (.ofNat 1)], .tuple [.int (.ofNat 2), .int (.ofNat 3), .int (.ofNat 0), .int (.ofNat 1)]], .d (.tuple [.tuple [.tuple [.int (.ofNat 1), .int (.ofNat 1)]]])⟩,
    ⟨22, [.tuple [.int (.ofNat 1), .int (.ofNat 1), .int (.ofNat 1), .int (.ofNat 1)], .tuple [.int (.ofNat 2), .int (.ofNat 3), .int (.ofNat 1), .int (.ofNat 0)]], .d (.tuple [.tuple [.tuple [.int (.negSucc 0), .int (.ofNat 1)]]])⟩,
    ⟨22, [.tuple [.int (.ofNat 1), .int (.ofNat 1), .int (.ofNat 1), .int (.ofNat 1)], .tuple [.int (.ofNat 3), .int (.ofNat 0), .int (.ofNat 1), .int (.ofNat 2)]], .d (.tuple [.tuple [.tuple [.int (.negSucc 0), .int (.ofNat 1)]]])⟩,
    ⟨22, [.tuple [.int (.ofNat 1), .int (.ofNat 1), .int (.ofNat 1), .int (.ofNat 1)], .tuple [.int (.ofNat 3), .int (.ofNat 0), .int (.ofNat 2), .int (.ofNat 1)]], .d (.tuple [.tuple [.tuple [.int (.ofNat 1), .int (.ofNat 1)]]])⟩,
    ⟨22, [.tuple [.int (.ofNat 1), .int (.ofNat 1), .int (.ofNat 1), .int (.ofNat 1)], .tuple [.int (.ofNat 3), .int (.ofNat 1), .int (.ofNat 0), .int (.ofNat 2)]], .d (.tuple [.tuple [.tuple [.int (.ofNat 1), .int (.ofNat 1)]]])⟩,
    ⟨22, [.tuple [.int (.ofNat 1), .int (.ofNat 1), .int (.ofNat 1), .int (.ofNat 1)], .tuple [.int (.ofNat 3), .int (.ofNat 1), .int (.ofNat 2), .int (.ofNat 0)]], .d (.tuple [.tuple [.tuple [.int (.negSucc 0), .int (.ofNat 1)]]])⟩,
    ⟨22, [.tuple [.int (.ofNat 1), .int (.ofNat 1), .int (.ofNat 1), .int (.ofNat 1)], .tuple [.int (.ofNat 3), .int (.ofNat 2), .int (.ofNat 0), .int (.ofNat 1)]], .d (.tuple [.tuple [.tuple [.int (.negSucc 0), .int (.ofNat 1)]]])⟩,
    ⟨22, [.tuple [.int (.ofNat 1), .int (.ofNat 1), .int (.ofNat 1), .int (.ofNat 1)], .tuple [.int (.ofNat 3), .int (.ofNat 2), .int (.ofNat 1), .int (.ofNat 0)]], .d (.tuple [.tuple [.tuple [.int (.ofNat 1), .int (.ofNat 1)]]])⟩]
theorem tp_11_ok : ∀ e ∈ tp_11, EnOk (Lw.P.call 19) e := by
  have h := chks_ok (c := up Lw.P (memo t18 (up Lw.P (memo t17 (Lw.P.call 17))))) (tab := tp_11) (by decide +kernel)
  rw [memo_eq t17_ok, ← call_up, memo_eq t18_ok] at h
  exact h
def tp : List En := tp_0 ++ (tp_1 ++ (tp_2 ++ (tp_3 ++ (tp_4 ++ (tp_5 ++ (tp_6 ++ (tp_7 ++ (tp_8 ++ (tp_9 ++ (tp_10 ++ (tp_11)))))))))))
theorem tp_ok : ∀ e ∈ tp, EnOk (Lw.P.call 19) e := all_app tp_0_ok (all_app tp_1_ok (all_app tp_2_ok (all_app tp_3_ok (all_app tp_4_ok (all_app tp_5_ok (all_app tp_6_ok (all_app tp_7_ok (all_app tp_8_ok (all_app tp_9_ok (all_app tp_10_ok (tp_11_ok)))))))))))
def ti_0 : List En := [
  ⟨28, [.tuple [.tuple [.tuple [.int (.negSucc 0), .int (.ofNat 3)], .tuple [.int (.ofNat 4), .int (.ofNat 3)], .tuple [.int (.ofNat 0), .int (.ofNat 1)]], .tuple [.tuple [.int (.ofNat 2), .int (.ofNat 3)], .tuple [.int (.ofNat 1), .int (.ofNat 3)], .tuple [.int (.ofNat 0), .int (.ofNat 1)]], .tuple [.tuple [.int (.ofNat 0), .int (.ofNat 1)], .tuple [.int (.ofNat 0), .int (.ofNat 1)], .tuple [.int (.ofNat 1), .int (.ofNat 1)]]], .tuple [.tuple [.tuple [.int (.negSucc 0), .int (.ofNat 3)], .tuple [.int (.ofNat 4), .int (.ofNat 3)], .tuple [.int (.ofNat 0), .int (.ofNat 1)]], .tuple [.tuple [.int (.ofNat 2), .int (.ofNat 3)], .tuple [.int (.ofNat 1), .int (.ofNat 3)], .tuple [.int (.ofNat 0), .int (.ofNat 1)]], .tuple [.tuple [.int (.ofNat 0), .int (.ofNat 1)], .tuple [.int (.ofNat 0), .int (.ofNat 1)], .tuple [.int (.ofNat 1), .int (.ofNat 1)]]]], .d (.bool true)⟩,
    ⟨28, [.tuple [.tuple [.tuple [.int (.ofNat 1), .int (.ofNat 1)], .tuple [.int (.ofNat 0), .int (.ofNat 1)], .tuple [.int (.ofNat 0), .int (.ofNat 1)]], .tuple [.tuple [.int (.ofNat 0), .int (.ofNat 1)], .tuple [.int (.negSucc 0), .int (.ofNat 2)], .tuple [.int (.ofNat 3), .int (.ofNat 2)]], .tuple [.tuple [.int (.ofNat 0), .int (.ofNat 1)], .tuple [.int (.ofNat 1), .int (.ofNat 2)], .tuple [.int (.ofNat 1), .int (.ofNat 2)]]], .tuple [.tuple [.tuple [.int (.ofNat 1), .int (.ofNat 1)], .tuple [.int (.ofNat 0), .int (.ofNat 1)], .tuple [.int (.ofNat 0), .int (.ofNat 1)]], .tuple [.tuple [.int (.ofNat 0), .int (.ofNat 1)], .tuple [.int (.negSucc 0), .int (.ofNat 2)], .tuple [.int (.ofNat 3), .int (.ofNat 2)]], .tuple [.tuple [.int (.ofNat 0), .int (.ofNat 1)], .tuple [.int (.ofNat 1), .int (.ofNat 2)], .tuple [.int (.ofNat 1), .int (.ofNat 2)]]]], .d (.bool true)⟩,
    ⟨28, [.tuple [.tuple [.tuple [.int (.negSucc 0), .int (.ofNat 3)], .tuple [.int (.ofNat 4), .int (.ofNat 3)], .tuple [.int (.ofNat 0), .int (.ofNat 1)]], .tuple [.tuple [.int (.negSucc 0), .int (.ofNat 3)], .tuple [.int (.negSucc 0), .int (.ofNat 6)], .tuple [.int (.ofNat 3), .int (.ofNat 2)]], .tuple [.tuple [.int (.ofNat 1), .int (.ofNat 3)], .tuple [.int (.ofNat 1), .int (.ofNat 6)], .tuple [.int (.ofNat 1), .int (.ofNat 2)]]], .tuple [.tuple [.tuple [.int (.negSucc 0), .int (.ofNat 3)], .tuple [.int (.ofNat 4), .int (.ofNat 3)], .tuple [.int (.ofNat 0), .int (.ofNat 1)]], .tuple [.tuple [.int (.negSucc 0), .int (.ofNat 3)], .tuple [.int (.negSucc 0), .int (.ofNat 6)], .tuple [.int (.ofNat 3), .int (.ofNat 2)]], .tuple [.tuple [.int (.ofNat 1), .int (.ofNat 3)], .tuple [.int (.ofNat 1), .int (.ofNat 6)], .tuple [.int (.ofNat 1), .int (.ofNat 2)]]]], .d (.bool true)⟩,
    ⟨28, [.tuple [.tuple [.tuple [.int (.negSucc 0), .int (.ofNat 3)], .tuple [.int (.negSucc 1), .int (.ofNat 3)], .tuple [.int (.ofNat 2), .int (.ofNat 1)]], .tuple [.tuple [.int (.ofNat 2), .int (.ofNat 3)], .tuple [.int (.negSucc 0), .int (.ofNat 6)], .tuple [.int (.ofNat 1), .int (.ofNat 2)]], .tuple [.tuple [.int (.ofNat 0), .int (.ofNat 1)], .tuple [.int (.ofNat 1), .int (.ofNat 2)], .tuple [.int (.ofNat 1), .int (.ofNat 2)]]], .tuple [.tuple [.tuple [.int (.negSucc 0), .int (.ofNat 3)], .tuple [.int (.negSucc 1), .int (.ofNat 3)], .tuple [.int (.ofNat 2), .int (.ofNat 1)]], .tuple [.tuple [.int (.ofNat 2), .int (.ofNat 3)], .tuple [.int (.negSucc 0), .int (.ofNat 6)], .tuple [.int (.ofNat 1), .int (.ofNat 2)]], .tuple [.tuple [.int (.ofNat 0), .int (.ofNat 1)], .tuple [.int (.ofNat 1), .int (.ofNat 2)], .tuple [.int (.ofNat 1), .int (.ofNat 2)]]]], .d (.bool true)⟩,
    ⟨28, [.tuple [.tuple [.tuple [.int (.negSucc 0), .int (.ofNat 3)], .tuple [.int (.negSucc 1), .int (.ofNat 3)], .tuple [.int (.ofNat 2), .int (.ofNat 1)]], .tuple [.tuple [.int (.negSucc 0), .int (.ofNat 3)], .tuple [.int (.ofNat 5), .int (.ofNat 6)], .tuple [.int (.ofNat 1), .int (.ofNat 2)]], .tuple [.tuple [.int (.ofNat 1), .int (.ofNat 3)], .tuple [.int (.ofNat 1), .int (.ofNat 6)], .tuple [.int (.ofNat 1), .int (.ofNat 2)]]], .tuple [.tuple [.tuple [.int (.negSucc 0), .int (.ofNat 3)], .tuple [.int (.negSucc 1), .int (.ofNat 3)], .tuple [.int (.ofNat 2), .int (.ofNat 1)]], .tuple [.tuple [.int (.negSucc 0), .int (.ofNat 3)], .tuple [.int (.ofNat 5), .int (.ofNat 6)], .tuple [.int (.ofNat 1), .int (.ofNat 2)]], .tuple [.tuple [.int (.ofNat 1), .int (.ofNat 3)], .tuple [.int (.ofNat 1), .int (.ofNat 6)], .tuple [.int (.ofNat 1), .int (.ofNat 2)]]]], .d (.bool true)⟩,
    ⟨28, [.tuple [.tuple [.tuple [.int (.ofNat 1), .int (.ofNat 1)], .tuple [.int (.ofNat 0), .int (.ofNat 1)], .tuple [.int (.ofNat 0), .int (.ofNat 1)]], .tuple [.tuple [.int (.ofNat 0), .int (.ofNat 1)], .tuple [.int (.ofNat 1), .int (.ofNat 1)], .tuple [.int (.ofNat 0), .int (.ofNat 1)]], .tuple [.tuple [.int (.ofNat 0), .int (.ofNat 1)], .tuple [.int (.ofNat 0), .int (.ofNat 1)], .tuple [.int (.negSucc 0), .int (.ofNat 1)]]], .tuple [.tuple [.tuple [.int (.ofNat 1), .int (.ofNat 1)], .tuple [.int (.ofNat 0), .int (.ofNat 1)], .tuple [.int (.ofNat 0), .int (.ofNat 1)]], .tuple [.tuple [.int (.ofNat 0), .int (.ofNat 1)], .tuple [.int (.ofNat 1), .int (.ofNat 1)], .tuple [.int (.ofNat 0), .int (.ofNat 1)]], .tuple [.tuple [.int (.ofNat 0), .int (.ofNat 1)], .tuple [.int (.ofNat 0), .int (.ofNat 1)], .tuple [.int (.negSucc 0), .int (.ofNat 1)]]]], .d (.bool true)⟩,
    ⟨28, [.tuple [.tuple [.tuple [.int (.negSucc 0), .int (.ofNat 3)], .tuple [.int (.ofNat 4), .int (.ofNat 3)], .tuple [.int (.ofNat 0), .int (.ofNat 1)]], .tuple [.tuple [.int (.ofNat 2), .int (.ofNat 3)], .tuple [.int (.ofNat 1), .int (.ofNat 3)], .tuple [.int (.ofNat 0), .int (.ofNat 1)]], .tuple [.tuple [.int (.ofNat 0), .int (.ofNat 1)], .tuple [.int (.ofNat 0), .int (.ofNat 1)], .tuple [.int (.negSucc 0), .int (.ofNat 1)]]], .tuple [.tuple [.tuple [.int (.negSucc 0), .int (.ofNat 3)], .tuple [.int (.ofNat 4), .int (.ofNat 3)], .tuple [.int (.ofNat 0), .int (.ofNat 1)]], .tuple [.tuple [.int (.ofNat 2), .int (.ofNat 3)], .tuple [.int (.ofNat 1), .int (.ofNat 3)], .tuple [.int (.ofNat 0), .int (.ofNat 1)]], .tuple [.tuple [.int (.ofNat 0), .int (.ofNat 1)], .tuple [.int (.ofNat 0), .int (.ofNat 1)], .tuple [.int (.negSucc 0), .int (.ofNat 1)]]]], .d (.bool true)⟩,
    ⟨28, [.tuple [.tuple [.tuple [.int (.ofNat 1), .int (.ofNat 1)], .tuple [.int (.ofNat 0), .int (.ofNat 1)], .tuple [.int (.ofNat 0), .int (.ofNat 1)]], .tuple [.tuple [.int (.ofNat 0), .int (.ofNat 1)], .tuple [.int (.negSucc 0), .int (.ofNat 2)], .tuple [.int (.ofNat 3), .int (.ofNat 2)]], .tuple [.tuple [.int (.ofNat 0), .int (.ofNat 1)], .tuple [.int (.negSucc 0), .int (.ofNat 2)], .tuple [.int (.negSucc 0), .int (.ofNat 2)]]], .tuple [.tuple [.tuple [.int (.ofNat 1), .int (.ofNat 1)], .tuple [.int (.ofNat 0), .int (.ofNat 1)], .tuple [.int (.ofNat 0), .int (.ofNat 1)]], .tuple [.tuple [.int (.ofNat 0), .int (.ofNat 1)], .tuple [.int (.negSucc 0), .int (.ofNat 2)], .tuple [.int (.ofNat 3), .int (.ofNat 2)]], .tuple [.tuple [.int (.ofNat 0), .int (.ofNat 1)], .tuple [.int (.negSucc 0), .int (.ofNat 2)], .tuple [.int (.negSucc 0), .int (.ofNat 2)]]]], .d (.bool true)⟩,
    ⟨28, [.tuple [.tuple [.tuple [.int (.negSucc 0), .int (.ofNat 3)], .tuple [.int (.ofNat 4), .int (.ofNat 3)], .tuple [.int (.ofNat 0), .int (.ofNat 1)]], .tuple [.tuple [.int (.negSucc 0), .int (.ofNat 3)], .tuple [.int (.negSucc 0), .int (.ofNat 6)], .tuple [.int (.ofNat 3), .int (.ofNat 2)]], .tuple [.tuple [.int (.negSucc 0), .int (.ofNat 3)], .tuple [.int (.negSucc 0), .int (.ofNat 6)], .tuple [.int (.negSucc 0), .int (.ofNat 2)]]], .tuple [.tuple [.tuple [.int (.negSucc 0), .int (.ofNat 3)], .tuple [.int (.ofNat 4), .int (.ofNat 3)], .tuple [.int (.ofNat 0), .int (.ofNat 1)]], .tuple [.tuple [.int (.negSucc 0), .int (.ofNat 3)], .tuple [.int (.negSucc 0), .int (.ofNat 6)], .tuple [.int (.ofNat 3), .int (.ofNat 2)]], .tuple [.tuple [.int (.negSucc 0), .int (.ofNat 3)], .tuple [.int (.negSucc 0), .int (.ofNat 6)], .tuple [.int (.negSucc 0), .int (.ofNat 2)]]]], .d (.bool true)⟩,
    ⟨28, [.tuple [.tuple [.tuple [.int (.negSucc 0), .int (.ofNat 3)], .tuple [.int (.negSucc 1), .int (.ofNat 3)], .tuple [.int (.ofNat 2), .int (.ofNat 1)]], .tuple [.tuple [.int (.ofNat 2), .int (.ofNat 3)], .tuple [.int (.negSucc 0), .int (.ofNat 6)], .tuple [.int (.ofNat 1), .int (.ofNat 2)]], .tuple [.tuple [.int (.ofNat 0), .int (.ofNat 1)], .tuple [.int (.negSucc 0), .int (.ofNat 2)], .tuple [.int (.negSucc 0), .int (.ofNat 2)]]], .tuple [.tuple [.tuple [.int (.negSucc 0), .int (.ofNat 3)], .tuple [.int (.negSucc 1), .int (.ofNat 3)], .tuple [.int (.ofNat 2), .int (.ofNat 1)]], .tuple [.tuple [.int (.ofNat 2), .int (.ofNat 3)], .tuple [.int (.negSucc 0), .int (.ofNat 6)], .tuple [.int (.ofNat 1), .int (.ofNat 2)]], .tuple [.tuple [.int (.ofNat 0), .int (.ofNat 1)], .tuple [.int (.negSucc 0), .int (.ofNat 2)], .tuple [.int (.negSucc 0), .int (.ofNat 2)]]]], .d (.bool true)⟩,
    ⟨28, [.tuple [.tuple [.tuple [.int (.negSucc 0), .int (.ofNat 3)], .tuple [.int (.negSucc 1), .int (.ofNat 3)], .tuple [.int (.ofNat 2), .int (.ofNat 1)]], .tuple [.tuple [.int (.negSucc 0), .int (.ofNat 3)], .tuple [.int (.ofNat 5), .int (.ofNat 6)], .tuple [.int (.ofNat 1), .int (.ofNat 2)]], .tuple [.tuple [.int (.negSucc 0), .int (.ofNat 3)], .tuple [.int (.negSucc 0), .int (.ofNat 6)], .tuple [.int (.negSucc 0), .int (.ofNat 2)]]], .tuple [.tuple [.tuple [.int (.negSucc 0), .int (.ofNat 3)], .tuple [.int (.negSucc 1), .int (.ofNat 3)], .tuple [.int (.ofNat 2), .int (.ofNat 1)]], .tuple [.tuple [.int (.negSucc 0), .int (.ofNat 3)], .tuple [.int (.ofNat 5), .int (.ofNat 6)], .tuple [.int (.ofNat 1), .int (.ofNat 2)]], .tuple [.tuple [.int (.negSucc 0), .int (.ofNat 3)], .tuple [.int (.negSucc 0), .int (.ofNat 6)], .tuple [.int (.negSucc 0), .int (.ofNat 2)]]]], .d (.bool true)⟩,
    ⟨28, [.tuple [.tuple [.tuple [.int (.ofNat 1), .int (.ofNat 1)], .tuple [.int (.ofNat 0), .int (.ofNat 1)], .tuple [.int (.ofNat 0), .int (.ofNat 1)]], .tuple [.tuple [.int (.ofNat 0), .int (.ofNat 1)], .tuple [.int (.negSucc 0), .int (.ofNat 2)], .tuple [.int (.negSucc 2), .int (.ofNat 2)]], .tuple [.tuple [.int (.ofNat 0), .int (.ofNat 1)], .tuple [.int (.ofNat 1), .int (.ofNat 2)], .tuple [.int (.negSucc 0), .int (.ofNat 2)]]], .tuple [.tuple [.tuple [.int (.ofNat 1), .int (.ofNat 1)], .tuple [.int (.ofNat 0), .int (.ofNat 1)], .tuple [.int (.ofNat 0), .int (.ofNat 1)]], .tuple [.tuple [.int (.ofNat 0), .int (.ofNat 1)], .tuple [.int (.negSucc 0), .int (.ofNat 2)], .tuple [.int (.negSucc 2), .int (.ofNat 2)]], .tuple [.tuple [.int (.ofNat 0), .int (.ofNat 1)], .tuple [.int (.ofNat 1), .int (.ofNat 2)], .tuple [.int (.negSucc 0), .int (.ofNat 2)]]]], .d (.bool true)⟩]
theorem ti_0_ok : ∀ e ∈ ti_0, EnOk (Lw.P.call 19) e := by
  have h := chks_ok (c := Lw.P.call 19) (tab := ti_0) (by decide +kernel)
  exact h
def ti_1 : List En := [
  ⟨28, [.tuple [.tuple [.tuple [.int (.negSucc 0), .int (.ofNat 3)], .tuple [.int (.ofNat 4), .int (.ofNat 3)], .tuple [.int (.ofNat 0), .int (.ofNat 1)]], .tuple [.tuple [.int (.negSucc 0), .int (.ofNat 3)], .tuple [.int (.negSucc 0), .int (.ofNat 6)], .tuple [.int (.negSucc 2), .int (.ofNat 2)]], .tuple [.tuple [.int (.ofNat 1), .int (.ofNat 3)], .tuple [.int (.ofNat 1), .int (.ofNat 6)], .tuple [.int (.negSucc 0), .int (.ofNat 2)]]], .tuple [.tuple [.tuple [.int (.negSucc 0), .int (.ofNat 3)], .tuple [.int (.ofNat 4), .int (.ofNat 3)], .tuple [.int (.ofNat 0), .int (.ofNat 1)]], .tuple [.tuple [.int (.negSucc 0), .int (.ofNat 3)], .tuple [.int (.negSucc 0), .int (.ofNat 6)], .tuple [.int (.negSucc 2), .int (.ofNat 2)]], .tuple [.tuple [.int (.ofNat 1), .int (.ofNat 3)], .tuple [.int (.ofNat 1), .int (.ofNat 6)], .tuple [.int (.negSucc 0), .int (.ofNat 2)]]]], .d (.bool true)⟩,
    ⟨28, [.tuple [.tuple [.tuple [.int (.ofNat 1), .int (.ofNat 1)], .tuple [.int (.ofNat 0), .int (.ofNat 1)], .tuple [.int (.ofNat 0), .int (.ofNat 1)]], .tuple [.tuple [.int (.ofNat 0), .int (.ofNat 1)], .tuple [.int (.negSucc 0), .int (.ofNat 2)], .tuple [.int (.negSucc 2), .int (.ofNat 2)]], .tuple [.tuple [.int (.ofNat 0), .int (.ofNat 1)], .tuple [.int (.negSucc 0), .int (.ofNat 2)], .tuple [.int (.ofNat 1), .int (.ofNat 2)]]], .tuple [.tuple [.tuple [.int (.ofNat 1), .int (.ofNat 1)], .tuple [.int (.ofNat 0), .int (.ofNat 1)], .tuple [.int (.ofNat 0), .int (.ofNat 1)]], .tuple [.tuple [.int (.ofNat 0), .int (.ofNat 1)], .tuple [.int (.negSucc 0), .int (.ofNat 2)], .tuple [.int (.negSucc 2), .int (.ofNat 2)]], .tuple [.tuple [.int (.ofNat 0), .int (.ofNat 1)], .tuple [.int (.negSucc 0), .int (.ofNat 2)], .tuple [.int (.ofNat 1), .int (.ofNat 2)]]]], .d (.bool true)⟩,
    ⟨28, [.tuple [.tuple [.tuple [.int (.negSucc 0), .int (.ofNat 3)], .tuple [.int (.ofNat 4), .int (.ofNat 3)], .tuple [.int (.ofNat 0), .int (.ofNat 1)]], .tuple [.tuple [.int (.negSucc 0), .int (.ofNat 3)], .tuple [.int (.negSucc 0), .int (.ofNat 6)], .tuple [.int (.negSucc 2), .int (.ofNat 2)]], .tuple [.tuple [.int (.negSucc 0), .int (.ofNat 3)], .tuple [.int (.negSucc 0), .int (.ofNat 6)], .tuple [.int (.ofNat 1), .int (.ofNat 2)]]], .tuple [.tuple [.tuple [.int (.negSucc 0), .int (.ofNat 3)], .tuple [.int (.ofNat 4), .int (.ofNat 3)], .tuple [.int (.ofNat 0), .int (.ofNat 1)]], .tuple [.tuple [.int (.negSucc 0), .int (.ofNat 3)], .tuple [.int (.negSucc 0), .int (.ofNat 6)], .tuple [.int (.negSucc 2), .int (.ofNat 2)]], .tuple [.tuple [.int (.negSucc 0), .int (.ofNat 3)], .tuple [.int (.negSucc 0), .int (.ofNat 6)], .tuple [.int (.ofNat 1), .int (.ofNat 2)]]]], .d (.bool true)⟩,
    ⟨28, [.tuple [.tuple [.tuple [.int (.negSucc 0), .int (.ofNat 3)], .tuple [.int (.negSucc 1), .int (.ofNat 3)], .tuple [.int (.ofNat 2), .int (.ofNat 1)]], .tuple [.tuple [.int (.negSucc 0), .int (.ofNat 3)], .tuple [.int (.negSucc 1), .int (.ofNat 3)], .tuple [.int (.negSucc 0), .int (.ofNat 1)]], .tuple [.tuple [.int (.ofNat 1), .int (.ofNat 3)], .tuple [.int (.negSucc 0), .int (.ofNat 3)], .tuple [.int (.ofNat 0), .int (.ofNat 1)]]], .tuple [.tuple [.tuple [.int (.negSucc 0), .int (.ofNat 3)], .tuple [.int (.negSucc 1), .int (.ofNat 3)], .tuple [.int (.ofNat 2), .int (.ofNat 1)]], .tuple [.tuple [.int (.negSucc 0), .int (.ofNat 3)], .tuple [.int (.negSucc 1), .int (.ofNat 3)], .tuple [.int (.negSucc 0), .int (.ofNat 1)]], .tuple [.tuple [.int (.ofNat 1), .int (.ofNat 3)], .tuple [.int (.negSucc 0), .int (.ofNat 3)], .tuple [.int (.ofNat 0), .int (.ofNat 1)]]]], .d (.bool true)⟩,
    ⟨28, [.tuple [.tuple [.tuple [.int (.negSucc 0), .int (.ofNat 3)], .tuple [.int (.negSucc 1), .int (.ofNat 3)], .tuple [.int (.ofNat 2), .int (.ofNat 1)]], .tuple [.tuple [.int (.negSucc 0), .int (.ofNat 3)], .tuple [.int (.negSucc 1), .int (.ofNat 3)], .tuple [.int (.negSucc 0), .int (.ofNat 1)]], .tuple [.tuple [.int (.negSucc 0), .int (.ofNat 3)], .tuple [.int (.ofNat 1), .int (.ofNat 3)], .tuple [.int (.ofNat 0), .int (.ofNat 1)]]], .tuple [.tuple [.tuple [.int (.negSucc 0), .int (.ofNat 3)], .tuple [.int (.negSucc 1), .int (.ofNat 3)], .tuple [.int (.ofNat 2), .int (.ofNat 1)]], .tuple [.tuple [.int (.negSucc 0), .int (.ofNat 3)], .tuple [.int (.negSucc 1), .int (.ofNat 3)], .tuple [.int (.negSucc 0), .int (.ofNat 1)]], .tuple [.tuple [.int (.negSucc 0), .int (.ofNat 3)], .tuple [.int (.ofNat 1), .int (.ofNat 3)], .tuple [.int (.ofNat 0), .int (.ofNat 1)]]]], .d (.bool true)⟩,
    ⟨28, [.tuple [.tuple [.tuple [.int (.negSucc 0), .int (.ofNat 3)], .tuple [.int (.negSucc 1), .int (.ofNat 3)], .tuple [.int (.negSucc 1), .int (.ofNat 1)]], .tuple [.tuple [.int (.ofNat 2), .int (.ofNat 3)], .tuple [.int (.negSucc 0), .int (.ofNat 6)], .tuple [.int (.negSucc 0), .int (.ofNat 2)]], .tuple [.tuple [.int (.ofNat 0), .int (.ofNat 1)], .tuple [.int (.ofNat 1), .int (.ofNat 2)], .tuple [.int (.negSucc 0), .int (.ofNat 2)]]], .tuple [.tuple [.tuple [.int (.negSucc 0), .int (.ofNat 3)], .tuple [.int (.negSucc 1), .int (.ofNat 3)], .tuple [.int (.negSucc 1), .int (.ofNat 1)]], .tuple [.tuple [.int (.ofNat 2), .int (.ofNat 3)], .tuple [.int (.negSucc 0), .int (.ofNat 6)], .tuple [.int (.negSucc 0), .int (.ofNat 2)]], .tuple [.tuple [.int (.ofNat 0), .int (.ofNat 1)], .tuple [.int (.ofNat 1), .int (.ofNat 2)], .tuple [.int (.negSucc 0), .int (.ofNat 2)]]]], .d (.bool true)⟩,
    ⟨28, [.tuple [.tuple [.tuple [.int (.negSucc 0), .int (.ofNat 3)], .tuple [.int (.negSucc 1), .int (.ofNat 3)], .tuple [.int (.negSucc 1), .int (.ofNat 1)]], .tuple [.tuple [.int (.negSucc 0), .int (.ofNat 3)], .tuple [.int (.ofNat 5), .int (.ofNat 6)], .tuple [.int (.negSucc 0), .int (.ofNat 2)]], .tuple [.tuple [.int (.ofNat 1), .int (.ofNat 3)], .tuple [.int (.ofNat 1), .int (.ofNat 6)], .tuple [.int (.negSucc 0), .int (.ofNat 2)]]], .tuple [.tuple [.tuple [.int (.negSucc 0), .int (.ofNat 3)], .tuple [.int (.negSucc 1), .int (.ofNat 3)], .tuple [.int (.negSucc 1), .int (.ofNat 1)]], .tuple [.tuple [.int (.negSucc 0), .int (.ofNat 3)], .tuple [.int (.ofNat 5), .int (.ofNat 6)], .tuple [.int (.negSucc 0), .int (.ofNat 2)]], .tuple [.tuple [.int (.ofNat 1), .int (.ofNat 3)], .tuple [.int (.ofNat 1), .int (.ofNat 6)], .tuple [.int (.negSucc 0), .int (.ofNat 2)]]]], .d (.bool true)⟩,
    ⟨28, [.tuple [.tuple [.tuple [.int (.negSucc 0), .int (.ofNat 3)], .tuple [.int (.negSucc 1), .int (.ofNat 3)], .tuple [.int (.negSucc 1), .int (.ofNat 1)]], .tuple [.tuple [.int (.ofNat 2), .int (.ofNat 3)], .tuple [.int (.negSucc 0), .int (.ofNat 6)], .tuple [.int (.negSucc 0), .int (.ofNat 2)]], .tuple [.tuple [.int (.ofNat 0), .int (.ofNat 1)], .tuple [.int (.negSucc 0), .int (.ofNat 2)], .tuple [.int (.ofNat 1), .int (.ofNat 2)]]], .tuple [.tuple [.tuple [.int (.negSucc 0), .int (.ofNat 3)], .tuple [.int (.negSucc 1), .int (.ofNat 3)], .tuple [.int (.negSucc 1), .int (.ofNat 1)]], .tuple [.tuple [.int (.ofNat 2), .int (.ofNat 3)], .tuple [.int (.negSucc 0), .int (.ofNat 6)], .tuple [.int (.negSucc 0), .int (.ofNat 2)]], .tuple [.tuple [.int (.ofNat 0), .int (.ofNat 1)], .tuple [.int (.negSucc 0), .int (.ofNat 2)], .tuple [.int (.ofNat 1), .int (.ofNat 2)]]]], .d (.bool true)⟩,
    ⟨28, [.tuple [.tuple [.tuple [.int (.negSucc 0), .int (.ofNat 3)], .tuple [.int (.negSucc 1), .int (.ofNat 3)], .tuple [.int (.negSucc 1), .int (.ofNat 1)]], .tuple [.tuple [.int (.negSucc 0), .int (.ofNat 3)], .tuple [.int (.ofNat 5), .int (.ofNat 6)], .tuple [.int (.negSucc 0), .int (.ofNat 2)]], .tuple [.tuple [.int (.negSucc 0), .int (.ofNat 3)], .tuple [.int (.negSucc 0), .int (.ofNat 6)], .tuple [.int (.ofNat 1), .int (.ofNat 2)]]], .tuple [.tuple [.tuple [.int (.negSucc 0), .int (.ofNat 3)], .tuple [.int (.negSucc 1), .int (.ofNat 3)], .tuple [.int (.negSucc 1), .int (.ofNat 1)]], .tuple [.tuple [.int (.negSucc 0), .int (.ofNat 3)], .tuple [.int (.ofNat 5), .int (.ofNat 6)], .tuple [.int (.negSucc 0), .int (.ofNat 2)]], .tuple [.tuple [.int (.negSucc 0), .int (.ofNat 3)], .tuple [.int (.negSucc 0), .int (.ofNat 6)], .tuple [.int (.ofNat 1), .int (.ofNat 2)]]]], .d (.bool true)⟩,
    ⟨28, [.tuple [.tuple [.tuple [.int (.negSucc 0), .int (.ofNat 3)], .tuple [.int (.negSucc 1), .int (.ofNat 3)], .tuple [.int (.negSucc 1), .int (.ofNat 1)]], .tuple [.tuple [.int (.negSucc 0), .int (.ofNat 3)], .tuple [.int (.negSucc 1), .int (.ofNat 3)], .tuple [.int (.ofNat 1), .int (.ofNat 1)]], .tuple [.tuple [.int (.ofNat 1), .int (.ofNat 3)], .tuple [.int (.negSucc 0), .int (.ofNat 3)], .tuple [.int (.ofNat 0), .int (.ofNat 1)]]], .tuple [.tuple [.tuple [.int (.negSucc 0), .int (.ofNat 3)], .tuple [.int (.negSucc 1), .int (.ofNat 3)], .tuple [.int (.negSucc 1), .int (.ofNat 1)]], .tuple [.tuple [.int (.negSucc 0), .int (.ofNat 3)], .tuple [.int (.negSucc 1), .int (.ofNat 3)], .tuple [.int (.ofNat 1), .int (.ofNat 1)]], .tuple [.tuple [.int (.ofNat 1), .int (.ofNat 3)], .tuple [.int (.negSucc 0), .int (.ofNat 3)], .tuple [.int (.ofNat 0), .int (.ofNat 1)]]]], .d (.bool true)⟩,
    ⟨28, [.tuple [.tuple [.tuple [.int (.negSucc 0), .int (.ofNat 3)], .tuple [.int (.negSucc 1), .int (.ofNat 3)], .tuple [.int (.negSucc 1), .int (.ofNat 1)]], .tuple [.tuple [.int (.negSucc 0), .int (.ofNat 3)], .tuple [.int (.negSucc 1), .int (.ofNat 3)], .tuple [.int (.ofNat 1), .int (.ofNat 1)]], .tuple [.tuple [.int (.negSucc 0), .int (.ofNat 3)], .tuple [.int (.ofNat 1), .int (.ofNat 3)], .tuple [.int (.ofNat 0), .int (.ofNat 1)]]], .tuple [.tuple [.tuple [.int (.negSucc 0), .int (.ofNat 3)], .tuple [.int (.negSucc 1), .int (.ofNat 3)], .tuple [.int (.negSucc 1), .int (.ofNat 1)]], .tuple [.tuple [.int (.negSucc 0), .int (.ofNat 3)], .tuple [.int (.negSucc 1), .int (.ofNat 3)], .tuple [.int (.ofNat 1), .int (.ofNat 1)]], .tuple [.tuple [.int (.negSucc 0), .int (.ofNat 3)], .tuple [.int (.ofNat 1), .int (.ofNat 3)], .tuple [.int (.ofNat 0), .int (.ofNat 1)]]]], .d (.bool true)⟩,
    ⟨28, [.tuple [.tuple [.tuple [.int (.negSucc 0), .int (.ofNat 2)], .tuple [.int (.negSucc 2), .int (.ofNat 2)]], .tuple [.tuple [.int (.negSucc 0), .int (.ofNat 2)], .tuple [.int (.ofNat 1), .int (.ofNat 2)]]], .tuple [.tuple [.tuple [.int (.negSucc 0), .int (.ofNat 2)], .tuple [.int (.negSucc 2), .int (.ofNat 2)]], .tuple [.tuple [.int (.negSucc 0), .int (.ofNat 2)], .tuple [.int (.ofNat 1), .int (.ofNat 2)]]]], .d (.bool true)⟩]
theorem ti_1_ok : ∀ e ∈ ti_1, EnOk (Lw.P.call 19) e := by
  have h := chks_ok (c := Lw.P.call 19) (tab := ti_1) (by decide +kernel)
  exact h
def ti_2 : List En := [
  ⟨28, [.tuple [.tuple [.tuple [.int (.negSucc 0), .int (.ofNat 2)], .tuple [.int (.ofNat 3), .int (.ofNat 2)]], .tuple [.tuple [.int (.negSucc 0), .int (.ofNat 2)], .tuple [.int (.negSucc 0), .int (.ofNat 2)]]], .tuple [.tuple [.tuple [.int (.negSucc 0), .int (.ofNat 2)], .tuple [.int (.ofNat 3), .int (.ofNat 2)]], .tuple [.tuple [.int (.negSucc 0), .int (.ofNat 2)], .tuple [.int (.negSucc 0), .int (.ofNat 2)]]]], .d (.bool true)⟩,
    ⟨28, [.tuple [.tuple [.tuple [.int (.negSucc 0), .int (.ofNat 2)], .tuple [.int (.negSucc 2), .int (.ofNat 2)]], .tuple [.tuple [.int (.ofNat 1), .int (.ofNat 2)], .tuple [.int (.negSucc 0), .int (.ofNat 2)]]], .tuple [.tuple [.tuple [.int (.negSucc 0), .int (.ofNat 2)], .tuple [.int (.negSucc 2), .int (.ofNat 2)]], .tuple [.tuple [.int (.ofNat 1), .int (.ofNat 2)], .tuple [.int (.negSucc 0), .int (.ofNat 2)]]]], .d (.bool true)⟩,
    ⟨28, [.tuple [.tuple [.tuple [.int (.negSucc 0), .int (.ofNat 2)], .tuple [.int (.ofNat 3), .int (.ofNat 2)]], .tuple [.tuple [.int (.ofNat 1), .int (.ofNat 2)], .tuple [.int (.ofNat 1), .int (.ofNat 2)]]], .tuple [.tuple [.tuple [.int (.negSucc 0), .int (.ofNat 2)], .tuple [.int (.ofNat 3), .int (.ofNat 2)]], .tuple [.tuple [.int (.ofNat 1), .int (.ofNat 2)], .tuple [.int (.ofNat 1), .int (.ofNat 2)]]]], .d (.bool true)⟩,
    ⟨28, [.tuple [.tuple [.tuple [.int (.ofNat 1), .int (.ofNat 1)], .tuple [.int (.ofNat 0), .int (.ofNat 1)]], .tuple [.tuple [.int (.ofNat 0), .int (.ofNat 1)], .tuple [.int (.negSucc 0), .int (.ofNat 1)]]], .tuple [.tuple [.tuple [.int (.ofNat 1), .int (.ofNat 1)], .tuple [.int (.ofNat 0), .int (.ofNat 1)]], .tuple [.tuple [.int (.ofNat 0), .int (.ofNat 1)], .tuple [.int (.negSucc 0), .int (.ofNat 1)]]]], .d (.bool true)⟩,
    ⟨28, [.tuple [.tuple [.tuple [.int (.ofNat 1), .int (.ofNat 1)], .tuple [.int (.ofNat 0), .int (.ofNat 1)]], .tuple [.tuple [.int (.ofNat 0), .int (.ofNat 1)], .tuple [.int (.ofNat 1), .int (.ofNat 1)]]], .tuple [.tuple [.tuple [.int (.ofNat 1), .int (.ofNat 1)], .tuple [.int (.ofNat 0), .int (.ofNat 1)]], .tuple [.tuple [.int (.ofNat 0), .int (.ofNat 1)], .tuple [.int (.ofNat 1), .int (.ofNat 1)]]]], .d (.bool true)⟩,
    ⟨28, [.tuple [.tuple [.tuple [.int (.ofNat 1), .int (.ofNat 1)], .tuple [.int (.ofNat 0), .int (.ofNat 1)], .tuple [.int (.ofNat 0), .int (.ofNat 1)]], .tuple [.tuple [.int (.ofNat 0), .int (.ofNat 1)], .tuple [.int (.ofNat 1), .int (.ofNat 1)], .tuple [.int (.ofNat 0), .int (.ofNat 1)]], .tuple [.tuple [.int (.ofNat 0), .int (.ofNat 1)], .tuple [.int (.ofNat 0), .int (.ofNat 1)], .tuple [.int (.ofNat 1), .int (.ofNat 1)]]], .tuple [.tuple [.tuple [.int (.ofNat 1), .int (.ofNat 1)], .tuple [.int (.ofNat 0), .int (.ofNat 1)], .tuple [.int (.ofNat 0), .int (.ofNat 1)]], .tuple [.tuple [.int (.ofNat 0), .int (.ofNat 1)], .tuple [.int (.ofNat 1), .int (.ofNat 1)], .tuple [.int (.ofNat 0), .int (.ofNat 1)]], .tuple [.tuple [.int (.ofNat 0), .int (.ofNat 1)], .tuple [.int (.ofNat 0), .int (.ofNat 1)], .tuple [.int (.ofNat 1), .int (.ofNat 1)]]]], .d (.bool true)⟩,
    ⟨28, [.tuple [.tuple [.tuple [.int (.negSucc 0), .int (.ofNat 1)], .tuple [.int (.ofNat 0), .int (.ofNat 1)], .tuple [.int (.ofNat 0), .int (.ofNat 1)]], .tuple [.tuple [.int (.ofNat 0), .int (.ofNat 1)], .tuple [.int (.negSucc 0), .int (.ofNat 3)], .tuple [.int (.ofNat 4), .int (.ofNat 3)]], .tuple [.tuple [.int (.ofNat 0), .int (.ofNat 1)], .tuple [.int (.ofNat 2), .int (.ofNat 3)], .tuple [.int (.ofNat 1), .int (.ofNat 3)]]], .tuple [.tuple [.tuple [.int (.negSucc 0), .int (.ofNat 1)], .tuple [.int (.ofNat 0), .int (.ofNat 1)], .tuple [.int (.ofNat 0), .int (.ofNat 1)]], .tuple [.tuple [.int (.ofNat 0), .int (.ofNat 1)], .tuple [.int (.negSucc 0), .int (.ofNat 3)], .tuple [.int (.ofNat 4), .int (.ofNat 3)]], .tuple [.tuple [.int (.ofNat 0), .int (.ofNat 1)], .tuple [.int (.ofNat 2), .int (.ofNat 3)], .tuple [.int (.ofNat 1), .int (.ofNat 3)]]]], .d (.bool true)⟩,
    ⟨28, [.tuple [.tuple [.tuple [.int (.negSucc 0), .int (.ofNat 2)], .tuple [.int (.ofNat 3), .int (.ofNat 2)], .tuple [.int (.ofNat 0), .int (.ofNat 1)]], .tuple [.tuple [.int (.ofNat 1), .int (.ofNat 2)], .tuple [.int (.ofNat 1), .int (.ofNat 2)], .tuple [.int (.ofNat 0), .int (.ofNat 1)]], .tuple [.tuple [.int (.ofNat 0), .int (.ofNat 1)], .tuple [.int (.ofNat 0), .int (.ofNat 1)], .tuple [.int (.negSucc 0), .int (.ofNat 1)]]], .tuple [.tuple [.tuple [.int (.negSucc 0), .int (.ofNat 2)], .tuple [.int (.ofNat 3), .int (.ofNat 2)], .tuple [.int (.ofNat 0), .int (.ofNat 1)]], .tuple [.tuple [.int (.ofNat 1), .int (.ofNat 2)], .tuple [.int (.ofNat 1), .int (.ofNat 2)], .tuple [.int (.ofNat 0), .int (.ofNat 1)]], .tuple [.tuple [.int (.ofNat 0), .int (.ofNat 1)], .tuple [.int (.ofNat 0), .int (.ofNat 1)], .tuple [.int (.negSucc 0), .int (.ofNat 1)]]]], .d (.bool true)⟩,
    ⟨28, [.tuple [.tuple [.tuple [.int (.ofNat 1), .int (.ofNat 2)], .tuple [.int (.negSucc 0), .int (.ofNat 2)], .tuple [.int (.ofNat 2), .int (.ofNat 1)]], .tuple [.tuple [.int (.negSucc 0), .int (.ofNat 2)], .tuple [.int (.negSucc 0), .int (.ofNat 6)], .tuple [.int (.ofNat 2), .int (.ofNat 3)]], .tuple [.tuple [.int (.ofNat 0), .int (.ofNat 1)], .tuple [.int (.negSucc 1), .int (.ofNat 3)], .tuple [.int (.negSucc 0), .int (.ofNat 3)]]], .tuple [.tuple [.tuple [.int (.ofNat 1), .int (.ofNat 2)], .tuple [.int (.negSucc 0), .int (.ofNat 2)], .tuple [.int (.ofNat 2), .int (.ofNat 1)]], .tuple [.tuple [.int (.negSucc 0), .int (.ofNat 2)], .tuple [.int (.negSucc 0), .int (.ofNat 6)], .tuple [.int (.ofNat 2), .int (.ofNat 3)]], .tuple [.tuple [.int (.ofNat 0), .int (.ofNat 1)], .tuple [.int (.negSucc 1), .int (.ofNat 3)], .tuple [.int (.negSucc 0), .int (.ofNat 3)]]]], .d (.bool true)⟩,
    ⟨28, [.tuple [.tuple [.tuple [.int (.ofNat 1), .int (.ofNat 2)], .tuple [.int (.negSucc 2), .int (.ofNat 2)], .tuple [.int (.ofNat 0), .int (.ofNat 1)]], .tuple [.tuple [.int (.negSucc 0), .int (.ofNat 6)], .tuple [.int (.negSucc 0), .int (.ofNat 6)], .tuple [.int (.negSucc 3), .int (.ofNat 3)]], .tuple [.tuple [.int (.ofNat 1), .int (.ofNat 3)], .tuple [.int (.ofNat 1), .int (.ofNat 3)], .tuple [.int (.negSucc 0), .int (.ofNat 3)]]], .tuple [.tuple [.tuple [.int (.ofNat 1), .int (.ofNat 2)], .tuple [.int (.negSucc 2), .int (.ofNat 2)], .tuple [.int (.ofNat 0), .int (.ofNat 1)]], .tuple [.tuple [.int (.negSucc 0), .int (.ofNat 6)], .tuple [.int (.negSucc 0), .int (.ofNat 6)], .tuple [.int (.negSucc 3), .int (.ofNat 3)]], .tuple [.tuple [.int (.ofNat 1), .int (.ofNat 3)], .tuple [.int (.ofNat 1), .int (.ofNat 3)], .tuple [.int (.negSucc 0), .int (.ofNat 3)]]]], .d (.bool true)⟩,
    ⟨28, [.tuple [.tuple [.tuple [.int (.negSucc 0), .int (.ofNat 2)], .tuple [.int (.ofNat 1), .int (.ofNat 2)], .tuple [.int (.negSucc 1), .int (.ofNat 1)]], .tuple [.tuple [.int (.ofNat 1), .int (.ofNat 6)], .tuple [.int (.negSucc 4), .int (.ofNat 6)], .tuple [.int (.negSucc 1), .int (.ofNat 3)]], .tuple [.tuple [.int (.negSucc 0), .int (.ofNat 3)], .tuple [.int (.negSucc 0), .int (.ofNat 3)], .tuple [.int (.ofNat 1), .int (.ofNat 3)]]], .tuple [.tuple [.tuple [.int (.negSucc 0), .int (.ofNat 2)], .tuple [.int (.ofNat 1), .int (.ofNat 2)], .tuple [.int (.negSucc 1), .int (.ofNat 1)]], .tuple [.tuple [.int (.ofNat 1), .int (.ofNat 6)], .tuple [.int (.negSucc 4), .int (.ofNat 6)], .tuple [.int (.negSucc 1), .int (.ofNat 3)]], .tuple [.tuple [.int (.negSucc 0), .int (.ofNat 3)], .tuple [.int (.negSucc 0), .int (.ofNat 3)], .tuple [.int (.ofNat 1), .int (.ofNat 3)]]]], .d (.bool true)⟩,
    ⟨28, [.tuple [.tuple [.tuple [.int (.ofNat 1), .int (.ofNat 1)], .tuple [.int (.ofNat 0), .int (.ofNat 1)], .tuple [.int (.ofNat 0), .int (.ofNat 1)]], .tuple [.tuple [.int (.ofNat 0), .int (.ofNat 1)], .tuple [.int (.negSucc 0), .int (.ofNat 1)], .tuple [.int (.ofNat 0), .int (.ofNat 1)]], .tuple [.tuple [.int (.ofNat 0), .int (.ofNat 1)], .tuple [.int (.ofNat 0), .int (.ofNat 1)], .tuple [.int (.negSucc 0), .int (.ofNat 1)]]], .tuple [.tuple [.tuple [.int (.ofNat 1), .int (.ofNat 1)], .tuple [.int (.ofNat 0), .int (.ofNat 1)], .tuple [.int (.ofNat 0), .int (.ofNat 1)]], .tuple [.tuple [.int (.ofNat 0), .int (.ofNat 1)], .tuple [.int (.negSucc 0), .int (.ofNat 1)], .tuple [.int (.ofNat 0), .int (.ofNat 1)]], .tuple [.tuple [.int (.ofNat 0), .int (.ofNat 1)], .tuple [.int (.ofNat 0), .int (.ofNat 1)], .tuple [.int (.negSucc 0), .int (.ofNat 1)]]]], .d (.bool true)⟩]
theorem ti_2_ok : ∀ e ∈ ti_2, EnOk (Lw.P.call 19) e := by
  have h := chks_ok (c := Lw.P.call 19) (tab := ti_2) (by decide +kernel)
  exact h
def ti_3 : List En := [
  ⟨28, [.tuple [.tuple [.tuple [.int (.negSucc 0), .int (.ofNat 1)], .tuple [.int (.ofNat 0), .int (.ofNat 1)], .tuple [.int (.ofNat 0), .int (.ofNat 1)]], .tuple [.tuple [.int (.ofNat 0), .int (.ofNat 1)], .tuple [.int (.ofNat 1), .int (.ofNat 3)], .tuple [.int (.negSucc 3), .int (.ofNat 3)]], .tuple [.tuple [.int (.ofNat 0), .int (.ofNat 1)], .tuple [.int (.negSucc 1), .int (.ofNat 3)], .tuple [.int (.negSucc 0), .int (.ofNat 3)]]], .tuple [.tuple [.tuple [.int (.negSucc 0), .int (.ofNat 1)], .tuple [.int (.ofNat 0), .int (.ofNat 1)], .tuple [.int (.ofNat 0), .int (.ofNat 1)]], .tuple [.tuple [.int (.ofNat 0), .int (.ofNat 1)], .tuple [.int (.ofNat 1), .int (.ofNat 3)], .tuple [.int (.negSucc 3), .int (.ofNat 3)]], .tuple [.tuple [.int (.ofNat 0), .int (.ofNat 1)], .tuple [.int (.negSucc 1), .int (.ofNat 3)], .tuple [.int (.negSucc 0), .int (.ofNat 3)]]]], .d (.bool true)⟩,
    ⟨28, [.tuple [.tuple [.tuple [.int (.negSucc 0), .int (.ofNat 2)], .tuple [.int (.ofNat 3), .int (.ofNat 2)], .tuple [.int (.ofNat 0), .int (.ofNat 1)]], .tuple [.tuple [.int (.negSucc 0), .int (.ofNat 2)], .tuple [.int (.negSucc 0), .int (.ofNat 2)], .tuple [.int (.ofNat 0), .int (.ofNat 1)]], .tuple [.tuple [.int (.ofNat 0), .int (.ofNat 1)], .tuple [.int (.ofNat 0), .int (.ofNat 1)], .tuple [.int (.ofNat 1), .int (.ofNat 1)]]], .tuple [.tuple [.tuple [.int (.negSucc 0), .int (.ofNat 2)], .tuple [.int (.ofNat 3), .int (.ofNat 2)], .tuple [.int (.ofNat 0), .int (.ofNat 1)]], .tuple [.tuple [.int (.negSucc 0), .int (.ofNat 2)], .tuple [.int (.negSucc 0), .int (.ofNat 2)], .tuple [.int (.ofNat 0), .int (.ofNat 1)]], .tuple [.tuple [.int (.ofNat 0), .int (.ofNat 1)], .tuple [.int (.ofNat 0), .int (.ofNat 1)], .tuple [.int (.ofNat 1), .int (.ofNat 1)]]]], .d (.bool true)⟩,
    ⟨28, [.tuple [.tuple [.tuple [.int (.ofNat 1), .int (.ofNat 2)], .tuple [.int (.negSucc 0), .int (.ofNat 2)], .tuple [.int (.ofNat 2), .int (.ofNat 1)]], .tuple [.tuple [.int (.ofNat 1), .int (.ofNat 2)], .tuple [.int (.ofNat 1), .int (.ofNat 6)], .tuple [.int (.negSucc 1), .int (.ofNat 3)]], .tuple [.tuple [.int (.ofNat 0), .int (.ofNat 1)], .tuple [.int (.ofNat 2), .int (.ofNat 3)], .tuple [.int (.ofNat 1), .int (.ofNat 3)]]], .tuple [.tuple [.tuple [.int (.ofNat 1), .int (.ofNat 2)], .tuple [.int (.negSucc 0), .int (.ofNat 2)], .tuple [.int (.ofNat 2), .int (.ofNat 1)]], .tuple [.tuple [.int (.ofNat 1), .int (.ofNat 2)], .tuple [.int (.ofNat 1), .int (.ofNat 6)], .tuple [.int (.negSucc 1), .int (.ofNat 3)]], .tuple [.tuple [.int (.ofNat 0), .int (.ofNat 1)], .tuple [.int (.ofNat 2), .int (.ofNat 3)], .tuple [.int (.ofNat 1), .int (.ofNat 3)]]]], .d (.bool true)⟩,
    ⟨28, [.tuple [.tuple [.tuple [.int (.ofNat 1), .int (.ofNat 2)], .tuple [.int (.negSucc 2), .int (.ofNat 2)], .tuple [.int (.ofNat 0), .int (.ofNat 1)]], .tuple [.tuple [.int (.ofNat 1), .int (.ofNat 6)], .tuple [.int (.ofNat 1), .int (.ofNat 6)], .tuple [.int (.ofNat 4), .int (.ofNat 3)]], .tuple [.tuple [.int (.negSucc 0), .int (.ofNat 3)], .tuple [.int (.negSucc 0), .int (.ofNat 3)], .tuple [.int (.ofNat 1), .int (.ofNat 3)]]], .tuple [.tuple [.tuple [.int (.ofNat 1), .int (.ofNat 2)], .tuple [.int (.negSucc 2), .int (.ofNat 2)], .tuple [.int (.ofNat 0), .int (.ofNat 1)]], .tuple [.tuple [.int (.ofNat 1), .int (.ofNat 6)], .tuple [.int (.ofNat 1), .int (.ofNat 6)], .tuple [.int (.ofNat 4), .int (.ofNat 3)]], .tuple [.tuple [.int (.negSucc 0), .int (.ofNat 3)], .tuple [.int (.negSucc 0), .int (.ofNat 3)], .tuple [.int (.ofNat 1), .int (.ofNat 3)]]]], .d (.bool true)⟩,
    ⟨28, [.tuple [.tuple [.tuple [.int (.negSucc 0), .int (.ofNat 2)], .tuple [.int (.ofNat 1), .int (.ofNat 2)], .tuple [.int (.negSucc 1), .int (.ofNat 1)]], .tuple [.tuple [.int (.negSucc 0), .int (.ofNat 6)], .tuple [.int (.ofNat 5), .int (.ofNat 6)], .tuple [.int (.ofNat 2), .int (.ofNat 3)]], .tuple [.tuple [.int (.ofNat 1), .int (.ofNat 3)], .tuple [.int (.ofNat 1), .int (.ofNat 3)], .tuple [.int (.negSucc 0), .int (.ofNat 3)]]], .tuple [.tuple [.tuple [.int (.negSucc 0), .int (.ofNat 2)], .tuple [.int (.ofNat 1), .int (.ofNat 2)], .tuple [.int (.negSucc 1), .int (.ofNat 1)]], .tuple [.tuple [.int (.negSucc 0), .int (.ofNat 6)], .tuple [.int (.ofNat 5), .int (.ofNat 6)], .tuple [.int (.ofNat 2), .int (.ofNat 3)]], .tuple [.tuple [.int (.ofNat 1), .int (.ofNat 3)], .tuple [.int (.ofNat 1), .int (.ofNat 3)], .tuple [.int (.negSucc 0), .int (.ofNat 3)]]]], .d (.bool true)⟩,
    ⟨28, [.tuple [.tuple [.tuple [.int (.negSucc 0), .int (.ofNat 2)], .tuple [.int (.negSucc 2), .int (.ofNat 2)], .tuple [.int (.ofNat 0), .int (.ofNat 1)]], .tuple [.tuple [.int (.ofNat 1), .int (.ofNat 2)], .tuple [.int (.negSucc 0), .int (.ofNat 2)], .tuple [.int (.ofNat 0), .int (.ofNat 1)]], .tuple [.tuple [.int (.ofNat 0), .int (.ofNat 1)], .tuple [.int (.ofNat 0), .int (.ofNat 1)], .tuple [.int (.ofNat 1), .int (.ofNat 1)]]], .tuple [.tuple [.tuple [.int (.negSucc 0), .int (.ofNat 2)], .tuple [.int (.negSucc 2), .int (.ofNat 2)], .tuple [.int (.ofNat 0), .int (.ofNat 1)]], .tuple [.tuple [.int (.ofNat 1), .int (.ofNat 2)], .tuple [.int (.negSucc 0), .int (.ofNat 2)], .tuple [.int (.ofNat 0), .int (.ofNat 1)]], .tuple [.tuple [.int (.ofNat 0), .int (.ofNat 1)], .tuple [.int (.ofNat 0), .int (.ofNat 1)], .tuple [.int (.ofNat 1), .int (.ofNat 1)]]]], .d (.bool true)⟩,
    ⟨28, [.tuple [.tuple [.tuple [.int (.ofNat 1), .int (.ofNat 2)], .tuple [.int (.ofNat 1), .int (.ofNat 2)], .tuple [.int (.negSucc 1), .int (.ofNat 1)]], .tuple [.tuple [.int (.negSucc 0), .int (.ofNat 2)], .tuple [.int (.ofNat 1), .int (.ofNat 6)], .tuple [.int (.negSucc 1), .int (.ofNat 3)]], .tuple [.tuple [.int (.ofNat 0), .int (.ofNat 1)], .tuple [.int (.ofNat 2), .int (.ofNat 3)], .tuple [.int (.ofNat 1), .int (.ofNat 3)]]], .tuple [.tuple [.tuple [.int (.ofNat 1), .int (.ofNat 2)], .tuple [.int (.ofNat 1), .int (.ofNat 2)], .tuple [.int (.negSucc 1), .int (.ofNat 1)]], .tuple [.tuple [.int (.negSucc 0), .int (.ofNat 2)], .tuple [.int (.ofNat 1), .int (.ofNat 6)], .tuple [.int (.negSucc 1), .int (.ofNat 3)]], .tuple [.tuple [.int (.ofNat 0), .int (.ofNat 1)], .tuple [.int (.ofNat 2), .int (.ofNat 3)], .tuple [.int (.ofNat 1), .int (.ofNat 3)]]]], .d (.bool true)⟩,
    ⟨28, [.tuple [.tuple [.tuple [.int (.negSucc 0), .int (.ofNat 2)], .tuple [.int (.negSucc 2), .int (.ofNat 2)], .tuple [.int (.ofNat 0), .int (.ofNat 1)]], .tuple [.tuple [.int (.negSucc 0), .int (.ofNat 2)], .tuple [.int (.ofNat 1), .int (.ofNat 2)], .tuple [.int (.ofNat 0), .int (.ofNat 1)]], .tuple [.tuple [.int (.ofNat 0), .int (.ofNat 1)], .tuple [.int (.ofNat 0), .int (.ofNat 1)], .tuple [.int (.negSucc 0), .int (.ofNat 1)]]], .tuple [.tuple [.tuple [.int (.negSucc 0), .int (.ofNat 2)], .tuple [.int (.negSucc 2), .int (.ofNat 2)], .tuple [.int (.ofNat 0), .int (.ofNat 1)]], .tuple [.tuple [.int (.negSucc 0), .int (.ofNat 2)], .tuple [.int (.ofNat 1), .int (.ofNat 2)], .tuple [.int (.ofNat 0), .int (.ofNat 1)]], .tuple [.tuple [.int (.ofNat 0), .int (.ofNat 1)], .tuple [.int (.ofNat 0), .int (.ofNat 1)], .tuple [.int (.negSucc 0), .int (.ofNat 1)]]]], .d (.bool true)⟩,
    ⟨28, [.tuple [.tuple [.tuple [.int (.ofNat 1), .int (.ofNat 2)], .tuple [.int (.ofNat 1), .int (.ofNat 2)], .tuple [.int (.negSucc 1), .int (.ofNat 1)]], .tuple [.tuple [.int (.ofNat 1), .int (.ofNat 2)], .tuple [.int (.negSucc 0), .int (.ofNat 6)], .tuple [.int (.ofNat 2), .int (.ofNat 3)]], .tuple [.tuple [.int (.ofNat 0), .int (.ofNat 1)], .tuple [.int (.negSucc 1), .int (.ofNat 3)], .tuple [.int (.negSucc 0), .int (.ofNat 3)]]], .tuple [.tuple [.tuple [.int (.ofNat 1), .int (.ofNat 2)], .tuple [.int (.ofNat 1), .int (.ofNat 2)], .tuple [.int (.negSucc 1), .int (.ofNat 1)]], .tuple [.tuple [.int (.ofNat 1), .int (.ofNat 2)], .tuple [.int (.negSucc 0), .int (.ofNat 6)], .tuple [.int (.ofNat 2), .int (.ofNat 3)]], .tuple [.tuple [.int (.ofNat 0), .int (.ofNat 1)], .tuple [.int (.negSucc 1), .int (.ofNat 3)], .tuple [.int (.negSucc 0), .int (.ofNat 3)]]]], .d (.bool true)⟩,
    ⟨28, [.tuple [.tuple [.tuple [.int (.ofNat 0), .int (.ofNat 1)], .tuple [.int (.ofNat 1), .int (.ofNat 1)], .tuple [.int (.ofNat 2), .int (.ofNat 1)]], .tuple [.tuple [.int (.ofNat 1), .int (.ofNat 3)], .tuple [.int (.negSucc 1), .int (.ofNat 3)], .tuple [.int (.ofNat 2), .int (.ofNat 3)]], .tuple [.tuple [.int (.ofNat 1), .int (.ofNat 3)], .tuple [.int (.ofNat 1), .int (.ofNat 3)], .tuple [.int (.negSucc 0), .int (.ofNat 3)]]], .tuple [.tuple [.tuple [.int (.ofNat 0), .int (.ofNat 1)], .tuple [.int (.ofNat 1), .int (.ofNat 1)], .tuple [.int (.ofNat 2), .int (.ofNat 1)]], .tuple [.tuple [.int (.ofNat 1), .int (.ofNat 3)], .tuple [.int (.negSucc 1), .int (.ofNat 3)], .tuple [.int (.ofNat 2), .int (.ofNat 3)]], .tuple [.tuple [.int (.ofNat 1), .int (.ofNat 3)], .tuple [.int (.ofNat 1), .int (.ofNat 3)], .tuple [.int (.negSucc 0), .int (.ofNat 3)]]]], .d (.bool true)⟩,
    ⟨28, [.tuple [.tuple [.tuple [.int (.ofNat 0), .int (.ofNat 1)], .tuple [.int (.ofNat 1), .int (.ofNat 1)], .tuple [.int (.ofNat 2), .int (.ofNat 1)]], .tuple [.tuple [.int (.negSucc 0), .int (.ofNat 3)], .tuple [.int (.ofNat 2), .int (.ofNat 3)], .tuple [.int (.negSucc 1), .int (.ofNat 3)]], .tuple [.tuple [.int (.negSucc 0), .int (.ofNat 3)], .tuple [.int (.negSucc 0), .int (.ofNat 3)], .tuple [.int (.ofNat 1), .int (.ofNat 3)]]], .tuple [.tuple [.tuple [.int (.ofNat 0), .int (.ofNat 1)], .tuple [.int (.ofNat 1), .int (.ofNat 1)], .tuple [.int (.ofNat 2), .int (.ofNat 1)]], .tuple [.tuple [.int (.negSucc 0), .int (.ofNat 3)], .tuple [.int (.ofNat 2), .int (.ofNat 3)], .tuple [.int (.negSucc 1), .int (.ofNat 3)]], .tuple [.tuple [.int (.negSucc 0), .int (.ofNat 3)], .tuple [.int (.negSucc 0), .int (.ofNat 3)], .tuple [.int (.ofNat 1), .int (.ofNat 3)]]]], .d (.bool true)⟩,
    ⟨28, [.tuple [.tuple [.tuple [.int (.ofNat 1), .int (.ofNat 2)], .tuple [.int (.ofNat 3), .int (.ofNat 2)], .tuple [.int (.ofNat 0), .int (.ofNat 1)]], .tuple [.tuple [.int (.negSucc 0), .int (.ofNat 6)], .tuple [.int (.ofNat 1), .int (.ofNat 6)], .tuple [.int (.ofNat 4), .int (.ofNat 3)]], .tuple [.tuple [.int (.ofNat 1), .int (.ofNat 3)], .tuple [.int (.negSucc 0), .int (.ofNat 3)], .tuple [.int (.ofNat 1), .int (.ofNat 3)]]], .tuple [.tuple [.tuple [.int (.ofNat 1), .int (.ofNat 2)], .tuple [.int (.ofNat 3), .int (.ofNat 2)], .tuple [.int (.ofNat 0), .int (.ofNat 1)]], .tuple [.tuple [.int (.negSucc 0), .int (.ofNat 6)], .tuple [.int (.ofNat 1), .int (.ofNat 6)], .tuple [.int (.ofNat 4), .int (.ofNat 3)]], .tuple [.tuple [.int (.ofNat 1), .int (.ofNat 3)], .tuple [.int (.negSucc 0), .int (.ofNat 3)], .tuple [.int (.ofNat 1), .int (.ofNat 3)]]]], .d (.bool true)⟩]
theorem ti_3_ok : ∀ e ∈ ti_3, EnOk (Lw.P.call 19) e := by
  have h := chks_ok (c := Lw.P.call 19) (tab := ti_3) (by decide +kernel)
  exact h
def ti_4 : List En := [
  ⟨28, [.tuple [.tuple [.tuple [.int (.negSucc 0), .int (.ofNat 2)], .tuple [.int (.negSucc 0), .int (.ofNat 2)], .tuple [.int (.ofNat 2), .int (.ofNat 1)]], .tuple [.tuple [.int (.ofNat 1), .int (.ofNat 6)], .tuple [.int (.ofNat 5), .int (.ofNat 6)], .tuple [.int (.ofNat 2), .int (.ofNat 3)]], .tuple [.tuple [.int (.negSucc 0), .int (.ofNat 3)], .tuple [.int (.ofNat 1), .int (.ofNat 3)], .tuple [.int (.negSucc 0), .int (.ofNat 3)]]], .tuple [.tuple [.tuple [.int (.negSucc 0), .int (.ofNat 2)], .tuple [.int (.negSucc 0), .int (.ofNat 2)], .tuple [.int (.ofNat 2), .int (.ofNat 1)]], .tuple [.tuple [.int (.ofNat 1), .int (.ofNat 6)], .tuple [.int (.ofNat 5), .int (.ofNat 6)], .tuple [.int (.ofNat 2), .int (.ofNat 3)]], .tuple [.tuple [.int (.negSucc 0), .int (.ofNat 3)], .tuple [.int (.ofNat 1), .int (.ofNat 3)], .tuple [.int (.negSucc 0), .int (.ofNat 3)]]]], .d (.bool true)⟩,
    ⟨28, [.tuple [.tuple [.tuple [.int (.ofNat 1), .int (.ofNat 2)], .tuple [.int (.ofNat 3), .int (.ofNat 2)], .tuple [.int (.ofNat 0), .int (.ofNat 1)]], .tuple [.tuple [.int (.ofNat 1), .int (.ofNat 6)], .tuple [.int (.negSucc 0), .int (.ofNat 6)], .tuple [.int (.negSucc 3), .int (.ofNat 3)]], .tuple [.tuple [.int (.negSucc 0), .int (.ofNat 3)], .tuple [.int (.ofNat 1), .int (.ofNat 3)], .tuple [.int (.negSucc 0), .int (.ofNat 3)]]], .tuple [.tuple [.tuple [.int (.ofNat 1), .int (.ofNat 2)], .tuple [.int (.ofNat 3), .int (.ofNat 2)], .tuple [.int (.ofNat 0), .int (.ofNat 1)]], .tuple [.tuple [.int (.ofNat 1), .int (.ofNat 6)], .tuple [.int (.negSucc 0), .int (.ofNat 6)], .tuple [.int (.negSucc 3), .int (.ofNat 3)]], .tuple [.tuple [.int (.negSucc 0), .int (.ofNat 3)], .tuple [.int (.ofNat 1), .int (.ofNat 3)], .tuple [.int (.negSucc 0), .int (.ofNat 3)]]]], .d (.bool true)⟩,
    ⟨28, [.tuple [.tuple [.tuple [.int (.negSucc 0), .int (.ofNat 2)], .tuple [.int (.negSucc 0), .int (.ofNat 2)], .tuple [.int (.ofNat 2), .int (.ofNat 1)]], .tuple [.tuple [.int (.negSucc 0), .int (.ofNat 6)], .tuple [.int (.negSucc 4), .int (.ofNat 6)], .tuple [.int (.negSucc 1), .int (.ofNat 3)]], .tuple [.tuple [.int (.ofNat 1), .int (.ofNat 3)], .tuple [.int (.negSucc 0), .int (.ofNat 3)], .tuple [.int (.ofNat 1), .int (.ofNat 3)]]], .tuple [.tuple [.tuple [.int (.negSucc 0), .int (.ofNat 2)], .tuple [.int (.negSucc 0), .int (.ofNat 2)], .tuple [.int (.ofNat 2), .int (.ofNat 1)]], .tuple [.tuple [.int (.negSucc 0), .int (.ofNat 6)], .tuple [.int (.negSucc 4), .int (.ofNat 6)], .tuple [.int (.negSucc 1), .int (.ofNat 3)]], .tuple [.tuple [.int (.ofNat 1), .int (.ofNat 3)], .tuple [.int (.negSucc 0), .int (.ofNat 3)], .tuple [.int (.ofNat 1), .int (.ofNat 3)]]]], .d (.bool true)⟩,
    ⟨28, [.tuple [.tuple [.tuple [.int (.ofNat 0), .int (.ofNat 1)], .tuple [.int (.negSucc 0), .int (.ofNat 1)], .tuple [.int (.negSucc 1), .int (.ofNat 1)]], .tuple [.tuple [.int (.ofNat 1), .int (.ofNat 3)], .tuple [.int (.ofNat 2), .int (.ofNat 3)], .tuple [.int (.negSucc 1), .int (.ofNat 3)]], .tuple [.tuple [.int (.ofNat 1), .int (.ofNat 3)], .tuple [.int (.negSucc 0), .int (.ofNat 3)], .tuple [.int (.ofNat 1), .int (.ofNat 3)]]], .tuple [.tuple [.tuple [.int (.ofNat 0), .int (.ofNat 1)], .tuple [.int (.negSucc 0), .int (.ofNat 1)], .tuple [.int (.negSucc 1), .int (.ofNat 1)]], .tuple [.tuple [.int (.ofNat 1), .int (.ofNat 3)], .tuple [.int (.ofNat 2), .int (.ofNat 3)], .tuple [.int (.negSucc 1), .int (.ofNat 3)]], .tuple [.tuple [.int (.ofNat 1), .int (.ofNat 3)], .tuple [.int (.negSucc 0), .int (.ofNat 3)], .tuple [.int (.ofNat 1), .int (.ofNat 3)]]]], .d (.bool true)⟩,
    ⟨28, [.tuple [.tuple [.tuple [.int (.ofNat 0), .int (.ofNat 1)], .tuple [.int (.negSucc 0), .int (.ofNat 1)], .tuple [.int (.negSucc 1), .int (.ofNat 1)]], .tuple [.tuple [.int (.negSucc 0), .int (.ofNat 3)], .tuple [.int (.negSucc 1), .int (.ofNat 3)], .tuple [.int (.ofNat 2), .int (.ofNat 3)]], .tuple [.tuple [.int (.negSucc 0), .int (.ofNat 3)], .tuple [.int (.ofNat 1), .int (.ofNat 3)], .tuple [.int (.negSucc 0), .int (.ofNat 3)]]], .tuple [.tuple [.tuple [.int (.ofNat 0), .int (.ofNat 1)], .tuple [.int (.negSucc 0), .int (.ofNat 1)], .tuple [.int (.negSucc 1), .int (.ofNat 1)]], .tuple [.tuple [.int (.negSucc 0), .int (.ofNat 3)], .tuple [.int (.negSucc 1), .int (.ofNat 3)], .tuple [.int (.ofNat 2), .int (.ofNat 3)]], .tuple [.tuple [.int (.negSucc 0), .int (.ofNat 3)], .tuple [.int (.ofNat 1), .int (.ofNat 3)], .tuple [.int (.negSucc 0), .int (.ofNat 3)]]]], .d (.bool true)⟩,
    ⟨28, [.tuple [.tuple [.tuple [.int (.negSucc 0), .int (.ofNat 1)]]], .tuple [.tuple [.tuple [.int (.negSucc 0), .int (.ofNat 1)]]]], .d (.bool true)⟩,
    ⟨28, [.tuple [.tuple [.tuple [.int (.ofNat 1), .int (.ofNat 1)]]], .tuple [.tuple [.tuple [.int (.ofNat 1), .int (.ofNat 1)]]]], .d (.bool true)⟩]
theorem ti_4_ok : ∀ e ∈ ti_4, EnOk (Lw.P.call 19) e := by
  have h := chks_ok (c := Lw.P.call 19) (tab := ti_4) (by decide +kernel)
  exact h
def ti : List En := ti_0 ++ (ti_1 ++ (ti_2 ++ (ti_3 ++ (ti_4))))
theorem ti_ok : ∀ e ∈ ti, EnOk (Lw.P.call 19) e := all_app ti_0_ok (all_app ti_1_ok (all_app ti_2_ok (all_app ti_3_ok (ti_4_ok))))
def tm_0 : List En := [
  ⟨13, [.tuple [.int (.ofNat 1)]], .d (.tuple [.tuple [.int (.ofNat 0)]])⟩,
    ⟨41, [.tuple [.int (.ofNat 1)]], .lst [.d (.tuple [.int (.ofNat 0)])]⟩,
    ⟨13, [.tuple [.int (.ofNat 2)]], .d (.tuple [.tuple [.int (.ofNat 0), .int (.ofNat 0)]])⟩,
    ⟨41, [.tuple [.int (.ofNat 2)]], .lst [.d (.tuple [.int (.ofNat 0), .int (.ofNat 0)])]⟩,
    ⟨13, [.tuple [.int (.ofNat 1), .int (.ofNat 1)]], .d (.tuple [.tuple [.int (.ofNat 0), .int (.ofNat 1)]])⟩,
    ⟨41, [.tuple [.int (.ofNat 1), .int (.ofNat 1)]], .lst [.d (.tuple [.int (.ofNat 0), .int (.ofNat 1)])]⟩,
    ⟨13, [.tuple [.int (.ofNat 3)]], .d (.tuple [.tuple [.int (.ofNat 0), .int (.ofNat 0), .int (.ofNat 0)]])⟩,
    ⟨41, [.tuple [.int (.ofNat 3)]], .lst [.d (.tuple [.int (.ofNat 0), .int (.ofNat 0), .int (.ofNat 0)])]⟩,
    ⟨13, [.tuple [.int (.ofNat 2), .int (.ofNat 1)]], .d (.tuple [.tuple [.int (.ofNat 0), .int (.ofNat 0), .int (.ofNat 1)], .tuple [.int (.ofNat 0), .int (.ofNat 1), .int (.ofNat 0)]])⟩,
    ⟨41, [.tuple [.int (.ofNat 2), .int (.ofNat 1)]], .lst [.d (.tuple [.int (.ofNat 0), .int (.ofNat 0), .int (.ofNat 1)]), .d (.tuple [.int (.ofNat 0), .int (.ofNat 1), .int (.ofNat 0)])]⟩,
    ⟨13, [.tuple [.int (.ofNat 1), .int (.ofNat 1), .int (.ofNat 1)]], .d (.tuple [.tuple [.int (.ofNat 0), .int (.ofNat 1), .int (.ofNat 2)]])⟩,
    ⟨41, [.tuple [.int (.ofNat 1), .int (.ofNat 1), .int (.ofNat 1)]], .lst [.d (.tuple [.int (.ofNat 0), .int (.ofNat 1), .int (.ofNat 2)])]⟩]
theorem tm_0_ok : ∀ e ∈ tm_0, EnOk (Lw.P.call 19) e := by
  have h := chks_ok (c := up Lw.P (memo t18 (Lw.P.call 18))) (tab := tm_0) (by decide +kernel)
  rw [memo_eq t18_ok] at h
  exact h
def tm_1 : List En := [
  ⟨13, [.tuple [.int (.ofNat 4)]], .d (.tuple [.tuple [.int (.ofNat 0), .int (.ofNat 0), .int (.ofNat 0), .int (.ofNat 0)]])⟩,
    ⟨41, [.tuple [.int (.ofNat 4)]], .lst [.d (.tuple [.int (.ofNat 0), .int (.ofNat 0), .int (.ofNat 0), .int (.ofNat 0)])]⟩,
    ⟨13, [.tuple [.int (.ofNat 3), .int (.ofNat 1)]], .d (.tuple [.tuple [.int (.ofNat 0), .int (.ofNat 0), .int (.ofNat 0), .int (.ofNat 1)], .tuple [.int (.ofNat 0), .int (.ofNat 0), .int (.ofNat 1), .int (.ofNat 0)], .tuple [.int (.ofNat 0), .int (.ofNat 1), .int (.ofNat 0), .int (.ofNat 0)]])⟩,
    ⟨41, [.tuple [.int (.ofNat 3), .int (.ofNat 1)]], .lst [.d (.tuple [.int (.ofNat 0), .int (.ofNat 0), .int (.ofNat 0), .int (.ofNat 1)]), .d (.tuple [.int (.ofNat 0), .int (.ofNat 0), .int (.ofNat 1), .int (.ofNat 0)]), .d (.tuple [.int (.ofNat 0), .int (.ofNat 1), .int (.ofNat 0), .int (.ofNat 0)])]⟩,
    ⟨13, [.tuple [.int (.ofNat 2), .int (.ofNat 2)]], .d (.tuple [.tuple [.int (.ofNat 0), .int (.ofNat 0), .int (.ofNat 1), .int (.ofNat 1)], .tuple [.int (.ofNat 0), .int (.ofNat 1), .int (.ofNat 0), .int (.ofNat 1)]])⟩,
    ⟨41, [.tuple [.int (.ofNat 2), .int (.ofNat 2)]], .lst [.d (.tuple [.int (.ofNat 0), .int (.ofNat 0), .int (.ofNat 1), .int (.ofNat 1)]), .d (.tuple [.int (.ofNat 0), .int (.ofNat 1), .int (.ofNat 0), .int (.ofNat 1)])]⟩,
    ⟨13, [.tuple [.int (.ofNat 2), .int (.ofNat 1), .int (.ofNat 1)]], .d (.tuple [.tuple [.int (.ofNat 0), .int (.ofNat 0), .int (.ofNat 1), .int (.ofNat 2)], .tuple [.int (.ofNat 0), .int (.ofNat 1), .int (.ofNat 0), .int (.ofNat 2)], .tuple [.int (.ofNat 0), .int (.ofNat 1), .int (.ofNat 2), .int (.ofNat 0)]])⟩,
    ⟨41, [.tuple [.int (.ofNat 2), .int (.ofNat 1), .int (.ofNat 1)]], .lst [.d (.tuple [.int (.ofNat 0), .int (.ofNat 0), .int (.ofNat 1), .int (.ofNat 2)]), .d (.tuple [.int (.ofNat 0), .int (.ofNat 1), .int (.ofNat 0), .int (.ofNat 2)]), .d (.tuple [.int (.ofNat 0), .int (.ofNat 1), .int (.ofNat 2), .int (.ofNat 0)])]⟩,
    ⟨13, [.tuple [.int (.ofNat 1), .int (.ofNat 1), .int (.ofNat 1), .int (.ofNat 1)]], .d (.tuple [.tuple [.int (.ofNat 0), .int (.ofNat 1), .int (.ofNat 2), .int (.ofNat 3)]])⟩,
    ⟨41, [.tuple [.int (.ofNat 1), .int (.ofNat 1), .int (.ofNat 1), .int (.ofNat 1)]], .lst [.d (.tuple [.int (.ofNat 0), .int (.ofNat 1), .int (.ofNat 2), .int (.ofNat 3)])]⟩,
    ⟨36, [.int (.ofNat 1)], .d (.int (.ofNat 1))⟩,
    ⟨37, [.int (.ofNat 1)], .lst [.d (.tuple [.int (.ofNat 1)])]⟩]
theorem tm_1_ok : ∀ e ∈ tm_1, EnOk (Lw.P.call 19) e := by
  have h := chks_ok (c := up Lw.P (memo t18 (Lw.P.call 18))) (tab := tm_1) (by decide +kernel)
  rw [memo_eq t18_ok] at h
  exact h
def tm_2 : List En := [
  ⟨34, [.int (.ofNat 1)], .lst [.d (.tuple [.int (.ofNat 0)])]⟩,
    ⟨10, [.int (.ofNat 1)], .d (.tuple [.tuple [.int (.ofNat 1)]])⟩,
    ⟨36, [.int (.ofNat 2)], .d (.int (.ofNat 2))⟩,
    ⟨37, [.int (.ofNat 2)], .lst [.d (.tuple [.int (.ofNat 2)]), .d (.tuple [.int (.ofNat 1), .int (.ofNat 1)])]⟩,
    ⟨34, [.int (.ofNat 2)], .lst [.d (.tuple [.int (.ofNat 0), .int (.ofNat 1)]), .d (.tuple [.int (.ofNat 1), .int (.ofNat 0)])]⟩,
    ⟨10, [.int (.ofNat 2)], .d (.tuple [.tuple [.int (.ofNat 2)], .tuple [.int (.ofNat 1), .int (.ofNat 1)]])⟩,
    ⟨36, [.int (.ofNat 3)], .d (.int (.ofNat 6))⟩,
    ⟨37, [.int (.ofNat 3)], .lst [.d (.tuple [.int (.ofNat 3)]), .d (.tuple [.int (.ofNat 2), .int (.ofNat 1)]), .d (.tuple [.int (.ofNat 1), .int (.ofNat 1), .int (.ofNat 1)])]⟩,
    ⟨34, [.int (.ofNat 3)], .lst [.d (.tuple [.int (.ofNat 0), .int (.ofNat 1), .int (.ofNat 2)]), .d (.tuple [.int (.ofNat 0), .int (.ofNat 2), .int (.ofNat 1)]), .d (.tuple [.int (.ofNat 1), .int (.ofNat 0), .int (.ofNat 2)]), .d (.tuple [.int (.ofNat 1), .int (.ofNat 2), .int (.ofNat 0)]), .d (.tuple [.int (.ofNat 2), .int (.ofNat 0), .int (.ofNat 1)]), .d (.tuple [.int (.ofNat 2), .int (.ofNat 1), .int (.ofNat 0)])]⟩,
    ⟨10, [.int (.ofNat 3)], .d (.tuple [.tuple [.int (.ofNat 3)], .tuple [.int (.ofNat 2), .int (.ofNat 1)], .tuple [.int (.ofNat 1), .int (.ofNat 1), .int (.ofNat 1)]])⟩,
    ⟨36, [.int (.ofNat 4)], .d (.int (.ofNat 24))⟩,
    ⟨37, [.int (.ofNat 4)], .lst [.d (.tuple [.int (.ofNat 4)]), .d (.tuple [.int (.ofNat 3), .int (.ofNat 1)]), .d (.tuple [.int (.ofNat 2), .int (.ofNat 2)]), .d (.tuple [.int (.ofNat 2), .int (.ofNat 1), .int (.ofNat 1)]), .d (.tuple [.int (.ofNat 1), .int (.ofNat 1), .int (.ofNat 1), .int (.ofNat 1)])]⟩]
theorem tm_2_ok : ∀ e ∈ tm_2, EnOk (Lw.P.call 19) e := by
  have h := chks_ok (c := up Lw.P (memo t18 (Lw.P.call 18))) (tab := tm_2) (by decide +kernel)
  rw [memo_eq t18_ok] at h
  exact h
def tm_3 : List En := [
  ⟨34, [.int (.ofNat 4)], .lst [.d (.tuple [.int (.ofNat 0), .int (.ofNat 1), .int (.ofNat 2), .int (.ofNat 3)]), .d (.tuple [.int (.ofNat 0), .int (.ofNat 1), .int (.ofNat 3), .int (.ofNat 2)]), .d (.tuple [.int (.ofNat 0), .int (.ofNat 2), .int (.ofNat 1), .int (.ofNat 3)]), .d (.tuple [.int (.ofNat 0), .int (.ofNat 2), .int (.ofNat 3), .int (.ofNat 1)]), .d (.tuple [.int (.ofNat 0), .int (.ofNat 3), .int (.ofNat 1), .int (.ofNat 2)]), .d (.tuple [.int (.ofNat 0), .int (.ofNat 3), .int (.ofNat 2), .int (.ofNat 1)]), .d (.tuple [.int (.ofNat 1), .int (.ofNat 0), .int (.ofNat 2), .int (.ofNat 3)]), .d (.tuple [.int (.ofNat 1), .int (.ofNat 0), .int (.ofNat 3), .int (.ofNat 2)]), .d (.tuple [.int (.ofNat 1), .int (.ofNat 2), .int (.ofNat 0), .int (.ofNat 3)]), .d (.tuple [.int (.ofNat 1), .int (.ofNat 2), .int (.ofNat 3), .int (.ofNat 0)]), .d (.tuple [.int (.ofNat 1), .int (.ofNat 3), .int (.ofNat 0), .int (.ofNat 2)]), .d (.tuple [.int (.ofNat 1), .int (.ofNat 3), .int (.ofNat 2), .int (.ofNat 0)]), .d (.tuple [.int (.ofNat 2), .int (.ofNat 0), .int (.ofNat 1), .int (.ofNat 3)]), .d (.tuple [.int (.ofNat 2), .int (.ofNat 0), .int (.ofNat 3), .int (.ofNat 1)]), .d (.tuple [.int (.ofNat 2), .int (.ofNat 1), .int (.ofNat 0), .int (.ofNat 3)]), .d (.tuple [.int (.ofNat 2), .int (.ofNat 1), .int (.ofNat 3), .int (.ofNat 0)]), .d (.tuple [.int (.ofNat 2), .int (.ofNat 3), .int (.ofNat 0), .int (.ofNat 1)]), .d (.tuple [.int (.ofNat 2), .int (.ofNat 3), .int (.ofNat 1), .int (.ofNat 0)]), .d (.tuple [.int (.ofNat 3), .int (.ofNat 0), .int (.ofNat 1), .int (.ofNat 2)]), .d (.tuple [.int (.ofNat 3), .int (.ofNat 0), .int (.ofNat 2), .int (.ofNat 1)]), .d (.tuple [.int (.ofNat 3), .int (.ofNat 1), .int (.ofNat 0), .int (.ofNat 2)]), .d (.tuple [.int (.ofNat 3), .int (.ofNat 1), .int (.ofNat 2), .int (.ofNat 0)]), .d (.tuple [.int (.ofNat 3), .int (.ofNat 2), .int (.ofNat 0), .int (.ofNat 1)]), .d (.tuple [.int (.ofNat 3), .int (.ofNat 2), .int (.ofNat 1), .int (.ofNat 0)])]⟩,
    ⟨10, [.int (.ofNat 4)], .d (.tuple [.tuple [.int (.ofNat 4)], .tuple [.int (.ofNat 3), .int (.ofNat 1)], .tuple [.int (.ofNat 2), .int (.ofNat 2)], .tuple [.int (.ofNat 2), .int (.ofNat 1), .int (.ofNat 1)], .tuple [.int (.ofNat 1), .int (.ofNat 1), .int (.ofNat 1), .int (.ofNat 1)]])⟩,
    ⟨43, [.tuple [.int (.ofNat 2)], .int (.ofNat 0)], .d (.tuple [.tuple [.tuple [.int (.ofNat 1), .int (.ofNat 1)]]])⟩,
    ⟨43, [.tuple [.int (.ofNat 1), .int (.ofNat 1)], .int (.ofNat 0)], .d (.tuple [.tuple [.tuple [.int (.negSucc 0), .int (.ofNat 1)]]])⟩,
    ⟨43, [.tuple [.int (.ofNat 3)], .int (.ofNat 0)], .d (.tuple [.tuple [.tuple [.int (.ofNat 1), .int (.ofNat 1)]]])⟩,
    ⟨43, [.tuple [.int (.ofNat 3)], .int (.ofNat 1)], .d (.tuple [.tuple [.tuple [.int (.ofNat 1), .int (.ofNat 1)]]])⟩,
    ⟨43, [.tuple [.int (.ofNat 2), .int (.ofNat 1)], .int (.ofNat 0)], .d (.tuple [.tuple [.tuple [.int (.ofNat 1), .int (.ofNat 1)], .tuple [.int (.ofNat 0), .int (.ofNat 1)]], .tuple [.tuple [.int (.ofNat 0), .int (.ofNat 1)], .tuple [.int (.negSucc 0), .int (.ofNat 1)]]])⟩,
    ⟨43, [.tuple [.int (.ofNat 2), .int (.ofNat 1)], .int (.ofNat 1)], .d (.tuple [.tuple [.tuple [.int (.negSucc 0), .int (.ofNat 2)], .tuple [.int (.ofNat 3), .int (.ofNat 2)]], .tuple [.tuple [.int (.ofNat 1), .int (.ofNat 2)], .tuple [.int (.ofNat 1), .int (.ofNat 2)]]])⟩,
    ⟨43, [.tuple [.int (.ofNat 1), .int (.ofNat 1), .int (.ofNat 1)], .int (.ofNat 0)], .d (.tuple [.tuple [.tuple [.int (.negSucc 0), .int (.ofNat 1)]]])⟩,
    ⟨43, [.tuple [.int (.ofNat 1), .int (.ofNat 1), .int (.ofNat 1)], .int (.ofNat 1)], .d (.tuple [.tuple [.tuple [.int (.negSucc 0), .int (.ofNat 1)]]])⟩,
    ⟨43, [.tuple [.int (.ofNat 4)], .int (.ofNat 0)], .d (.tuple [.tuple [.tuple [.int (.ofNat 1), .int (.ofNat 1)]]])⟩,
    ⟨43, [.tuple [.int (.ofNat 4)], .int (.ofNat 1)], .d (.tuple [.tuple [.tuple [.int (.ofNat 1), .int (.ofNat 1)]]])⟩]
theorem tm_3_ok : ∀ e ∈ tm_3, EnOk (Lw.P.call 19) e := by
  have h := chks_ok (c := up Lw.P (memo t18 (Lw.P.call 18))) (tab := tm_3) (by decide +kernel)
  rw [memo_eq t18_ok] at h
  exact h
def tm_4 : List En := [
  ⟨43, [.tuple [.int (.ofNat 4)], .int (.ofNat 2)], .d (.tuple [.tuple [.tuple [.int (.ofNat 1), .int (.ofNat 1)]]])⟩,
    ⟨43, [.tuple [.int (.ofNat 3), .int (.ofNat 1)], .int (.ofNat 0)], .d (.tuple [.tuple [.tuple [.int (.ofNat 1), .int (.ofNat 1)], .tuple [.int (.ofNat 0), .int (.ofNat 1)], .tuple [.int (.ofNat 0), .int (.ofNat 1)]], .tuple [.tuple [.int (.ofNat 0), .int (.ofNat 1)], .tuple [.int (.ofNat 1), .int (.ofNat 1)], .tuple [.int (.ofNat 0), .int (.ofNat 1)]], .tuple [.tuple [.int (.ofNat 0), .int (.ofNat 1)], .tuple [.int (.ofNat 0), .int (.ofNat 1)], .tuple [.int (.negSucc 0), .int (.ofNat 1)]]])⟩,
    ⟨43, [.tuple [.int (.ofNat 3), .int (.ofNat 1)], .int (.ofNat 1)], .d (.tuple [.tuple [.tuple [.int (.ofNat 1), .int (.ofNat 1)], .tuple [.int (.ofNat 0), .int (.ofNat 1)], .tuple [.int (.ofNat 0), .int (.ofNat 1)]], .tuple [.tuple [.int (.ofNat 0), .int (.ofNat 1)], .tuple [.int (.negSucc 0), .int (.ofNat 2)], .tuple [.int (.ofNat 3), .int (.ofNat 2)]], .tuple [.tuple [.int (.ofNat 0), .int (.ofNat 1)], .tuple [.int (.ofNat 1), .int (.ofNat 2)], .tuple [.int (.ofNat 1), .int (.ofNat 2)]]])⟩,
    ⟨43, [.tuple [.int (.ofNat 3), .int (.ofNat 1)], .int (.ofNat 2)], .d (.tuple [.tuple [.tuple [.int (.negSucc 0), .int (.ofNat 3)], .tuple [.int (.ofNat 4), .int (.ofNat 3)], .tuple [.int (.ofNat 0), .int (.ofNat 1)]], .tuple [.tuple [.int (.ofNat 2), .int (.ofNat 3)], .tuple [.int (.ofNat 1), .int (.ofNat 3)], .tuple [.int (.ofNat 0), .int (.ofNat 1)]], .tuple [.tuple [.int (.ofNat 0), .int (.ofNat 1)], .tuple [.int (.ofNat 0), .int (.ofNat 1)], .tuple [.int (.ofNat 1), .int (.ofNat 1)]]])⟩,
    ⟨43, [.tuple [.int (.ofNat 2), .int (.ofNat 2)], .int (.ofNat 0)], .d (.tuple [.tuple [.tuple [.int (.ofNat 1), .int (.ofNat 1)], .tuple [.int (.ofNat 0), .int (.ofNat 1)]], .tuple [.tuple [.int (.ofNat 0), .int (.ofNat 1)], .tuple [.int (.negSucc 0), .int (.ofNat 1)]]])⟩,
    ⟨43, [.tuple [.int (.ofNat 2), .int (.ofNat 2)], .int (.ofNat 1)], .d (.tuple [.tuple [.tuple [.int (.negSucc 0), .int (.ofNat 2)], .tuple [.int (.ofNat 3), .int (.ofNat 2)]], .tuple [.tuple [.int (.ofNat 1), .int (.ofNat 2)], .tuple [.int (.ofNat 1), .int (.ofNat 2)]]])⟩,
    ⟨43, [.tuple [.int (.ofNat 2), .int (.ofNat 2)], .int (.ofNat 2)], .d (.tuple [.tuple [.tuple [.int (.ofNat 1), .int (.ofNat 1)], .tuple [.int (.ofNat 0), .int (.ofNat 1)]], .tuple [.tuple [.int (.ofNat 0), .int (.ofNat 1)], .tuple [.int (.negSucc 0), .int (.ofNat 1)]]])⟩,
    ⟨43, [.tuple [.int (.ofNat 2), .int (.ofNat 1), .int (.ofNat 1)], .int (.ofNat 0)], .d (.tuple [.tuple [.tuple [.int (.ofNat 1), .int (.ofNat 1)], .tuple [.int (.ofNat 0), .int (.ofNat 1)], .tuple [.int (.ofNat 0), .int (.ofNat 1)]], .tuple [.tuple [.int (.ofNat 0), .int (.ofNat 1)], .tuple [.int (.negSucc 0), .int (.ofNat 1)], .tuple [.int (.ofNat 0), .int (.ofNat 1)]], .tuple [.tuple [.int (.ofNat 0), .int (.ofNat 1)], .tuple [.int (.ofNat 0), .int (.ofNat 1)], .tuple [.int (.negSucc 0), .int (.ofNat 1)]]])⟩,
    ⟨43, [.tuple [.int (.ofNat 2), .int (.ofNat 1), .int (.ofNat 1)], .int (.ofNat 1)], .d (.tuple [.tuple [.tuple [.int (.negSucc 0), .int (.ofNat 2)], .tuple [.int (.ofNat 3), .int (.ofNat 2)], .tuple [.int (.ofNat 0), .int (.ofNat 1)]], .tuple [.tuple [.int (.ofNat 1), .int (.ofNat 2)], .tuple [.int (.ofNat 1), .int (.ofNat 2)], .tuple [.int (.ofNat 0), .int (.ofNat 1)]], .tuple [.tuple [.int (.ofNat 0), .int (.ofNat 1)], .tuple [.int (.ofNat 0), .int (.ofNat 1)], .tuple [.int (.negSucc 0), .int (.ofNat 1)]]])⟩,
    ⟨43, [.tuple [.int (.ofNat 2), .int (.ofNat 1), .int (.ofNat 1)], .int (.ofNat 2)], .d (.tuple [.tuple [.tuple [.int (.negSucc 0), .int (.ofNat 1)], .tuple [.int (.ofNat 0), .int (.ofNat 1)], .tuple [.int (.ofNat 0), .int (.ofNat 1)]], .tuple [.tuple [.int (.ofNat 0), .int (.ofNat 1)], .tuple [.int (.negSucc 0), .int (.ofNat 3)], .tuple [.int (.ofNat 4), .int (.ofNat 3)]], .tuple [.tuple [.int (.ofNat 0), .int (.ofNat 1)], .tuple [.int (.ofNat 2), .int (.ofNat 3)], .tuple [.int (.ofNat 1), .int (.ofNat 3)]]])⟩,
    ⟨43, [.tuple [.int (.ofNat 1), .int (.ofNat 1), .int (.ofNat 1), .int (.ofNat 1)], .int (.ofNat 0)], .d (.tuple [.tuple [.tuple [.int (.negSucc 0), .int (.ofNat 1)]]])⟩,
    ⟨43, [.tuple [.int (.ofNat 1), .int (.ofNat 1), .int (.ofNat 1), .int (.ofNat 1)], .int (.ofNat 1)], .d (.tuple [.tuple [.tuple [.int (.negSucc 0), .int (.ofNat 1)]]])⟩]
theorem tm_4_ok : ∀ e ∈ tm_4, EnOk (Lw.P.call 19) e := by
  have h := chks_ok (c := up Lw.P (memo t18 (Lw.P.call 18))) (tab := tm_4) (by decide +kernel)
  rw [memo_eq t18_ok] at h
  exact h
def tm_5 : List En := [
  ⟨43, [.tuple [.int (.ofNat 1), .int (.ofNat 1), .int (.ofNat 1), .int (.ofNat 1)], .int (.ofNat 2)], .d (.tuple [.tuple [.tuple [.int (.negSucc 0), .int (.ofNat 1)]]])⟩]
theorem tm_5_ok : ∀ e ∈ tm_5, EnOk (Lw.P.call 19) e := by
  have h := chks_ok (c := up Lw.P (memo t18 (Lw.P.call 18))) (tab := tm_5) (by decide +kernel)
  rw [memo_eq t18_ok] at h
  exact h
def tm : List En := tm_0 ++ (tm_1 ++ (tm_2 ++ (tm_3 ++ (tm_4 ++ (tm_5)))))
theorem tm_ok : ∀ e ∈ tm, EnOk (Lw.P.call 19) e := all_app tm_0_ok (all_app tm_1_ok (all_app tm_2_ok (all_app tm_3_ok (all_app tm_4_ok (tm_5_ok)))))
def t19 : List En := tp ++ (ti ++ tm)
theorem t19_ok : ∀ e ∈ t19, EnOk (Lw.P.call 19) e := all_app tp_ok (all_app ti_ok tm_ok)
def C : Cf := Lw.P.cf (memo t19 (Lw.P.call 19))
theorem C_eq : C = Lw.P.cf (Lw.P.call 19) := by
  unfold C
  rw [memo_eq t19_ok]
/-! k50: the product -/
def opT (x u : PyData) : Option PyData := match lookE tp 22 [x, u] with
  | some (.d A) => some A
  | _ => none
def isT (D : PyData) : Bool := match lookE ti 28 [D, D] with
  | some (.d (.bool true)) => true
  | _ => false
def okC (x u w : PyData) : Bool := match afterI u w with
  | some z => (match opT x u with
    | some A => (match opT x w with
      | some B => (match opT x z with
        | some D => (match multI A B with
          | some D' => (match pq D D' with
            | true => isT D
            | false => false)
          | none => false)
        | none => false)
      | none => false)
    | none => false)
  | none => false

def lapB : ISs := frB (nthS Lw.f44.body 5)
def secH : ISs := takeS (dropS Lw.f44.body 1) 4
def iteA : IS → ISs
  | .ite _ a _ => a
  | _ => .nil
theorem fH (S s : T) : exes C secH [S, s, .un, .un, .un, .un, .un, .un, .un] = .nx [S, s, .d (.tuple [.tuple [.tuple [.int (.negSucc 0), .int (.ofNat 2)], .tuple [.int (.ofNat 3), .int (.ofNat 2)]], .tuple [.tuple [.int (.ofNat 1), .int (.ofNat 2)], .tuple [.int (.ofNat 1), .int (.ofNat 2)]]]), .d (.int (.ofNat 4)), .un, .un, .un, .un, .un] := by kernel_rfl
theorem fE1 (S s q x l u w a : T) : exes C (.cons (nthS lapB 4) .nil) [S, s, q, .d (.int (.ofNat 1)), x, l, u, w, a] = .nx [S, s, q, .d (.int (.ofNat 1)), x, l, u, w, a] := by kernel_rfl
theorem fA_1_0 (S s q l u w a : T) : exes C (.cons (nthS lapB 2) .nil) [S, s, q, .d (.int (.ofNat 1)), .d (.tuple [.int (.ofNat 1)]), l, u, w, a] = .nx [S, s, q, .d (.int (.ofNat 1)), .d (.tuple [.int (.ofNat 1)]), l, u, w, a] := by kernel_rfl
theorem hs_1 : C.call 37 [.d (.int (.ofNat 1))] = .ok (.lst (([.tuple [.int (.ofNat 1)]] : List PyData).map .d)) [.un] := by kernel_rfl
theorem ho_1 : C.call 34 [.d (.int (.ofNat 1))] = .ok (.lst (([.tuple [.int (.ofNat 0)]] : List PyData).map .d)) [.un] := by kernel_rfl
theorem hA_1 : ∀ x ∈ ([.tuple [.int (.ofNat 1)]] : List PyData), ∀ S s q l u w a, exes C (.cons (nthS lapB 2) .nil) [S, s, q, .d (.int (.ofNat 1)), .d x, l, u, w, a] = .nx [S, s, q, .d (.int (.ofNat 1)), .d x, l, u, w, a] := List.forall_mem_cons.mpr ⟨fun S s q l u w a => fA_1_0 S s q l u w a, (fun _ h => nomatch h)⟩
theorem cb_1 : (([.tuple [.int (.ofNat 1)]] : List PyData).all fun x => ([.tuple [.int (.ofNat 0)]] : List PyData).all fun u => ([.tuple [.int (.ofNat 0)]] : List PyData).all fun w => okC x u w) = true := by decide +kernel
theorem fA_2_0 (S s q l u w a : T) : exes C (.cons (nthS lapB 2) .nil) [S, s, q, .d (.int (.ofNat 2)), .d (.tuple [.int (.ofNat 2)]), l, u, w, a] = .nx [S, s, q, .d (.int (.ofNat 2)), .d (.tuple [.int (.ofNat 2)]), l, u, w, a] := by kernel_rfl
theorem fE_2_0_0 (S s q l u w : T) : exes C (.cons (nthS (iteA (nthS lapB 4)) 1) .nil) [S, s, q, .d (.int (.ofNat 2)), .d (.tuple [.int (.ofNat 2)]), l, u, w, .d (.int (.ofNat 0))] = .nx [S, s, q, .d (.int (.ofNat 2)), .d (.tuple [.int (.ofNat 2)]), l, u, w, .d (.int (.ofNat 0))] := by kernel_rfl
theorem fA_2_1 (S s q l u w a : T) : exes C (.cons (nthS lapB 2) .nil) [S, s, q, .d (.int (.ofNat 2)), .d (.tuple [.int (.ofNat 1), .int (.ofNat 1)]), l, u, w, a] = .nx [S, s, q, .d (.int (.ofNat 2)), .d (.tuple [.int (.ofNat 1), .int (.ofNat 1)]), l, u, w, a] := by kernel_rfl
theorem fE_2_1_0 (S s q l u w : T) : exes C (.cons (nthS (iteA (nthS lapB 4)) 1) .nil) [S, s, q, .d (.int (.ofNat 2)), .d (.tuple [.int (.ofNat 1), .int (.ofNat 1)]), l, u, w, .d (.int (.ofNat 0))] = .nx [S, s, q, .d (.int (.ofNat 2)), .d (.tuple [.int (.ofNat 1), .int (.ofNat 1)]), l, u, w, .d (.int (.ofNat 0))] := by kernel_rfl
theorem hs_2 : C.call 37 [.d (.int (.ofNat 2))] = .ok (.lst (([.tuple [.int (.ofNat 2)], .tuple [.int (.ofNat 1), .int (.ofNat 1)]] : List PyData).map .d)) [.un] := by kernel_rfl
theorem ho_2 : C.call 34 [.d (.int (.ofNat 2))] = .ok (.lst (([.tuple [.int (.ofNat 0), .int (.ofNat 1)], .tuple [.int (.ofNat 1), .int (.ofNat 0)]] : List PyData).map .d)) [.un] := by kernel_rfl
theorem hA_2 : ∀ x ∈ ([.tuple [.int (.ofNat 2)], .tuple [.int (.ofNat 1), .int (.ofNat 1)]] : List PyData), ∀ S s q l u w a, exes C (.cons (nthS lapB 2) .nil) [S, s, q, .d (.int (.ofNat 2)), .d x, l, u, w, a] = .nx [S, s, q, .d (.int (.ofNat 2)), .d x, l, u, w, a] := List.forall_mem_cons.mpr ⟨fun S s q l u w a => fA_2_0 S s q l u w a, List.forall_mem_cons.mpr ⟨fun S s q l u w a => fA_2_1 S s q l u w a, (fun _ h => nomatch h)⟩⟩
theorem hE_2 : ∀ x ∈ ([.tuple [.int (.ofNat 2)], .tuple [.int (.ofNat 1), .int (.ofNat 1)]] : List PyData), ∀ a ∈ ([.int (.ofNat 0)] : List PyData), ∀ S s q l u w, exes C (.cons (nthS (iteA (nthS lapB 4)) 1) .nil) [S, s, q, .d (.int (.ofNat 2)), .d x, l, u, w, .d a] = .nx [S, s, q, .d (.int (.ofNat 2)), .d x, l, u, w, .d a] := List.forall_mem_cons.mpr ⟨List.forall_mem_cons.mpr ⟨fun S s q l u w => fE_2_0_0 S s q l u w, (fun _ h => nomatch h)⟩, List.forall_mem_cons.mpr ⟨List.forall_mem_cons.mpr ⟨fun S s q l u w => fE_2_1_0 S s q l u w, (fun _ h => nomatch h)⟩, (fun _ h => nomatch h)⟩⟩
theorem cb_2 : (([.tuple [.int (.ofNat 2)], .tuple [.int (.ofNat 1), .int (.ofNat 1)]] : List PyData).all fun x => ([.tuple [.int (.ofNat 0), .int (.ofNat 1)], .tuple [.int (.ofNat 1), .int (.ofNat 0)]] : List PyData).all fun u => ([.tuple [.int (.ofNat 0), .int (.ofNat 1)], .tuple [.int (.ofNat 1), .int (.ofNat 0)]] : List PyData).all fun w => okC x u w) = true := by decide +kernel
theorem fA_3_0 (S s q l u w a : T) : exes C (.cons (nthS lapB 2) .nil) [S, s, q, .d (.int (.ofNat 3)), .d (.tuple [.int (.ofNat 3)]), l, u, w, a] = .nx [S, s, q, .d (.int (.ofNat 3)), .d (.tuple [.int (.ofNat 3)]), l, u, w, a] := by kernel_rfl
theorem fE_3_0_0 (S s q l u w : T) : exes C (.cons (nthS (iteA (nthS lapB 4)) 1) .nil) [S, s, q, .d (.int (.ofNat 3)), .d (.tuple [.int (.ofNat 3)]), l, u, w, .d (.int (.ofNat 0))] = .nx [S, s, q, .d (.int (.ofNat 3)), .d (.tuple [.int (.ofNat 3)]), l, u, w, .d (.int (.ofNat 0))] := by kernel_rfl
theorem fE_3_0_1 (S s q l u w : T) : exes C (.cons (nthS (iteA (nthS lapB 4)) 1) .nil) [S, s, q, .d (.int (.ofNat 3)), .d (.tuple [.int (.ofNat 3)]), l, u, w, .d (.int (.ofNat 1))] = .nx [S, s, q, .d (.int (.ofNat 3)), .d (.tuple [.int (.ofNat 3)]), l, u, w, .d (.int (.ofNat 1))] := by kernel_rfl
theorem fA_3_1 (S s q l u w a : T) : exes C (.cons (nthS lapB 2) .nil) [S, s, q, .d (.int (.ofNat 3)), .d (.tuple [.int (.ofNat 2), .int (.ofNat 1)]), l, u, w, a] = .nx [S, s, q, .d (.int (.ofNat 3)), .d (.tuple [.int (.ofNat 2), .int (.ofNat 1)]), l, u, w, a] := by kernel_rfl
theorem fE_3_1_0 (S s q l u w : T) : exes C (.cons (nthS (iteA (nthS lapB 4)) 1) .nil) [S, s, q, .d (.int (.ofNat 3)), .d (.tuple [.int (.ofNat 2), .int (.ofNat 1)]), l, u, w, .d (.int (.ofNat 0))] = .nx [S, s, q, .d (.int (.ofNat 3)), .d (.tuple [.int (.ofNat 2), .int (.ofNat 1)]), l, u, w, .d (.int (.ofNat 0))] := by kernel_rfl
theorem fE_3_1_1 (S s q l u w : T) : exes C (.cons (nthS (iteA (nthS lapB 4)) 1) .nil) [S, s, q, .d (.int (.ofNat 3)), .d (.tuple [.int (.ofNat 2), .int (.ofNat 1)]), l, u, w, .d (.int (.ofNat 1))] = .nx [S, s, q, .d (.int (.ofNat 3)), .d (.tuple [.int (.ofNat 2), .int (.ofNat 1)]), l, u, w, .d (.int (.ofNat 1))] := by kernel_rfl
theorem fA_3_2 (S s q l u w a : T) : exes C (.cons (nthS lapB 2) .nil) [S, s, q, .d (.int (.ofNat 3)), .d (.tuple [.int (.ofNat 1), .int (.ofNat 1), .int (.ofNat 1)]), l, u, w, a] = .nx [S, s, q, .d (.int (.ofNat 3)), .d (.tuple [.int (.ofNat 1), .int (.ofNat 1), .int (.ofNat 1)]), l, u, w, a] := by kernel_rfl
theorem fE_3_2_0 (S s q l u w : T) : exes C (.cons (nthS (iteA (nthS lapB 4)) 1) .nil) [S, s, q, .d (.int (.ofNat 3)), .d (.tuple [.int (.ofNat 1), .int (.ofNat 1), .int (.ofNat 1)]), l, u, w, .d (.int (.ofNat 0))] = .nx [S, s, q, .d (.int (.ofNat 3)), .d (.tuple [.int (.ofNat 1), .int (.ofNat 1), .int (.ofNat 1)]), l, u, w, .d (.int (.ofNat 0))] := by kernel_rfl
theorem fE_3_2_1 (S s q l u w : T) : exes C (.cons (nthS (iteA (nthS lapB 4)) 1) .nil) [S, s, q, .d (.int (.ofNat 3)), .d (.tuple [.int (.ofNat 1), .int (.ofNat 1), .int (.ofNat 1)]), l, u, w, .d (.int (.ofNat 1))] = .nx [S, s, q, .d (.int (.ofNat 3)), .d (.tuple [.int (.ofNat 1), .int (.ofNat 1), .int (.ofNat 1)]), l, u, w, .d (.int (.ofNat 1))] := by kernel_rfl
theorem hs_3 : C.call 37 [.d (.int (.ofNat 3))] = .ok (.lst (([.tuple [.int (.ofNat 3)], .tuple [.int (.ofNat 2), .int (.ofNat 1)], .tuple [.int (.ofNat 1), .int (.ofNat 1), .int (.ofNat 1)]] : List PyData).map .d)) [.un] := by kernel_rfl
theorem ho_3 : C.call 34 [.d (.int (.ofNat 3))] = .ok (.lst (([.tuple [.int (.ofNat 0), .int (.ofNat 1), .int (.ofNat 2)], .tuple [.int (.ofNat 0), .int (.ofNat 2), .int (.ofNat 1)], .tuple [.int (.ofNat 1), .int (.ofNat 0), .int (.ofNat 2)], .tuple [.int (.ofNat 1), .int (.ofNat 2), .int (.ofNat 0)], .tuple [.int (.ofNat 2), .int (.ofNat 0), .int (.ofNat 1)], .tuple [.int (.ofNat 2), .int (.ofNat 1), .int (.ofNat 0)]] : List PyData).map .d)) [.un] := by kernel_rfl
theorem hA_3 : ∀ x ∈ ([.tuple [.int (.ofNat 3)], .tuple [.int (.ofNat 2), .int (.ofNat 1)], .tuple [.int (.ofNat 1), .int (.ofNat 1), .int (.ofNat 1)]] : List PyData), ∀ S s q l u w a, exes C (.cons (nthS lapB 2) .nil) [S, s, q, .d (.int (.ofNat 3)), .d x, l, u, w, a] = .nx [S, s, q, .d (.int (.ofNat 3)), .d x, l, u, w, a] := List.forall_mem_cons.mpr ⟨fun S s q l u w a => fA_3_0 S s q l u w a, List.forall_mem_cons.mpr ⟨fun S s q l u w a => fA_3_1 S s q l u w a, List.forall_mem_cons.mpr ⟨fun S s q l u w a => fA_3_2 S s q l u w a, (fun _ h => nomatch h)⟩⟩⟩
theorem hE_3 : ∀ x ∈ ([.tuple [.int (.ofNat 3)], .tuple [.int (.ofNat 2), .int (.ofNat 1)], .tuple [.int (.ofNat 1), .int (.ofNat 1), .int (.ofNat 1)]] : List PyData), ∀ a ∈ ([.int (.ofNat 0), .int (.ofNat 1)] : List PyData), ∀ S s q l u w, exes C (.cons (nthS (iteA (nthS lapB 4)) 1) .nil) [S, s, q, .d (.int (.ofNat 3)), .d x, l, u, w, .d a] = .nx [S, s, q, .d (.int (.ofNat 3)), .d x, l, u, w, .d a] := List.forall_mem_cons.mpr ⟨List.forall_mem_cons.mpr ⟨fun S s q l u w => fE_3_0_0 S s q l u w, List.forall_mem_cons.mpr ⟨fun S s q l u w => fE_3_0_1 S s q l u w, (fun _ h => nomatch h)⟩⟩, List.forall_mem_cons.mpr ⟨List.forall_mem_cons.mpr ⟨fun S s q l u w => fE_3_1_0 S s q l u w, List.forall_mem_cons.mpr ⟨fun S s q l u w => fE_3_1_1 S s q l u w, (fun _ h => nomatch h)⟩⟩, List.forall_mem_cons.mpr ⟨List.forall_mem_cons.mpr ⟨fun S s q l u w => fE_3_2_0 S s q l u w, List.forall_mem_cons.mpr ⟨fun S s q l u w => fE_3_2_1 S s q l u w, (fun _ h => nomatch h)⟩⟩, (fun _ h => nomatch h)⟩⟩⟩
theorem cb_3 : (([.tuple [.int (.ofNat 3)], .tuple [.int (.ofNat 2), .int (.ofNat 1)], .tuple [.int (.ofNat 1), .int (.ofNat 1), .int (.ofNat 1)]] : List PyData).all fun x => ([.tuple [.int (.ofNat 0), .int (.ofNat 1), .int (.ofNat 2)], .tuple [.int (.ofNat 0), .int (.ofNat 2), .int (.ofNat 1)], .tuple [.int (.ofNat 1), .int (.ofNat 0), .int (.ofNat 2)], .tuple [.int (.ofNat 1), .int (.ofNat 2), .int (.ofNat 0)], .tuple [.int (.ofNat 2), .int (.ofNat 0), .int (.ofNat 1)], .tuple [.int (.ofNat 2), .int (.ofNat 1), .int (.ofNat 0)]] : List PyData).all fun u => ([.tuple [.int (.ofNat 0), .int (.ofNat 1), .int (.ofNat 2)], .tuple [.int (.ofNat 0), .int (.ofNat 2), .int (.ofNat 1)], .tuple [.int (.ofNat 1), .int (.ofNat 0), .int (.ofNat 2)], .tuple [.int (.ofNat 1), .int (.ofNat 2), .int (.ofNat 0)], .tuple [.int (.ofNat 2), .int (.ofNat 0), .int (.ofNat 1)], .tuple [.int (.ofNat 2), .int (.ofNat 1), .int (.ofNat 0)]] : List PyData).all fun w => okC x u w) = true := by decide +kernel
theorem fA_4_0 (S s q l u w a : T) : exes C (.cons (nthS lapB 2) .nil) [S, s, q, .d (.int (.ofNat 4)), .d (.tuple [.int (.ofNat 4)]), l, u, w, a] = .nx [S, s, q, .d (.int (.ofNat 4)), .d (.tuple [.int (.ofNat 4)]), l, u, w, a] := by kernel_rfl
theorem fE_4_0_0 (S s q l u w : T) : exes C (.cons (nthS (iteA (nthS lapB 4)) 1) .nil) [S, s, q, .d (.int (.ofNat 4)), .d (.tuple [.int (.ofNat 4)]), l, u, w, .d (.int (.ofNat 0))] = .nx [S, s, q, .d (.int (.ofNat 4)), .d (.tuple [.int (.ofNat 4)]), l, u, w, .d (.int (.ofNat 0))] := by kernel_rfl
theorem fE_4_0_1 (S s q l u w : T) : exes C (.cons (nthS (iteA (nthS lapB 4)) 1) .nil) [S, s, q, .d (.int (.ofNat 4)), .d (.tuple [.int (.ofNat 4)]), l, u, w, .d (.int (.ofNat 1))] = .nx [S, s, q, .d (.int (.ofNat 4)), .d (.tuple [.int (.ofNat 4)]), l, u, w, .d (.int (.ofNat 1))] := by kernel_rfl
theorem fE_4_0_2 (S s q l u w : T) : exes C (.cons (nthS (iteA (nthS lapB 4)) 1) .nil) [S, s, q, .d (.int (.ofNat 4)), .d (.tuple [.int (.ofNat 4)]), l, u, w, .d (.int (.ofNat 2))] = .nx [S, s, q, .d (.int (.ofNat 4)), .d (.tuple [.int (.ofNat 4)]), l, u, w, .d (.int (.ofNat 2))] := by kernel_rfl
theorem fA_4_1 (S s q l u w a : T) : exes C (.cons (nthS lapB 2) .nil) [S, s, q, .d (.int (.ofNat 4)), .d (.tuple [.int (.ofNat 3), .int (.ofNat 1)]), l, u, w, a] = .nx [S, s, q, .d (.int (.ofNat 4)), .d (.tuple [.int (.ofNat 3), .int (.ofNat 1)]), l, u, w, a] := by kernel_rfl
theorem fE_4_1_0 (S s q l u w : T) : exes C (.cons (nthS (iteA (nthS lapB 4)) 1) .nil) [S, s, q, .d (.int (.ofNat 4)), .d (.tuple [.int (.ofNat 3), .int (.ofNat 1)]), l, u, w, .d (.int (.ofNat 0))] = .nx [S, s, q, .d (.int (.ofNat 4)), .d (.tuple [.int (.ofNat 3), .int (.ofNat 1)]), l, u, w, .d (.int (.ofNat 0))] := by kernel_rfl
theorem fE_4_1_1 (S s q l u w : T) : exes C (.cons (nthS (iteA (nthS lapB 4)) 1) .nil) [S, s, q, .d (.int (.ofNat 4)), .d (.tuple [.int (.ofNat 3), .int (.ofNat 1)]), l, u, w, .d (.int (.ofNat 1))] = .nx [S, s, q, .d (.int (.ofNat 4)), .d (.tuple [.int (.ofNat 3), .int (.ofNat 1)]), l, u, w, .d (.int (.ofNat 1))] := by kernel_rfl
theorem fE_4_1_2 (S s q l u w : T) : exes C (.cons (nthS (iteA (nthS lapB 4)) 1) .nil) [S, s, q, .d (.int (.ofNat 4)), .d (.tuple [.int (.ofNat 3), .int (.ofNat 1)]), l, u, w, .d (.int (.ofNat 2))] = .nx [S, s, q, .d (.int (.ofNat 4)), .d (.tuple [.int (.ofNat 3), .int (.ofNat 1)]), l, u, w, .d (.int (.ofNat 2))] := by kernel_rfl
theorem fA_4_2 (S s q l u w a : T) : exes C (.cons (nthS lapB 2) .nil) [S, s, q, .d (.int (.ofNat 4)), .d (.tuple [.int (.ofNat 2), .int (.ofNat 2)]), l, u, w, a] = .nx [S, s, q, .d (.int (.ofNat 4)), .d (.tuple [.int (.ofNat 2), .int (.ofNat 2)]), l, u, w, a] := by kernel_rfl
theorem fE_4_2_0 (S s q l u w : T) : exes C (.cons (nthS (iteA (nthS lapB 4)) 1) .nil) [S, s, q, .d (.int (.ofNat 4)), .d (.tuple [.int (.ofNat 2), .int (.ofNat 2)]), l, u, w, .d (.int (.ofNat 0))] = .nx [S, s, q, .d (.int (.ofNat 4)), .d (.tuple [.int (.ofNat 2), .int (.ofNat 2)]), l, u, w, .d (.int (.ofNat 0))] := by kernel_rfl
theorem fE_4_2_1 (S s q l u w : T) : exes C (.cons (nthS (iteA (nthS lapB 4)) 1) .nil) [S, s, q, .d (.int (.ofNat 4)), .d (.tuple [.int (.ofNat 2), .int (.ofNat 2)]), l, u, w, .d (.int (.ofNat 1))] = .nx [S, s, q, .d (.int (.ofNat 4)), .d (.tuple [.int (.ofNat 2), .int (.ofNat 2)]), l, u, w, .d (.int (.ofNat 1))] := by kernel_rfl
theorem fE_4_2_2 (S s q l u w : T) : exes C (.cons (nthS (iteA (nthS lapB 4)) 1) .nil) [S, s, q, .d (.int (.ofNat 4)), .d (.tuple [.int (.ofNat 2), .int (.ofNat 2)]), l, u, w, .d (.int (.ofNat 2))] = .nx [S, s, q, .d (.int (.ofNat 4)), .d (.tuple [.int (.ofNat 2), .int (.ofNat 2)]), l, u, w, .d (.int (.ofNat 2))] := by kernel_rfl
theorem fA_4_3 (S s q l u w a : T) : exes C (.cons (nthS lapB 2) .nil) [S, s, q, .d (.int (.ofNat 4)), .d (.tuple [.int (.ofNat 2), .int (.ofNat 1), .int (.ofNat 1)]), l, u, w, a] = .nx [S, s, q, .d (.int (.ofNat 4)), .d (.tuple [.int (.ofNat 2), .int (.ofNat 1), .int (.ofNat 1)]), l, u, w, a] := by kernel_rfl
theorem fE_4_3_0 (S s q l u w : T) : exes C (.cons (nthS (iteA (nthS lapB 4)) 1) .nil) [S, s, q, .d (.int (.ofNat 4)), .d (.tuple [.int (.ofNat 2), .int (.ofNat 1), .int (.ofNat 1)]), l, u, w, .d (.int (.ofNat 0))] = .nx [S, s, q, .d (.int (.ofNat 4)), .d (.tuple [.int (.ofNat 2), .int (.ofNat 1), .int (.ofNat 1)]), l, u, w, .d (.int (.ofNat 0))] := by kernel_rfl
theorem fE_4_3_1 (S s q l u w : T) : exes C (.cons (nthS (iteA (nthS lapB 4)) 1) .nil) [S, s, q, .d (.int (.ofNat 4)), .d (.tuple [.int (.ofNat 2), .int (.ofNat 1), .int (.ofNat 1)]), l, u, w, .d (.int (.ofNat 1))] = .nx [S, s, q, .d (.int (.ofNat 4)), .d (.tuple [.int (.ofNat 2), .int (.ofNat 1), .int (.ofNat 1)]), l, u, w, .d (.int (.ofNat 1))] := by kernel_rfl
theorem fE_4_3_2 (S s q l u w : T) : exes C (.cons (nthS (iteA (nthS lapB 4)) 1) .nil) [S, s, q, .d (.int (.ofNat 4)), .d (.tuple [.int (.ofNat 2), .int (.ofNat 1), .int (.ofNat 1)]), l, u, w, .d (.int (.ofNat 2))] = .nx [S, s, q, .d (.int (.ofNat 4)), .d (.tuple [.int (.ofNat 2), .int (.ofNat 1), .int (.ofNat 1)]), l, u, w, .d (.int (.ofNat 2))] := by kernel_rfl
theorem fA_4_4 (S s q l u w a : T) : exes C (.cons (nthS lapB 2) .nil) [S, s, q, .d (.int (.ofNat 4)), .d (.tuple [.int (.ofNat 1), .int (.ofNat 1), .int (.ofNat 1), .int (.ofNat 1)]), l, u, w, a] = .nx [S, s, q, .d (.int (.ofNat 4)), .d (.tuple [.int (.ofNat 1), .int (.ofNat 1), .int (.ofNat 1), .int (.ofNat 1)]), l, u, w, a] := by kernel_rfl
theorem fE_4_4_0 (S s q l u w : T) : exes C (.cons (nthS (iteA (nthS lapB 4)) 1) .nil) [S, s, q, .d (.int (.ofNat 4)), .d (.tuple [.int (.ofNat 1), .int (.ofNat 1), .int (.ofNat 1), .int (.ofNat 1)]), l, u, w, .d (.int (.ofNat 0))] = .nx [S, s, q, .d (.int (.ofNat 4)), .d (.tuple [.int (.ofNat 1), .int (.ofNat 1), .int (.ofNat 1), .int (.ofNat 1)]), l, u, w, .d (.int (.ofNat 0))] := by kernel_rfl
theorem fE_4_4_1 (S s q l u w : T) : exes C (.cons (nthS (iteA (nthS lapB 4)) 1) .nil) [S, s, q, .d (.int (.ofNat 4)), .d (.tuple [.int (.ofNat 1), .int (.ofNat 1), .int (.ofNat 1), .int (.ofNat 1)]), l, u, w, .d (.int (.ofNat 1))] = .nx [S, s, q, .d (.int (.ofNat 4)), .d (.tuple [.int (.ofNat 1), .int (.ofNat 1), .int (.ofNat 1), .int (.ofNat 1)]), l, u, w, .d (.int (.ofNat 1))] := by kernel_rfl
theorem fE_4_4_2 (S s q l u w : T) : exes C (.cons (nthS (iteA (nthS lapB 4)) 1) .nil) [S, s, q, .d (.int (.ofNat 4)), .d (.tuple [.int (.ofNat 1), .int (.ofNat 1), .int (.ofNat 1), .int (.ofNat 1)]), l, u, w, .d (.int (.ofNat 2))] = .nx [S, s, q, .d (.int (.ofNat 4)), .d (.tuple [.int (.ofNat 1), .int (.ofNat 1), .int (.ofNat 1), .int (.ofNat 1)]), l, u, w, .d (.int (.ofNat 2))] := by kernel_rfl
theorem hs_4 : C.call 37 [.d (.int (.ofNat 4))] = .ok (.lst (([.tuple [.int (.ofNat 4)], .tuple [.int (.ofNat 3), .int (.ofNat 1)], .tuple [.int (.ofNat 2), .int (.ofNat 2)], .tuple [.int (.ofNat 2), .int (.ofNat 1), .int (.ofNat 1)], .tuple [.int (.ofNat 1), .int (.ofNat 1), .int (.ofNat 1), .int (.ofNat 1)]] : List PyData).map .d)) [.un] := by kernel_rfl
theorem ho_4 : C.call 34 [.d (.int (.ofNat 4))] = .ok (.lst (([.tuple [.int (.ofNat 0), .int (.ofNat 1), .int (.ofNat 2), .int (.ofNat 3)], .tuple [.int (.ofNat 0), .int (.ofNat 1), .int (.ofNat 3), .int (.ofNat 2)], .tuple [.int (.ofNat 0), .int (.ofNat 2), .int (.ofNat 1), .int (.ofNat 3)], .tuple [.int (.ofNat 0), .int (.ofNat 2), .int (.ofNat 3), .int (.ofNat 1)], .tuple [.int (.ofNat 0), .int (.ofNat 3), .int (.ofNat 1), .int (.ofNat 2)], .tuple [.int (.ofNat 0), .int (.ofNat 3), .int (.ofNat 2), .int (.ofNat 1)], .tuple [.int (.ofNat 1), .int (.ofNat 0), .int (.ofNat 2), .int (.ofNat 3)], .tuple [.int (.ofNat 1), .int (.ofNat 0), .int (.ofNat 3), .int (.ofNat 2)], .tuple [.int (.ofNat 1), .int (.ofNat 2), .int (.ofNat 0), .int (.ofNat 3)], .tuple [.int (.ofNat 1), .int (.ofNat 2), .int (.ofNat 3), .int (.ofNat 0)], .tuple [.int (.ofNat 1), .int (.ofNat 3), .int (.ofNat 0), .int (.ofNat 2)], .tuple [.int (.ofNat 1), .int (.ofNat 3), .int (.ofNat 2), .int (.ofNat 0)], .tuple [.int (.ofNat 2), .int (.ofNat 0), .int (.ofNat 1), .int (.ofNat 3)], .tuple [.int (.ofNat 2), .int (.ofNat 0), .int (.ofNat 3), .int (.ofNat 1)], .tuple [.int (.ofNat 2), .int (.ofNat 1), .int (.ofNat 0), .int (.ofNat 3)], .tuple [.int (.ofNat 2), .int (.ofNat 1), .int (.ofNat 3), .int (.ofNat 0)], .tuple [.int (.ofNat 2), .int (.ofNat 3), .int (.ofNat 0), .int (.ofNat 1)], .tuple [.int (.ofNat 2), .int (.ofNat 3), .int (.ofNat 1), .int (.ofNat 0)], .tuple [.int (.ofNat 3), .int (.ofNat 0), .int (.ofNat 1), .int (.ofNat 2)], .tuple [.int (.ofNat 3), .int (.ofNat 0), .int (.ofNat 2), .int (.ofNat 1)], .tuple [.int (.ofNat 3), .int (.ofNat 1), .int (.ofNat 0), .int (.ofNat 2)], .tuple [.int (.ofNat 3), .int (.ofNat 1), .int (.ofNat 2), .int (.ofNat 0)], .tuple [.int (.ofNat 3), .int (.ofNat 2), .int (.ofNat 0), .int (.ofNat 1)], .tuple [.int (.ofNat 3), .int (.ofNat 2), .int (.ofNat 1), .int (.ofNat 0)]] : List PyData).map .d)) [.un] := by kernel_rfl
theorem hA_4 : ∀ x ∈ ([.tuple [.int (.ofNat 4)], .tuple [.int (.ofNat 3), .int (.ofNat 1)], .tuple [.int (.ofNat 2), .int (.ofNat 2)], .tuple [.int (.ofNat 2), .int (.ofNat 1), .int (.ofNat 1)], .tuple [.int (.ofNat 1), .int (.ofNat 1), .int (.ofNat 1), .int (.ofNat 1)]] : List PyData), ∀ S s q l u w a, exes C (.cons (nthS lapB 2) .nil) [S, s, q, .d (.int (.ofNat 4)), .d x, l, u, w, a] = .nx [S, s, q, .d (.int (.ofNat 4)), .d x, l, u, w, a] := List.forall_mem_cons.mpr ⟨fun S s q l u w a => fA_4_0 S s q l u w a, List.forall_mem_cons.mpr ⟨fun S s q l u w a => fA_4_1 S s q l u w a, List.forall_mem_cons.mpr ⟨fun S s q l u w a => fA_4_2 S s q l u w a, List.forall_mem_cons.mpr ⟨fun S s q l u w a => fA_4_3 S s q l u w a, List.forall_mem_cons.mpr ⟨fun S s q l u w a => fA_4_4 S s q l u w a, (fun _ h => nomatch h)⟩⟩⟩⟩⟩
theorem hE_4 : ∀ x ∈ ([.tuple [.int (.ofNat 4)], .tuple [.int (.ofNat 3), .int (.ofNat 1)], .tuple [.int (.ofNat 2), .int (.ofNat 2)], .tuple [.int (.ofNat 2), .int (.ofNat 1), .int (.ofNat 1)], .tuple [.int (.ofNat 1), .int (.ofNat 1), .int (.ofNat 1), .int (.ofNat 1)]] : List PyData), ∀ a ∈ ([.int (.ofNat 0), .int (.ofNat 1), .int (.ofNat 2)] : List PyData), ∀ S s q l u w, exes C (.cons (nthS (iteA (nthS lapB 4)) 1) .nil) [S, s, q, .d (.int (.ofNat 4)), .d x, l, u, w, .d a] = .nx [S, s, q, .d (.int (.ofNat 4)), .d x, l, u, w, .d a] := List.forall_mem_cons.mpr ⟨List.forall_mem_cons.mpr ⟨fun S s q l u w => fE_4_0_0 S s q l u w, List.forall_mem_cons.mpr ⟨fun S s q l u w => fE_4_0_1 S s q l u w, List.forall_mem_cons.mpr ⟨fun S s q l u w => fE_4_0_2 S s q l u w, (fun _ h => nomatch h)⟩⟩⟩, List.forall_mem_cons.mpr ⟨List.forall_mem_cons.mpr ⟨fun S s q l u w => fE_4_1_0 S s q l u w, List.forall_mem_cons.mpr ⟨fun S s q l u w => fE_4_1_1 S s q l u w, List.forall_mem_cons.mpr ⟨fun S s q l u w => fE_4_1_2 S s q l u w, (fun _ h => nomatch h)⟩⟩⟩, List.forall_mem_cons.mpr ⟨List.forall_mem_cons.mpr ⟨fun S s q l u w => fE_4_2_0 S s q l u w, List.forall_mem_cons.mpr ⟨fun S s q l u w => fE_4_2_1 S s q l u w, List.forall_mem_cons.mpr ⟨fun S s q l u w => fE_4_2_2 S s q l u w, (fun _ h => nomatch h)⟩⟩⟩, List.forall_mem_cons.mpr ⟨List.forall_mem_cons.mpr ⟨fun S s q l u w => fE_4_3_0 S s q l u w, List.forall_mem_cons.mpr ⟨fun S s q l u w => fE_4_3_1 S s q l u w, List.forall_mem_cons.mpr ⟨fun S s q l u w => fE_4_3_2 S s q l u w, (fun _ h => nomatch h)⟩⟩⟩, List.forall_mem_cons.mpr ⟨List.forall_mem_cons.mpr ⟨fun S s q l u w => fE_4_4_0 S s q l u w, List.forall_mem_cons.mpr ⟨fun S s q l u w => fE_4_4_1 S s q l u w, List.forall_mem_cons.mpr ⟨fun S s q l u w => fE_4_4_2 S s q l u w, (fun _ h => nomatch h)⟩⟩⟩, (fun _ h => nomatch h)⟩⟩⟩⟩⟩
theorem cb_4 : (([.tuple [.int (.ofNat 4)], .tuple [.int (.ofNat 3), .int (.ofNat 1)], .tuple [.int (.ofNat 2), .int (.ofNat 2)], .tuple [.int (.ofNat 2), .int (.ofNat 1), .int (.ofNat 1)], .tuple [.int (.ofNat 1), .int (.ofNat 1), .int (.ofNat 1), .int (.ofNat 1)]] : List PyData).all fun x => ([.tuple [.int (.ofNat 0), .int (.ofNat 1), .int (.ofNat 2), .int (.ofNat 3)], .tuple [.int (.ofNat 0), .int (.ofNat 1), .int (.ofNat 3), .int (.ofNat 2)], .tuple [.int (.ofNat 0), .int (.ofNat 2), .int (.ofNat 1), .int (.ofNat 3)], .tuple [.int (.ofNat 0), .int (.ofNat 2), .int (.ofNat 3), .int (.ofNat 1)], .tuple [.int (.ofNat 0), .int (.ofNat 3), .int (.ofNat 1), .int (.ofNat 2)], .tuple [.int (.ofNat 0), .int (.ofNat 3), .int (.ofNat 2), .int (.ofNat 1)], .tuple [.int (.ofNat 1), .int (.ofNat 0), .int (.ofNat 2), .int (.ofNat 3)], .tuple [.int (.ofNat 1), .int (.ofNat 0), .int (.ofNat 3), .int (.ofNat 2)], .tuple [.int (.ofNat 1), .int (.ofNat 2), .int (.ofNat 0), .int (.ofNat 3)], .tuple [.int (.ofNat 1), .int (.ofNat 2), .int (.ofNat 3), .int (.ofNat 0)], .tuple [.int (.ofNat 1), .int (.ofNat 3), .int (.ofNat 0), .int (.ofNat 2)], .tuple [.int (.ofNat 1), .int (.ofNat 3), .int (.ofNat 2), .int (.ofNat 0)], .tuple [.int (.ofNat 2), .int (.ofNat 0), .int (.ofNat 1), .int (.ofNat 3)], .tuple [.int (.ofNat 2), .int (.ofNat 0), .int (.ofNat 3), .int (.ofNat 1)], .tuple [.int (.ofNat 2), .int (.ofNat 1), .int (.ofNat 0), .int (.ofNat 3)], .tuple [.int (.ofNat 2), .int (.ofNat 1), .int (.ofNat 3), .int (.ofNat 0)], .tuple [.int (.ofNat 2), .int (.ofNat 3), .int (.ofNat 0), .int (.ofNat 1)], .tuple [.int (.ofNat 2), .int (.ofNat 3), .int (.ofNat 1), .int (.ofNat 0)], .tuple [.int (.ofNat 3), .int (.ofNat 0), .int (.ofNat 1), .int (.ofNat 2)], .tuple [.int (.ofNat 3), .int (.ofNat 0), .int (.ofNat 2), .int (.ofNat 1)], .tuple [.int (.ofNat 3), .int (.ofNat 1), .int (.ofNat 0), .int (.ofNat 2)], .tuple [.int (.ofNat 3), .int (.ofNat 1), .int (.ofNat 2), .int (.ofNat 0)], .tuple [.int (.ofNat 3), .int (.ofNat 2), .int (.ofNat 0), .int (.ofNat 1)], .tuple [.int (.ofNat 3), .int (.ofNat 2), .int (.ofNat 1), .int (.ofNat 0)]] : List PyData).all fun u => ([.tuple [.int (.ofNat 0), .int (.ofNat 1), .int (.ofNat 2), .int (.ofNat 3)], .tuple [.int (.ofNat 0), .int (.ofNat 1), .int (.ofNat 3), .int (.ofNat 2)], .tuple [.int (.ofNat 0), .int (.ofNat 2), .int (.ofNat 1), .int (.ofNat 3)], .tuple [.int (.ofNat 0), .int (.ofNat 2), .int (.ofNat 3), .int (.ofNat 1)], .tuple [.int (.ofNat 0), .int (.ofNat 3), .int (.ofNat 1), .int (.ofNat 2)], .tuple [.int (.ofNat 0), .int (.ofNat 3), .int (.ofNat 2), .int (.ofNat 1)], .tuple [.int (.ofNat 1), .int (.ofNat 0), .int (.ofNat 2), .int (.ofNat 3)], .tuple [.int (.ofNat 1), .int (.ofNat 0), .int (.ofNat 3), .int (.ofNat 2)], .tuple [.int (.ofNat 1), .int (.ofNat 2), .int (.ofNat 0), .int (.ofNat 3)], .tuple [.int (.ofNat 1), .int (.ofNat 2), .int (.ofNat 3), .int (.ofNat 0)], .tuple [.int (.ofNat 1), .int (.ofNat 3), .int (.ofNat 0), .int (.ofNat 2)], .tuple [.int (.ofNat 1), .int (.ofNat 3), .int (.ofNat 2), .int (.ofNat 0)], .tuple [.int (.ofNat 2), .int (.ofNat 0), .int (.ofNat 1), .int (.ofNat 3)], .tuple [.int (.ofNat 2), .int (.ofNat 0), .int (.ofNat 3), .int (.ofNat 1)], .tuple [.int (.ofNat 2), .int (.ofNat 1), .int (.ofNat 0), .int (.ofNat 3)], .tuple [.int (.ofNat 2), .int (.ofNat 1), .int (.ofNat 3), .int (.ofNat 0)], .tuple [.int (.ofNat 2), .int (.ofNat 3), .int (.ofNat 0), .int (.ofNat 1)], .tuple [.int (.ofNat 2), .int (.ofNat 3), .int (.ofNat 1), .int (.ofNat 0)], .tuple [.int (.ofNat 3), .int (.ofNat 0), .int (.ofNat 1), .int (.ofNat 2)], .tuple [.int (.ofNat 3), .int (.ofNat 0), .int (.ofNat 2), .int (.ofNat 1)], .tuple [.int (.ofNat 3), .int (.ofNat 1), .int (.ofNat 0), .int (.ofNat 2)], .tuple [.int (.ofNat 3), .int (.ofNat 1), .int (.ofNat 2), .int (.ofNat 0)], .tuple [.int (.ofNat 3), .int (.ofNat 2), .int (.ofNat 0), .int (.ofNat 1)], .tuple [.int (.ofNat 3), .int (.ofNat 2), .int (.ofNat 1), .int (.ofNat 0)]] : List PyData).all fun w => okC x u w) = true := by decide +kernel
/-! k50: the laps -/
def I (S : T) (b : Nat) (δ : List T) : Prop := ∃ s q m x l u w a, δ = [S, s, q, m, x, l, u, w, a] ∧ StOk b s
theorem drawC : DrawOk C.call 25 := by
  rw [C_eq]
  exact draw_at (P := Lw.P) (k := 17) (i := 24) (by kernel_rfl) (by kernel_rfl)
theorem pickC : PickOk C.call 26 := by
  rw [C_eq]
  exact pickC_at (P := Lw.P) (k := 16) (i := 24) (j := 25) (by kernel_rfl) (by kernel_rfl) (by kernel_rfl)
theorem frP : FrP Lw.P 29 30 31 32 := ⟨by kernel_rfl, by kernel_rfl, by kernel_rfl, by kernel_rfl, by kernel_rfl⟩
theorem opT_ok {x u A : PyData} (h : opT x u = some A) : C.call 22 [.d x, .d u] = .ok (.d A) [.un, .un] := by
  unfold opT at h
  split at h
  · rename_i A' e
    simp only [Option.some.injEq] at h
    subst h
    rw [C_eq]
    exact tp_ok _ (lookE_in e)
  · cases h
theorem isT_ok {D : PyData} (h : isT D = true) : C.call 28 [.d D, .d D] = .ok (.d (.bool true)) [.un, .un] := by
  unfold isT at h
  split at h
  · rename_i e
    rw [C_eq]
    exact ti_ok _ (lookE_in e)
  · cases h
theorem comb_ok {x u w : PyData} (h : okC x u w = true) (S s q n l a : T) : exe C (nthS lapB 3) [S, s, q, n, .d x, l, .d u, .d w, a] = .nx [S, s, q, n, .d x, l, .d u, .d w, a] := by
  unfold okC at h
  split at h
  · rename_i z hz
    split at h
    · rename_i A hA
      split at h
      · rename_i B hB
        split at h
        · rename_i D hD
          split at h
          · rename_i D' hM
            split at h
            · rename_i hq
              have hq := pq_eq _ _ hq
              subst hq
              have c1 : C.call 35 [.d u, .d w] = .ok (.d z) [.un, .un] := by
                rw [C_eq]
                exact after_ok (P := Lw.P) (j := 35) (k := 18) (by kernel_rfl) hz
              have c2 : C.call 39 [.d A, .d B] = .ok (.d D) [.un, .un] := by
                rw [C_eq]
                exact mult_ok (P := Lw.P) (k := 14) (m := 39) (tt := 33) frP (by kernel_rfl) (by kernel_rfl) hM
              have e1 := callE2 (C := C) (j := 35) (δ := [S, s, q, n, .d x, l, .d u, .d w, a]) (by kernel_rfl) (by kernel_rfl) (arg_v (i := 6) rfl) (arg_v (i := 7) rfl) rfl rfl c1
              have e2 := callE2 (C := C) (j := 22) (δ := [S, s, q, n, .d x, l, .d u, .d w, a]) (by kernel_rfl) (by kernel_rfl) (arg_v (i := 4) rfl) (arg_nnd rfl e1) rfl rfl (opT_ok hD)
              have e3 := callE2 (C := C) (j := 22) (δ := [S, s, q, n, .d x, l, .d u, .d w, a]) (by kernel_rfl) (by kernel_rfl) (arg_v (i := 4) rfl) (arg_v (i := 6) rfl) rfl rfl (opT_ok hA)
              have e4 := callE2 (C := C) (j := 22) (δ := [S, s, q, n, .d x, l, .d u, .d w, a]) (by kernel_rfl) (by kernel_rfl) (arg_v (i := 4) rfl) (arg_v (i := 7) rfl) rfl rfl (opT_ok hB)
              have e5 := callE2 (C := C) (j := 39) (δ := [S, s, q, n, .d x, l, .d u, .d w, a]) (by kernel_rfl) (by kernel_rfl) (arg_nnd rfl e3) (arg_nnd rfl e4) rfl rfl c2
              have e6 := callE2 (C := C) (j := 28) (δ := [S, s, q, n, .d x, l, .d u, .d w, a]) (by kernel_rfl) (by kernel_rfl) (arg_nnd rfl e2) (arg_nnd rfl e5) rfl rfl (isT_ok h)
              exact (ite_f (not_t e6)).trans rfl
            · cases h
          · cases h
        · cases h
      · cases h
    · cases h
  · cases h
theorem lapN {n : Nat} {xs zs : List PyData} (hc : C.call 37 [.d (.int (.ofNat n))] = .ok (.lst (xs.map .d)) [.un]) (hc2 : C.call 34 [.d (.int (.ofNat n))] = .ok (.lst (zs.map .d)) [.un]) (hne : xs ≠ []) (hl : xs.length < 1000000) (hne2 : zs ≠ []) (hl2 : zs.length < 1000000)
    (hA : ∀ x ∈ xs, ∀ S s q l u w a, exes C (.cons (nthS lapB 2) .nil) [S, s, q, .d (.int (.ofNat n)), .d x, l, u, w, a] = .nx [S, s, q, .d (.int (.ofNat n)), .d x, l, u, w, a])
    (hB : (xs.all fun x => zs.all fun u => zs.all fun w => okC x u w) = true)
    (hE : ∀ x ∈ xs, ∀ b S s q l u w a, StOk b s → b < 500000000 → ∃ s' a', exe C (nthS lapB 4) [S, s, q, .d (.int (.ofNat n)), .d x, l, u, w, a] = .nx [S, s', q, .d (.int (.ofNat n)), .d x, l, u, w, a'] ∧ StOk (b + 1) s')
    {b : Nat} {S s q x0 l u0 w0 a : T} (hs : StOk b s) (hb : b < 200000000) : ∃ δ2, exes C (dropS lapB 1) [S, s, q, .d (.int (.ofNat n)), x0, l, u0, w0, a] = .nx δ2 ∧ I S (b + 4) δ2 := by
  obtain ⟨x, s1, hx, hs1, e1⟩ := pick_lst (C := C) (p := 26) (j := 37) (i := 1) (m := 3) (δ := [S, s, q, .d (.int (.ofNat n)), x0, l, u0, w0, a]) pickC (by kernel_rfl) (by kernel_rfl) (by kernel_rfl) (by kernel_rfl) rfl hs (by omega) rfl rfl hc hne hl
  obtain ⟨u, s2, hu, hs2, e2⟩ := pick_lst (C := C) (p := 26) (j := 34) (i := 1) (m := 3) (δ := [S, s1, q, .d (.int (.ofNat n)), x0, l, u0, w0, a]) pickC (by kernel_rfl) (by kernel_rfl) (by kernel_rfl) (by kernel_rfl) rfl hs1 (by omega) rfl rfl hc2 hne2 hl2
  obtain ⟨w, s3, hw, hs3, e3⟩ := pick_lst (C := C) (p := 26) (j := 34) (i := 1) (m := 3) (δ := [S, s2, q, .d (.int (.ofNat n)), x0, l, u0, w0, a]) pickC (by kernel_rfl) (by kernel_rfl) (by kernel_rfl) (by kernel_rfl) rfl hs2 (by omega) rfl rfl hc2 hne2 hl2
  have a1 := hA x hx S s3 q l (.d u) (.d w) a
  have ho : okC x u w = true := List.all_eq_true.mp (List.all_eq_true.mp (List.all_eq_true.mp hB x hx) u hu) w hw
  have a2 := comb_ok ho S s3 q (.d (.int (.ofNat n))) l a
  obtain ⟨s4, a', a3, hs4⟩ := hE x hx _ S s3 q l (.d u) (.d w) a hs3 (by omega)
  refine ⟨[S, s4, q, .d (.int (.ofNat n)), .d x, l, .d u, .d w, a'], ?_, ⟨s4, q, _, _, l, _, _, a', rfl, hs4⟩⟩
  show exes C (.cons (nthS lapB 1) (appS (.cons (nthS lapB 2) .nil) (.cons (nthS lapB 3) (.cons (nthS lapB 4) .nil)))) _ = _
  refine (exes_nx (set_nx (δ'' := [S, s3, q, .d (.int (.ofNat n)), .d x, l, .d u, .d w, a]) (tup3 e1 e2 e3) rfl)).trans ?_
  exact (exes_app a1).trans ((exes_nx a2).trans (exes_one a3))
theorem e_1 : ∀ x : PyData, ∀ b S s q l u w a, StOk b s → b < 500000000 → ∃ s' a', exe C (nthS lapB 4) [S, s, q, .d (.int (.ofNat 1)), .d x, l, u, w, a] = .nx [S, s', q, .d (.int (.ofNat 1)), .d x, l, u, w, a'] ∧ StOk (b + 1) s' := fun x b S s q l u w a hs hb => by
  refine ⟨s, a, ?_, ?_⟩
  · have h := fE1 S s q (.d x) l u w a
    have h' : sSeq (exe C (nthS lapB 4)) (exes C .nil) [S, s, q, .d (.int (.ofNat 1)), .d x, l, u, w, a] = .nx [S, s, q, .d (.int (.ofNat 1)), .d x, l, u, w, a] := h
    have h0 : exe C (nthS lapB 4) [S, s, q, .d (.int (.ofNat 1)), .d x, l, u, w, a] = exes C .nil [S, s, q, .d (.int (.ofNat 1)), .d x, l, u, w, a] := ite_f (rfl : den C (.cmp .gt (.v 3) (.k (.int (.ofNat 1)))) [S, s, q, .d (.int (.ofNat 1)), .d x, l, u, w, a] = .ok (.d (.bool false)) _)
    exact h0.trans rfl
  · obtain ⟨gs, cs, c, r, t, h1, h2, h3, h4, h5, h6⟩ := hs
    exact ⟨gs, cs, c, r, t, h1, h2, h3, h4, by omega, h6⟩
theorem e_n {n : Nat} {xs ats : List PyData} (hn : 2 ≤ n) (hn4 : n ≤ 4) (hat : ∀ v : Int, 0 ≤ v → v < (n : Int) - 1 → PyData.int v ∈ ats)
    (hE : ∀ x ∈ xs, ∀ a ∈ ats, ∀ S s q l u w, exes C (.cons (nthS (iteA (nthS lapB 4)) 1) .nil) [S, s, q, .d (.int (.ofNat n)), .d x, l, u, w, .d a] = .nx [S, s, q, .d (.int (.ofNat n)), .d x, l, u, w, .d a]) :
    ∀ x ∈ xs, ∀ b S s q l u w a, StOk b s → b < 500000000 → ∃ s' a', exe C (nthS lapB 4) [S, s, q, .d (.int (.ofNat n)), .d x, l, u, w, a] = .nx [S, s', q, .d (.int (.ofNat n)), .d x, l, u, w, a'] ∧ StOk (b + 1) s' := fun x hx b S s q l u w a hs hb => by
  obtain ⟨v, s1, hc, h0, h4, hs1⟩ := drawC b s ((n : Int) - 1) hs (by omega) (by omega) (by omega)
  have he : den C (.bin .sub (.v 3) (.k (.int (.ofNat 1)))) [S, s, q, .d (.int (.ofNat n)), .d x, l, u, w, a] = .ok (.d (.int ((n : Int) - 1))) [S, s, q, .d (.int (.ofNat n)), .d x, l, u, w, a] := bin_sub (od_v rfl) od_k
  have hcall := call_lentG (C := C) (i := 1) (j := 25) (e := .bin .sub (.v 3) (.k (.int (.ofNat 1)))) (δ := [S, s, q, .d (.int (.ofNat n)), .d x, l, u, w, a]) (by kernel_rfl) (by kernel_rfl) rfl (own_st hs) (arg_nnd rfl he) rfl hc
  have hE' := hE x hx (.int v) (hat v h0 h4) S s1 q l u w
  refine ⟨s1, .d (.int v), ?_, hs1⟩
  have c1 : den C (.cmp .gt (.v 3) (.k (.int (.ofNat 1)))) [S, s, q, .d (.int (.ofNat n)), .d x, l, u, w, a] = .ok (.d (.bool (decide ((1 : Int) < (n : Int))))) [S, s, q, .d (.int (.ofNat n)), .d x, l, u, w, a] := rfl
  rw [decide_eq_true (by omega)] at c1
  have h1 : exe C (nthS lapB 4) [S, s, q, .d (.int (.ofNat n)), .d x, l, u, w, a] = exes C (.cons (nthS (iteA (nthS lapB 4)) 0) (.cons (nthS (iteA (nthS lapB 4)) 1) .nil)) [S, s, q, .d (.int (.ofNat n)), .d x, l, u, w, a] := ite_t c1
  rw [h1]
  exact (exes_nx (set_nx hcall rfl)).trans hE'
theorem lap {b : Nat} {S s q m x l u w a : T} (hs : StOk b s) (hb : b < 100000000) : ∃ δ2, exes C lapB [S, s, q, m, x, l, u, w, a] = .nx δ2 ∧ I S (b + 5) δ2 := by
  obtain ⟨v, s1, hc, h0, h4, hs1⟩ := drawC b s 4 hs (by omega) (by decide) (by decide)
  have hcall := call_lentG (C := C) (i := 1) (j := 25) (e := kN 4) (δ := [S, s, q, m, x, l, u, w, a]) (by kernel_rfl) (by kernel_rfl) rfl (own_st hs) (rfl : arg (kN 4) (den C (kN 4)) [S, s, q, m, x, l, u, w, a] = .ok (.val (.d (.int 4))) _) rfl hc
  have e1 : exes C lapB [S, s, q, m, x, l, u, w, a] = exes C (dropS lapB 1) [S, s1, q, .d (.int (.ofNat 1 + v)), x, l, u, w, a] := exes_nx (set_nx (add_draw rfl hcall) rfl)
  rw [e1]
  have : v = 0 ∨ v = 1 ∨ v = 2 ∨ v = 3 := by omega
  rcases this with rfl | rfl | rfl | rfl
  · exact lapN (n := 1) hs_1 ho_1 (by simp) (by decide) (by simp) (by decide) hA_1 cb_1 (fun x _ => e_1 x) hs1 (by omega)
  · exact lapN (n := 2) hs_2 ho_2 (by simp) (by decide) (by simp) (by decide) hA_2 cb_2 (e_n (by omega) (by omega) (fun v h1 h2 => by
      have : v = 0 := by omega
      subst this
      simp) hE_2) hs1 (by omega)
  · exact lapN (n := 3) hs_3 ho_3 (by simp) (by decide) (by simp) (by decide) hA_3 cb_3 (e_n (by omega) (by omega) (fun v h1 h2 => by
      have : v = 0 ∨ v = 1 := by omega
      rcases this with rfl | rfl <;> simp) hE_3) hs1 (by omega)
  · exact lapN (n := 4) hs_4 ho_4 (by simp) (by decide) (by simp) (by decide) hA_4 cb_4 (e_n (by omega) (by omega) (fun v h1 h2 => by
      have : v = 0 ∨ v = 1 ∨ v = 2 := by omega
      rcases this with rfl | rfl | rfl <;> simp) hE_4) hs1 (by omega)
theorem head (S s : T) : ∃ q m, exes C secH [S, s, .un, .un, .un, .un, .un, .un, .un] = .nx [S, s, q, m, .un, .un, .un, .un, .un] := ⟨_, _, fH S s⟩
theorem law_ok (ns : List Int) (hn : ns.length ≤ 63) : ∃ us, Lw.P.call 20 44 [.fz (ns.map .int)] = .ok (.d (.bool true)) us ∧ us.length = 1 := by
  have e0 : Lw.P.call 20 44 [.fz (ns.map .int)] = runFn C Lw.f44 [.fz (ns.map .int)] := by
    rw [C_eq]
    kernel_rfl
  obtain ⟨s, hb, hs⟩ : ∃ s, C.call 23 [.fz (ns.map .int)] = .ok s [.un] ∧ StOk 0 s := by
    rw [C_eq]
    exact begun_at (P := Lw.P) (i := 23) (k := 18) (by kernel_rfl) hn
  generalize hS : (T.fz (ns.map .int)) = S at *
  have e1 : den C (.call 23 (.cons (.v 0) .nil) .nil) [S, .un, .un, .un, .un, .un, .un, .un, .un] = .ok s [S, .un, .un, .un, .un, .un, .un, .un, .un] := by
    subst hS
    exact den_call1 (by kernel_rfl) (by kernel_rfl) rfl rfl hb
  obtain ⟨q, m0, hq⟩ := head S s
  obtain ⟨n, hn1, hit⟩ := itm_laps (C := C) (xs := ns.map .int) (δ := [S, s, q, m0, .un, .un, .un, .un, .un]) 5 7 (by rw [← hS]; rfl) (by decide)
  obtain ⟨δ', e3, I3⟩ := laps (f := exes C lapB) (g := .nm 5) (I := I S) (c := 5) (fun b i δ hI hb => by
    obtain ⟨s, q, m, x, l, u, w, a, rfl, hs⟩ := hI
    obtain ⟨δ2, e, I2⟩ := lap (S := S) (q := q) (m := m) (x := x) (l := .d (.int i)) (u := u) (w := w) (a := a) hs hb
    exact ⟨_, δ2, rfl, e, I2⟩) n 0 0 [S, s, q, m0, .un, .un, .un, .un, .un] ⟨s, q, m0, .un, .un, .un, .un, .un, rfl, hs⟩ (by omega)
  obtain ⟨s3, q3, m, x, l, u, w, a, rfl, _⟩ := I3
  have body : exes C Lw.f44.body ([S] ++ List.replicate (Lw.f44.ns - Lw.f44.np) .un) = .ret (.d (.bool true)) [S, s3, q3, m, x, l, u, w, a] := by
    show exes C (.cons (nthS Lw.f44.body 0) (appS secH (.cons (nthS Lw.f44.body 5) (.cons (nthS Lw.f44.body 6) .nil)))) [S, .un, .un, .un, .un, .un, .un, .un, .un] = _
    refine (exes_nx (set_nx e1 rfl)).trans ?_
    refine (exes_app hq).trans ?_
    exact (exes_nx (fr_nx hit e3)).trans rfl
  refine ⟨[.un], ?_, rfl⟩
  rw [e0]
  unfold runFn
  rw [body]
  rfl
end Lw
set_option maxRecDepth 100000
namespace Hd
open PySem PySem.Spec PyProof.Rows L2 Ev
def top (i : Nat) : Stmt := PySem.Challenge.pw_shufflebook_k50_whole_squares_of_orders.main.body.getD i (.Pass ⟨0, 0, 0, 0⟩)
def dArgs : Stmt → Arguments | .FunctionDef _ a _ _ _ _ _ _ _ _ => a | _ => default
def dBody : Stmt → List Stmt | .FunctionDef _ _ b _ _ _ _ _ _ _ => b | _ => []
def dScope : Stmt → Scope | .FunctionDef _ _ _ _ _ _ s _ _ _ => s | _ => default
def mkD (x nm : Str) (i : Nat) (dfl : List He.Dv) : He.DefD := ⟨(x, none), nm, nm, dArgs (top i), dBody (top i), dScope (top i), dfl, []⟩
def d0 : He.DefD := mkD "is_whole" "is_whole" 7 []
def d1 : He.DefD := mkD "is_below" "is_below" 8 []
def d2 : He.DefD := mkD "number" "number" 12 [.int 1]
def d3 : He.DefD := mkD "plus" "plus" 13 []
def d4 : He.DefD := mkD "times" "times" 14 []
def d5 : He.DefD := mkD "is_like" "is_like" 16 []
def d6 : He.DefD := mkD "need_many" "need_many" 19 []
def d7 : He.DefD := mkD "need_order" "need_order" 20 []
def d8 : He.DefD := mkD "grown" "grown" 21 []
def d9 : He.DefD := mkD "shapes_of" "shapes_of" 22 []
def d10 : He.DefD := mkD "shapes" "shapes" 23 []
def d11 : He.DefD := mkD "need_shape" "need_shape" 24 []
def d12 : He.DefD := mkD "fillings_of" "fillings_of" 25 []
def d13 : He.DefD := mkD "fillings" "fillings" 26 []
def d14 : He.DefD := mkD "lean_of" "lean_of" 27 []
def d15 : He.DefD := mkD "swap_square" "swap_square" 28 []
def d16 : He.DefD := mkD "multiplied" "multiplied" 29 []
def d17 : He.DefD := mkD "total_of" "total_of" 30 []
def d18 : He.DefD := mkD "unit_square" "unit_square" 31 []
def d19 : He.DefD := mkD "swaps_of" "swaps_of" 32 []
def d20 : He.DefD := mkD "square_of" "square_of" 33 []
def d21 : He.DefD := mkD "told_square" "told_square" 34 []
def d22 : He.DefD := mkD "order_part" "order_part" 35 []
def d23 : He.DefD := mkD "_law_begun" "_law_begun" 37 []
def d24 : He.DefD := mkD "_law_mixed" "_law_mixed" 38 []
def d25 : He.DefD := mkD "_law_draw" "_law_draw" 39 []
def d26 : He.DefD := mkD "_law_pick" "_law_pick" 40 []
def d27 : He.DefD := mkD "_law_plain" "_law_plain" 41 []
def d28 : He.DefD := mkD "_law_is" "_law_is" 42 []
def d29 : He.DefD := mkD "_law_common" "_law_common" 43 []
def d30 : He.DefD := mkD "_law_no" "_law_no" 44 []
def d31 : He.DefD := mkD "_law_plus" "_law_plus" 45 []
def d32 : He.DefD := mkD "_law_times" "_law_times" 46 []
def d33 : He.DefD := mkD "_law_total" "_law_total" 47 []
def d34 : He.DefD := mkD "_law_orders" "_law_orders" 48 []
def d35 : He.DefD := mkD "_law_after" "_law_after" 49 []
def d36 : He.DefD := mkD "_law_wide" "_law_wide" 50 []
def d37 : He.DefD := mkD "_law_shapes" "_law_shapes" 51 []
def d38 : He.DefD := mkD "_law_swap" "_law_swap" 52 []
def d39 : He.DefD := mkD "_law_multiplied" "_law_multiplied" 53 []
def d40 : He.DefD := mkD "_law_unit_square" "_law_unit_square" 54 []
def d41 : He.DefD := mkD "_law_fillings" "_law_fillings" 55 []
def d42 : He.DefD := mkD "_law_lean" "_law_lean" 56 []
def d43 : He.DefD := mkD "_law_swap_square" "_law_swap_square" 57 []
def d44 : He.DefD := mkD "law" "law" 58 []
def fn : List He.DefD := [d0, d1, d2, d3, d4, d5, d6, d7, d8, d9, d10, d11, d12, d13, d14, d15, d16, d17, d18, d19, d20, d21, d22, d23, d24, d25, d26, d27, d28, d29, d30, d31, d32, d33, d34, d35, d36, d37, d38, d39, d40, d41, d42, d43, d44]
def D : HD := ⟨fn, Lw.con, Lw.gd, Lw.dfs, Lw.bln, Lw.gcds⟩
def loose0 : List Str := (["ShuffleError", "NoThings", "NoOrder", "NoShape", "is_whole", "is_below", "ZERO", "ONE", "number", "plus", "times", "is_like", "MOST_THINGS", "need_many", "need_order", "grown", "shapes_of", "shapes", "need_shape", "fillings_of", "fillings", "lean_of", "swap_square", "multiplied", "total_of", "unit_square", "swaps_of", "square_of", "told_square", "order_part", "_law_begun", "_law_mixed", "_law_draw", "_law_pick", "_law_plain"] : List String).map Str.ofString
def loose1 : List Str := (["_law_is", "_law_common", "_law_no", "_law_plus", "_law_times", "_law_total", "_law_orders", "_law_after", "_law_wide", "_law_shapes", "_law_swap", "_law_multiplied", "_law_unit_square", "_law_fillings", "_law_lean", "_law_swap_square"] : List String).map Str.ofString
def loose : List Str := loose0 ++ loose1
abbrev R : PySem.W.OpenRow := PySem.W.OpenLaw.row PySem.Challenge.rw_shufflebook_k50_whole_squares_of_orders
abbrev hk : PySem.W.Hook := hookE 4 D
def ob (s : PySem.W.SharedT) : He.AlD := obsEG 4 D (HandSHeadRun.getT s)
theorem ob_eq (s : PySem.W.SharedT) : ob s = hk.obs s.abs := obsEG_eq (HandSHeadRun.getT_eq s)
set_option maxHeartbeats 0 in
theorem run (w : World) : HandSHeadRun.RunEqI R (PySem.W.view R.prog [0, 58]) hk ob 4000 loose w := by
  unfold HandSHeadRun.RunEqI
  kernel_rfl
theorem text : defsB ⟨[], [], D.con, D.dfs, Lw.shp, D.bln, D.gcds⟩ Lw.P.fns D.fn Lw.Ns = true := by decide +kernel
theorem sh0 : ShOk D Lw.P (0, 1, []) := ⟨d0, Lw.f0, rfl, rfl, fun K fd F => ⟨[], [], bindsG_0 F (fun _ _ _ _ _ _ us ws hu hw => match us, ws, hu, hw with | [_], [], _, _ => rfl), .nil, fun _ _ _ => .nil, rfl⟩⟩
theorem sh1 : ShOk D Lw.P (1, 2, []) := ⟨d1, Lw.f1, rfl, rfl, fun K fd F => ⟨[], [], bindsG_0 F (fun _ _ _ _ _ _ us ws hu hw => match us, ws, hu, hw with | [_, _], [], _, _ => rfl), .nil, fun _ _ _ => .nil, rfl⟩⟩
theorem sh2 : ShOk D Lw.P (2, 2, []) := ⟨d2, Lw.f2, rfl, rfl, fun K fd F => by
  obtain ⟨ds, h1, h2⟩ := bindsG_1 (ps := psOf d2) (ks := []) (n := 2) 1 F (by intro h; cases h) (fun _ _ _ _ _ _ _ us ws its hu hw hi => match us, ws, its, hu, hw, hi with | [_, _], [], [_], _, _, _ => ⟨_, rfl, rfl⟩)
  exact ⟨_, ds, h1, h2, fun _ _ _ => .nil, rfl⟩⟩
theorem sh3 : ShOk D Lw.P (3, 2, []) := ⟨d3, Lw.f3, rfl, rfl, fun K fd F => ⟨[], [], bindsG_0 F (fun _ _ _ _ _ _ us ws hu hw => match us, ws, hu, hw with | [_, _], [], _, _ => rfl), .nil, fun _ _ _ => .nil, rfl⟩⟩
theorem sh4 : ShOk D Lw.P (4, 2, []) := ⟨d4, Lw.f4, rfl, rfl, fun K fd F => ⟨[], [], bindsG_0 F (fun _ _ _ _ _ _ us ws hu hw => match us, ws, hu, hw with | [_, _], [], _, _ => rfl), .nil, fun _ _ _ => .nil, rfl⟩⟩
theorem sh5 : ShOk D Lw.P (5, 2, []) := ⟨d5, Lw.f5, rfl, rfl, fun K fd F => ⟨[], [], bindsG_0 F (fun _ _ _ _ _ _ us ws hu hw => match us, ws, hu, hw with | [_, _], [], _, _ => rfl), .nil, fun _ _ _ => .nil, rfl⟩⟩
theorem sh6 : ShOk D Lw.P (6, 1, []) := ⟨d6, Lw.f6, rfl, rfl, fun K fd F => ⟨[], [], bindsG_0 F (fun _ _ _ _ _ _ us ws hu hw => match us, ws, hu, hw with | [_], [], _, _ => rfl), .nil, fun _ _ _ => .nil, rfl⟩⟩
theorem sh7 : ShOk D Lw.P (7, 1, []) := ⟨d7, Lw.f7, rfl, rfl, fun K fd F => ⟨[], [], bindsG_0 F (fun _ _ _ _ _ _ us ws hu hw => match us, ws, hu, hw with | [_], [], _, _ => rfl), .nil, fun _ _ _ => .nil, rfl⟩⟩
theorem sh8 : ShOk D Lw.P (8, 1, []) := ⟨d8, Lw.f8, rfl, rfl, fun K fd F => ⟨[], [], bindsG_0 F (fun _ _ _ _ _ _ us ws hu hw => match us, ws, hu, hw with | [_], [], _, _ => rfl), .nil, fun _ _ _ => .nil, rfl⟩⟩
theorem sh9 : ShOk D Lw.P (9, 1, []) := ⟨d9, Lw.f9, rfl, rfl, fun K fd F => ⟨[], [], bindsG_0 F (fun _ _ _ _ _ _ us ws hu hw => match us, ws, hu, hw with | [_], [], _, _ => rfl), .nil, fun _ _ _ => .nil, rfl⟩⟩
theorem sh10 : ShOk D Lw.P (10, 0, [.ofString "things"]) := ⟨d10, Lw.f10, rfl, rfl, fun K fd F => ⟨[], [], bindsG_0 F (fun _ _ _ _ _ _ us ws hu hw => match us, ws, hu, hw with | [], [_], _, _ => rfl), .nil, fun _ _ _ => .nil, rfl⟩⟩
theorem sh11 : ShOk D Lw.P (10, 1, []) := ⟨d10, Lw.f10, rfl, rfl, fun K fd F => ⟨[], [], bindsG_0 F (fun _ _ _ _ _ _ us ws hu hw => match us, ws, hu, hw with | [_], [], _, _ => rfl), .nil, fun _ _ _ => .nil, rfl⟩⟩
theorem sh12 : ShOk D Lw.P (11, 1, []) := ⟨d11, Lw.f11, rfl, rfl, fun K fd F => ⟨[], [], bindsG_0 F (fun _ _ _ _ _ _ us ws hu hw => match us, ws, hu, hw with | [_], [], _, _ => rfl), .nil, fun _ _ _ => .nil, rfl⟩⟩
theorem sh13 : ShOk D Lw.P (12, 1, []) := ⟨d12, Lw.f12, rfl, rfl, fun K fd F => ⟨[], [], bindsG_0 F (fun _ _ _ _ _ _ us ws hu hw => match us, ws, hu, hw with | [_], [], _, _ => rfl), .nil, fun _ _ _ => .nil, rfl⟩⟩
theorem sh14 : ShOk D Lw.P (13, 1, []) := ⟨d13, Lw.f13, rfl, rfl, fun K fd F => ⟨[], [], bindsG_0 F (fun _ _ _ _ _ _ us ws hu hw => match us, ws, hu, hw with | [_], [], _, _ => rfl), .nil, fun _ _ _ => .nil, rfl⟩⟩
theorem sh15 : ShOk D Lw.P (14, 2, []) := ⟨d14, Lw.f14, rfl, rfl, fun K fd F => ⟨[], [], bindsG_0 F (fun _ _ _ _ _ _ us ws hu hw => match us, ws, hu, hw with | [_, _], [], _, _ => rfl), .nil, fun _ _ _ => .nil, rfl⟩⟩
theorem sh16 : ShOk D Lw.P (15, 2, []) := ⟨d15, Lw.f15, rfl, rfl, fun K fd F => ⟨[], [], bindsG_0 F (fun _ _ _ _ _ _ us ws hu hw => match us, ws, hu, hw with | [_, _], [], _, _ => rfl), .nil, fun _ _ _ => .nil, rfl⟩⟩
theorem sh17 : ShOk D Lw.P (16, 2, []) := ⟨d16, Lw.f16, rfl, rfl, fun K fd F => ⟨[], [], bindsG_0 F (fun _ _ _ _ _ _ us ws hu hw => match us, ws, hu, hw with | [_, _], [], _, _ => rfl), .nil, fun _ _ _ => .nil, rfl⟩⟩
theorem sh18 : ShOk D Lw.P (17, 1, []) := ⟨d17, Lw.f17, rfl, rfl, fun K fd F => ⟨[], [], bindsG_0 F (fun _ _ _ _ _ _ us ws hu hw => match us, ws, hu, hw with | [_], [], _, _ => rfl), .nil, fun _ _ _ => .nil, rfl⟩⟩
theorem sh19 : ShOk D Lw.P (18, 1, []) := ⟨d18, Lw.f18, rfl, rfl, fun K fd F => ⟨[], [], bindsG_0 F (fun _ _ _ _ _ _ us ws hu hw => match us, ws, hu, hw with | [_], [], _, _ => rfl), .nil, fun _ _ _ => .nil, rfl⟩⟩
theorem sh20 : ShOk D Lw.P (19, 1, []) := ⟨d19, Lw.f19, rfl, rfl, fun K fd F => ⟨[], [], bindsG_0 F (fun _ _ _ _ _ _ us ws hu hw => match us, ws, hu, hw with | [_], [], _, _ => rfl), .nil, fun _ _ _ => .nil, rfl⟩⟩
theorem sh21 : ShOk D Lw.P (20, 2, []) := ⟨d20, Lw.f20, rfl, rfl, fun K fd F => ⟨[], [], bindsG_0 F (fun _ _ _ _ _ _ us ws hu hw => match us, ws, hu, hw with | [_, _], [], _, _ => rfl), .nil, fun _ _ _ => .nil, rfl⟩⟩
theorem sh22 : ShOk D Lw.P (21, 1, []) := ⟨d21, Lw.f21, rfl, rfl, fun K fd F => ⟨[], [], bindsG_0 F (fun _ _ _ _ _ _ us ws hu hw => match us, ws, hu, hw with | [_], [], _, _ => rfl), .nil, fun _ _ _ => .nil, rfl⟩⟩
theorem sh23 : ShOk D Lw.P (22, 0, [.ofString "shape", .ofString "order"]) := ⟨d22, Lw.f22, rfl, rfl, fun K fd F => ⟨[], [], bindsG_0 F (fun _ _ _ _ _ _ us ws hu hw => match us, ws, hu, hw with | [], [_, _], _, _ => rfl), .nil, fun _ _ _ => .nil, rfl⟩⟩
theorem sh24 : ShOk D Lw.P (22, 2, []) := ⟨d22, Lw.f22, rfl, rfl, fun K fd F => ⟨[], [], bindsG_0 F (fun _ _ _ _ _ _ us ws hu hw => match us, ws, hu, hw with | [_, _], [], _, _ => rfl), .nil, fun _ _ _ => .nil, rfl⟩⟩
theorem sh25 : ShOk D Lw.P (23, 1, []) := ⟨d23, Lw.f23, rfl, rfl, fun K fd F => ⟨[], [], bindsG_0 F (fun _ _ _ _ _ _ us ws hu hw => match us, ws, hu, hw with | [_], [], _, _ => rfl), .nil, fun _ _ _ => .nil, rfl⟩⟩
theorem sh26 : ShOk D Lw.P (24, 1, []) := ⟨d24, Lw.f24, rfl, rfl, fun K fd F => ⟨[], [], bindsG_0 F (fun _ _ _ _ _ _ us ws hu hw => match us, ws, hu, hw with | [_], [], _, _ => rfl), .nil, fun _ _ _ => .nil, rfl⟩⟩
theorem sh27 : ShOk D Lw.P (25, 2, []) := ⟨d25, Lw.f25, rfl, rfl, fun K fd F => ⟨[], [], bindsG_0 F (fun _ _ _ _ _ _ us ws hu hw => match us, ws, hu, hw with | [_, _], [], _, _ => rfl), .nil, fun _ _ _ => .nil, rfl⟩⟩
theorem sh28 : ShOk D Lw.P (26, 2, []) := ⟨d26, Lw.f26, rfl, rfl, fun K fd F => ⟨[], [], bindsG_0 F (fun _ _ _ _ _ _ us ws hu hw => match us, ws, hu, hw with | [_, _], [], _, _ => rfl), .nil, fun _ _ _ => .nil, rfl⟩⟩
theorem sh29 : ShOk D Lw.P (27, 1, []) := ⟨d27, Lw.f27, rfl, rfl, fun K fd F => ⟨[], [], bindsG_0 F (fun _ _ _ _ _ _ us ws hu hw => match us, ws, hu, hw with | [_], [], _, _ => rfl), .nil, fun _ _ _ => .nil, rfl⟩⟩
theorem sh30 : ShOk D Lw.P (28, 2, []) := ⟨d28, Lw.f28, rfl, rfl, fun K fd F => ⟨[], [], bindsG_0 F (fun _ _ _ _ _ _ us ws hu hw => match us, ws, hu, hw with | [_, _], [], _, _ => rfl), .nil, fun _ _ _ => .nil, rfl⟩⟩
theorem sh31 : ShOk D Lw.P (29, 2, []) := ⟨d29, Lw.f29, rfl, rfl, fun K fd F => ⟨[], [], bindsG_0 F (fun _ _ _ _ _ _ us ws hu hw => match us, ws, hu, hw with | [_, _], [], _, _ => rfl), .nil, fun _ _ _ => .nil, rfl⟩⟩
theorem sh32 : ShOk D Lw.P (30, 2, []) := ⟨d30, Lw.f30, rfl, rfl, fun K fd F => ⟨[], [], bindsG_0 F (fun _ _ _ _ _ _ us ws hu hw => match us, ws, hu, hw with | [_, _], [], _, _ => rfl), .nil, fun _ _ _ => .nil, rfl⟩⟩
theorem sh33 : ShOk D Lw.P (31, 2, []) := ⟨d31, Lw.f31, rfl, rfl, fun K fd F => ⟨[], [], bindsG_0 F (fun _ _ _ _ _ _ us ws hu hw => match us, ws, hu, hw with | [_, _], [], _, _ => rfl), .nil, fun _ _ _ => .nil, rfl⟩⟩
theorem sh34 : ShOk D Lw.P (32, 2, []) := ⟨d32, Lw.f32, rfl, rfl, fun K fd F => ⟨[], [], bindsG_0 F (fun _ _ _ _ _ _ us ws hu hw => match us, ws, hu, hw with | [_, _], [], _, _ => rfl), .nil, fun _ _ _ => .nil, rfl⟩⟩
theorem sh35 : ShOk D Lw.P (33, 1, []) := ⟨d33, Lw.f33, rfl, rfl, fun K fd F => ⟨[], [], bindsG_0 F (fun _ _ _ _ _ _ us ws hu hw => match us, ws, hu, hw with | [_], [], _, _ => rfl), .nil, fun _ _ _ => .nil, rfl⟩⟩
theorem sh36 : ShOk D Lw.P (34, 1, []) := ⟨d34, Lw.f34, rfl, rfl, fun K fd F => ⟨[], [], bindsG_0 F (fun _ _ _ _ _ _ us ws hu hw => match us, ws, hu, hw with | [_], [], _, _ => rfl), .nil, fun _ _ _ => .nil, rfl⟩⟩
theorem sh37 : ShOk D Lw.P (35, 2, []) := ⟨d35, Lw.f35, rfl, rfl, fun K fd F => ⟨[], [], bindsG_0 F (fun _ _ _ _ _ _ us ws hu hw => match us, ws, hu, hw with | [_, _], [], _, _ => rfl), .nil, fun _ _ _ => .nil, rfl⟩⟩
theorem sh38 : ShOk D Lw.P (36, 1, []) := ⟨d36, Lw.f36, rfl, rfl, fun K fd F => ⟨[], [], bindsG_0 F (fun _ _ _ _ _ _ us ws hu hw => match us, ws, hu, hw with | [_], [], _, _ => rfl), .nil, fun _ _ _ => .nil, rfl⟩⟩
theorem sh39 : ShOk D Lw.P (37, 1, []) := ⟨d37, Lw.f37, rfl, rfl, fun K fd F => ⟨[], [], bindsG_0 F (fun _ _ _ _ _ _ us ws hu hw => match us, ws, hu, hw with | [_], [], _, _ => rfl), .nil, fun _ _ _ => .nil, rfl⟩⟩
theorem sh40 : ShOk D Lw.P (38, 2, []) := ⟨d38, Lw.f38, rfl, rfl, fun K fd F => ⟨[], [], bindsG_0 F (fun _ _ _ _ _ _ us ws hu hw => match us, ws, hu, hw with | [_, _], [], _, _ => rfl), .nil, fun _ _ _ => .nil, rfl⟩⟩
theorem sh41 : ShOk D Lw.P (39, 2, []) := ⟨d39, Lw.f39, rfl, rfl, fun K fd F => ⟨[], [], bindsG_0 F (fun _ _ _ _ _ _ us ws hu hw => match us, ws, hu, hw with | [_, _], [], _, _ => rfl), .nil, fun _ _ _ => .nil, rfl⟩⟩
theorem sh42 : ShOk D Lw.P (40, 1, []) := ⟨d40, Lw.f40, rfl, rfl, fun K fd F => ⟨[], [], bindsG_0 F (fun _ _ _ _ _ _ us ws hu hw => match us, ws, hu, hw with | [_], [], _, _ => rfl), .nil, fun _ _ _ => .nil, rfl⟩⟩
theorem sh43 : ShOk D Lw.P (41, 1, []) := ⟨d41, Lw.f41, rfl, rfl, fun K fd F => ⟨[], [], bindsG_0 F (fun _ _ _ _ _ _ us ws hu hw => match us, ws, hu, hw with | [_], [], _, _ => rfl), .nil, fun _ _ _ => .nil, rfl⟩⟩
theorem sh44 : ShOk D Lw.P (42, 2, []) := ⟨d42, Lw.f42, rfl, rfl, fun K fd F => ⟨[], [], bindsG_0 F (fun _ _ _ _ _ _ us ws hu hw => match us, ws, hu, hw with | [_, _], [], _, _ => rfl), .nil, fun _ _ _ => .nil, rfl⟩⟩
theorem sh45 : ShOk D Lw.P (43, 2, []) := ⟨d43, Lw.f43, rfl, rfl, fun K fd F => ⟨[], [], bindsG_0 F (fun _ _ _ _ _ _ us ws hu hw => match us, ws, hu, hw with | [_, _], [], _, _ => rfl), .nil, fun _ _ _ => .nil, rfl⟩⟩
theorem shs : ∀ p ∈ Lw.shp, ShOk D Lw.P p := List.forall_mem_cons.mpr ⟨sh0, List.forall_mem_cons.mpr ⟨sh1, List.forall_mem_cons.mpr ⟨sh2, List.forall_mem_cons.mpr ⟨sh3, List.forall_mem_cons.mpr ⟨sh4, List.forall_mem_cons.mpr ⟨sh5, List.forall_mem_cons.mpr ⟨sh6, List.forall_mem_cons.mpr ⟨sh7, List.forall_mem_cons.mpr ⟨sh8, List.forall_mem_cons.mpr ⟨sh9, List.forall_mem_cons.mpr ⟨sh10, List.forall_mem_cons.mpr ⟨sh11, List.forall_mem_cons.mpr ⟨sh12, List.forall_mem_cons.mpr ⟨sh13, List.forall_mem_cons.mpr ⟨sh14, List.forall_mem_cons.mpr ⟨sh15, List.forall_mem_cons.mpr ⟨sh16, List.forall_mem_cons.mpr ⟨sh17, List.forall_mem_cons.mpr ⟨sh18, List.forall_mem_cons.mpr ⟨sh19, List.forall_mem_cons.mpr ⟨sh20, List.forall_mem_cons.mpr ⟨sh21, List.forall_mem_cons.mpr ⟨sh22, List.forall_mem_cons.mpr ⟨sh23, List.forall_mem_cons.mpr ⟨sh24, List.forall_mem_cons.mpr ⟨sh25, List.forall_mem_cons.mpr ⟨sh26, List.forall_mem_cons.mpr ⟨sh27, List.forall_mem_cons.mpr ⟨sh28, List.forall_mem_cons.mpr ⟨sh29, List.forall_mem_cons.mpr ⟨sh30, List.forall_mem_cons.mpr ⟨sh31, List.forall_mem_cons.mpr ⟨sh32, List.forall_mem_cons.mpr ⟨sh33, List.forall_mem_cons.mpr ⟨sh34, List.forall_mem_cons.mpr ⟨sh35, List.forall_mem_cons.mpr ⟨sh36, List.forall_mem_cons.mpr ⟨sh37, List.forall_mem_cons.mpr ⟨sh38, List.forall_mem_cons.mpr ⟨sh39, List.forall_mem_cons.mpr ⟨sh40, List.forall_mem_cons.mpr ⟨sh41, List.forall_mem_cons.mpr ⟨sh42, List.forall_mem_cons.mpr ⟨sh43, List.forall_mem_cons.mpr ⟨sh44, List.forall_mem_cons.mpr ⟨sh45, fun p h => nomatch h⟩⟩⟩⟩⟩⟩⟩⟩⟩⟩⟩⟩⟩⟩⟩⟩⟩⟩⟩⟩⟩⟩⟩⟩⟩⟩⟩⟩⟩⟩⟩⟩⟩⟩⟩⟩⟩⟩⟩⟩⟩⟩⟩⟩⟩⟩
end Hd
open PySem PySem.W PySem.Calls PyProof.Rows in
set_option maxHeartbeats 0 in
theorem holds_of (hl : ∀ ns : List Int, ns.length ≤ 63 → ∃ us, Lw.P.call 20 44 [.fz (ns.map .int)] = .ok (.d (.bool true)) us ∧ us.length = 1) : PySem.Challenge.rw_shufflebook_k50_whole_squares_of_orders.Holds := by
  w_on; o_law
  refine HandSHeadRun.head_imp (r := OpenLaw.row PySem.Challenge.rw_shufflebook_k50_whole_squares_of_orders) (q := view (OpenLaw.row PySem.Challenge.rw_shufflebook_k50_whole_squares_of_orders).prog [0, 58]) (H := Hd.hk) (ob := Hd.ob) (M := 4000) (loose := Hd.loose) (d := HandSHeadRun.topDef (OpenLaw.row PySem.Challenge.rw_shufflebook_k50_whole_squares_of_orders).prog 58) (kwd := []) Hd.ob_eq
    Hd.run (by kernel_rfl) (by kernel_rfl) (by kernel_rfl) (by rfl) (by first | assumption | decide +kernel) (by decide +kernel) ⟨rfl, rfl, rfl, rfl, rfl, by decide +kernel⟩ ?hw ?hc
  case hw => w_witness2
  case hc =>
    refine Ev.walk_ofG (l := PySem.Challenge.rw_shufflebook_k50_whole_squares_of_orders) (n := 63) (k := 20) (x := "script") rfl (by decide) (by kernel_rfl) ⟨rfl, by decide, by decide⟩ ?F
    intro w mg fa h Y G hmg0
    obtain ⟨K, KX, c⟩ := Y
    have hmg : mg ("law" : PySem.Str) = some (.ref fa) := by
      have e : (HandSHeadRun.topDef (OpenLaw.row PySem.Challenge.rw_shufflebook_k50_whole_squares_of_orders).prog 58).name = ("law" : PySem.Str) := by kernel_rfl
      rw [← e]
      exact hmg0
    exact Ev.law_of (G := ⟨_, w, K, fun _ => none, fun _ _ _ _ => False⟩) (F := Lw.f44) (d := Hd.d44) KX G c rfl Hd.text Hd.shs rfl rfl rfl rfl rfl (fun _ _ _ _ _ _ _ => rfl) (ln := "law") (by decide +kernel) hmg hl
theorem PySem.Challenge.cw_shufflebook_k50_whole_squares_of_orders_holds : PySem.Challenge.rw_shufflebook_k50_whole_squares_of_orders.Holds := by
  exact holds_of Lw.law_ok
