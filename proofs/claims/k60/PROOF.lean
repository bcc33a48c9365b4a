import PyProof.Rows.All
import Wide.All
import OpenK.AllK
import Wide.FinOn
import HandS.ForMost
import HandS.ForExc
import KE.LtData
import HandS.ExcInit
import HandS.Wide
import HandS.TupLe
import HandS.TupAny
import HandS.Deep
import HandS.Style
import HandS.IsInst
import HandS.Conv
import HandS.TupLen
import HandS.WordsDict
import HandS.SortInts
import HandS.Strs
import HandS.Text
import PyProof.P3In
import HandS.RaiseMore
import HandS.More
import HandS.TryOnly
import HandS.ExcOwn
import PyProof.ReprRoads
import HandS.Dict
import KE.SortCalls
import KE.GoesEnum
import HandS.Zip0
import HandS.TupSets
import KE.SortKeyHeap
import HandS.SortKw
import PyProof.FactsAll.list_3
import PyProof.NeKinds
import KE.KDictDisplayH
import HandS.Exc
import HandS.TryMany
import PySem.Challenge.RW_turnweights_k60_distances_and_shortest_w
set_option Elab.async false
set_option linter.all false
set_option maxRecDepth 10000
namespace Mi
open PySem
inductive D where
  | non | bl (b : Bool) | int (i : Int) | str (x : Str)
  | tup (ds : List D) | lst (ds : List D)
  | dct (kvs : List (D × D))
  | obj (c : Nat) (fs : List (Nat × D))
  | exc (c : Nat) (fs : List D)
instance : Inhabited D := ⟨.non⟩
abbrev LIM : Nat := 1000000
mutual
def eqD : D → D → Bool
  | .non, .non => true
  | .bl a, .bl b => decide (a = b)
  | .bl a, .int j => decide ((if a then 1 else 0) = j)
  | .int i, .bl b => decide (i = (if b then 1 else 0))
  | .int i, .int j => decide (i = j)
  | .str x, .str y => decide (x = y)
  | .lst xs, .lst ys => eqDs xs ys
  | .tup xs, .tup ys => eqDs xs ys
  | _, _ => false
def eqDs : List D → List D → Bool
  | [], [] => true
  | x :: xs, y :: ys => eqD x y && eqDs xs ys
  | _, _ => false
end
def shp : Nat → D → Bool
  | _, .non => true
  | _, .bl _ => true
  | _, .int _ => true
  | _, .str x => PyData.strOk x
  | n + 1, .lst ds => ds.all (shp n)
  | n + 1, .tup ds => ds.all (shp n)
  | _, _ => false
abbrev SD : Nat := 40
def shw : Nat → D → Bool
  | _, .non => true
  | _, .bl _ => true
  | _, .int i => decide (i.natAbs.log2 < 1920)
  | _, .str _ => true
  | n + 1, .lst ds => ds.all (shw n)
  | n + 1, .tup ds => ds.all (shw n)
  | n + 1, .dct kvs => kvs.all fun kv => (match kv.1 with
    | .int i => decide (i.natAbs.log2 < 1920)
    | .str _ => true
    | _ => false) && shw n kv.2
  | _, _ => false
def atom : D → Bool
  | .non => true
  | .bl _ => true
  | .int _ => true
  | .str _ => true
  | _ => false
def lendD (d : D) : Bool := atom d || match d with
  | .tup ds => ds.all atom
  | _ => false
mutual
def toPD : D → PyData
  | .non => .none
  | .bl b => .bool b
  | .int i => .int i
  | .str x => .str x
  | .lst ds => .list (toPDs ds)
  | .tup ds => .tuple (toPDs ds)
  | .dct kvs => .dict (toPDkv kvs)
  | _ => .none
def toPDs : List D → List PyData
  | [] => []
  | d :: ds => toPD d :: toPDs ds
def toPDkv : List (D × D) → List (PyData × PyData)
  | [] => []
  | (k, v) :: r => (toPD k, toPD v) :: toPDkv r
end
def shown (d : D) : Str := (toPD d).shown
mutual
def ltD : D → D → Bool
  | .int i, .int j => decide (i < j)
  | .str x, .str y => decide (x.cps.toList < y.cps.toList)
  | .tup xs, .tup ys => ltDs xs ys
  | .lst xs, .lst ys => ltDs xs ys
  | _, _ => false
def ltDs : List D → List D → Bool
  | [], _ :: _ => true
  | x :: xs, y :: ys => if eqD x y then ltDs xs ys else ltD x y
  | _, _ => false
end
inductive Op2 where
  | add | cat | catS | catT | sub | mul | rep | mod | fdiv | pow | eq | ne | eqA | neA | lt | le | gt | ge | leT | ltT | innL | ninL | innD | ninD | innS | ninS | isB | isnB | addG | mulG | inn | nin | neE
def mulOk (i j : Int) : Bool := decide (i.natAbs < 2 ^ 64) || decide (j.natAbs < 2 ^ 64) || decide (i.natAbs.log2 + j.natAbs.log2 < 1000000)
def divOk (j : Int) : Bool := decide (0 < j) && decide (j.natAbs.log2 < 9000)
def powOk (i j : Int) : Bool := decide (0 ≤ j) && decide (j ≤ 1000) && decide (i.natAbs < 2 ^ 64)
def eqOp (a b : D) : Option Bool := if shp SD a && shp SD b then some (eqD a b) else none
def scalD : D → D → Bool
  | .int _, .bl _ => false
  | .bl _, .int _ => false
  | .non, .non => true
  | a, b => atom a && atom b
def eqAt (a b : D) : Option Bool := if scalD a b then some (eqD a b) else none
def inL (a : D) (b : D) : Option Bool := match b with
  | .lst ds => if (shp SD a && ds.all (shp SD)) then some (ds.any fun d => eqD d a) else none
  | .tup ds => if (shp SD a && ds.all (shp SD)) then some (ds.any fun d => eqD d a) else none
  | _ => none
def isKey : D → Bool
  | .int _ => true
  | .str _ => true
  | .tup ds => ds.all fun d => match d with
    | .int _ => true
    | .str _ => true
    | _ => false
  | _ => false
def isTupD : D → Bool
  | .tup _ => true
  | _ => false
def inD (a : D) (b : D) : Option Bool := match b with
  | .dct kvs => if isTupD a && isKey a && !kvs.isEmpty && kvs.all (fun kv => isTupD kv.1 == isTupD a) then some (kvs.any fun kv => eqD kv.1 a) else none
  | _ => none
def inS (a : D) (b : D) : Option Bool := match b with
  | .str y => match a with
    | .str x => if x.length = 1 then some (y.cps.toList.any fun c => decide (x.cps.toList = [c])) else none
    | _ => none
  | _ => none
def isB (a b : D) : Option Bool := match a, b with
  | .bl x, .bl y => some (decide (x = y))
  | _, _ => none
def ints? : List D → Option (List Int)
  | [] => some []
  | .int i :: ds => (ints? ds).map (i :: ·)
  | _ => none
def leTup (xs ys : List D) : Option Bool := match ints? xs, ints? ys with
  | some _, some _ => some (ltDs xs ys || eqDs xs ys)
  | _, _ => none
def ltTup (xs ys : List D) : Option Bool := match ints? xs, ints? ys with
  | some _, some _ => some (ltDs xs ys)
  | _, _ => none
def tupOp (g : List D → List D → Option Bool) (a b : D) : Option Bool := match a, b with
  | .tup xs, .tup ys => g xs ys
  | _, _ => none
def addOp (a b : D) : Option D := match a, b with
  | .int i, .int j => some (.int (i + j))
  | _, _ => none
def catOp (a b : D) : Option D := match a, b with
  | .lst xs, .lst ys => if xs.length + ys.length < LIM then some (.lst (xs ++ ys)) else none
  | _, _ => none
def catSOp (a b : D) : Option D := match a, b with
  | .str x, .str y => if x.length + y.length < LIM then some (.str (x ++ y)) else none
  | _, _ => none
def catTOp (a b : D) : Option D := match a, b with
  | .tup xs, .tup ys => if xs.length + ys.length < LIM then some (.tup (xs ++ ys)) else none
  | _, _ => none
def repOp (a b : D) : Option D := match a, b with
  | .lst xs, .int j => if xs.length * j.toNat < LIM ∧ j.natAbs < LIM then some (.lst (List.replicate j.toNat xs).flatten) else none
  | _, _ => none
def intOp (c : Int → Int → Bool) (f : Int → Int → Int) (a b : D) : Option D := match a, b with
  | .int i, .int j => if c i j then some (.int (f i j)) else none
  | _, _ => none
def cmpI (f : Int → Int → Bool) (a b : D) : Option D := match a, b with
  | .int i, .int j => some (.bl (f i j))
  | _, _ => none
def addG (a b : D) : Option D := match a, b with
  | .int i, .int j => some (.int (i + j))
  | .lst xs, .lst ys => if xs.length + ys.length < LIM then some (.lst (xs ++ ys)) else none
  | .str x, .str y => if x.length + y.length < LIM then some (.str (x ++ y)) else none
  | .tup xs, .tup ys => if xs.length + ys.length < LIM then some (.tup (xs ++ ys)) else none
  | _, _ => none
def mulG (a b : D) : Option D := match a, b with
  | .int i, .int j => if mulOk i j then some (.int (i * j)) else none
  | .lst xs, .int j => if xs.length * j.toNat < LIM ∧ j.natAbs < LIM then some (.lst (List.replicate j.toNat xs).flatten) else none
  | _, _ => none
def inG (a b : D) : Option Bool := match b with
  | .lst ds => if (shp SD a && ds.all (shp SD)) then some (ds.any fun d => eqD d a) else none
  | .tup ds => if (shp SD a && ds.all (shp SD)) then some (ds.any fun d => eqD d a) else none
  | .str y => match a with
    | .str x => if x.length = 1 then some (y.cps.toList.any fun c => decide (x.cps.toList = [c])) else none
    | _ => none
  | _ => none
def neE (a b : D) : Option D := match a, b with
  | .lst xs, .lst [] => some (.bl (!xs.isEmpty))
  | _, _ => none
def evOp2 (o : Op2) (a b : D) : Option D := match o with
  | .add => addOp a b
  | .cat => catOp a b
  | .catS => catSOp a b
  | .catT => catTOp a b
  | .sub => intOp (fun _ _ => true) (fun i j => i - j) a b
  | .mul => intOp mulOk (fun i j => i * j) a b
  | .rep => repOp a b
  | .mod => intOp (fun _ j => decide (0 < j)) (fun i j => i % j) a b
  | .fdiv => intOp (fun _ j => divOk j) (fun i j => i / j) a b
  | .pow => intOp powOk (fun i j => i ^ j.toNat) a b
  | .eq => (eqOp a b).map .bl
  | .ne => (eqOp a b).map fun c => .bl (!c)
  | .eqA => (eqAt a b).map .bl
  | .neA => (eqAt a b).map fun c => .bl (!c)
  | .lt => cmpI (fun i j => decide (i < j)) a b
  | .le => cmpI (fun i j => decide (i ≤ j)) a b
  | .gt => cmpI (fun i j => decide (j < i)) a b
  | .ge => cmpI (fun i j => decide (j ≤ i)) a b
  | .leT => (tupOp leTup a b).map .bl
  | .ltT => (tupOp ltTup a b).map .bl
  | .innL => (inL a b).map .bl
  | .ninL => (inL a b).map fun c => .bl (!c)
  | .innD => (inD a b).map .bl
  | .ninD => (inD a b).map fun c => .bl (!c)
  | .innS => (inS a b).map .bl
  | .ninS => (inS a b).map fun c => .bl (!c)
  | .isB => (isB a b).map .bl
  | .isnB => (isB a b).map fun c => .bl (!c)
  | .addG => addG a b
  | .mulG => mulG a b
  | .inn => (inG a b).map .bl
  | .nin => (inG a b).map fun c => .bl (!c)
  | .neE => neE a b
def ixN (n : Nat) (i : Int) : Option Nat := if 0 ≤ i then (if i < n then some i.toNat else none) else if -(n : Int) ≤ i then some (i + n).toNat else none
def atD (ds : List D) : D → Option D
  | .int j => (ixN ds.length j).bind fun n => ds[n]?
  | _ => none
def getK : List (D × D) → D → Option D
  | [], _ => none
  | (k, v) :: r, a => if eqD k a then some v else getK r a
def putK (kvs : List (D × D)) (a v : D) : List (D × D) :=
  if (kvs.any fun kv => eqD kv.1 a) = true then kvs.map (fun kv => if eqD kv.1 a = true then (kv.1, v) else kv) else kvs ++ [(a, v)]
def dropK : List (D × D) → D → List (D × D)
  | [], _ => []
  | (k, w) :: r, a => if eqD k a then r else (k, w) :: dropK r a
def idxS (a i : D) : Option D := match a with
  | .lst ds => atD ds i
  | .tup ds => atD ds i
  | .str x => if x.length < LIM then (atD (x.cps.toList.map fun c => .str ⟨#[c]⟩) i) else none
  | _ => none
def idxD (a i : D) : Option D := match a with
  | .dct kvs => if isTupD i && isKey i then getK kvs i else none
  | _ => none
def idxOp (a i : D) : Option D := match a with
  | .lst ds => atD ds i
  | .tup ds => atD ds i
  | .dct kvs => getK kvs i
  | .str x => (atD (x.cps.toList.map fun c => .str ⟨#[c]⟩) i)
  | _ => none
def slI (n dflt : Nat) : Option Int → Nat
  | none => dflt
  | some i => if i < 0 then (i + n).toNat else min i.toNat n
def cut {α : Type} (xs : List α) (lo hi : Option Int) : List α := (xs.drop (slI xs.length 0 lo)).take (slI xs.length xs.length hi - slI xs.length 0 lo)
def slOp (a : D) (l h : Option Int) : Option D := match a with
  | .lst ds => some (.lst (cut ds l h))
  | .tup ds => some (.tup (cut ds l h))
  | .str x => if x.length < LIM then some (.str ⟨(cut x.cps.toList l h).toArray⟩) else none
  | _ => none
def fldG (n : Nat) : List (Nat × D) → Option D
  | [] => none
  | (m, d) :: r => if m = n then some d else fldG n r
def fldP (n : Nat) (v : D) : List (Nat × D) → List (Nat × D)
  | [] => [(n, v)]
  | (m, d) :: r => if m = n then (m, v) :: r else (m, d) :: fldP n v r
def fldOp (a : D) (n : Nat) : Option D := match a with
  | .obj _ fs => fldG n fs
  | .exc _ fs => fs[n]?
  | _ => none
inductive Ty where
  | int | bool | str | list | tuple | dict | cls (c : Nat)
def isTy (t : Ty) (d : D) : Bool := match t with
  | .int => match d with
    | .int _ => true
    | .bl _ => true
    | _ => false
  | .bool => match d with
    | .bl _ => true
    | _ => false
  | .str => match d with
    | .str _ => true
    | _ => false
  | .list => match d with
    | .lst _ => true
    | _ => false
  | .tuple => match d with
    | .tup _ => true
    | _ => false
  | .dict => match d with
    | .dct _ => true
    | _ => false
  | .cls c => match d with
    | .obj c' _ => decide (c = c')
    | _ => false
def isOk (t : Ty) (d : D) : Bool := match d with
  | .obj _ _ => match t with
    | .cls _ => true
    | _ => false
  | .exc _ _ => false
  | _ => true
def insD (x : D) : List D → List D
  | [] => [x]
  | y :: ys => if ltD y x then y :: insD x ys else x :: y :: ys
def sortD : List D → List D
  | [] => []
  | x :: xs => insD x (sortD xs)
def allInt (ds : List D) : Bool := (ints? ds).isSome
def strs? : List D → Option (List Str)
  | [] => some []
  | .str x :: ds => (strs? ds).map (x :: ·)
  | _ => none
def tupsN (n : Nat) : List D → Bool
  | [] => true
  | .tup xs :: ds => allInt xs && decide (xs.length = n) && tupsN n ds
  | _ => false
def bools? : List D → Option (List Bool)
  | [] => some []
  | .bl x :: ds => (bools? ds).map (x :: ·)
  | _ => none
def maxI : List Int → Option Int
  | [] => none
  | x :: xs => some (xs.foldl max x)
def minI : List Int → Option Int
  | [] => none
  | x :: xs => some (xs.foldl min x)
def rngD (a : Int) (n : Nat) : List D := (List.range n).map fun (i : Nat) => D.int (a + i)
def kvD (kv : D × D) : D := .tup [kv.1, kv.2]
def enumD : Nat → List D → List D
  | _, [] => []
  | n, d :: ds => .tup [.int n, d] :: enumD (n + 1) ds
def findD (a : D) : Nat → List D → Option Nat
  | _, [] => none
  | n, d :: ds => if eqD d a then some n else findD a (n + 1) ds
inductive Bi where
  | len | abs | toInt | toStr | repr | sum | max2 | min2 | maxL | minL | toList | toTuple | isin (t : Ty) | rng1 | rng2
  | get1 | get2 | join | split | items | values | index | sorted | all | lenSet | sortLen | setSort | revT | tupK | castL
def len? : D → Option Nat
  | .lst ds => some ds.length
  | .tup ds => some ds.length
  | .dct ds => some ds.length
  | .str x => if x.length < LIM then some x.length else none
  | _ => none
def biLen (a : D) : Option D := (len? a).map fun (n : Nat) => D.int (n : Int)
def biAbs : D → Option D
  | .int i => some (.int (if i < 0 then -i else i))
  | _ => none
def biInt : D → Option D
  | .int i => some (.int i)
  | .bl b => some (.int (if b then 1 else 0))
  | .str x => if x.length ≤ 640 then (PySem.intText? x).map .int else none
  | _ => none
def biStr : D → Option D
  | .int i => if i.natAbs.log2 < 1920 then some (.str (toString i)) else none
  | .str x => some (.str x)
  | _ => none
def biRepr (a : D) : Option D := if shw SD a ∧ (shown a).length < LIM then some (.str (shown a)) else none
def biSum : D → Option D
  | .lst ds => (ints? ds).map fun ns => .int ns.sum
  | _ => none
def bi2 (f : Int → Int → Int) (a b : D) : Option D := match a, b with
  | .int i, .int j => some (.int (f i j))
  | _, _ => none
def biMM (f : List Int → Option Int) : D → Option D
  | .lst ds => ((ints? ds).bind f).map .int
  | _ => none
def toL : D → Option (List D)
  | .lst ds => some ds
  | .tup ds => some ds
  | .dct kvs => some (kvs.map (·.1))
  | _ => none
def toT : D → Option (List D)
  | .lst ds => some ds
  | .tup ds => some ds
  | _ => none
def biRng (a b : D) : Option D := match a, b with
  | .int i, .int j => if i.natAbs < LIM ∧ j.natAbs < LIM then some (.lst (rngD i (j - i).toNat)) else none
  | _, _ => none
def biGet (d k x : D) : Option D := match d with
  | .dct kvs => some ((getK kvs k).getD x)
  | _ => none
def biJoin (s l : D) : Option D := match s, l with
  | .str x, .lst ds => (strs? ds).bind fun xs => if (Txt.join x xs).length < LIM then some (.str (Txt.join x xs)) else none
  | _, _ => none
def biSplit (a s : D) : Option D := match a, s with
  | .str x, .str y => if y.length ≠ 0 ∧ x.length < LIM then some (.lst ((Txt.split x y).map .str)) else none
  | _, _ => none
def biItems : D → Option D
  | .dct kvs => some (.lst (kvs.map kvD))
  | _ => none
def biVals : D → Option D
  | .dct kvs => some (.lst (kvs.map (·.2)))
  | _ => none
def biIndex (l a : D) : Option D := match l with
  | .lst ds => if shp SD a ∧ ds.all (shp SD) then (findD a 0 ds).map fun (n : Nat) => D.int (n : Int) else none
  | _ => none
def insG {α : Type} (le : α → α → Bool) (x : α) : List α → List α
  | [] => [x]
  | y :: ys => if le x y then x :: y :: ys else y :: insG le x ys
def sortG {α : Type} (le : α → α → Bool) : List α → List α
  | [] => []
  | x :: xs => insG le x (sortG le xs)
def leD (x y : D) : Bool := !PySem.W.dataLt (toPD y) (toPD x)
def sortable? (ds : List D) : Bool := (ds.all fun d => match d with
  | .tup (_ :: _) => true
  | _ => false) || ds.all fun d => match d with
  | .tup _ => false
  | .non => false
  | _ => true
def alikeD (ds : List D) : Bool := ds.all fun a => ds.all fun b => PySem.W.alike (toPD a) (toPD b)
def srtD : D → Option D
  | .lst ds => if ds.all (shp 39) && sortable? ds && alikeD ds then some (.lst (sortG leD ds)) else none
  | _ => none
def tups? : List D → Option (List (List Int))
  | [] => some []
  | .tup xs :: ds => (ints? xs).bind fun k => (tups? ds).map (k :: ·)
  | _ => none
def biLenSet : D → Option D
  | .lst ds => (tups? ds).bind fun ks => if decide (ks.length < 64) && decide ks.Nodup then some (.int ks.length) else none
  | _ => none
def keyPD (k : List Int) : PyData := .tuple [.int k.length, .tuple (k.map .int)]
def leKey (x y : List Int) : Bool := !PySem.W.dataLt (keyPD y) (keyPD x)
def tupI (k : List Int) : D := .tup (k.map .int)
def biSortLen : D → Option D
  | .lst ds => (tups? ds).bind fun ks => if decide (ks.length < LIM) then some (.lst ((sortG leKey ks).map tupI)) else none
  | _ => none
def pair64 : List Int → Bool
  | [x, y] => decide (0 ≤ x) && decide (x < 64) && decide (0 ≤ y) && decide (y < 64)
  | _ => false
def cd64 : List Int → Int
  | [x, y] => x * 64 + y
  | _ => 0
def ddup : List (List Int) → List (List Int)
  | [] => []
  | x :: xs => if decide (x ∈ xs) then ddup xs else x :: ddup xs
def biSetSort : D → Option D
  | .lst ds => (tups? ds).bind fun ks => if decide (ks.length < 64) && ks.all pair64 then some (.lst ((sortG (fun x y => decide (cd64 x ≤ cd64 y)) (ddup ks)).map tupI)) else none
  | _ => none
def biAll : D → Option D
  | .lst ds => (bools? ds).map fun bs => .bl (bs.all id)
  | _ => none
def revTD : D → Option D
  | .tup ds => some (.tup ds.reverse)
  | _ => none
def tupKD : D → Option D
  | .tup ds => if isKey (.tup ds) then some (.tup ds) else none
  | _ => none
def castLD : D → Option D
  | .lst _ => none
  | .dct _ => none
  | .obj _ _ => none
  | .exc _ _ => none
  | d => some d
def evBi (o : Bi) (ds : List D) : Option D := match ds with
  | [a] => match o with
    | .len => biLen a
    | .abs => biAbs a
    | .toInt => biInt a
    | .toStr => biStr a
    | .repr => biRepr a
    | .sum => biSum a
    | .maxL => biMM maxI a
    | .minL => biMM minI a
    | .toList => (toL a).map .lst
    | .toTuple => (toT a).map .tup
    | .isin t => if isOk t a then some (.bl (isTy t a)) else none
    | .rng1 => biRng (.int 0) a
    | .items => biItems a
    | .values => biVals a
    | .sorted => srtD a
    | .lenSet => biLenSet a
    | .sortLen => biSortLen a
    | .setSort => biSetSort a
    | .revT => revTD a
    | .tupK => tupKD a
    | .castL => castLD a
    | .all => biAll a
    | _ => none
  | [a, b] => match o with
    | .max2 => bi2 max a b
    | .min2 => bi2 min a b
    | .rng2 => biRng a b
    | .get1 => biGet a b .non
    | .join => biJoin a b
    | .split => biSplit a b
    | .index => biIndex a b
    | _ => none
  | [a, b, c] => match o with
    | .get2 => biGet a b c
    | _ => none
  | _ => none
inductive Mu where
  | append | pop | popAt | insert | clear | dclear | dpop | put | upd | ext | putN
def evMu (m : Mu) (a : D) (ds : List D) : Option (D × D) := match m with
  | .append => match a, ds with
    | .lst xs, [x] => if xs.length < LIM then some (.non, .lst (xs ++ [x])) else none
    | _, _ => none
  | .pop => match a, ds with
    | .lst xs, [] => (xs.getLast?).map fun x => (x, .lst xs.dropLast)
    | _, _ => none
  | .popAt => match a, ds with
    | .lst xs, [.int i] => if i.natAbs < LIM then (ixN xs.length i).bind fun k => (xs[k]?).map fun x => (x, .lst (xs.eraseIdx k)) else none
    | _, _ => none
  | .insert => match a, ds with
    | .lst xs, [.int i, x] => if 0 ≤ i ∧ i ≤ xs.length ∧ xs.length < LIM then some (.non, .lst (xs.take i.toNat ++ x :: xs.drop i.toNat)) else none
    | _, _ => none
  | .clear => match a, ds with
    | .lst _, [] => some (.non, .lst [])
    | _, _ => none
  | .dclear => match a, ds with
    | .dct _, [] => some (.non, .dct [])
    | _, _ => none
  | .dpop => match a, ds with
    | .dct kvs, [k] => if isKey k then (getK kvs k).map fun x => (x, .dct (dropK kvs k)) else none
    | .dct kvs, [k, x] => if isKey k then some ((getK kvs k).getD x, .dct (dropK kvs k)) else none
    | _, _ => none
  | .put => match a, ds with
    | .lst xs, [.int i, x] => (ixN xs.length i).map fun k => (.non, .lst (xs.set k x))
    | .dct kvs, [k, x] => if kvs.length < LIM ∧ isKey k = true ∧ isTupD k = true then some (.non, .dct (putK kvs k x)) else none
    | _, _ => none
  | .upd => none
  | .putN => match a, ds with
    | .dct kvs, [x, k] => if kvs.length < LIM ∧ isKey k = true ∧ isTupD k = true ∧ (kvs.any fun kv => eqD kv.1 k) = false then some (.non, .dct (kvs ++ [(k, x)])) else none
    | _, _ => none
  | .ext => match a, ds with
    | .lst xs, [.lst ys] => if xs.length + ys.length < LIM then some (.non, .lst (xs ++ ys)) else none
    | _, _ => none
abbrev Env := List (Option D)
def gt : Env → Nat → Option D
  | [], _ => none
  | x :: _, 0 => x
  | _ :: r, n + 1 => gt r n
def st : Env → Nat → Option D → Env
  | [], _, _ => []
  | _ :: r, 0, d => d :: r
  | x :: r, n + 1, d => x :: st r n d
def stN : List Nat → List D → Env → Option Env
  | [], [], e => some e
  | i :: is, d :: ds, e => stN is ds (st e i (some d))
  | _, _, _ => none
inductive R (α : Type) where
  | ok (a : α) (e : Env) | err (c : Nat) (fs : List D) (e : Env) | bad
def R.bind {α β : Type} (x : R α) (f : α → Env → R β) : R β := match x with
  | .ok a e => f a e
  | .err c fs e => .err c fs e
  | .bad => .bad
def ofO (x : Option D) (e : Env) : R D := match x with
  | some d => .ok d e
  | none => .bad
inductive FR where
  | ok (d : D) (outs : List D) | err (c : Nat) (fs : List D) (outs : List D) | bad
abbrev FS := Nat → List D → FR
mutual
inductive Tg where
  | nm (i : Nat) | tp (ts : Tgs) | tl (ts : Tgs)
inductive Tgs where
  | nil | cons (t : Tg) (ts : Tgs)
end
mutual
inductive Ex where
  | var (i : Nat) | mv (i : Nat) | fz (i : Nat) | cst (d : D) | glb (x : String) (d : D)
  | neg (a : Ex) | not (a : Ex) | op (o : Op2) (a b : Ex) | ch (o p : Op2) (a b c : Ex) | ch3 (o p q : Op2) (a b c d : Ex)
  | and (a b : Ex) | or (a b : Ex) | ite (c a b : Ex)
  | isN (neg : Bool) (a : Ex) | idx (a i : Ex) | idxD (a i : Ex) | sl (a : Ex) (l h : Op) | rev (a : Ex) | fld (a : Ex) (n : Nat)
  | tup (es : Exs) | lst (es : Exs) | dct (es : Exs)
  | call (f : Nat) (es : Exs) | mV (c f : Nat) (a : Ex) (es : Exs) | mR (c f i : Nat) (es : Exs) | mk (c f : Nat) (es : Exs) | bi (o : Bi) (es : Exs) | mut (m : Mu) (p : Pl) (es : Exs)
  | lc (own : List Nat) (elt : Ex) (tg : Tg) (it : It) (c : Ex)
  | lc2 (own own2 : List Nat) (elt : Ex) (tg : Tg) (it : It) (c : Ex) (tg2 : Tg) (it2 : It) (c2 : Ex)
  | dc (own : List Nat) (k v : Ex) (tg : Tg) (it : It) (c : Ex)
  | fs (es : Exs) | lend (i : Nat) (a : Ex)
inductive Exs where
  | nil | cons (e : Ex) (es : Exs) | ref (i : Nat) (es : Exs)
inductive Op where
  | no | ex (e : Ex)
inductive Pl where
  | sl (i : Nat) | fl (p : Pl) (n : Nat) | ix (p : Pl) (e : Ex)
inductive It where
  | lst (e : Ex) | tup (e : Ex) | keys (e : Ex) | scr (e : Ex) | rng (es : Exs) | en (e : Ex) | enT (e : Ex) | sq (e : Ex) | zp (a b : Ex) | its (e : Ex) | vls (e : Ex)
end
mutual
inductive Sm where
  | skip | seq (a b : Sm) | ex (e : Ex) | asg (t : Tg) (e : Ex) | fset (p : Pl) (n : Nat) (e : Ex) | iset (p : Pl) (i e : Ex)
  | aug (i : Nat) (o : Op2) (e : Ex)
  | par (is : List Nat) (es : Exs)
  | ret (e : Ex) | ife (c : Ex) (a b : Sm) | forr (t : Tg) (it : It) (b : Sm) | whl (c : Ex) (b : Sm)
  | rse (c : Nat) (es : Exs) | try_ (b : Sm) (hs : Hs)
inductive Hs where
  | nil | cons (c : Nat) (i : Option Nat) (b : Sm) (hs : Hs)
end
mutual
def bindT : Tg → D → Env → Option Env
  | .nm i, d, e => some (st e i (some d))
  | .tp ts, d, e => match d with
    | .tup ds => bindTs ts ds e
    | _ => none
  | .tl ts, d, e => match d with
    | .lst ds => bindTs ts ds e
    | _ => none
def bindTs : Tgs → List D → Env → Option Env
  | .nil, ds, e => match ds with
    | [] => some e
    | _ => none
  | .cons t ts, ds, e => match ds with
    | d :: r => (bindT t d e).bind fun e1 => bindTs ts r e1
    | _ => none
end
inductive Ar where
  | d (d : D) | s (i : Nat)
def arD : List Ar → Env → Option (List D)
  | [], _ => some []
  | .d d :: r, e => (arD r e).map (d :: ·)
  | .s i :: r, e => (gt e i).bind fun d => (arD r e).map (d :: ·)
def putO : List Ar → List D → Env → Option Env
  | [], [], e => some e
  | .d _ :: r, os, e => putO r os e
  | .s i :: r, o :: os, e => (putO r os e).map fun e1 => st e1 i (some o)
  | _, _, _ => none
def callR (r : FR) (as : List Ar) (e : Env) : R D := match r with
  | .ok d os => match putO as os e with
    | some e1 => .ok d e1
    | none => .bad
  | .err c fs os => match putO as os e with
    | some e1 => .err c fs e1
    | none => .bad
  | .bad => .bad
def dsOf : List Ar → Option (List D)
  | [] => some []
  | .d d :: r => (dsOf r).map (d :: ·)
  | _ => none
inductive Ac where
  | f (n : Nat) | i (d : D)
def getP : D → List Ac → Option D
  | d, [] => some d
  | d, .f n :: r => (fldOp d n).bind fun x => getP x r
  | d, .i k :: r => (idxOp d k).bind fun x => getP x r
def setI (a k x : D) : Option D := (evMu .put a [k, x]).map (·.2)
def setF (a : D) (n : Nat) (x : D) : Option D := match a with
  | .obj c fs => some (.obj c (fldP n x fs))
  | _ => none
def setP : D → List Ac → D → Option D
  | _, [], x => some x
  | d, .f n :: r, x => (fldOp d n).bind fun y => (setP y r x).bind fun z => setF d n z
  | d, .i k :: r, x => (idxOp d k).bind fun y => (setP y r x).bind fun z => setI d k z
def muTy (m : Mu) (d : D) : Bool := match m with
  | .append => isTy .list d
  | .pop => isTy .list d
  | .popAt => isTy .list d
  | .insert => isTy .list d
  | .clear => isTy .list d
  | .dclear => isTy .dict d
  | .dpop => isTy .dict d
  | .upd => isTy .dict d
  | .putN => isTy .dict d
  | .ext => isTy .list d
  | .put => false
def atPl (f : D → Bool) (x : Option D) (path : List Ac) : Bool := match x with
  | some d0 => match getP d0 path with
    | some a => f a
    | none => false
  | none => false
def doMu (m : Mu) (ds : List D) (sp : Nat × List Ac) (e : Env) : R D := match gt e sp.1 with
  | some d0 => match getP d0 sp.2 with
    | some a => match evMu m a ds with
      | some (r, a') => match setP d0 sp.2 a' with
        | some d1 => .ok r (st e sp.1 (some d1))
        | none => .bad
      | none => .bad
    | none => .bad
  | none => .bad
def lcLoop (bnd : D → Env → Option Env) (c : Env → R D) (f : Env → R (List D)) : List D → Env → R (List D)
  | [], e => .ok [] e
  | x :: xs, e => match bnd x e with
    | none => .bad
    | some e1 => (c e1).bind fun b e2 => match b with
      | .bl true => (f e2).bind fun ds e3 => (lcLoop bnd c f xs e3).bind fun r e4 => .ok (ds ++ r) e4
      | .bl false => lcLoop bnd c f xs e2
      | _ => .bad
def wipeE : List Nat → Env → Env
  | [], e => e
  | i :: r, e => st (wipeE r e) i none
def backE : List Nat → Env → Env → Env
  | [], _, e => e
  | i :: r, e0, e => backE r e0 (st e i (gt e0 i))
def noErr {α : Type} : R α → R α
  | .err _ _ _ => .bad
  | r => r
def pairs? : List D → List (D × D) → Option (List (D × D))
  | [], acc => some acc
  | .tup [k, v] :: r, acc => pairs? r (putK acc k v)
  | _, _ => none
def dispK : List D → List (D × D) → Option (List (D × D))
  | [], acc => some acc
  | k :: v :: r, acc => dispK r (putK acc k v)
  | _, _ => none
def fstrs : List D → Option Str
  | [] => some Str.empty
  | .str x :: r => (fstrs r).map (x ++ ·)
  | .int i :: r => if i.natAbs.log2 < 1920 then (fstrs r).map ((toString i : Str) ++ ·) else none
  | _ => none
mutual
def evE (F : FS) : Ex → Env → R D
  | .var i, e => ofO (gt e i) e
  | .mv i, e => ofO (gt e i) (st e i none)
  | .fz i, e => ofO (gt e i) e
  | .cst d, e => .ok d e
  | .glb _ d, e => .ok d e
  | .neg a, e => (evE F a e).bind fun d e1 => match d with
    | .int i => .ok (.int (-i)) e1
    | _ => .bad
  | .not a, e => (evE F a e).bind fun d e1 => match d with
    | .bl b => .ok (.bl (!b)) e1
    | _ => .bad
  | .op o a b, e => (evE F a e).bind fun x e1 => (evE F b e1).bind fun y e2 => ofO (evOp2 o x y) e2
  | .ch o p a b c, e => (evE F a e).bind fun x e1 => (evE F b e1).bind fun y e2 => match evOp2 o x y with
    | some (.bl true) => (evE F c e2).bind fun z e3 => ofO (evOp2 p y z) e3
    | some (.bl false) => .ok (.bl false) e2
    | _ => .bad
  | .ch3 o p q a b c d, e => (evE F a e).bind fun x e1 => (evE F b e1).bind fun y e2 => match evOp2 o x y with
    | some (.bl true) => (evE F c e2).bind fun z e3 => match evOp2 p y z with
      | some (.bl true) => (evE F d e3).bind fun w e4 => ofO (evOp2 q z w) e4
      | some (.bl false) => .ok (.bl false) e3
      | _ => .bad
    | some (.bl false) => .ok (.bl false) e2
    | _ => .bad
  | .and a b, e => (evE F a e).bind fun x e1 => match x with
    | .bl true => evE F b e1
    | .bl false => .ok (.bl false) e1
    | _ => .bad
  | .or a b, e => (evE F a e).bind fun x e1 => match x with
    | .bl true => .ok (.bl true) e1
    | .bl false => evE F b e1
    | _ => .bad
  | .ite c a b, e => (evE F c e).bind fun x e1 => match x with
    | .bl true => evE F a e1
    | .bl false => evE F b e1
    | _ => .bad
  | .isN g a, e => (evE F a e).bind fun x e1 => .ok (.bl (match x with
    | .non => !g
    | _ => g)) e1
  | .idx a i, e => (evE F a e).bind fun x e1 => (evE F i e1).bind fun y e2 => ofO (idxS x y) e2
  | .idxD a i, e => (evE F a e).bind fun x e1 => (evE F i e1).bind fun y e2 => ofO (idxD x y) e2
  | .sl a l h, e => (evE F a e).bind fun x e1 => (evOp F l e1).bind fun y e2 => (evOp F h e2).bind fun z e3 => ofO (slOp x y z) e3
  | .rev a, e => (evE F a e).bind fun x e1 => match x with
    | .lst ds => .ok (.lst ds.reverse) e1
    | _ => .bad
  | .fld a n, e => (evE F a e).bind fun x e1 => ofO (fldOp x n) e1
  | .tup es, e => (evEs F es e).bind fun as e1 => ofO ((dsOf as).map .tup) e1
  | .lst es, e => (evEs F es e).bind fun as e1 => ofO ((dsOf as).map .lst) e1
  | .dct es, e => (evEs F es e).bind fun as e1 => ofO ((dsOf as).bind fun ds => (dispK ds []).map .dct) e1
  | .call f es, e => (evEs F es e).bind fun as e1 => match arD as e1 with
    | some ds => callR (F f ds) as e1
    | none => .bad
  | .mV c f a es, e => (evE F a e).bind fun d e1 => if isTy (.cls c) d then (evEs F es e1).bind fun as e2 => (match arD as e2 with
      | some ds => callR (F f (d :: ds)) (.d d :: as) e2
      | none => .bad) else .bad
  | .mR c f i es, e => match gt e i with
    | some d => if isTy (.cls c) d then (evEs F es e).bind fun as e2 => (match arD (.s i :: as) e2 with
      | some ds => callR (F f ds) (.s i :: as) e2
      | none => .bad) else .bad
    | none => .bad
  | .mk c f es, e => (evEs F es e).bind fun as e1 => match arD as e1 with
    | some ds => match F f (.obj c [] :: ds) with
      | .ok .non [o] => .ok o e1
      | .err c fs [_] => .err c fs e1
      | _ => .bad
    | none => .bad
  | .bi o es, e => (evEs F es e).bind fun as e1 => ofO ((dsOf as).bind fun ds => evBi o ds) e1
  | .mut m p es, e => (evPl F p e).bind fun sp e1 => if atPl (muTy m) (gt e1 sp.1) sp.2 then (evEs F es e1).bind fun as e2 => (match dsOf as with
      | some ds => doMu m ds sp e2
      | none => .bad) else .bad
  | .lc own f tg it c, e => (evIt F it e).bind fun xs e1 => noErr ((lcLoop (bindT tg) (fun e => evE F c e) (fun e => (evE F f e).bind fun d e1 => .ok [d] e1) xs (wipeE own e1)).bind fun ds e2 =>
    if ds.length < LIM then .ok (.lst ds) (backE own e1 e2) else .bad)
  | .lc2 own own2 f tg it c tg2 it2 c2, e => (evIt F it e).bind fun xs e1 => noErr ((lcLoop (bindT tg) (fun e => evE F c e) (fun e => (evIt F it2 e).bind fun ys e1 =>
      lcLoop (bindT tg2) (fun e => evE F c2 e) (fun e => (evE F f e).bind fun d e1 => .ok [d] e1) ys e1) xs (wipeE own e1)).bind fun ds e2 =>
    if ds.length < LIM then .ok (.lst ds) (backE own e1 e2) else .bad)
  | .dc own k v tg it c, e => (evIt F it e).bind fun xs e1 => noErr ((lcLoop (bindT tg) (fun e => evE F c e) (fun e => (evE F k e).bind fun a e1 => (evE F v e1).bind fun b e2 => .ok [.tup [a, b]] e2) xs (wipeE own e1)).bind fun ds e2 =>
    if ds.length < LIM then ofO ((pairs? ds []).map .dct) (backE own e1 e2) else .bad)
  | .lend _ a, e => match evE F a e with
    | .ok d _ => if lendD d then .ok d e else .bad
    | .err c fs e1 => .err c fs e1
    | .bad => .bad
  | .fs es, e => (evEs F es e).bind fun as e1 => ofO ((dsOf as).bind fun ds => (fstrs ds).bind fun x => if x.length < LIM then some (.str x) else none) e1
def evEs (F : FS) : Exs → Env → R (List Ar)
  | .nil, e => .ok [] e
  | .cons a es, e => (evE F a e).bind fun d e1 => (evEs F es e1).bind fun r e2 => .ok (.d d :: r) e2
  | .ref i es, e => (evEs F es e).bind fun r e1 => .ok (.s i :: r) e1
def evOp (F : FS) : Op → Env → R (Option Int)
  | .no, e => .ok none e
  | .ex a, e => (evE F a e).bind fun d e1 => match d with
    | .int i => .ok (some i) e1
    | _ => .bad
def evPl (F : FS) : Pl → Env → R (Nat × List Ac)
  | .sl i, e => .ok (i, []) e
  | .fl p n, e => (evPl F p e).bind fun sp e1 => .ok (sp.1, sp.2 ++ [.f n]) e1
  | .ix p a, e => (evPl F p e).bind fun sp e1 => (evE F a e1).bind fun d e2 => .ok (sp.1, sp.2 ++ [.i d]) e2
def evIt (F : FS) : It → Env → R (List D)
  | .lst a, e => (evE F a e).bind fun d e1 => match d with
    | .lst ds => .ok ds e1
    | _ => .bad
  | .scr a, e => (evE F a e).bind fun d e1 => match d with
    | .lst ds => .ok ds e1
    | _ => .bad
  | .tup a, e => (evE F a e).bind fun d e1 => match d with
    | .tup ds => .ok ds e1
    | _ => .bad
  | .keys a, e => (evE F a e).bind fun d e1 => match d with
    | .dct kvs => .ok (kvs.map (·.1)) e1
    | _ => .bad
  | .rng es, e => (evEs F es e).bind fun as e1 => match dsOf as with
    | some [.int j] => if j.natAbs < LIM then .ok (rngD 0 j.toNat) e1 else .bad
    | some [.int i, .int j] => if i.natAbs < LIM ∧ j.natAbs < LIM then .ok (rngD i (j - i).toNat) e1 else .bad
    | _ => .bad
  | .en a, e => (evE F a e).bind fun d e1 => match d with
    | .lst ds => .ok (enumD 0 ds) e1
    | _ => .bad
  | .enT a, e => (evE F a e).bind fun d e1 => match d with
    | .tup ds => .ok (enumD 0 ds) e1
    | _ => .bad
  | .sq a, e => (evE F a e).bind fun d e1 => match d with
    | .lst ds => .ok ds e1
    | .tup ds => .ok ds e1
    | _ => .bad
  | .zp a b, e => (evE F a e).bind fun d e1 => (evE F b e1).bind fun d2 e2 => match d, d2 with
    | .lst xs, .lst ys => .ok ((xs.zip ys).map kvD) e2
    | _, _ => .bad
  | .its a, e => (evE F a e).bind fun d e1 => match d with
    | .dct kvs => .ok (kvs.map kvD) e1
    | _ => .bad
  | .vls a, e => (evE F a e).bind fun d e1 => match d with
    | .dct kvs => .ok (kvs.map (·.2)) e1
    | _ => .bad
end
inductive Fl where
  | nxt | ret (d : D)
inductive W where
  | done (r : R Fl) | more (e : Env)
def whileB (step : Env → W) : Nat → Env → W
  | 0, e => step e
  | n + 1, e => match whileB step n e with
    | .more e1 => whileB step n e1
    | r => r
def forL (bnd : D → Env → Option Env) (b : Env → R Fl) : List D → Env → R Fl
  | [], e => .ok .nxt e
  | x :: xs, e => match bnd x e with
    | none => .bad
    | some e1 => match b e1 with
      | .ok .nxt e2 => forL bnd b xs e2
      | r => r
abbrev Sub := Nat → Nat → Bool
mutual
def evS (F : FS) (sub : Sub) : Sm → Env → R Fl
  | .skip, e => .ok .nxt e
  | .seq a b, e => match evS F sub a e with
    | .ok .nxt e1 => evS F sub b e1
    | r => r
  | .ex a, e => (evE F a e).bind fun _ e1 => .ok .nxt e1
  | .asg t a, e => (evE F a e).bind fun d e1 => match bindT t d e1 with
    | some e2 => .ok .nxt e2
    | none => .bad
  | .fset p n a, e => (evE F a e).bind fun d e1 => (evPl F p e1).bind fun sp e2 => match gt e2 sp.1 with
    | some d0 => match getP d0 sp.2 with
      | some o => match setF o n d with
        | some o' => match setP d0 sp.2 o' with
          | some d1 => .ok .nxt (st e2 sp.1 (some d1))
          | none => .bad
        | none => .bad
      | none => .bad
    | none => .bad
  | .iset p i a, e => (evE F a e).bind fun d e1 => (evPl F p e1).bind fun sp e2 => (evE F i e2).bind fun k e3 => match gt e3 sp.1 with
    | some d0 => match getP d0 sp.2 with
      | some o => match setI o k d with
        | some o' => match setP d0 sp.2 o' with
          | some d1 => .ok .nxt (st e3 sp.1 (some d1))
          | none => .bad
        | none => .bad
      | none => .bad
    | none => .bad
  | .aug i o a, e => (evE F a e).bind fun y e1 => match gt e1 i with
    | some x => (match evOp2 o x y with
      | some z => .ok .nxt (st e1 i (some z))
      | none => .bad)
    | none => .bad
  | .par is es, e => (evEs F es e).bind fun as e1 => match (dsOf as).bind fun ds => stN is ds e1 with
    | some e2 => .ok .nxt e2
    | none => .bad
  | .ret a, e => (evE F a e).bind fun d e1 => .ok (.ret d) e1
  | .ife c a b, e => (evE F c e).bind fun x e1 => match x with
    | .bl true => evS F sub a e1
    | .bl false => evS F sub b e1
    | _ => .bad
  | .forr t it b, e => (evIt F it e).bind fun xs e1 => forL (bindT t) (fun e => evS F sub b e) xs e1
  | .whl c b, e => match whileB (fun e => match evE F c e with
      | .ok (.bl true) e1 => match evS F sub b e1 with
        | .ok .nxt e2 => .more e2
        | r => .done r
      | .ok (.bl false) e1 => .done (.ok .nxt e1)
      | .err k fs e1 => .done (.err k fs e1)
      | _ => .done .bad) 40 e with
    | .done r => r
    | .more _ => .bad
  | .rse c es, e => (evEs F es e).bind fun as e1 => match dsOf as with
    | some ds => .err c ds e1
    | none => .bad
  | .try_ b hs, e => match evS F sub b e with
    | .err c fs e1 => evHs F sub hs c fs e1
    | r => r
def evHs (F : FS) (sub : Sub) : Hs → Nat → List D → Env → R Fl
  | .nil, c, fs, e => .err c fs e
  | .cons k i b hs, c, fs, e => if sub c k then (match i with
      | none => noErr (evS F sub b e)
      | some i => match evS F sub b (st e i (some (.exc c fs))) with
        | .ok r e1 => .ok r (st e1 i none)
        | .err _ _ _ => .bad
        | .bad => .bad)
    else evHs F sub hs c fs e
end
def stk : Sm := .asg (.tl .nil) (.cst .non)
theorem evS_stk (F : FS) (sub : Sub) (e : Env) : evS F sub stk e = .bad := rfl
structure Fn where
  rf : List Bool
  ns : Nat
  body : Sm
abbrev Tab := Nat → Option Fn
def outsOf : List Bool → Env → Option (List D)
  | [], _ => some []
  | true :: r, some d :: e => (outsOf r e).map (d :: ·)
  | false :: r, _ :: e => outsOf r e
  | _, _ => none
def runFn (F : FS) (sub : Sub) (f : Fn) (ds : List D) : FR :=
  if ds.length = f.rf.length then
    match evS F sub f.body (ds.map some ++ List.replicate (f.ns - f.rf.length) none) with
    | .ok fl e => match outsOf f.rf e with
      | some os => .ok (match fl with
        | .nxt => .non
        | .ret d => d) os
      | none => .bad
    | .err c fs e => match outsOf f.rf e with
      | some os => .err c fs os
      | none => .bad
    | .bad => .bad
  else .bad
def semK (T : Tab) (sub : Sub) : Nat → FS
  | 0, _, _ => .bad
  | k + 1, n, ds => match T n with
    | some f => runFn (fun m as => if m < n then semK T sub k m as else .bad) sub f ds
    | none => .bad
def sem (T : Tab) (sub : Sub) (n : Nat) (ds : List D) : FR := semK T sub (n + 1) n ds
theorem semK_step (T : Tab) (sub : Sub) (k n : Nat) (ds : List D) : semK T sub (k + 1) n ds = match T n with
    | some f => runFn (fun m as => if m < n then semK T sub k m as else .bad) sub f ds
    | none => .bad := rfl
theorem semK_eq (T : Tab) (sub : Sub) : ∀ (n k : Nat), n < k → semK T sub k n = sem T sub n := by
  intro n
  induction n using Nat.strongRecOn with
  | ind n ih =>
    intro k hk
    obtain ⟨j, rfl⟩ : ∃ j, k = j + 1 := ⟨k - 1, by omega⟩
    funext ds
    unfold sem
    rw [semK_step, semK_step]
    have e : (fun m as => if m < n then semK T sub j m as else FR.bad) = (fun m as => if m < n then semK T sub n m as else FR.bad) := by
      funext m as
      by_cases hm : m < n
      · rw [if_pos hm, if_pos hm, ih m hm j (by omega), ih m hm n hm]
      · rw [if_neg hm, if_neg hm]
    rw [e]
def below (T : Tab) (sub : Sub) (n : Nat) : FS := fun m as => if m < n then sem T sub m as else .bad
theorem sem_eq (T : Tab) (sub : Sub) (n : Nat) (ds : List D) : sem T sub n ds = match T n with
    | some f => runFn (below T sub n) sub f ds
    | none => .bad := by
  unfold sem
  rw [semK_step]
  have e : (fun m as => if m < n then semK T sub n m as else FR.bad) = below T sub n := by
    funext m as
    unfold below
    by_cases hm : m < n
    · rw [if_pos hm, if_pos hm, semK_eq T sub m n hm]
    · rw [if_neg hm, if_neg hm]
  rw [e]
end Mi
namespace Mi
open PySem PySem.Spec PyProof.Rows L2
inductive Md where
  | v | l (m : Md) | d (m : Md) | o (c : Nat) | s | t (m : Md)
  deriving DecidableEq
def itM : Md → Md
  | .l m => m
  | _ => .v
def noS : Md → Bool
  | .s => false
  | .l m => noS m
  | .d m => noS m
  | .t m => noS m
  | _ => true
structure Tb where
  K : PySem.W.Frag
  ca : Nat → Addr
  cf : Nat → Nat → Md
  fn : Nat → Str
  cs : ∀ c n, noS (cf c n) = true
def keyD : Key → D
  | .inl i => .int i
  | .inr x => .str x
def keyT (k : List Key) : D := .tup (k.map keyD)
def FzL (O : List Addr) (H : Hp) (a : Addr) (vs : List V) : Prop := a ∉ O ∧ H a = some (.lst vs)
def FzT (O : List Addr) (H : Hp) (a : Addr) (vs : List V) : Prop := a ∉ O ∧ H a = some (.tup vs)
def H0 : Hp := fun _ => none
theorem sqL0 {K : PySem.W.Frag} {H : Hp} {a : Addr} {vs : List V} (h : SqL K H0 a vs) : SqL K H a vs := by
  rcases h with (h | ⟨_, h⟩) | h
  · cases h
  · cases h
  · exact .inr h
def Scr (K : PySem.W.Frag) (O : List Addr) (H : Hp) (a : Addr) (ns : List Int) : Prop := (a ∉ O ∧ ∃ u, H a = some (.frz u (.lst (ns.map V.int)))) ∨ SqL K H0 a (ns.map V.int)
theorem Scr.sq {K : PySem.W.Frag} {O : List Addr} {H : Hp} {a : Addr} {ns : List Int} (h : Scr K O H a ns) : SqL K H a (ns.map V.int) := h.elim (fun h => .inl (.inr h.2)) sqL0
mutual
inductive Ow (B : Tb) (O : List Addr) (H : Hp) : Md → D → V → List Addr → Prop
  | non {m} : Ow B O H m .non .non []
  | bl {m b} : Ow B O H m (.bl b) (.bl b) []
  | int {m i} : Ow B O H m (.int i) (.int i) []
  | str {m x} : Ow B O H m (.str x) (.str x) []
  | tup {m ds a vs} : itM m = .v → FzT O H a vs → OwL B O H .v ds vs [] → Ow B O H m (.tup ds) (.ref a) []
  | lstV {ds a vs} : FzL O H a vs → OwL B O H .v ds vs [] → Ow B O H .v (.lst ds) (.ref a) []
  | lst {m ds a vs S} : H a = some (.lst vs) → OwL B O H m ds vs S → Ow B O H (.l m) (.lst ds) (.ref a) (a :: S)
  | dKV {kvs a ks} : a ∉ O → H a = some (.dK ks) → OwK B O H .v kvs ks [] → Ow B O H .v (.dct kvs) (.ref a) []
  | dTV {kvs a ks} : a ∉ O → H a = some (.dT ks) → OwT B O H .v kvs ks [] → Ow B O H .v (.dct kvs) (.ref a) []
  | dK {m kvs a ks S} : H a = some (.dK ks) → OwK B O H m kvs ks S → Ow B O H (.d m) (.dct kvs) (.ref a) (a :: S)
  | dT {m kvs a ks S} : H a = some (.dT ks) → OwT B O H m kvs ks S → Ow B O H (.t m) (.dct kvs) (.ref a) (a :: S)
  | scr {a ns} : Scr B.K O H a ns → Ow B O H .s (.lst (ns.map .int)) (.ref a) []
  | objV {c fs a dx gs} : a ∉ O → H a = some (.ins (B.ca c) dx gs) → OwF B O H (fun _ => .v) fs gs [] → Ow B O H .v (.obj c fs) (.ref a) []
  | obj {c fs a dx gs S} : H a = some (.ins (B.ca c) dx gs) → OwF B O H (B.cf c) fs gs S → Ow B O H (.o c) (.obj c fs) (.ref a) (a :: S)
inductive OwL (B : Tb) (O : List Addr) (H : Hp) : Md → List D → List V → List Addr → Prop
  | nil {m} : OwL B O H m [] [] []
  | cons {m d ds v vs S T} : Ow B O H m d v S → OwL B O H m ds vs T → OwL B O H m (d :: ds) (v :: vs) (S ++ T)
inductive OwK (B : Tb) (O : List Addr) (H : Hp) : Md → List (D × D) → List (Key × V) → List Addr → Prop
  | nil {m} : OwK B O H m [] [] []
  | cons {m d ds v vs S T} {k : Key} : Ow B O H m d v S → OwK B O H m ds vs T → OwK B O H m ((keyD k, d) :: ds) ((k, v) :: vs) (S ++ T)
inductive OwT (B : Tb) (O : List Addr) (H : Hp) : Md → List (D × D) → List (List Key × V) → List Addr → Prop
  | nil {m} : OwT B O H m [] [] []
  | cons {m d ds v vs S T} {k : List Key} : Ow B O H m d v S → OwT B O H m ds vs T → OwT B O H m ((keyT k, d) :: ds) ((k, v) :: vs) (S ++ T)
inductive OwF (B : Tb) (O : List Addr) (H : Hp) : (Nat → Md) → List (Nat × D) → List (Str × V) → List Addr → Prop
  | nil {m} : OwF B O H m [] [] []
  | cons {m d ds v vs S T} {n : Nat} : Ow B O H (m n) d v S → OwF B O H m ds vs T → OwF B O H m ((n, d) :: ds) ((B.fn n, v) :: vs) (S ++ T)
end
def Post (S : List Addr) (H H' : Hp) : Prop := ∀ a o, a ∉ S → H a = some o → H' a = some o
theorem Post.refl (S : List Addr) (H : Hp) : Post S H H := fun _ _ _ h => h
theorem Post.mono {S S' : List Addr} {H H' : Hp} (p : Post S H H') (h : ∀ a ∈ S, a ∈ S') : Post S' H H' := fun a o n e => p a o (fun q => n (h a q)) e
section
variable {B : Tb} {O O' : List Addr} {H H' : Hp}
structure Fr (O O' : List Addr) (H H' : Hp) : Prop where
  keep : ∀ a o, a ∉ O → H a = some o → H' a = some o
  out : ∀ a o, a ∉ O → H a = some o → a ∉ O'
theorem Rd.fr {a : Addr} {u : HO} (f : Fr O O' H H') (n : a ∉ O) (r : Rd H a u) : Rd H' a u ∧ a ∉ O' := by
  rcases r with r | ⟨o, r⟩
  · exact ⟨.inl (f.keep a _ n r), f.out a _ n r⟩
  · exact ⟨.inr ⟨o, f.keep a _ n r⟩, f.out a _ n r⟩
theorem FzL.fr {a : Addr} {vs : List V} (f : Fr O O' H H') (h : FzL O H a vs) : FzL O' H' a vs := ⟨f.out _ _ h.1 h.2, f.keep _ _ h.1 h.2⟩
theorem FzT.fr {a : Addr} {vs : List V} (f : Fr O O' H H') (h : FzT O H a vs) : FzT O' H' a vs := ⟨f.out _ _ h.1 h.2, f.keep _ _ h.1 h.2⟩
theorem Scr.fr {K : PySem.W.Frag} {a : Addr} {ns : List Int} (f : Fr O O' H H') (h : Scr K O H a ns) : Scr K O' H' a ns := by
  rcases h with ⟨n, u, r⟩ | h
  · exact .inl ⟨f.out _ _ n r, u, f.keep _ _ n r⟩
  · exact .inr h
def KeepS (S : List Addr) (H H' : Hp) : Prop := ∀ a ∈ S, ∀ o, H a = some o → H' a = some o
theorem KeepS.left {S T : List Addr} (h : KeepS (S ++ T) H H') : KeepS S H H' := fun a m => h a (List.mem_append_left _ m)
theorem KeepS.right {S T : List Addr} (h : KeepS (S ++ T) H H') : KeepS T H H' := fun a m => h a (List.mem_append_right _ m)
theorem KeepS.tail {S : List Addr} {b : Addr} (h : KeepS (b :: S) H H') : KeepS S H H' := fun a m => h a (List.mem_cons_of_mem _ m)
mutual
theorem Ow.fr (f : Fr O O' H H') : ∀ {m : Md} {d : D} {v : V} {S : List Addr}, Ow B O H m d v S → KeepS S H H' → Ow B O' H' m d v S
  | _, _, _, _, .non, _ => .non
  | _, _, _, _, .bl, _ => .bl
  | _, _, _, _, .int, _ => .int
  | _, _, _, _, .str, _ => .str
  | _, _, _, _, .tup h0 h1 h2, k => .tup h0 (h1.fr f) (OwL.fr f h2 k)
  | _, _, _, _, .lstV h1 h2, k => .lstV (h1.fr f) (OwL.fr f h2 k)
  | _, _, _, _, .lst h1 h2, k => .lst (k _ (List.mem_cons_self ..) _ h1) (OwL.fr f h2 k.tail)
  | _, _, _, _, .dKV n h1 h2, k => .dKV (f.out _ _ n h1) (f.keep _ _ n h1) (OwK.fr f h2 k)
  | _, _, _, _, .dTV n h1 h2, k => .dTV (f.out _ _ n h1) (f.keep _ _ n h1) (OwT.fr f h2 k)
  | _, _, _, _, .dK h1 h2, k => .dK (k _ (List.mem_cons_self ..) _ h1) (OwK.fr f h2 k.tail)
  | _, _, _, _, .dT h1 h2, k => .dT (k _ (List.mem_cons_self ..) _ h1) (OwT.fr f h2 k.tail)
  | _, _, _, _, .scr h1, k => .scr (h1.fr f)
  | _, _, _, _, .objV n h1 h2, k => .objV (f.out _ _ n h1) (f.keep _ _ n h1) (OwF.fr f h2 k)
  | _, _, _, _, .obj h1 h2, k => .obj (k _ (List.mem_cons_self ..) _ h1) (OwF.fr f h2 k.tail)
theorem OwL.fr (f : Fr O O' H H') : ∀ {m : Md} {d : List D} {v : List V} {S : List Addr}, OwL B O H m d v S → KeepS S H H' → OwL B O' H' m d v S
  | _, _, _, _, .nil, _ => .nil
  | _, _, _, _, .cons h1 h2, k => .cons (Ow.fr f h1 k.left) (OwL.fr f h2 k.right)
theorem OwK.fr (f : Fr O O' H H') : ∀ {m : Md} {d : List (D × D)} {v : List (Key × V)} {S : List Addr}, OwK B O H m d v S → KeepS S H H' → OwK B O' H' m d v S
  | _, _, _, _, .nil, _ => .nil
  | _, _, _, _, .cons h1 h2, k => .cons (Ow.fr f h1 k.left) (OwK.fr f h2 k.right)
theorem OwT.fr (f : Fr O O' H H') : ∀ {m : Md} {d : List (D × D)} {v : List (List Key × V)} {S : List Addr}, OwT B O H m d v S → KeepS S H H' → OwT B O' H' m d v S
  | _, _, _, _, .nil, _ => .nil
  | _, _, _, _, .cons h1 h2, k => .cons (Ow.fr f h1 k.left) (OwT.fr f h2 k.right)
theorem OwF.fr (f : Fr O O' H H') : ∀ {m : Nat → Md} {d : List (Nat × D)} {v : List (Str × V)} {S : List Addr}, OwF B O H m d v S → KeepS S H H' → OwF B O' H' m d v S
  | _, _, _, _, .nil, _ => .nil
  | _, _, _, _, .cons h1 h2, k => .cons (Ow.fr f h1 k.left) (OwF.fr f h2 k.right)
end
def ownK : HO → Bool
  | .lst _ => true
  | .dK _ => true
  | .dT _ => true
  | .ins _ _ _ => true
  | _ => false
def Live (S : List Addr) (H : Hp) : Prop := ∀ a ∈ S, ∃ o, H a = some o ∧ ownK o = true
theorem Live.nil : Live [] H := fun _ h => nomatch h
theorem Live.cons {a : Addr} {o : HO} {S : List Addr} (h : H a = some o) (l : Live S H) (k : ownK o = true := by rfl) : Live (a :: S) H := fun b hb => by
  rcases List.mem_cons.mp hb with rfl | hb
  · exact ⟨_, h, k⟩
  · exact l b hb
theorem Live.app {S T : List Addr} (l : Live S H) (k : Live T H) : Live (S ++ T) H := fun b hb => (List.mem_append.mp hb).elim (l b) (k b)
mutual
theorem Ow.live : ∀ {m : Md} {d : D} {v : V} {S : List Addr}, Ow B O H m d v S → Live S H
  | _, _, _, _, .non => Live.nil
  | _, _, _, _, .bl => Live.nil
  | _, _, _, _, .int => Live.nil
  | _, _, _, _, .str => Live.nil
  | _, _, _, _, .tup _ _ _ => Live.nil
  | _, _, _, _, .lstV _ _ => Live.nil
  | _, _, _, _, .dKV _ _ _ => Live.nil
  | _, _, _, _, .dTV _ _ _ => Live.nil
  | _, _, _, _, .scr _ => Live.nil
  | _, _, _, _, .objV _ _ _ => Live.nil
  | _, _, _, _, .lst h1 h2 => Live.cons h1 (OwL.live h2)
  | _, _, _, _, .dK h1 h2 => Live.cons h1 (OwK.live h2)
  | _, _, _, _, .dT h1 h2 => Live.cons h1 (OwT.live h2)
  | _, _, _, _, .obj h1 h2 => Live.cons h1 (OwF.live h2)
theorem OwL.live : ∀ {m : Md} {d : List D} {v : List V} {S : List Addr}, OwL B O H m d v S → Live S H
  | _, _, _, _, .nil => Live.nil
  | _, _, _, _, .cons h1 h2 => Live.app (Ow.live h1) (OwL.live h2)
theorem OwK.live : ∀ {m : Md} {d : List (D × D)} {v : List (Key × V)} {S : List Addr}, OwK B O H m d v S → Live S H
  | _, _, _, _, .nil => Live.nil
  | _, _, _, _, .cons h1 h2 => Live.app (Ow.live h1) (OwK.live h2)
theorem OwT.live : ∀ {m : Md} {d : List (D × D)} {v : List (List Key × V)} {S : List Addr}, OwT B O H m d v S → Live S H
  | _, _, _, _, .nil => Live.nil
  | _, _, _, _, .cons h1 h2 => Live.app (Ow.live h1) (OwT.live h2)
theorem OwF.live : ∀ {m : Nat → Md} {d : List (Nat × D)} {v : List (Str × V)} {S : List Addr}, OwF B O H m d v S → Live S H
  | _, _, _, _, .nil => Live.nil
  | _, _, _, _, .cons h1 h2 => Live.app (Ow.live h1) (OwF.live h2)
end
theorem Ow.v_nil : ∀ {d : D} {v : V} {S : List Addr}, Ow B O H .v d v S → S = []
  | _, _, _, .non => rfl
  | _, _, _, .bl => rfl
  | _, _, _, .int => rfl
  | _, _, _, .str => rfl
  | _, _, _, .tup _ _ _ => rfl
  | _, _, _, .lstV _ _ => rfl
  | _, _, _, .dKV _ _ _ => rfl
  | _, _, _, .dTV _ _ _ => rfl
  | _, _, _, .objV _ _ _ => rfl
theorem OwL.v_nil : ∀ {ds : List D} {vs : List V} {S : List Addr}, OwL B O H .v ds vs S → S = [] := by
  intro ds
  induction ds with
  | nil => intro vs S h; cases h; rfl
  | cons d ds ih => intro vs S h; cases h with
    | cons h1 h2 => rw [h1.v_nil, ih h2]; rfl
theorem Ow.s_nil : ∀ {d : D} {v : V} {S : List Addr}, Ow B O H .s d v S → S = []
  | _, _, _, .non => rfl
  | _, _, _, .bl => rfl
  | _, _, _, .int => rfl
  | _, _, _, .str => rfl
  | _, _, _, .tup _ _ _ => rfl
  | _, _, _, .scr _ => rfl
def Off (S O' : List Addr) : Prop := ∀ a ∈ S, a ∉ O'
theorem Off.left {S T : List Addr} (h : Off (S ++ T) O') : Off S O' := fun a m => h a (List.mem_append_left _ m)
theorem Off.right {S T : List Addr} (h : Off (S ++ T) O') : Off T O' := fun a m => h a (List.mem_append_right _ m)
theorem Off.tail {S : List Addr} {b : Addr} (h : Off (b :: S) O') : Off S O' := fun a m => h a (List.mem_cons_of_mem _ m)
theorem Off.head {S : List Addr} {b : Addr} (h : Off (b :: S) O') : b ∉ O' := h b (List.mem_cons_self ..)
mutual
theorem Ow.frz (f : Fr O O' H H) : ∀ {m : Md} {d : D} {v : V} {S : List Addr}, Ow B O H m d v S → noS m = true → Off S O' → Ow B O' H .v d v []
  | _, _, _, _, .non, _, _ => .non
  | _, _, _, _, .bl, _, _ => .bl
  | _, _, _, _, .int, _, _ => .int
  | _, _, _, _, .str, _, _ => .str
  | _, _, _, _, .tup _ h1 h2, _, k => .tup rfl (h1.fr f) (OwL.frz f h2 rfl k)
  | _, _, _, _, .lstV h1 h2, _, k => .lstV (h1.fr f) (OwL.frz f h2 rfl k)
  | _, _, _, _, .lst h1 h2, n, k => .lstV ⟨k.head, h1⟩ (OwL.frz f h2 n k.tail)
  | _, _, _, _, .dKV n h1 h2, _, k => .dKV (f.out _ _ n h1) (f.keep _ _ n h1) (OwK.frz f h2 rfl k)
  | _, _, _, _, .dTV n h1 h2, _, k => .dTV (f.out _ _ n h1) (f.keep _ _ n h1) (OwT.frz f h2 rfl k)
  | _, _, _, _, .dK h1 h2, n, k => .dKV k.head h1 (OwK.frz f h2 n k.tail)
  | _, _, _, _, .dT h1 h2, n, k => .dTV k.head h1 (OwT.frz f h2 n k.tail)
  | _, _, _, _, .scr _, n, _ => absurd n (by decide)
  | _, _, _, _, .objV n h1 h2, _, k => .objV (f.out _ _ n h1) (f.keep _ _ n h1) (OwF.frz f h2 (fun _ => rfl) k)
  | _, _, _, _, .obj (c := c) h1 h2, _, k => .objV k.head h1 (OwF.frz f h2 (B.cs c) k.tail)
theorem OwL.frz (f : Fr O O' H H) : ∀ {m : Md} {d : List D} {v : List V} {S : List Addr}, OwL B O H m d v S → noS m = true → Off S O' → OwL B O' H .v d v []
  | _, _, _, _, .nil, _, _ => .nil
  | _, _, _, _, .cons h1 h2, n, k => .cons (S := []) (T := []) (Ow.frz f h1 n k.left) (OwL.frz f h2 n k.right)
theorem OwK.frz (f : Fr O O' H H) : ∀ {m : Md} {d : List (D × D)} {v : List (Key × V)} {S : List Addr}, OwK B O H m d v S → noS m = true → Off S O' → OwK B O' H .v d v []
  | _, _, _, _, .nil, _, _ => .nil
  | _, _, _, _, .cons h1 h2, n, k => .cons (S := []) (T := []) (Ow.frz f h1 n k.left) (OwK.frz f h2 n k.right)
theorem OwT.frz (f : Fr O O' H H) : ∀ {m : Md} {d : List (D × D)} {v : List (List Key × V)} {S : List Addr}, OwT B O H m d v S → noS m = true → Off S O' → OwT B O' H .v d v []
  | _, _, _, _, .nil, _, _ => .nil
  | _, _, _, _, .cons h1 h2, n, k => .cons (S := []) (T := []) (Ow.frz f h1 n k.left) (OwT.frz f h2 n k.right)
theorem OwF.frz (f : Fr O O' H H) : ∀ {m : Nat → Md} {d : List (Nat × D)} {v : List (Str × V)} {S : List Addr}, OwF B O H m d v S → (∀ n, noS (m n) = true) → Off S O' → OwF B O' H (fun _ => .v) d v []
  | _, _, _, _, .nil, _, _ => .nil
  | _, _, _, _, .cons h1 h2, n, k => .cons (S := []) (T := []) (Ow.frz f h1 (n _) k.left) (OwF.frz f h2 n k.right)
end
abbrev VS := List (Option V)
abbrev G := List (Option Md)
inductive Sl (B : Tb) (O : List Addr) (H : Hp) : G → Env → VS → List Addr → Prop
  | nil : Sl B O H [] [] [] []
  | no {Γ e σ S x y} : Sl B O H Γ e σ S → Sl B O H (none :: Γ) (x :: e) (y :: σ) S
  | hv {m d v Γ e σ S T} : Ow B O H m d v S → Sl B O H Γ e σ T → Sl B O H (some m :: Γ) (some d :: e) (some v :: σ) (S ++ T)
theorem Sl.fr {Γ : G} {e : Env} {σ : VS} {S : List Addr} (f : Fr O O' H H') (h : Sl B O H Γ e σ S) (k : KeepS S H H') : Sl B O' H' Γ e σ S := by
  induction h with
  | nil => exact .nil
  | no _ ih => exact .no (ih k)
  | hv h1 _ ih => exact .hv (h1.fr f k.left) (ih k.right)
theorem Sl.live {Γ : G} {e : Env} {σ : VS} {S : List Addr} (h : Sl B O H Γ e σ S) : Live S H := by
  induction h with
  | nil => exact Live.nil
  | no _ ih => exact ih
  | hv h1 _ ih => exact h1.live.app ih
def leM : Option Md → Option Md → Bool
  | _, none => true
  | none, some _ => false
  | some m, some m' => decide (m = m') || (decide (m' = .v) && noS m)
def leG : G → G → Bool
  | [], [] => true
  | m :: Γ, m' :: Γ' => leM m m' && leG Γ Γ'
  | _, _ => false
theorem Sl.le {Γ Γ' : G} {e : Env} {σ : VS} {S R : List Addr} (h : Sl B (S ++ R) H Γ e σ S) (nd : (S ++ R).Nodup) (l : leG Γ Γ' = true) :
    ∃ S', (∀ a ∈ S', a ∈ S) ∧ (S' ++ R).Nodup ∧ Sl B (S' ++ R) H Γ' e σ S' := by
  generalize hO : S ++ R = O at h
  have key : ∀ {Γ Γ' : G} {e : Env} {σ : VS} {S : List Addr}, Sl B O H Γ e σ S → leG Γ Γ' = true → S.Nodup → (∀ a ∈ S, a ∈ O) →
      ∃ S', S'.Sublist S ∧ ∀ O', (∀ a ∈ O', a ∈ O) → (∀ a ∈ S, a ∈ O' → a ∈ S') → Sl B O' H Γ' e σ S' := by
    intro Γ Γ' e σ S h
    induction h generalizing Γ' with
    | nil =>
      intro l _ _
      cases Γ' with
      | nil => exact ⟨[], List.Sublist.refl _, fun _ _ _ => .nil⟩
      | cons _ _ => cases l
    | no _ ih =>
      intro l nd hs
      cases Γ' with
      | nil => cases l
      | cons m' Γ' =>
        cases m' with
        | some _ => cases l
        | none =>
          obtain ⟨S', h1, h2⟩ := ih (by simpa [leG, leM] using l) nd hs
          exact ⟨S', h1, fun O' a b => .no (h2 O' a b)⟩
    | @hv m d v Γ e σ S T h1 h2 ih =>
      intro l nd hs
      cases Γ' with
      | nil => cases l
      | cons m' Γ' =>
        have l2 : leG Γ Γ' = true := (Bool.and_eq_true_iff.mp l).2
        have l1 : leM (some m) m' = true := (Bool.and_eq_true_iff.mp l).1
        obtain ⟨T', k1, k2⟩ := ih l2 (List.nodup_append.mp nd).2.1 fun a ha => hs a (List.mem_append_right _ ha)
        have dj : ∀ a ∈ S, a ∉ T := fun a ha hb => (List.nodup_append.mp nd).2.2 a ha a hb rfl
        have fr : ∀ O', (∀ a ∈ O', a ∈ O) → Fr O O' H H := fun O' ho => ⟨fun _ _ _ h => h, fun a _ n _ q => n (ho a q)⟩
        cases m' with
        | none => exact ⟨T', k1.trans (List.sublist_append_right _ _), fun O' a b => .no (k2 O' a fun x hx hy => b x (List.mem_append_right _ hx) hy)⟩
        | some m' =>
          have l1' : m = m' ∨ (m' = .v ∧ noS m = true) := by simpa [leM] using l1
          rcases l1' with rfl | ⟨rfl, ns⟩
          · refine ⟨S ++ T', List.Sublist.append_left k1 S, fun O' a b => .hv (h1.fr (fr O' a) fun _ _ _ h => h) (k2 O' a fun x hx hy => ?_)⟩
            rcases List.mem_append.mp (b x (List.mem_append_right _ hx) hy) with q | q
            · exact absurd hx (dj x q)
            · exact q
          · refine ⟨T', k1.trans (List.sublist_append_right _ _), fun O' a b => .hv (S := []) (h1.frz (fr O' a) ns fun x hx hy => ?_) (k2 O' a fun x hx hy => b x (List.mem_append_right _ hx) hy)⟩
            exact dj x hx (k1.subset (b x (List.mem_append_left _ hx) hy))
  obtain ⟨S', h1, h2⟩ := key h l (List.nodup_append.mp nd).1 fun a ha => hO ▸ List.mem_append_left _ ha
  have nd' : (S' ++ R).Nodup := (List.Sublist.append_right h1 R).nodup nd
  refine ⟨S', fun a ha => h1.subset ha, nd', h2 _ (fun a ha => ?_) fun a ha hb => ?_⟩
  rw [← hO]
  · rcases List.mem_append.mp ha with q | q
    · exact List.mem_append_left _ (h1.subset q)
    · exact List.mem_append_right _ q
  · rcases List.mem_append.mp hb with q | q
    · exact q
    · exact absurd rfl ((List.nodup_append.mp nd).2.2 a ha a q)
end
end Mi
namespace Mi
open PySem PySem.Spec PyProof.Rows L2
structure MP where
  mi : List Nat
  v0 : VS
structure Sta (B : Tb) (M : MP) (R : List Addr) (Γ : G) (e : Env) (σ : VS) (H : Hp) (S : List Addr) : Prop where
  nd : (S ++ R).Nodup
  live : Live R H
  sl : Sl B (S ++ R) H Γ e σ S
  mp : ∀ i ∈ M.mi, σ[i]? = M.v0[i]?
inductive Kd where
  | own (m : Md) | bor (m : Md)
def Kd.md : Kd → Md
  | .own m => m
  | .bor m => m
def Kd.isB : Kd → Bool
  | .own _ => false
  | .bor _ => true
def Vl (B : Tb) (O S : List Addr) (H : Hp) (k : Kd) (d : D) (v : V) (T : List Addr) : Prop := match k with
  | .own m => Ow B O H m d v T
  | .bor m => T = [] ∧ ∃ U, (∀ a ∈ U, a ∈ S) ∧ Ow B O H m d v U
def New (S : List Addr) (H : Hp) (L : List Addr) : Prop := ∀ a ∈ L, a ∈ S ∨ H a = none
def ExR (B : Tb) (O : List Addr) (H : Hp) (c : Nat) (fs : List D) (cls : Value) (dx : Option Addr) : Prop :=
  cls = .ref (B.ca c) ∧ ((fs = [] ∧ dx = none) ∨ ∃ (d : Addr) (ns : List Str) (vs : List V), dx = some d ∧ d ∉ O ∧ H d = some (.xd (ns.zip vs)) ∧ ns = ((List.range vs.length).map fun j => B.fn (c + j)) ∧ OwL B O H .v fs vs [])
structure Cf where
  B : Tb
  M : MP
  F : FS
  sb : Sub
  W : WX
  GX : G
  RM : Md
  GR : G
def ErrQ (C : Cf) (σ : VS) (H : Hp) (S R : List Addr) (c : Nat) (fs : List D) (e' : Env) : Prop :=
  ∀ cls dx H' S', Post S H H' → New S H S' → Sta C.B C.M R C.GX e' σ H' S' → ExR C.B (S' ++ R) H' c fs cls dx → C.W cls dx σ H'
def Out {α : Type} (C : Cf) (σ : VS) (H : Hp) (S R : List Addr) (ok : α → Env → Prop) : Mi.R α → Prop
  | .ok a e => ok a e
  | .err c fs e => ErrQ C σ H S R c fs e
  | .bad => False
def OkE (C : Cf) (σ : VS) (H : Hp) (S R : List Addr) (p : Bool) (k : Kd) (Γ' : G) (Q : VK) (d : D) (e' : Env) : Prop :=
  ∀ v H' S' T, Post (if p then [] else S) H H' → (p = true → S' = S) → New S H (S' ++ T) → Sta C.B C.M (T ++ R) Γ' e' σ H' S' → Vl C.B (S' ++ (T ++ R)) S' H' k d v T → Q v H'
def tE (C : Cf) (p : Bool) (Γ : G) (m : Ex) (k : Kd) (Γ' : G) : TE := fun σ H Q => ∃ e S R, Sta C.B C.M R Γ e σ H S ∧ Out C σ H S R (OkE C σ H S R p k Γ' Q) (evE C.F m e)
def SE (X : Cx) (C : Cf) (p : Bool) (Γ : G) (ex : Expr) (m : Ex) (k : Kd) (Γ' : G) : Prop := PE X ex (tE C p Γ m k Γ')
structure Gd (X : Cx) (C : Cf) : Prop where
  K : X.K = C.B.K
  calm : X.calm = true
  nd : X.N.Nodup
  gu : X.A.guards = some []
  un : X.A.units + 150 < cLine
  tk : Takes X C.W
  own : PassesOwn (model X.prog X.w) X.A X.env X.xe
theorem PE.imp {X : Cx} {e : Expr} {t t' : TE} (h : PE X e t) (i : ∀ σ H Q, t' σ H Q → t σ H Q) : PE X e t' := ⟨fun pins s σ H Q I q => h.run pins s σ H Q I (i σ H Q q)⟩
section
variable {S S1 S2 T T1 R R' : List Addr} {H H1 H2 : Hp}
theorem Post.trans (p : Post S H H1) (n : New S H S1) (q : Post S1 H1 H2) : Post S H H2 := fun a o h e => q a o (fun m => (n a m).elim h fun z => by rw [e] at z; cases z) (p a o h e)
theorem Post.nil (p : Post [] H H1) (S : List Addr) : Post S H H1 := p.mono fun _ h => nomatch h
theorem Post.ite {p : Bool} (h : Post (if p then [] else S) H H1) : Post S H H1 := by
  cases p with
  | true => exact Post.nil h S
  | false => exact h
theorem New.trans (n : New S H S1) (p : Post S H H1) (m : New S1 H1 S2) : New S H S2 := fun a ha => by
  rcases m a ha with q | q
  · exact n a q
  · by_cases z : a ∈ S
    · exact .inl z
    · refine .inr ?_
      cases e : H a with
      | none => rfl
      | some o => rw [p a o z e] at q; cases q
theorem New.left (n : New S H (S1 ++ T)) : New S H S1 := fun a h => n a (List.mem_append_left _ h)
theorem New.right (n : New S H (S1 ++ T)) : New S H T := fun a h => n a (List.mem_append_right _ h)
theorem New.app (n : New S H S1) (m : New S H T) : New S H (S1 ++ T) := fun a h => (List.mem_append.mp h).elim (n a) (m a)
theorem New.refl : New S H S := fun _ h => .inl h
theorem New.fresh (n : ∀ a ∈ T, H a = none) : New S H T := fun a h => .inr (n a h)
theorem Live.post {S : List Addr} (l : Live T H) (p : Post S H H1) (n : ∀ a ∈ T, a ∉ S) : Live T H1 := fun a h => by
  obtain ⟨o, e, k⟩ := l a h
  exact ⟨o, p a o (n a h) e, k⟩
theorem Fr.sub {O O' : List Addr} (h : ∀ a ∈ O', a ∈ O) : Fr O O' H H := ⟨fun _ _ _ e => e, fun a _ n _ q => n (h a q)⟩
theorem Fr.grow {O O' : List Addr} (p : Post [] H H1) (h : ∀ a ∈ O', a ∈ O ∨ H a = none) : Fr O O' H H1 :=
  ⟨fun a o _ e => p a o (fun z => nomatch z) e, fun a o n e q => (h a q).elim n fun z => by rw [e] at z; cases z⟩
theorem KeepS.all {S : List Addr} (p : Post [] H H1) : KeepS S H H1 := fun a _ o e => p a o (fun z => nomatch z) e
theorem disj (nd : (S ++ R).Nodup) {a : Addr} (h : a ∈ S) (k : a ∈ R) : False := (List.nodup_append.mp nd).2.2 a h a k rfl
end
section
variable {B : Tb} {M : MP} {S T R R' : List Addr} {Γ Γ' : G} {e : Env} {σ : VS} {H H' : Hp}
theorem Sta.lives (s : Sta B M R Γ e σ H S) : Live (S ++ R) H := s.sl.live.app s.live
theorem Sta.grow (s : Sta B M R Γ e σ H S) (p : Post [] H H') (nd : R'.Nodup) (l : Live R' H') (h : ∀ a ∈ R', a ∈ R ∨ H a = none) : Sta B M R' Γ e σ H' S := by
  have hd : ∀ a ∈ S, a ∉ R' := fun a ha hb => by
    rcases h a hb with q | q
    · exact disj s.nd ha q
    · obtain ⟨o, z, _⟩ := s.sl.live a ha
      rw [z] at q; cases q
  refine ⟨List.nodup_append.mpr ⟨(List.nodup_append.mp s.nd).1, nd, fun a ha b hb z => hd a ha (z ▸ hb)⟩, l, s.sl.fr (Fr.grow p fun a ha => ?_) (KeepS.all p), s.mp⟩
  rcases List.mem_append.mp ha with q | q
  · exact .inl (List.mem_append_left _ q)
  · exact (h a q).imp (List.mem_append_right _) id
theorem Sta.drop (s : Sta B M R Γ e σ H S) (nd : R'.Nodup) (h : ∀ a ∈ R', a ∈ R) : Sta B M R' Γ e σ H S := s.grow (Post.refl _ _) nd (fun a q => s.live a (h a q)) fun a q => .inl (h a q)
theorem Sta.dropL (s : Sta B M (T ++ R) Γ e σ H S) : Sta B M R Γ e σ H S := s.drop (List.nodup_append.mp (List.nodup_append.mp s.nd).2.1).2.1 fun a h => List.mem_append_right _ h
theorem Sta.le (s : Sta B M R Γ e σ H S) (l : leG Γ Γ' = true) : ∃ S', (∀ a ∈ S', a ∈ S) ∧ Sta B M R Γ' e σ H S' := by
  obtain ⟨S', h1, h2, h3⟩ := s.sl.le s.nd l
  exact ⟨S', h1, h2, s.live, h3, s.mp⟩
end
theorem ExR.fr {B : Tb} {O O' : List Addr} {H H' : Hp} {c : Nat} {fs : List D} {cls : Value} {dx : Option Addr} (x : ExR B O H c fs cls dx) (f : Fr O O' H H') : ExR B O' H' c fs cls dx := by
  obtain ⟨h1, h2 | ⟨d, ns, vs, h2, h3, h4, h5, h6⟩⟩ := x
  · exact ⟨h1, .inl h2⟩
  · exact ⟨h1, .inr ⟨d, ns, vs, h2, f.out _ _ h3 h4, f.keep _ _ h3 h4, h5, h6.fr f fun _ z => nomatch z⟩⟩
theorem ErrQ.step {C : Cf} {σ : VS} {H H1 : Hp} {S S1 T R : List Addr} {c : Nat} {fs : List D} {e' : Env} (q : ErrQ C σ H S R c fs e') (p : Post S H H1) (n : New S H (S1 ++ T)) : ErrQ C σ H1 S1 (T ++ R) c fs e' := by
  intro cls dx H' S' hp hn hs hx
  refine q cls dx H' S' (p.trans n.left hp) (n.left.trans p hn) hs.dropL (hx.fr (Fr.sub fun a h => ?_))
  rcases List.mem_append.mp h with h | h
  · exact List.mem_append_left _ h
  · exact List.mem_append_right _ (List.mem_append_right _ h)
theorem Out.ofO {C : Cf} {σ : VS} {H : Hp} {S R : List Addr} {ok : D → Env → Prop} {x : Option D} {e : Env} (h : Out C σ H S R ok (ofO x e)) : ∃ d, x = some d ∧ ok d e := by
  cases x with
  | none => exact h.elim
  | some d => exact ⟨d, rfl, h⟩
section
variable {X : Cx} {C : Cf}
theorem Sl.get {B : Tb} {O : List Addr} {H : Hp} {Γ : G} {e : Env} {σ : VS} {S : List Addr} (h : Sl B O H Γ e σ S) : ∀ {i : Nat} {m : Md}, Γ[i]? = some (some m) →
    ∃ d v U, gt e i = some d ∧ σ[i]? = some (some v) ∧ (∀ a ∈ U, a ∈ S) ∧ Ow B O H m d v U := by
  induction h with
  | nil => intro i m h; simp at h
  | no h ih =>
    intro i m hi
    cases i with
    | zero => simp at hi
    | succ i =>
      obtain ⟨d, v, U, h1, h2, h3, h4⟩ := ih (by simpa using hi)
      exact ⟨d, v, U, h1, by simpa using h2, h3, h4⟩
  | @hv m' d v Γ e σ S T h1 h2 ih =>
    intro i m hi
    cases i with
    | zero =>
      have : m' = m := by simpa using hi
      subst this
      exact ⟨d, v, S, rfl, rfl, fun a h => List.mem_append_left _ h, h1⟩
    | succ i =>
      obtain ⟨d, v, U, h1, h2, h3, h4⟩ := ih (by simpa using hi)
      exact ⟨d, v, U, h1, by simpa using h2, fun a h => List.mem_append_right _ (h3 a h), h4⟩
def kdOf : Md → Kd
  | .v => .own .v
  | .s => .own .s
  | m => .bor m
theorem w_var {i : Nat} {x : Str} {pos : Pos} {m : Md} {Γ : G} (hN : X.N[i]? = some x := by rfl) (hm : Γ[i]? = some (some m) := by rfl) (hv : Vis X.env.scope x := by first | exact Or.inl rfl | exact Or.inr (Or.inl rfl) | exact Or.inr (Or.inr rfl))
    (hd : (x == ("__debug__" : Str)) = false := by decide) (hcd : (x == ("__classdict__" : Str)) = false := by decide) : SE X C true Γ (.Name x pos) (.var i) (kdOf m) Γ := by
  refine PE.imp (pe_var hN hv hd hcd) fun σ H Q h => ?_
  obtain ⟨e, S, R, s, o⟩ := h
  obtain ⟨d, v, U, h1, h2, h3, h4⟩ := s.sl.get hm
  obtain ⟨d', e1, q⟩ := Out.ofO (show Out C σ H S R _ (ofO (gt e i) e) from o)
  rw [h1] at e1
  cases e1
  refine ⟨v, h2, q v H S [] (Post.refl _ _) (fun _ => rfl) (by simpa using New.refl) s ?_⟩
  cases m with
  | v =>
    obtain rfl := h4.v_nil
    exact h4
  | l m => exact ⟨rfl, U, h3, h4⟩
  | d m => exact ⟨rfl, U, h3, h4⟩
  | t m => exact ⟨rfl, U, h3, h4⟩
  | o m => exact ⟨rfl, U, h3, h4⟩
  | s =>
    obtain rfl := h4.s_nil
    exact h4
theorem w_int {i : Int} {j pos} {Γ : G} : SE X C true Γ (.Constant (.int i) j pos) (.cst (.int i)) (.own .v) Γ := PE.imp pe_int fun σ H Q ⟨e, S, R, s, o⟩ =>
  (show OkE C σ H S R true (.own .v) Γ Q (.int i) e from o) _ H S [] (Post.refl _ _) (fun _ => rfl) (by simpa using New.refl) s .int
theorem w_bl {i : Bool} {j pos} {Γ : G} : SE X C true Γ (.Constant (.bool i) j pos) (.cst (.bl i)) (.own .v) Γ := PE.imp pe_bl fun σ H Q ⟨e, S, R, s, o⟩ =>
  (show OkE C σ H S R true (.own .v) Γ Q (.bl i) e from o) _ H S [] (Post.refl _ _) (fun _ => rfl) (by simpa using New.refl) s .bl
theorem w_str {x : Str} {j pos} {Γ : G} : SE X C true Γ (.Constant (.str x) j pos) (.cst (.str x)) (.own .v) Γ := PE.imp pe_str fun σ H Q ⟨e, S, R, s, o⟩ =>
  (show OkE C σ H S R true (.own .v) Γ Q (.str x) e from o) _ H S [] (Post.refl _ _) (fun _ => rfl) (by simpa using New.refl) s .str
theorem w_non {j pos} {Γ : G} : SE X C true Γ (.Constant .none j pos) (.cst .non) (.own .v) Γ := PE.imp pe_non fun σ H Q ⟨e, S, R, s, o⟩ =>
  (show OkE C σ H S R true (.own .v) Γ Q .non e from o) _ H S [] (Post.refl _ _) (fun _ => rfl) (by simpa using New.refl) s .non
structure At (C : Cf) (σ : VS) (H : Hp) (S R : List Addr) (p : Bool) (Γ1 : G) (e1 : Env) (H1 : Hp) (S1 Z : List Addr) : Prop where
  po : Post (if p then [] else S) H H1
  ps : p = true → S1 = S
  n : New S H S1
  rz : ∀ a ∈ R, a ∈ Z
  ndR : R.Nodup
  sta : Sta C.B C.M Z Γ1 e1 σ H1 S1
section
variable {σ : VS} {H H1 : Hp} {S R S1 Z : List Addr} {p : Bool} {Γ Γ1 : G} {e e1 : Env}
theorem At.start (s : Sta C.B C.M R Γ e σ H S) : At C σ H S R true Γ e H S R := ⟨Post.refl _ _, fun _ => rfl, New.refl, fun _ h => h, (List.nodup_append.mp s.nd).2.1, s⟩
theorem At.err (a : At C σ H S R p Γ1 e1 H1 S1 Z) {c : Nat} {fs : List D} {e' : Env} (q : ErrQ C σ H S R c fs e') : ErrQ C σ H1 S1 Z c fs e' := by
  intro cls dx H' S' hp hn hs hx
  refine q cls dx H' S' (a.po.ite.trans a.n hp) (a.n.trans a.po.ite hn) (hs.drop a.ndR a.rz) (hx.fr (Fr.sub fun b h => ?_))
  rcases List.mem_append.mp h with h | h
  · exact List.mem_append_left _ h
  · exact List.mem_append_right _ (a.rz b h)
def Holds (C : Cf) (p : Bool) (H1 H2 : Hp) (S1 Z1 S2 Z2 : List Addr) : Prop := ∀ (k : Kd) (d : D) (v : V) (T : List Addr), Vl C.B (S1 ++ Z1) S1 H1 k d v T → (∀ a ∈ T, a ∈ Z1) → (k.isB = true → p = true) → Vl C.B (S2 ++ Z2) S2 H2 k d v T
theorem holds_of {Z1 S2 T2 : List Addr} {H2 : Hp} (nd : (S1 ++ Z1).Nodup) (po : Post (if p then [] else S1) H1 H2) (ps : p = true → S2 = S1) (n : New S1 H1 (S2 ++ T2)) : Holds C p H1 H2 S1 Z1 S2 (T2 ++ Z1) := by
  intro k d v T h hT hp
  have f : Fr (S1 ++ Z1) (S2 ++ (T2 ++ Z1)) H1 H2 := by
    refine ⟨fun a o q e => po.ite a o (fun z => q (List.mem_append_left _ z)) e, fun a o q e z => ?_⟩
    have z' : a ∈ S2 ++ T2 ∨ a ∈ Z1 := by simpa [or_assoc] using z
    rcases z' with z | z
    · rcases n a z with w | w
      · exact q (List.mem_append_left _ w)
      · rw [e] at w; cases w
    · exact q (List.mem_append_right _ z)
  cases k with
  | own m => exact Ow.fr f h fun a ha o e => po.ite a o (fun z => disj nd z (hT a ha)) e
  | bor m =>
    obtain ⟨h0, U, h1, h2⟩ := h
    have hp' := hp rfl
    subst hp'
    exact ⟨h0, U, fun a ha => by rw [ps rfl]; exact h1 a ha, Ow.fr f h2 (KeepS.all po)⟩
theorem At.evN (a : At C σ H S R p Γ1 e1 H1 S1 Z) {p2 : Bool} {m : Ex} {k : Kd} {Γ2 : G} {β : Type} {ok : β → Env → Prop} {f : D → Env → Mi.R β} {Q : VK} (o : Out C σ H S R ok ((evE C.F m e1).bind f))
    (h : ∀ d e2 v H2 S2 T2, At C σ H S R (p && p2) Γ2 e2 H2 S2 (T2 ++ Z) → Vl C.B (S2 ++ (T2 ++ Z)) S2 H2 k d v T2 → Holds C p2 H1 H2 S1 Z S2 (T2 ++ Z) → New S1 H1 (S2 ++ T2) → Out C σ H S R ok (f d e2) → Q v H2) : tE C p2 Γ1 m k Γ2 σ H1 Q := by
  refine ⟨e1, S1, Z, a.sta, ?_⟩
  cases h1 : evE C.F m e1 with
  | bad => rw [h1] at o; exact o.elim
  | err c fs e' => rw [h1] at o; exact a.err o
  | ok d e2 =>
    rw [h1] at o
    intro v H2 S2 T2 po ps n s2 v2
    refine h d e2 v H2 S2 T2 ⟨?_, fun z => ?_, a.n.trans a.po.ite n.left, fun b hb => List.mem_append_right _ (a.rz b hb), a.ndR, s2⟩ v2 (holds_of a.sta.nd po ps n) n o
    · cases p with
      | false => exact a.po.trans a.n po.ite
      | true =>
        cases p2 with
        | true => exact fun b o' hn he => po b o' (fun z => nomatch z) (a.po b o' (fun z => nomatch z) he)
        | false => exact a.po.ite.trans a.n po
    · have z' := Bool.and_eq_true_iff.mp z
      rw [ps z'.2, a.ps z'.1]
theorem At.ev (a : At C σ H S R p Γ1 e1 H1 S1 Z) {p2 : Bool} {m : Ex} {k : Kd} {Γ2 : G} {β : Type} {ok : β → Env → Prop} {f : D → Env → Mi.R β} {Q : VK} (o : Out C σ H S R ok ((evE C.F m e1).bind f))
    (h : ∀ d e2 v H2 S2 T2, At C σ H S R (p && p2) Γ2 e2 H2 S2 (T2 ++ Z) → Vl C.B (S2 ++ (T2 ++ Z)) S2 H2 k d v T2 → Holds C p2 H1 H2 S1 Z S2 (T2 ++ Z) → Out C σ H S R ok (f d e2) → Q v H2) : tE C p2 Γ1 m k Γ2 σ H1 Q :=
  a.evN o fun d e2 v H2 S2 T2 a2 v2 hd _ o2 => h d e2 v H2 S2 T2 a2 v2 hd o2
theorem At.fin (a : At C σ H S R p Γ1 e1 H1 S1 Z) {m : Md} {d : D} {Q : VK} (q : OkE C σ H S R p (.own m) Γ1 Q d e1) {v : V} {H' : Hp} {T : List Addr} (po : Post [] H1 H') (nT : ∀ b ∈ T, H1 b = none) (ndT : T.Nodup)
    (ow : Ow C.B (T ++ (S1 ++ Z)) H' m d v T) : Q v H' := by
  have lR : Live R H1 := fun b hb => a.sta.live b (a.rz b hb)
  refine q v H' S1 T ?_ a.ps (a.n.app (a.n.trans a.po.ite (New.fresh nT))) (a.sta.grow po ?_ (ow.live.app (lR.post po fun _ _ z => nomatch z)) fun b hb => ?_) (Ow.fr (Fr.sub fun b hb => ?_) ow fun _ _ _ z => z)
  · cases p with
    | false => exact a.po.trans a.n (po.nil _)
    | true => exact fun b o hn he => po b o (fun z => nomatch z) (a.po b o (fun z => nomatch z) he)
  · refine List.nodup_append.mpr ⟨ndT, a.ndR, fun b hb c hc z => ?_⟩
    obtain ⟨o, w, _⟩ := lR c hc
    rw [← z, nT b hb] at w; cases w
  · rcases List.mem_append.mp hb with z | z
    · exact .inr (nT b z)
    · exact .inl (a.rz b z)
  · simp only [List.mem_append] at hb ⊢
    rcases hb with z | z | z
    · exact .inr (.inl z)
    · exact .inl z
    · exact .inr (.inr (a.rz b z))
theorem At.fin0 (a : At C σ H S R p Γ1 e1 H1 S1 Z) {m : Md} {d : D} {Q : VK} (q : OkE C σ H S R p (.own m) Γ1 Q d e1) {v : V} (ow : Ow C.B (S1 ++ Z) H1 m d v []) : Q v H1 := a.fin q (Post.refl _ _) (T := []) (fun _ h => absurd h List.not_mem_nil) List.nodup_nil ow
theorem At.pass (a : At C σ H S R p Γ1 e1 H1 S1 Z) {k : Kd} {d : D} {Q : VK} (q : OkE C σ H S R p k Γ1 Q d e1) {v : V} {T : List Addr} (hv : Vl C.B (S1 ++ Z) S1 H1 k d v T) (hT : ∀ b ∈ T, b ∈ Z) (ndT : (T ++ R).Nodup) (nT : New S H T) : Q v H1 := by
  have sub : ∀ b ∈ T ++ R, b ∈ Z := fun b hb => (List.mem_append.mp hb).elim (hT b) (a.rz b)
  have f : Fr (S1 ++ Z) (S1 ++ (T ++ R)) H1 H1 := Fr.sub fun b hb => (List.mem_append.mp hb).elim (List.mem_append_left _) fun h => List.mem_append_right _ (sub b h)
  refine q v H1 S1 T a.po a.ps (a.n.app nT) (a.sta.drop ndT sub) ?_
  cases k with
  | own m => exact Ow.fr f hv fun _ _ _ z => z
  | bor m =>
    obtain ⟨h0, U, h1, h2⟩ := hv
    exact ⟨h0, U, h1, Ow.fr f h2 fun _ _ _ z => z⟩
end
theorem Vl.view {B : Tb} {O S : List Addr} {H : Hp} {k : Kd} {d : D} {v : V} {T : List Addr} (h : Vl B O S H k d v T) (hS : ∀ a ∈ S, a ∈ O) (hT : ∀ a ∈ T, a ∈ O) : ∃ U, (∀ a ∈ U, a ∈ O) ∧ Ow B O H k.md d v U := by
  cases k with
  | own m => exact ⟨T, hT, h⟩
  | bor m =>
    obtain ⟨_, U, h1, h2⟩ := h
    exact ⟨U, fun a q => hS a (h1 a q), h2⟩
theorem memL {a : Addr} {S Z : List Addr} : a ∈ S → a ∈ S ++ Z := List.mem_append_left _
theorem memR {a : Addr} {S Z : List Addr} : a ∈ Z → a ∈ S ++ Z := List.mem_append_right _
def OpS (B : Tb) (r : R2) (f : D → D → Option D) (m1 m2 m : Md) : Prop := ∀ (O : List Addr) (H : Hp) (x y : V) (d1 d2 d : D) (U1 U2 : List Addr) (Q : VK), Live O H → (∀ a ∈ U1, a ∈ O) → (∀ a ∈ U2, a ∈ O) →
  Ow B O H m1 d1 x U1 → Ow B O H m2 d2 y U2 → f d1 d2 = some d → (∀ v H' T, Post [] H H' → (∀ a ∈ T, H a = none) → T.Nodup → Ow B (T ++ O) H' m d v T → Q v H') → r x y H Q
theorem c_op {o : Op2} {r : R2} {a b : Ex} {p1 p2 : Bool} {k1 k2 : Kd} {m : Md} {Γ Γ1 Γ2 : G} (hs : OpS C.B r (evOp2 o) k1.md k2.md m) (hp : k1.isB = true → p2 = true) {σ : VS} {H : Hp} {Q : VK}
    (h : tE C (p1 && p2) Γ (.op o a b) (.own m) Γ2 σ H Q) : tOp r (tE C p1 Γ a k1 Γ1) (tE C p2 Γ1 b k2 Γ2) σ H Q := by
  obtain ⟨e, S, R, s, o'⟩ := h
  refine (At.start s).ev (f := fun x e1 => (evE C.F b e1).bind fun y e2 => ofO (evOp2 o x y) e2) o' fun d1 e1 x H1 S1 T1 a1 v1 _ o1 => ?_
  refine a1.ev (f := fun y e2 => ofO (evOp2 o d1 y) e2) o1 fun d2 e2 y H2 S2 T2 a2 v2 hold o2 => ?_
  obtain ⟨d, hd, q⟩ := Out.ofO o2
  obtain ⟨U1, u1, ow1⟩ := (hold _ _ _ _ v1 (fun _ => memL) hp).view (fun _ => memL) fun a h => memR (memR (memL h))
  obtain ⟨U2, u2, ow2⟩ := v2.view (fun _ => memL) fun a h => memR (memL h)
  exact hs _ H2 x y d1 d2 d U1 U2 Q a2.sta.lives u1 u2 ow1 ow2 hd fun v H' T po nT ndT ow => a2.fin q po nT ndT ow
theorem w_bin {o : Op2} {op : Operator} {r : R2} {ea eb : Expr} {pos : Pos} {a b : Ex} {p1 p2 : Bool} {k1 k2 : Kd} {m : Md} {Γ Γ1 Γ2 : G} (ho : OpR X (binaryOp op) r) (hs : OpS C.B r (evOp2 o) k1.md k2.md m)
    (ha : SE X C p1 Γ ea a k1 Γ1) (hb : SE X C p2 Γ1 eb b k2 Γ2) (hp : k1.isB = true → p2 = true := by first | exact fun _ => rfl | exact fun h => nomatch h) : SE X C (p1 && p2) Γ (.BinOp ea op eb pos) (.op o a b) (.own m) Γ2 :=
  PE.imp (pe_op ho ha hb) fun _ _ _ h => c_op hs hp h
theorem w_cmp {o : Op2} {op : CmpOp} {r : R2} {ea eb : Expr} {pos : Pos} {a b : Ex} {p1 p2 : Bool} {k1 k2 : Kd} {m : Md} {Γ Γ1 Γ2 : G} (ho : OpR X (compareOp op) r) (hs : OpS C.B r (evOp2 o) k1.md k2.md m)
    (ha : SE X C p1 Γ ea a k1 Γ1) (hb : SE X C p2 Γ1 eb b k2 Γ2) (hp : k1.isB = true → p2 = true := by first | exact fun _ => rfl | exact fun h => nomatch h) (hm : behindInMarks op eb = false := by first | rfl | with_unfolding_all rfl) :
    SE X C (p1 && p2) Γ (.Compare ea [op] [eb] pos) (.op o a b) (.own m) Γ2 :=
  PE.imp (pe_cmpR ho ha hb hm) fun _ _ _ h => c_op hs hp h
end
end Mi
namespace Mi
open PySem PySem.Spec PyProof.Rows L2
section
variable {B : Tb} {O : List Addr} {H : Hp} {m : Md} {v : V} {S : List Addr}
theorem Ow.int_eq {i : Int} (h : Ow B O H m (.int i) v S) : v = .int i := by cases h; rfl
theorem Ow.bl_eq {i : Bool} (h : Ow B O H m (.bl i) v S) : v = .bl i := by cases h; rfl
theorem Ow.str_eq {i : Str} (h : Ow B O H m (.str i) v S) : v = .str i := by cases h; rfl
theorem Ow.non_eq (h : Ow B O H m .non v S) : v = .non := by cases h; rfl
theorem Ow.tup_eq {ds : List D} (h : Ow B O H m (.tup ds) v S) : ∃ a vs, v = .ref a ∧ FzT O H a vs ∧ OwL B O H .v ds vs [] := by
  cases h with
  | tup _ h1 h2 => exact ⟨_, _, rfl, h1, h2⟩
theorem OwL.len {B : Tb} {O : List Addr} {H : Hp} {m : Md} {S : List Addr} : ∀ {ds : List D} {vs : List V}, OwL B O H m ds vs S → ds.length = vs.length := by
  intro ds
  induction ds generalizing S with
  | nil => intro vs h; cases h; rfl
  | cons d ds ih => intro vs h; cases h with
    | cons h1 h2 => simp [ih h2]
theorem Ow.lst_eq {ds : List D} (h : Ow B O H m (.lst ds) v S) (hm : m ≠ .s) : ∃ a vs m' U, v = .ref a ∧ H a = some (.lst vs) ∧ OwL B O H m' ds vs U ∧ (∀ b ∈ U, b ∈ S) ∧ ((m = .v ∧ m' = .v ∧ a ∉ O ∧ S = [] ∧ U = []) ∨ (m = .l m' ∧ S = a :: U)) := by
  cases h with
  | lstV h1 h2 => exact ⟨_, _, _, _, rfl, h1.2, h2, fun _ z => z, .inl ⟨rfl, rfl, h1.1, rfl, rfl⟩⟩
  | lst h1 h2 => exact ⟨_, _, _, _, rfl, h1, h2, fun _ z => List.mem_cons_of_mem _ z, .inr ⟨rfl, rfl⟩⟩
  | scr h1 => exact absurd rfl hm
theorem Ow.lst_sq {ds : List D} (h : Ow B O H m (.lst ds) v S) : ∃ a vs m' U, v = .ref a ∧ SqL B.K H a vs ∧ OwL B O H m' ds vs U ∧ (∀ b ∈ U, b ∈ S) := by
  cases h with
  | lstV h1 h2 => exact ⟨_, _, _, _, rfl, .of h1.2, h2, fun _ z => z⟩
  | lst h1 h2 => exact ⟨_, _, _, _, rfl, .of h1, h2, fun _ z => List.mem_cons_of_mem _ z⟩
  | @scr a ns h1 =>
    refine ⟨_, _, .v, [], rfl, h1.sq, ?_, fun _ z => z⟩
    clear h1
    induction ns with
    | nil => exact .nil
    | cons n ns ih => exact .cons (S := []) (T := []) .int ih
theorem post_upd {H : Hp} {p : Addr} {o : HO} (h : H p = none) : Post [] H (upd H p o) := fun a u _ e => by
  rw [upd_ne (ne_of_none e h)]
  exact e
theorem notLive {O : List Addr} {H : Hp} {p : Addr} (l : Live O H) (h : H p = none) : p ∉ O := fun z => by
  obtain ⟨o, e, _⟩ := l p z
  rw [h] at e; cases e
theorem new_lst {ds : List D} {vs : List V} {p : Addr} (l : Live O H) (h : OwL B O H .v ds vs []) (hp : H p = none) : Ow B (p :: O) (upd H p (.lst vs)) (.l .v) (.lst ds) (.ref p) [p] :=
  .lst (S := []) upd_same (h.fr (Fr.grow (post_upd hp) fun a ha => (List.mem_cons.mp ha).elim (fun z => .inr (z ▸ hp)) .inl) fun _ z => nomatch z)
theorem new_tup {ds : List D} {vs : List V} {p : Addr} (l : Live O H) (h : OwL B O H .v ds vs []) (hp : H p = none) : Ow B O (upd H p (.tup vs)) .v (.tup ds) (.ref p) [] :=
  .tup rfl ⟨notLive l hp, upd_same⟩ (h.fr (Fr.grow (post_upd hp) fun a ha => .inl ha) fun _ z => nomatch z)
theorem OwL.app {ds es : List D} {vs ws : List V} (h : OwL B O H m ds vs []) (k : OwL B O H m es ws []) : OwL B O H m (ds ++ es) (vs ++ ws) [] := by
  induction ds generalizing vs with
  | nil => cases h; exact k
  | cons d ds ih =>
    generalize hS : ([] : List Addr) = S0 at h
    cases h with
    | @cons _ _ _ _ _ S T h1 h2 =>
      obtain ⟨rfl, rfl⟩ := List.append_eq_nil_iff.mp hS.symm
      exact .cons (S := []) (T := []) h1 (ih h2)
theorem OwL.get {ds : List D} {vs : List V} (h : OwL B O H m ds vs S) : ∀ {i : Nat} {d : D}, ds[i]? = some d → ∃ v U, vs[i]? = some v ∧ Ow B O H m d v U ∧ ∀ a ∈ U, a ∈ S := by
  induction ds generalizing vs S with
  | nil => intro i d e; simp at e
  | cons d ds ih =>
    intro i d' e
    cases h with
    | cons h1 h2 =>
      cases i with
      | zero => cases e; exact ⟨_, _, rfl, h1, fun _ => memL⟩
      | succ i =>
        obtain ⟨v, U, e1, e2, e3⟩ := ih h2 (by simpa using e)
        exact ⟨v, U, by simpa using e1, e2, fun a z => memR (e3 a z)⟩
end
theorem lim_line {n : Nat} (h : n < LIM) : n ≤ sizeLine := by
  rw [sizeLine_eq]
  simp only [LIM] at h
  omega
theorem opS_atom {B : Tb} {r : R2} {f : D → D → Option D} {m1 m2 m : Md} (h : ∀ (O : List Addr) (H : Hp) (x y : V) (d1 d2 d : D) (U1 U2 : List Addr) (Q : VK), Ow B O H m1 d1 x U1 → Ow B O H m2 d2 y U2 → f d1 d2 = some d → (∀ v, Ow B O H m d v [] → Q v H) → r x y H Q) :
    OpS B r f m1 m2 m := fun O H x y d1 d2 d U1 U2 Q _ _ _ o1 o2 e q => h O H x y d1 d2 d U1 U2 Q o1 o2 e fun v ow => q v H [] (Post.refl _ _) (fun _ h => absurd h List.not_mem_nil) List.nodup_nil ow
section
variable {B : Tb} {m1 m2 m : Md}
theorem s_add : OpS B (rI0 fun i j => V.int (i + j)) (evOp2 .add) m1 m2 m := opS_atom fun O H x y d1 d2 d U1 U2 Q o1 o2 e q => by
  have e : addOp d1 d2 = some d := e
  unfold addOp at e
  split at e
  · cases e
    exact ⟨_, _, o1.int_eq, o2.int_eq, q _ .int⟩
  · cases e
theorem s_int {C : Int → Int → Prop} {c : Int → Int → Bool} {f : Int → Int → Int} (hc : ∀ i j, c i j = true → C i j) : OpS B (rI C fun i j => V.int (f i j)) (intOp c f) m1 m2 m := opS_atom fun O H x y d1 d2 d U1 U2 Q o1 o2 e q => by
  unfold intOp at e
  split at e
  · split at e
    · rename_i h
      cases e
      exact ⟨_, _, o1.int_eq, o2.int_eq, hc _ _ h, q _ .int⟩
    · cases e
  · cases e
theorem s_sub : OpS B (rI0 fun i j => V.int (i - j)) (evOp2 .sub) m1 m2 m := opS_atom fun O H x y d1 d2 d U1 U2 Q o1 o2 e q => by
  have e : intOp (fun _ _ => true) (fun i j => i - j) d1 d2 = some d := e
  unfold intOp at e
  split at e
  · rw [if_pos rfl] at e
    cases e
    exact ⟨_, _, o1.int_eq, o2.int_eq, q _ .int⟩
  · cases e
theorem s_cmp {f : Int → Int → Bool} : OpS B (rI0 fun i j => V.bl (f i j)) (cmpI f) m1 m2 m := opS_atom fun O H x y d1 d2 d U1 U2 Q o1 o2 e q => by
  unfold cmpI at e
  split at e
  · cases e
    exact ⟨_, _, o1.int_eq, o2.int_eq, q _ .bl⟩
  · cases e
end
section
variable {X : Cx}
theorem op_mulA : OpR X (binaryOp .Mult) (rI (fun i j => CMul i j ∨ CMulW i j) fun i j => V.int (i * j)) := by
  intro pins s σ H x y v u Q I rx ry h
  obtain ⟨i, j, e1, e2, c | c, q⟩ := h
  · exact op_mul pins s σ H x y v u Q I rx ry ⟨i, j, e1, e2, c, q⟩
  · exact op_mulW pins s σ H x y v u Q I rx ry ⟨i, j, e1, e2, c, q⟩
theorem mulOk_c {i j : Int} (h : mulOk i j = true) : CMul i j ∨ CMulW i j := by
  unfold mulOk at h
  simp only [Bool.or_eq_true, decide_eq_true_eq] at h
  rcases h with (h | h) | h
  · exact .inl (.inl (by omega))
  · exact .inl (.inr (by omega))
  · exact .inr h
end
theorem toPDs_eq : ∀ ds : List D, toPDs ds = ds.map toPD
  | [] => by simp only [toPDs, List.map_nil]
  | d :: ds => by simp only [toPDs, List.map_cons, toPDs_eq ds]
section
variable {B : Tb} {O : List Addr} {H : Hp}
theorem OwL.dp {n : Nat} (ih : ∀ (d : D) (m : Md) (v : V) (S : List Addr), Ow B O H m d v S → shp n d = true → Dp B.K H v (toPD d)) :
    ∀ (ds : List D) (m : Md) (vs : List V) (S : List Addr), OwL B O H m ds vs S → ds.all (shp n) = true → DpAll B.K H vs (toPDs ds) := by
  intro ds
  induction ds with
  | nil => intro m vs S h _; cases h; simp only [toPDs]; exact .nil
  | cons d ds ihd =>
    intro m vs S h hs
    simp only [List.all_cons, Bool.and_eq_true] at hs
    cases h with
    | cons h1 h2 => simp only [toPDs]; exact .cons (ih _ _ _ _ h1 hs.1) (ihd _ _ _ h2 hs.2)
theorem Ow.dp : ∀ (n : Nat) (d : D) (m : Md) (v : V) (S : List Addr), Ow B O H m d v S → shp n d = true → Dp B.K H v (toPD d) := by
  intro n
  induction n with
  | zero =>
    intro d m v S h hs
    cases d with
    | non => cases h; simp only [toPD]; exact .non
    | bl b => cases h; simp only [toPD]; exact .bl b
    | int i => cases h; simp only [toPD]; exact .int i
    | str x => cases h; simp only [toPD]; exact .str x
    | _ => simp [shp] at hs
  | succ n ih =>
    intro d m v S h hs
    cases d with
    | non => cases h; simp only [toPD]; exact .non
    | bl b => cases h; simp only [toPD]; exact .bl b
    | int i => cases h; simp only [toPD]; exact .int i
    | str x => cases h; simp only [toPD]; exact .str x
    | lst ds =>
      obtain ⟨a, vs, m', U, rfl, h1, h2, _⟩ := h.lst_sq
      simp only [toPD]
      exact .lst h1 (OwL.dp ih ds m' vs U h2 (by simpa [shp] using hs))
    | tup ds =>
      obtain ⟨a, vs, rfl, h1, h2⟩ := h.tup_eq
      simp only [toPD]
      exact .tup (.of h1.2) (OwL.dp ih ds _ vs _ h2 (by simpa [shp] using hs))
    | _ => simp [shp] at hs
end
theorem shp_lay : ∀ (n : Nat) (d : D), shp n d = true → PyData.canLay0 (toPD d) = true ∧ (toPD d).depth ≤ n := by
  intro n
  have lst : ∀ (n : Nat), (∀ d : D, shp n d = true → PyData.canLay0 (toPD d) = true ∧ (toPD d).depth ≤ n) → ∀ ds : List D, ds.all (shp n) = true → PyData.canLayAll0 (toPDs ds) = true ∧ PyData.depthAll (toPDs ds) ≤ n := by
    intro n ih ds
    induction ds with
    | nil => intro _; simp [toPDs, PyData.canLayAll0, PyData.depthAll]
    | cons d ds ihd =>
      intro hs
      simp only [List.all_cons, Bool.and_eq_true] at hs
      obtain ⟨h1, h2⟩ := ih d hs.1
      obtain ⟨h3, h4⟩ := ihd hs.2
      simp only [toPDs, PyData.canLayAll0, PyData.depthAll, h1, h3, Bool.and_self, true_and]
      omega
  induction n with
  | zero =>
    intro d hs
    cases d <;> first | (simp [shp] at hs; done) | simp_all [toPD, PyData.canLay0, PyData.depth, shp]
  | succ n ih =>
    intro d hs
    cases d with
    | lst ds =>
      obtain ⟨h1, h2⟩ := lst n ih ds (by simpa [shp] using hs)
      simp only [toPD, PyData.canLay0, PyData.depth, h1, true_and]
      omega
    | tup ds =>
      obtain ⟨h1, h2⟩ := lst n ih ds (by simpa [shp] using hs)
      simp only [toPD, PyData.canLay0, PyData.depth, h1, true_and]
      omega
    | dct _ => simp [shp] at hs
    | obj _ _ => simp [shp] at hs
    | exc _ _ => simp [shp] at hs
    | _ => simp_all [toPD, PyData.canLay0, PyData.depth, shp]
theorem shp_shaped {n : Nat} {d : D} (hn : n ≤ 64) (h : shp n d = true) : SeqAt.shaped (toPD d) = true := by
  obtain ⟨h1, h2⟩ := shp_lay n d h
  unfold SeqAt.shaped
  rw [h1, decide_eq_true (Nat.le_trans h2 hn)]
  rfl
theorem eqD_eqv : ∀ (n : Nat) (a b : D), shp n a = true → shp n b = true → PyData.eqv (toPD a) (toPD b) = eqD a b := by
  intro n
  have lst : ∀ (n : Nat), (∀ a b : D, shp n a = true → shp n b = true → PyData.eqv (toPD a) (toPD b) = eqD a b) → ∀ (as bs : List D), as.all (shp n) = true → bs.all (shp n) = true → PyData.eqvAll (toPDs as) (toPDs bs) = eqDs as bs := by
    intro n ih as
    induction as with
    | nil => intro bs _ _; cases bs <;> simp [toPDs, PyData.eqvAll, eqDs]
    | cons a as iha =>
      intro bs h1 h2
      simp only [List.all_cons, Bool.and_eq_true] at h1
      cases bs with
      | nil => simp [toPDs, PyData.eqvAll, eqDs]
      | cons b bs =>
        simp only [List.all_cons, Bool.and_eq_true] at h2
        simp only [toPDs, PyData.eqvAll, eqDs, ih a b h1.1 h2.1, iha bs h1.2 h2.2]
  have base : ∀ n (a b : D), shp n a = true → shp n b = true → (∀ ds, a ≠ .lst ds) → (∀ ds, a ≠ .tup ds) → PyData.eqv (toPD a) (toPD b) = eqD a b := by
    intro n a b h1 h2 n1 n2
    cases a <;> first | (simp [shp] at h1; done) | (exact absurd rfl (n1 _)) | (exact absurd rfl (n2 _)) |
      (cases b <;> first | (simp [shp] at h2; done) | (simp only [toPD, PyData.eqv, eqD]; done) | (simp only [toPD, PyData.eqv, eqD]; first | rfl | (rw [Bool.eq_iff_iff]; simp)))
  induction n with
  | zero =>
    intro a b h1 h2
    refine base 0 a b h1 h2 (fun ds e => ?_) fun ds e => ?_ <;> (subst e; simp [shp] at h1)
  | succ n ih =>
    intro a b h1 h2
    cases a with
    | lst as =>
      cases b with
      | lst bs => simp only [toPD, PyData.eqv, eqD]; exact lst n ih as bs (by simpa [shp] using h1) (by simpa [shp] using h2)
      | dct _ => simp [shp] at h2
      | obj _ _ => simp [shp] at h2
      | exc _ _ => simp [shp] at h2
      | _ => simp only [toPD, PyData.eqv, eqD]
    | tup as =>
      cases b with
      | tup bs => simp only [toPD, PyData.eqv, eqD]; exact lst n ih as bs (by simpa [shp] using h1) (by simpa [shp] using h2)
      | dct _ => simp [shp] at h2
      | obj _ _ => simp [shp] at h2
      | exc _ _ => simp [shp] at h2
      | _ => simp only [toPD, PyData.eqv, eqD]
    | _ => exact base (n + 1) _ b h1 h2 (fun _ e => nomatch e) fun _ e => nomatch e
section
variable {B : Tb} {m1 m2 m : Md}
theorem s_eq : OpS B (rEqD B.K) (evOp2 .eq) m1 m2 m := opS_atom fun O H x y d1 d2 d U1 U2 Q o1 o2 e q => by
  obtain ⟨c, hc, rfl⟩ := Option.map_eq_some_iff.mp (show (eqOp d1 d2).map D.bl = some d from e)
  unfold eqOp at hc
  split at hc
  · rename_i h
    cases hc
    have h := Bool.and_eq_true_iff.mp h
    refine ⟨toPD d1, toPD d2, o1.dp SD _ _ _ _ h.1, o2.dp SD _ _ _ _ h.2, shp_shaped (by decide) h.1, shp_shaped (by decide) h.2, ?_⟩
    rw [eqD_eqv SD _ _ h.1 h.2]
    exact q _ .bl
  · cases hc
theorem s_ne : OpS B (rNeD B.K) (evOp2 .ne) m1 m2 m := opS_atom fun O H x y d1 d2 d U1 U2 Q o1 o2 e q => by
  obtain ⟨c, hc, rfl⟩ := Option.map_eq_some_iff.mp (show (eqOp d1 d2).map (fun c => D.bl (!c)) = some d from e)
  unfold eqOp at hc
  split at hc
  · rename_i h
    cases hc
    have h := Bool.and_eq_true_iff.mp h
    refine ⟨toPD d1, toPD d2, o1.dp SD _ _ _ _ h.1, o2.dp SD _ _ _ _ h.2, shp_shaped (by decide) h.1, shp_shaped (by decide) h.2, ?_⟩
    rw [eqD_eqv SD _ _ h.1 h.2]
    exact q _ .bl
  · cases hc
theorem scal_of {B : Tb} {O : List Addr} {H : Hp} {a b : D} {x y : V} {U1 U2 : List Addr} (o1 : Ow B O H m1 a x U1) (o2 : Ow B O H m2 b y U2) (h : scalD a b = true) : scal x y = true ∧ decide (x = y) = eqD a b := by
  cases a <;> first | (simp [scalD, atom] at h; done) | (cases b <;> first | (simp [scalD, atom] at h; done) | (cases o1; cases o2; simp [scal, eqD, scalD]))
theorem s_eqA : OpS B rEq (evOp2 .eqA) m1 m2 m := opS_atom fun O H x y d1 d2 d U1 U2 Q o1 o2 e q => by
  obtain ⟨c, hc, rfl⟩ := Option.map_eq_some_iff.mp (show (eqAt d1 d2).map D.bl = some d from e)
  unfold eqAt at hc
  split at hc
  · rename_i h
    cases hc
    obtain ⟨h1, h2⟩ := scal_of o1 o2 h
    exact ⟨h1, by rw [h2]; exact q _ .bl⟩
  · cases hc
theorem s_neA : OpS B rNe (evOp2 .neA) m1 m2 m := opS_atom fun O H x y d1 d2 d U1 U2 Q o1 o2 e q => by
  obtain ⟨c, hc, rfl⟩ := Option.map_eq_some_iff.mp (show (eqAt d1 d2).map (fun c => D.bl (!c)) = some d from e)
  unfold eqAt at hc
  split at hc
  · rename_i h
    cases hc
    obtain ⟨h1, h2⟩ := scal_of o1 o2 h
    exact ⟨h1, by rw [h2]; exact q _ .bl⟩
  · cases hc
theorem s_isB : OpS B rIsB (evOp2 .isB) m1 m2 m := opS_atom fun O H x y d1 d2 d U1 U2 Q o1 o2 e q => by
  obtain ⟨c, hc, rfl⟩ := Option.map_eq_some_iff.mp (show (isB d1 d2).map D.bl = some d from e)
  unfold isB at hc
  split at hc
  · cases hc
    exact ⟨_, _, o1.bl_eq, o2.bl_eq, q _ .bl⟩
  · cases hc
theorem s_isnB : OpS B rNotB (evOp2 .isnB) m1 m2 m := opS_atom fun O H x y d1 d2 d U1 U2 Q o1 o2 e q => by
  obtain ⟨c, hc, rfl⟩ := Option.map_eq_some_iff.mp (show (isB d1 d2).map (fun c => D.bl (!c)) = some d from e)
  unfold isB at hc
  split at hc
  · cases hc
    exact ⟨_, _, o1.bl_eq, o2.bl_eq, q _ .bl⟩
  · cases hc
theorem s_cat (h1 : m1 = .v ∨ m1 = .l .v) (h2 : m2 = .v ∨ m2 = .l .v) : OpS B rCat (evOp2 .cat) m1 m2 (.l .v) := fun O H x y d1 d2 d U1 U2 Q hl u1 u2 o1 o2 e q => by
  have e : catOp d1 d2 = some d := e
  unfold catOp at e
  split at e
  · split at e
    · rename_i hz
      cases e
      have lv : ∀ {m : Md} {ds : List D} {v : V} {U : List Addr}, (m = .v ∨ m = .l .v) → Ow B O H m (.lst ds) v U → ∃ a vs, v = .ref a ∧ H a = some (.lst vs) ∧ OwL B O H .v ds vs [] := by
        intro m ds v U hm ho
        rcases hm with rfl | rfl
        · cases ho with
          | lstV k1 k2 => exact ⟨_, _, rfl, k1.2, k2⟩
        · cases ho with
          | lst k1 k2 =>
            have z := k2.v_nil
            subst z
            exact ⟨_, _, rfl, k1, k2⟩
      obtain ⟨a, vs, rfl, g1, g2⟩ := lv h1 o1
      obtain ⟨b, ws, rfl, g3, g4⟩ := lv h2 o2
      refine ⟨a, b, vs, ws, rfl, rfl, g1, g3, ?_, fun p hp => q _ _ [p] (post_upd hp) (fun z hz => by rw [List.mem_singleton.mp hz]; exact hp) (by simp) (new_lst hl (g2.app g4) hp)⟩
      rw [← g2.len, ← g4.len]
      exact lim_line hz
    · cases e
  · cases e
theorem s_catS : OpS B (fun x y H Q => ∃ i j, x = .str i ∧ y = .str j ∧ i.length + j.length ≤ sizeLine ∧ Q (.str (i ++ j)) H) (evOp2 .catS) m1 m2 m := opS_atom fun O H x y d1 d2 d U1 U2 Q o1 o2 e q => by
  have e : catSOp d1 d2 = some d := e
  unfold catSOp at e
  split at e
  · split at e
    · rename_i hz
      cases e
      exact ⟨_, _, o1.str_eq, o2.str_eq, lim_line hz, q _ .str⟩
    · cases e
  · cases e
theorem s_catT : OpS B (rCatA B.K) (evOp2 .catT) m1 m2 .v := fun O H x y d1 d2 d U1 U2 Q hl u1 u2 o1 o2 e q => by
  have e : catTOp d1 d2 = some d := e
  unfold catTOp at e
  split at e
  · rename_i xs ys
    split at e
    · rename_i hz
      cases e
      obtain ⟨a, vs, rfl, g1, g2⟩ := o1.tup_eq
      obtain ⟨b, ws, rfl, g3, g4⟩ := o2.tup_eq
      have l1 := g2.len
      have l2 := g4.len
      refine ⟨a, b, vs, ws, rfl, rfl, .of g1.2, .of g3.2, by rw [← l1, ← l2]; exact lim_line hz, fun z => ?_, fun _ z => ?_, fun _ _ p hp => ?_⟩
      · subst z
        cases g2
        exact q _ _ [] (Post.refl _ _) (fun _ h => absurd h List.not_mem_nil) List.nodup_nil (.tup rfl g3 g4)
      · subst z
        cases g4
        simp only [List.append_nil] at q
        exact q _ _ [] (Post.refl _ _) (fun _ h => absurd h List.not_mem_nil) List.nodup_nil (.tup rfl g1 g2)
      · exact q _ _ [] (post_upd hp) (fun _ h => absurd h List.not_mem_nil) List.nodup_nil (new_tup hl (g2.app g4) hp)
    · cases e
  · cases e
end
end Mi
namespace Mi
open PySem PySem.Spec PyProof.Rows L2
section
variable {X : Cx} {C : Cf} {ea eb ec : Expr} {pos : Pos} {a b c : Ex} {p p1 p2 p3 : Bool} {k k1 k2 : Kd} {m : Md} {Γ Γ1 Γ2 Γ3 : G}
theorem c_un {r : V → Hp → VK → Prop} {f : D → Option D} {mk : Ex} (hm : ∀ e, evE C.F mk e = (evE C.F a e).bind fun x e1 => ofO (f x) e1)
    (hr : ∀ (O : List Addr) (H : Hp) (x : V) (d d' : D) (U : List Addr) (Q : VK), Ow C.B O H k1.md d x U → f d = some d' → (∀ v, Ow C.B O H m d' v [] → Q v H) → r x H Q) {σ : VS} {H : Hp} {Q : VK}
    (h : tE C p Γ mk (.own m) Γ1 σ H Q) : tE C p Γ a k1 Γ1 σ H fun x H1 => r x H1 Q := by
  obtain ⟨e, S, R, s, o⟩ := h
  rw [hm] at o
  refine (At.start s).ev (f := fun x e1 => ofO (f x) e1) o fun d e1 x H1 S1 T1 a1 v1 _ o1 => ?_
  obtain ⟨d', hd, q⟩ := Out.ofO o1
  obtain ⟨U, u, ow⟩ := v1.view (fun _ => memL) fun a h => memR (memL h)
  exact hr _ H1 x d d' U Q ow hd fun v ov => a1.fin0 q ov
theorem w_neg (ha : SE X C p Γ ea a k1 Γ1) : SE X C p Γ (.UnaryOp .USub ea pos) (.neg a) (.own m) Γ1 :=
  PE.imp (pe_un un_neg ha) fun σ H Q h => c_un (r := rU fun i => V.int (-i)) (f := fun d => match d with
    | .int i => some (.int (-i))
    | _ => none) (fun e => by
      show (evE C.F a e).bind _ = _
      first
        | rfl
        | (congr 1; funext d e1; cases d <;> rfl)) (fun O H x d d' U Q ow hd q => by
      cases d <;> first | cases hd | skip
      exact ⟨_, ow.int_eq, q _ .int⟩) h
theorem w_not (ha : SE X C p Γ ea a k1 Γ1) : SE X C p Γ (.UnaryOp .Not ea pos) (.not a) (.own m) Γ1 :=
  PE.imp (pe_not ha) fun σ H Q h => c_un (r := fun x H Q => ∃ c, x = .bl c ∧ Q (.bl (!c)) H) (f := fun d => match d with
    | .bl i => some (.bl (!i))
    | _ => none) (fun e => by
      show (evE C.F a e).bind _ = _
      first
        | rfl
        | (congr 1; funext d e1; cases d <;> rfl)) (fun O H x d d' U Q ow hd q => by
      cases d <;> first | cases hd | skip
      exact ⟨_, ow.bl_eq, q _ .bl⟩) h
def nonD : D → Bool
  | .non => true
  | _ => false
theorem Ow.isNon {B : Tb} {O : List Addr} {H : Hp} {d : D} {v : V} {U : List Addr} (h : Ow B O H m d v U) : decide (v = .non) = nonD d := by
  cases h <;> rfl
theorem w_isN {j : Nat} {pos' : Pos} (ha : SE X C p Γ ea a k1 Γ1) : SE X C p Γ (.Compare ea [.Is] [.Constant .none j pos'] pos) (.isN false a) (.own m) Γ1 :=
  PE.imp (pe_cmp (pc_isN ha)) fun σ H Q h => c_un (r := fun x H1 Q => Q (.bl (decide (x = .non))) H1) (f := fun d => some (.bl (nonD d))) (fun e => by
      show (evE C.F a e).bind _ = _
      first
        | rfl
        | (congr 1; funext d e1; cases d <;> rfl)) (fun O H x d d' U Q ow hd q => by
      cases hd
      rw [ow.isNon]
      exact q _ .bl) h
theorem w_notN {j : Nat} {pos' : Pos} (ha : SE X C p Γ ea a k1 Γ1) : SE X C p Γ (.Compare ea [.IsNot] [.Constant .none j pos'] pos) (.isN true a) (.own m) Γ1 :=
  PE.imp (pe_cmp (pc_notN ha)) fun σ H Q h => c_un (r := fun x H1 Q => Q (.bl (!decide (x = .non))) H1) (f := fun d => some (.bl (!nonD d))) (fun e => by
      show (evE C.F a e).bind _ = _
      first
        | rfl
        | (congr 1; funext d e1; cases d <;> rfl)) (fun O H x d d' U Q ow hd q => by
      cases hd
      rw [ow.isNon]
      exact q _ .bl) h
theorem ixN_eq (n : Nat) (i : Int) : Mi.ixN n i = L2.ixN n i := rfl
theorem at_of {B : Tb} {O : List Addr} {H : Hp} {ds : List D} {vs : List V} {U : List Addr} {i : Int} {d : D} (h : OwL B O H m ds vs U) (e : atD ds (.int i) = some d) : ∃ v W, atI vs i = some v ∧ Ow B O H m d v W ∧ ∀ a ∈ W, a ∈ U := by
  obtain ⟨n, h1, h2⟩ := Option.bind_eq_some_iff.mp (show (Mi.ixN ds.length i).bind (fun n => ds[n]?) = some d from e)
  obtain ⟨v, W, h3, h4, h5⟩ := h.get h2
  refine ⟨v, W, ?_, h4, h5⟩
  unfold atI
  rw [← h.len, ← ixN_eq, h1]
  exact h3
theorem s_idx {B : Tb} {O : List Addr} {H : Hp} {m1 m2 : Md} {d1 d2 d : D} {x y : V} {U1 U2 : List Addr} {Q : VK} (o1 : Ow B O H m1 d1 x U1) (o2 : Ow B O H m2 d2 y U2) (e : idxS d1 d2 = some d) (q : ∀ v W, Ow B O H (itM m1) d v W → (∀ a ∈ W, a ∈ U1) → Q v H) : rIx B.K x y H Q := by
  have hi : ∀ ds : List D, atD ds d2 = some d → ∃ i, d2 = .int i := fun ds e => by
    cases d2 <;> first | cases e | exact ⟨_, rfl⟩
  have itv : ∀ {m : Md} {d : D} {v : V} {S : List Addr}, Ow B O H .v d v S → Ow B O H .v d v [] := fun h => by
    have z := h.v_nil
    subst z
    exact h
  cases d1 with
  | lst ds =>
    have e : atD ds d2 = some d := e
    obtain ⟨i, rfl⟩ := hi ds e
    have main : ∃ a vs U, x = .ref a ∧ SqL B.K H a vs ∧ OwL B O H (itM m1) ds vs U ∧ ∀ b ∈ U, b ∈ U1 := by
      cases o1 with
      | lstV h1 h2 => exact ⟨_, _, _, rfl, .of h1.2, h2, fun _ z => z⟩
      | lst h1 h2 => exact ⟨_, _, _, rfl, .of h1, h2, fun _ z => List.mem_cons_of_mem _ z⟩
      | @scr a ns h1 =>
        refine ⟨_, _, [], rfl, h1.sq, ?_, fun _ z => z⟩
        clear h1 e
        clear e
        induction ns with
        | nil => exact .nil
        | cons n ns ih => exact .cons (S := []) (T := []) .int ih
    obtain ⟨a, vs, U, rfl, h1, h2, h3⟩ := main
    obtain ⟨v, W, h4, h5, h6⟩ := at_of h2 e
    exact .inl ⟨a, vs, i, v, rfl, o2.int_eq, h1, h4, q v W h5 fun b hb => h3 b (h6 b hb)⟩
  | tup ds =>
    have e : atD ds d2 = some d := e
    obtain ⟨i, rfl⟩ := hi ds e
    obtain ⟨a, vs, rfl, h1, h2⟩ := o1.tup_eq
    obtain ⟨v, W, h4, h5, h6⟩ := at_of h2 e
    have z := h5.v_nil
    subst z
    refine .inr (.inl ⟨a, vs, i, v, rfl, o2.int_eq, .of h1.2, h4, ?_⟩)
    cases o1 with
    | tup h0 _ _ => exact q v [] (h0 ▸ h5) fun _ z => nomatch z
  | str z =>
    have e : (if z.length < LIM then atD (z.cps.toList.map fun c => D.str ⟨#[c]⟩) d2 else none) = some d := e
    split at e
    · rename_i hz
      obtain ⟨i, rfl⟩ := hi _ e
      obtain ⟨n, h1, h2⟩ := Option.bind_eq_some_iff.mp (show (Mi.ixN (z.cps.toList.map fun c => D.str ⟨#[c]⟩).length i).bind (fun n => (z.cps.toList.map fun c => D.str ⟨#[c]⟩)[n]?) = some d from e)
      rw [List.getElem?_map] at h2
      obtain ⟨c, h3, h4⟩ := Option.map_eq_some_iff.mp h2
      subst h4
      refine .inr (.inr ⟨z, i, c, o1.str_eq, o2.int_eq, lim_line hz, ?_, q _ [] .str fun _ z => nomatch z⟩)
      unfold atI
      rw [List.length_map] at h1
      rw [← ixN_eq, h1]
      exact h3
    · cases e
  | _ => cases e
theorem c_idx {r : R2} {g : D → D → Option D} {mk : Ex} (hmk : ∀ e, evE C.F mk e = (evE C.F a e).bind fun x e1 => (evE C.F b e1).bind fun y e2 => ofO (g x y) e2) (hp : k1.isB = true → p2 = true) {kr : Kd}
    (hr : ∀ (O : List Addr) (H : Hp) (x y : V) (d1 d2 d : D) (U1 U2 : List Addr) (Q : VK), Ow C.B O H k1.md d1 x U1 → Ow C.B O H k2.md d2 y U2 → g d1 d2 = some d → (∀ v W, Ow C.B O H kr.md d v W → (∀ a ∈ W, a ∈ U1) → Q v H) → r x y H Q)
    (hk : (k1.isB = true ∧ ∃ m, kr = .bor m) ∨ kr = .own .v) {σ : VS} {H : Hp} {Q : VK}
    (h : tE C (p1 && p2) Γ mk kr Γ2 σ H Q) : tOp r (tE C p1 Γ a k1 Γ1) (tE C p2 Γ1 b k2 Γ2) σ H Q := by
  obtain ⟨e, S, R, s, o'⟩ := h
  rw [hmk] at o'
  refine (At.start s).ev (f := fun x e1 => (evE C.F b e1).bind fun y e2 => ofO (g x y) e2) o' fun d1 e1 x H1 S1 T1 a1 v1 _ o1 => ?_
  refine a1.ev (f := fun y e2 => ofO (g d1 y) e2) o1 fun d2 e2 y H2 S2 T2 a2 v2 hold o2 => ?_
  obtain ⟨d, hd, q⟩ := Out.ofO o2
  have w1 := hold _ _ _ _ v1 (fun _ => memL) hp
  obtain ⟨U2, u2, ow2⟩ := v2.view (fun _ => memL) fun a h => memR (memL h)
  rcases hk with ⟨hb, m, rfl⟩ | rfl
  · cases k1 with
    | own _ => cases hb
    | bor m1 =>
      obtain ⟨rfl, U, u, ow1⟩ := w1
      exact hr _ H2 x y d1 d2 d U U2 Q ow1 ow2 hd fun v W ow hW => a2.pass (k := .bor m) q (T := []) ⟨rfl, W, fun a ha => u a (hW a ha), ow⟩ (fun _ z => nomatch z) a2.ndR (fun _ z => nomatch z)
  · obtain ⟨U1, u1, ow1⟩ := w1.view (fun _ => memL) fun a h => memR (memR (memL h))
    refine hr _ H2 x y d1 d2 d U1 U2 Q ow1 ow2 hd fun v W ow hW => a2.fin0 q ?_
    have z := Ow.v_nil ow
    subst z
    exact ow
theorem w_idx (g : Gd X C) (ha : SE X C p1 Γ ea a k1 Γ1) (hb : SE X C p2 Γ1 eb b k2 Γ2) (hm : itM k1.md = .v := by rfl) (hp : k1.isB = true → p2 = true := by first | exact fun _ => rfl | exact fun h => nomatch h)
    (hs : PlainIx eb := by exact fun _ _ => rfl) : SE X C (p1 && p2) Γ (.Subscript ea eb pos) (.idx a b) (.own .v) Γ2 :=
  PE.imp (pe_ix ix_seq ha hb hs) fun _ _ _ h => c_idx (r := rIx X.K) (g := idxS) (fun _ => rfl) hp (fun O H x y d1 d2 d U1 U2 Q o1 o2 e q => g.K ▸ s_idx o1 o2 e fun v W ow hW => q v W (hm ▸ ow) hW) (.inr rfl) h
end
end Mi
namespace Mi
open PySem PySem.Spec PyProof.Rows L2
def OkT (C : Cf) (σ : VS) (H : Hp) (S R : List Addr) (p : Bool) (Γ' : G) (Q : Bool → Hp → Prop) (d : D) (e' : Env) : Prop :=
  ∃ b, d = .bl b ∧ ∀ H' S', Post (if p then [] else S) H H' → (p = true → S' = S) → New S H S' → Sta C.B C.M R Γ' e' σ H' S' → Q b H'
def tT (C : Cf) (p : Bool) (Γ : G) (m : Ex) (Γ' : G) : TT := fun σ H Q => ∃ e S R, Sta C.B C.M R Γ e σ H S ∧ Out C σ H S R (OkT C σ H S R p Γ' Q) (evE C.F m e)
def ST (X : Cx) (C : Cf) (p : Bool) (Γ : G) (ex : Expr) (m : Ex) (Γ' : G) : Prop := PT X ex (tT C p Γ m Γ')
def SW (X : Cx) (C : Cf) (p : Bool) (Γ : G) (ex : Expr) (m : Ex) (Γ' : G) : Prop := PW X ex (tT C p Γ m Γ')
theorem PT.imp {X : Cx} {e : Expr} {t t' : TT} (h : PT X e t) (i : ∀ σ H Q, t' σ H Q → t σ H Q) : PT X e t' := ⟨fun pins s σ H Q I q => h.run pins s σ H Q I (i σ H Q q)⟩
theorem PW.imp {X : Cx} {e : Expr} {t t' : TT} (h : PW X e t) (i : ∀ σ H Q, t' σ H Q → t σ H Q) : PW X e t' := ⟨fun wh pins s σ H Q I q => h.run wh pins s σ H Q I (i σ H Q q)⟩
section
variable {X : Cx} {C : Cf} {σ : VS} {H H1 : Hp} {S R S1 Z : List Addr} {p p2 : Bool} {Γ Γ1 Γ2 : G} {e e1 : Env} {m : Ex}
theorem Out.imp {α : Type} {ok ok' : α → Env → Prop} {r : Mi.R α} (o : Out C σ H S R ok r) (h : ∀ a e, ok a e → ok' a e) : Out C σ H S R ok' r := by
  cases r with
  | ok a e => exact h a e o
  | err c fs e => exact o
  | bad => exact o
theorem tT_val {Q : Bool → Hp → Prop} (h : tT C p Γ m Γ1 σ H Q) : tE C p Γ m (.own .v) Γ1 σ H fun x H1 => ∃ k, x = .bl k ∧ Q k H1 := by
  obtain ⟨e, S, R, s, o⟩ := h
  refine ⟨e, S, R, s, o.imp fun d e1 ⟨b, hb, q⟩ => ?_⟩
  subst hb
  intro v H' S' T po ps n sta vl
  have z := Ow.bl_eq vl
  have zt := Ow.v_nil vl
  subst zt
  exact ⟨b, z, q H' S' po ps (by simpa using n) (by simpa using sta)⟩
theorem At.evT (a : At C σ H S R p Γ1 e1 H1 S1 Z) {β : Type} {ok : β → Env → Prop} {f : D → Env → Mi.R β} {Q : Bool → Hp → Prop} (o : Out C σ H S R ok ((evE C.F m e1).bind f))
    (hb : ∀ d e2, Out C σ H S R ok (f d e2) → ∃ b, d = .bl b)
    (h : ∀ b e2 H2 S2, At C σ H S R (p && p2) Γ2 e2 H2 S2 Z → Holds C p2 H1 H2 S1 Z S2 Z → Out C σ H S R ok (f (.bl b) e2) → Q b H2) : tT C p2 Γ1 m Γ2 σ H1 Q := by
  refine ⟨e1, S1, Z, a.sta, ?_⟩
  cases h1 : evE C.F m e1 with
  | bad => rw [h1] at o; exact o.elim
  | err c fs e' => rw [h1] at o; exact a.err o
  | ok d e2 =>
    rw [h1] at o
    have o : Out C σ H S R ok (f d e2) := o
    obtain ⟨b, rfl⟩ := hb d e2 o
    refine ⟨b, rfl, fun H2 S2 po ps n s2 => h b e2 H2 S2 ⟨?_, fun z => ?_, a.n.trans a.po.ite n, a.rz, a.ndR, s2⟩ (holds_of (T2 := []) a.sta.nd po ps (by simpa using n)) o⟩
    · cases p with
      | false => exact a.po.trans a.n po.ite
      | true =>
        cases p2 with
        | true => exact fun b o' hn he => po b o' (fun z => nomatch z) (a.po b o' (fun z => nomatch z) he)
        | false => exact a.po.ite.trans a.n po
    · have z' := Bool.and_eq_true_iff.mp z
      rw [ps z'.2, a.ps z'.1]
theorem At.finT (a : At C σ H S R p Γ1 e1 H1 S1 Z) {b : Bool} {Q : Bool → Hp → Prop} (q : OkT C σ H S R p Γ1 Q (.bl b) e1) : Q b H1 := by
  obtain ⟨b', hb, q⟩ := q
  cases hb
  exact q H1 S1 a.po a.ps a.n (a.sta.drop a.ndR a.rz)
theorem OkE.le {k : Md} {Q : VK} {d : D} {e' : Env} (q : OkE C σ H S R false (.own k) Γ2 Q d e') (l : leG Γ1 Γ2 = true) : OkE C σ H S R p (.own k) Γ1 Q d e' := by
  intro v H' S' T po ps n s vl
  obtain ⟨S2, h1, s2⟩ := s.le l
  refine q v H' S2 T po.ite (fun z => nomatch z) (fun a ha => n a ?_) s2 (Ow.fr (Fr.sub fun a ha => ?_) vl fun _ _ _ z => z)
  · rcases List.mem_append.mp ha with z | z
    · exact memL (h1 a z)
    · exact memR z
  · rcases List.mem_append.mp ha with z | z
    · exact memL (h1 a z)
    · exact memR z
end
section
variable {X : Cx} {C : Cf} {ea eb ec : Expr} {pos : Pos} {a b c : Ex} {p p1 p2 p3 : Bool} {k k1 k2 : Kd} {m : Md} {Γ Γ1 Γ2 Γ3 : G} {rest : List Expr}
theorem w_le (h : SE X C p Γ ea a (.own m) Γ1) (l : leG Γ1 Γ2 = true) : SE X C false Γ ea a (.own m) Γ2 := PE.imp h fun σ H Q ⟨e, S, R, s, o⟩ => ⟨e, S, R, s, o.imp fun d e' q => OkE.le q l⟩
theorem OkE.np {C : Cf} {σ : VS} {H : Hp} {S R : List Addr} {Q : VK} {d : D} {e' : Env} (q : OkE C σ H S R false k Γ2 Q d e') : OkE C σ H S R p k Γ2 Q d e' :=
  fun v H' S' T po ps n s vl => q v H' S' T po.ite (fun z => nomatch z) n s vl
theorem w_np (h : SE X C p Γ ea a k Γ1) : SE X C false Γ ea a k Γ1 := PE.imp h fun σ H Q ⟨e, S, R, s, o⟩ => ⟨e, S, R, s, o.imp fun d e' q => OkE.np q⟩
theorem w_shr (h : SE X C p Γ ea a (.own m) Γ1) (hn : noS m = true := by rfl) : SE X C p Γ ea a (.own .v) Γ1 := PE.imp h fun σ H Q ⟨e, S, R, s, o⟩ => ⟨e, S, R, s, o.imp fun d e' q => by
  intro v H' S' T po ps n s vl
  have sub : ∀ a ∈ S' ++ ([] ++ R), a ∈ S' ++ (T ++ R) := fun a ha => (List.mem_append.mp ha).elim memL fun z => memR (memR z)
  refine q v H' S' [] po ps (by simpa using n.left) s.dropL (Ow.frz (Fr.sub sub) vl hn fun a ha hb => ?_)
  have nd := s.nd
  rcases List.mem_append.mp hb with z | z
  · exact disj nd z (memL ha)
  · exact disj (List.nodup_append.mp nd).2.1 ha z⟩
theorem t_val (h : SE X C p Γ ea a (.own .v) Γ1) (he : ∀ whole, isTrue ea X.env whole = (do let v ← whole; standAt ea.pos; holding [v] (truthy v)) := by intro _; rfl) : ST X C p Γ ea a Γ1 :=
  PT.imp (pt_val h he) fun σ H Q h => tT_val h
theorem t_cmp {o : Op2} {op : CmpOp} {r : R2} (ho : OpR X (compareOp op) r) (hs : OpS C.B r (evOp2 o) k1.md k2.md .v)
    (ha : SE X C p1 Γ ea a k1 Γ1) (hb : SE X C p2 Γ1 eb b k2 Γ2) (hp : k1.isB = true → p2 = true := by first | exact fun _ => rfl | exact fun h => nomatch h) (hm : behindInMarks op eb = false := by first | rfl | with_unfolding_all rfl) :
    ST X C (p1 && p2) Γ (.Compare ea [op] [eb] pos) (.op o a b) Γ2 :=
  PT.imp (pt_cmpR ho ha hb hm) fun σ H Q h => c_op hs hp (tT_val h)
theorem t_isN {j : Nat} {pos' : Pos} (ha : SE X C p Γ ea a k1 Γ1) : ST X C p Γ (.Compare ea [.Is] [.Constant .none j pos'] pos) (.isN false a) Γ1 :=
  PT.imp (pt_cmp (pc_isN ha)) fun σ H Q h => c_un (r := fun x H1 Q => Q (.bl (decide (x = .non))) H1) (f := fun d => some (.bl (nonD d))) (fun e => by
      show (evE C.F a e).bind _ = _
      first
        | rfl
        | (congr 1; funext d e1; cases d <;> rfl)) (fun O H x d d' U Q ow hd q => by
      cases hd
      rw [ow.isNon]
      exact q _ .bl) (tT_val h)
theorem t_notN {j : Nat} {pos' : Pos} (ha : SE X C p Γ ea a k1 Γ1) : ST X C p Γ (.Compare ea [.IsNot] [.Constant .none j pos'] pos) (.isN true a) Γ1 :=
  PT.imp (pt_cmp (pc_notN ha)) fun σ H Q h => c_un (r := fun x H1 Q => Q (.bl (!decide (x = .non))) H1) (f := fun d => some (.bl (!nonD d))) (fun e => by
      show (evE C.F a e).bind _ = _
      first
        | rfl
        | (congr 1; funext d e1; cases d <;> rfl)) (fun O H x d d' U Q ow hd q => by
      cases hd
      rw [ow.isNon]
      exact q _ .bl) (tT_val h)
theorem t_not (ha : ST X C p Γ ea a Γ1) : ST X C p Γ (.UnaryOp .Not ea pos) (.not a) Γ1 :=
  PT.imp (pt_not ha) fun σ H Q h => by
    obtain ⟨e, S, R, s, o⟩ := h
    have o : Out C σ H S R (OkT C σ H S R p Γ1 Q) ((evE C.F a e).bind fun (d : D) e1 => match d with
      | .bl b => Mi.R.ok (D.bl (!b)) e1
      | _ => .bad) := o
    refine (At.start s).evT o (fun d e2 o => ?_) fun b e2 H2 S2 a2 _ o2 => a2.finT o2
    cases d <;> first | exact False.elim o | exact ⟨_, rfl⟩
theorem sw_and1 (ha : ST X C p Γ ea a Γ1) : SW X C p Γ (.BoolOp .And [ea] pos) a Γ1 := PW.imp (pw_and1 ha) fun _ _ _ h => h
theorem sw_or1 (ha : ST X C p Γ ea a Γ1) : SW X C p Γ (.BoolOp .Or [ea] pos) a Γ1 := PW.imp (pw_or1 ha) fun _ _ _ h => h
theorem OkT.np {C : Cf} {σ : VS} {H : Hp} {S R : List Addr} {Q : Bool → Hp → Prop} {d : D} {e' : Env} (q : OkT C σ H S R (p1 && p2) Γ2 Q d e') : OkT C σ H S R p1 Γ2 Q d e' := by
  obtain ⟨b, hb, q⟩ := q
  refine ⟨b, hb, fun H' S' po ps n s => q H' S' ?_ (fun z => ps (Bool.and_eq_true_iff.mp z).1) n s⟩
  cases p1 with
  | false => exact po
  | true =>
    cases p2 with
    | true => exact po
    | false => exact Post.nil po _
theorem sw_and (ha : ST X C p1 Γ ea a Γ1) (hb : SW X C p2 Γ1 (.BoolOp .And (eb :: rest) pos) b Γ1) : SW X C (p1 && p2) Γ (.BoolOp .And (ea :: eb :: rest) pos) (.and a b) Γ1 :=
  PW.imp (pw_and ha hb) fun σ H Q h => by
    obtain ⟨e, S, R, s, o⟩ := h
    refine (At.start s).evT (f := fun x e1 => match x with
    | .bl true => evE C.F b e1
    | .bl false => .ok (.bl false) e1
    | _ => .bad) o (fun d e2 o => ?_) fun x e2 H2 S2 a2 _ o2 => ?_
    · cases d <;> first | exact False.elim o | exact ⟨_, rfl⟩
    · cases x with
      | true =>
        have o2 : Out C σ H S R (OkT C σ H S R (p1 && p2) Γ1 Q) ((evE C.F b e2).bind fun d e3 => .ok d e3) := by
          have o2 : Out C σ H S R (OkT C σ H S R (p1 && p2) Γ1 Q) (evE C.F b e2) := o2
          cases h : evE C.F b e2 <;> rw [h] at o2 <;> exact o2
        exact a2.evT (f := fun d e3 => .ok d e3) o2 (fun d e3 o => o.elim fun b hb => ⟨b, hb.1⟩) fun y e3 H3 S3 a3 _ o3 => a3.finT o3
      | false => exact a2.finT (OkT.np (show OkT C σ H S R (p1 && p2) Γ1 Q (.bl false) e2 from o2))
theorem sw_or (ha : ST X C p1 Γ ea a Γ1) (hb : SW X C p2 Γ1 (.BoolOp .Or (eb :: rest) pos) b Γ1) : SW X C (p1 && p2) Γ (.BoolOp .Or (ea :: eb :: rest) pos) (.or a b) Γ1 :=
  PW.imp (pw_or ha hb) fun σ H Q h => by
    obtain ⟨e, S, R, s, o⟩ := h
    refine (At.start s).evT (f := fun x e1 => match x with
    | .bl true => .ok (.bl true) e1
    | .bl false => evE C.F b e1
    | _ => .bad) o (fun d e2 o => ?_) fun x e2 H2 S2 a2 _ o2 => ?_
    · cases d <;> first | exact False.elim o | exact ⟨_, rfl⟩
    · cases x with
      | false =>
        have o2 : Out C σ H S R (OkT C σ H S R (p1 && p2) Γ1 Q) ((evE C.F b e2).bind fun d e3 => .ok d e3) := by
          have o2 : Out C σ H S R (OkT C σ H S R (p1 && p2) Γ1 Q) (evE C.F b e2) := o2
          cases h : evE C.F b e2 <;> rw [h] at o2 <;> exact o2
        exact a2.evT (f := fun d e3 => .ok d e3) o2 (fun d e3 o => o.elim fun b hb => ⟨b, hb.1⟩) fun y e3 H3 S3 a3 _ o3 => a3.finT o3
      | true => exact a2.finT (OkT.np (show OkT C σ H S R (p1 && p2) Γ1 Q (.bl true) e2 from o2))
theorem t_and (h : SW X C p Γ ea a Γ1) : ST X C p Γ ea a Γ1 := h.pt
theorem w_one {op : BoolOp} (h : SE X C p Γ ea a k Γ1) : SE X C p Γ (.BoolOp op [ea] pos) a k Γ1 := PE.imp (pe_one h) fun _ _ _ h => h
theorem OkE.np2 {C : Cf} {σ : VS} {H : Hp} {S R : List Addr} {Q : VK} {d : D} {e' : Env} (q : OkE C σ H S R (p1 && p2) k Γ2 Q d e') : OkE C σ H S R p1 k Γ2 Q d e' := by
  cases p1 with
  | false => exact q
  | true =>
    cases p2 with
    | true => exact q
    | false => exact OkE.np q
theorem Out.ret {C : Cf} {σ : VS} {H : Hp} {S R : List Addr} {ok : D → Env → Prop} {r : Mi.R D} (o : Out C σ H S R ok r) : Out C σ H S R ok (r.bind fun d e => .ok d e) := by
  cases r <;> exact o
theorem At.all {C : Cf} {σ : VS} {H H1 : Hp} {S R S1 Z : List Addr} {e1 : Env} (a : At C σ H S R p1 Γ1 e1 H1 S1 Z) {Q : VK} {Γ2 : G} (o : Out C σ H S R (OkE C σ H S R (p1 && p2) k Γ2 Q) (evE C.F b e1)) : tE C p2 Γ1 b k Γ2 σ H1 Q := by
  refine ⟨e1, S1, Z, a.sta, ?_⟩
  cases h : evE C.F b e1 with
  | bad => rw [h] at o; exact o
  | err c fs e => rw [h] at o; exact a.err o
  | ok d e =>
    rw [h] at o
    intro v H' S' T po ps n s vl
    have nd := List.nodup_append.mp (List.nodup_append.mp s.nd).2.1
    have ndT : (T ++ R).Nodup := List.nodup_append.mpr ⟨nd.1, a.ndR, fun x hx y hy z => nd.2.2 x hx y (a.rz y hy) z⟩
    have sub : ∀ x ∈ T ++ R, x ∈ T ++ Z := fun x hx => (List.mem_append.mp hx).elim memL fun z => memR (a.rz x z)
    refine o v H' S' T ?_ (fun z => ?_) (a.n.trans a.po.ite n) (s.drop ndT sub) ?_
    · cases p1 with
      | false => exact a.po.trans a.n po.ite
      | true =>
        cases p2 with
        | true => exact fun b o' hn he => po b o' (fun z => nomatch z) (a.po b o' (fun z => nomatch z) he)
        | false => exact a.po.ite.trans a.n po
    · have z' := Bool.and_eq_true_iff.mp z
      rw [ps z'.2, a.ps z'.1]
    · have f : Fr (S' ++ (T ++ Z)) (S' ++ (T ++ R)) H' H' := Fr.sub fun x hx => (List.mem_append.mp hx).elim memL fun z => memR (sub x z)
      cases k with
      | own m => exact Ow.fr f vl fun _ _ _ z => z
      | bor m =>
        obtain ⟨h0, U, h1, h2⟩ := vl
        exact ⟨h0, U, h1, Ow.fr f h2 fun _ _ _ z => z⟩
theorem c_ite {σ : VS} {H : Hp} {Q : VK} (h : tE C (p1 && (p2 && p3)) Γ (.ite c a b) k Γ2 σ H Q) : tT C p1 Γ c Γ1 σ H fun x H1 => if x = true then tE C p2 Γ1 a k Γ2 σ H1 Q else tE C p3 Γ1 b k Γ2 σ H1 Q := by
  obtain ⟨e, S, R, s, o⟩ := h
  have o : Out C σ H S R (OkE C σ H S R (p1 && (p2 && p3)) k Γ2 Q) ((evE C.F c e).bind fun (x : D) e1 => match x with
    | .bl true => evE C.F a e1
    | .bl false => evE C.F b e1
    | _ => .bad) := o
  refine (At.start s).evT o (fun d e2 o => ?_) fun x e2 H2 S2 a2 _ o2 => ?_
  · cases d <;> first | exact False.elim o | exact ⟨_, rfl⟩
  · cases x with
    | true =>
      rw [if_pos rfl]
      refine At.all (p1 := p1) a2 ((show Out C σ H S R (OkE C σ H S R (p1 && (p2 && p3)) k Γ2 Q) (evE C.F a e2) from o2).imp fun d e q => ?_)
      rw [← Bool.and_assoc] at q
      exact OkE.np2 q
    | false =>
      rw [if_neg Bool.false_ne_true]
      refine At.all (p1 := p1) a2 ((show Out C σ H S R (OkE C σ H S R (p1 && (p2 && p3)) k Γ2 Q) (evE C.F b e2) from o2).imp fun d e q => ?_)
      rw [Bool.and_comm p2 p3, ← Bool.and_assoc] at q
      exact OkE.np2 q
theorem w_ite (hc : ST X C p1 Γ ec c Γ1) (ha : SE X C p2 Γ1 ea a k Γ2) (hb : SE X C p3 Γ1 eb b k Γ2) : SE X C (p1 && (p2 && p3)) Γ (.IfExp ec ea eb pos) (.ite c a b) k Γ2 :=
  PE.imp (pe_ifExp hc ha hb) fun _ _ _ h => c_ite h
theorem w_and (ha : SE X C p1 Γ ea a (.own .v) Γ1) (hb : SE X C p2 Γ1 (.BoolOp .And (eb :: rest) pos) b (.own .v) Γ1) : SE X C (p1 && p2) Γ (.BoolOp .And (ea :: eb :: rest) pos) (.and a b) (.own .v) Γ1 :=
  PE.imp (pe_and ha hb) fun σ H Q h => by
    obtain ⟨e, S, R, s, o⟩ := h
    have o : Out C σ H S R (OkE C σ H S R (p1 && p2) (.own .v) Γ1 Q) ((evE C.F a e).bind fun (x : D) e1 => match x with
      | .bl true => evE C.F b e1
      | .bl false => .ok (.bl false) e1
      | _ => .bad) := o
    refine (At.start s).ev o fun d e1 x H1 S1 T1 a1 v1 _ o1 => ?_
    cases d <;> first | exact False.elim o1 | skip
    rename_i x'
    refine ⟨x', Ow.bl_eq v1, ?_⟩
    cases x' with
    | true =>
      rw [if_pos rfl]
      exact At.all (p1 := p1) a1 o1
    | false =>
      rw [if_neg Bool.false_ne_true]
      exact a1.fin0 (OkE.np2 (show OkE C σ H S R (p1 && p2) (.own .v) Γ1 Q (.bl false) e1 from o1)) .bl
theorem w_or (ha : SE X C p1 Γ ea a (.own .v) Γ1) (hb : SE X C p2 Γ1 (.BoolOp .Or (eb :: rest) pos) b (.own .v) Γ1) : SE X C (p1 && p2) Γ (.BoolOp .Or (ea :: eb :: rest) pos) (.or a b) (.own .v) Γ1 :=
  PE.imp (pe_or ha hb) fun σ H Q h => by
    obtain ⟨e, S, R, s, o⟩ := h
    have o : Out C σ H S R (OkE C σ H S R (p1 && p2) (.own .v) Γ1 Q) ((evE C.F a e).bind fun (x : D) e1 => match x with
      | .bl true => .ok (.bl true) e1
      | .bl false => evE C.F b e1
      | _ => .bad) := o
    refine (At.start s).ev o fun d e1 x H1 S1 T1 a1 v1 _ o1 => ?_
    cases d <;> first | exact False.elim o1 | skip
    rename_i x'
    refine ⟨x', Ow.bl_eq v1, ?_⟩
    cases x' with
    | false =>
      rw [if_neg Bool.false_ne_true]
      exact At.all (p1 := p1) a1 o1
    | true =>
      rw [if_pos rfl]
      exact a1.fin0 (OkE.np2 (show OkE C σ H S R (p1 && p2) (.own .v) Γ1 Q (.bl true) e1 from o1)) .bl
def OpA (B : Tb) (r : R2) (f : D → D → Option D) (m1 m2 : Md) : Prop := ∀ (O : List Addr) (H : Hp) (x y : V) (d1 d2 d : D) (U1 U2 : List Addr) (Q : VK), Ow B O H m1 d1 x U1 → Ow B O H m2 d2 y U2 → f d1 d2 = some d → (∀ v, Ow B O H .v d v [] → Q v H) → r x y H Q
theorem a_cmp {B : Tb} {m1 m2 : Md} {f : Int → Int → Bool} : OpA B (rI0 fun i j => V.bl (f i j)) (cmpI f) m1 m2 := fun O H x y d1 d2 d U1 U2 Q o1 o2 e q => by
  unfold cmpI at e
  split at e
  · cases e
    exact ⟨_, _, o1.int_eq, o2.int_eq, q _ .bl⟩
  · cases e
theorem c_ch {o1 o2 : Op2} {r1 r2 : R2} {k3 : Kd} (hs1 : OpA C.B r1 (evOp2 o1) k1.md k2.md) (hs2 : OpA C.B r2 (evOp2 o2) k2.md k3.md) (hp1 : k1.isB = true → p2 = true) (hp2 : k2.isB = true → p3 = true) {σ : VS} {H : Hp} {Q : VK}
    (h : tE C (p1 && p2 && p3) Γ (.ch o1 o2 a b c) (.own .v) Γ2 σ H Q) : tChain r1 r2 (tE C p1 Γ a k1 Γ1) (tE C p2 Γ1 b k2 Γ2) (tE C p3 Γ2 c k3 Γ2) σ H Q := by
  obtain ⟨e, S, R, s, o⟩ := h
  have o : Out C σ H S R (OkE C σ H S R (p1 && p2 && p3) (.own .v) Γ2 Q) ((evE C.F a e).bind fun x e1 => (evE C.F b e1).bind fun y e2 => match evOp2 o1 x y with
    | some (.bl true) => (evE C.F c e2).bind fun z e3 => ofO (evOp2 o2 y z) e3
    | some (.bl false) => .ok (.bl false) e2
    | _ => .bad) := o
  refine (At.start s).ev o fun d1 e1 x H1 S1 T1 a1 v1 _ w1 => ?_
  refine a1.ev w1 fun d2 e2 y H2 S2 T2 a2 v2 hold w2 => ?_
  obtain ⟨U1, u1, ow1⟩ := (hold _ _ _ _ v1 (fun _ => memL) hp1).view (fun _ => memL) fun a h => memR (memR (memL h))
  obtain ⟨U2, u2, ow2⟩ := v2.view (fun _ => memL) fun a h => memR (memL h)
  cases hd : evOp2 o1 d1 d2 with
  | none => rw [hd] at w2; exact w2.elim
  | some d =>
    rw [hd] at w2
    refine hs1 _ H2 x y d1 d2 d U1 U2 _ ow1 ow2 hd fun v ov => ?_
    cases d <;> first | exact False.elim w2 | skip
    rename_i q
    refine ⟨q, ov.bl_eq, ?_⟩
    cases q with
    | true =>
      rw [if_pos rfl]
      refine a2.ev w2 fun d3 e3 z H3 S3 T3 a3 v3 hold3 w3 => ?_
      obtain ⟨d', hd', q'⟩ := Out.ofO w3
      obtain ⟨U2', u2', ow2'⟩ := (hold3 _ _ _ _ v2 (fun _ => memL) hp2).view (fun _ => memL) fun a h => memR (memR (memL h))
      obtain ⟨U3, u3, ow3⟩ := v3.view (fun _ => memL) fun a h => memR (memL h)
      exact hs2 _ H3 y z d2 d3 d' U2' U3 Q ow2' ow3 hd' fun v ov => a3.fin0 q' ov
    | false =>
      rw [if_neg Bool.false_ne_true]
      exact a2.fin0 (OkE.np2 (show OkE C σ H S R (p1 && p2 && p3) (.own .v) Γ2 Q (.bl false) e2 from w2)) .bl
theorem w_ch {o1 o2 : Op2} {r1 r2 : R2} {k3 : Kd} {op op' : CmpOp} (ho : OpR X (compareOp op) r1) (ho' : OpR X (compareOp op') r2) (hs1 : OpA C.B r1 (evOp2 o1) k1.md k2.md) (hs2 : OpA C.B r2 (evOp2 o2) k2.md k3.md)
    (ha : SE X C p1 Γ ea a k1 Γ1) (hb : SE X C p2 Γ1 eb b k2 Γ2) (hc : SE X C p3 Γ2 ec c k3 Γ2) (hp1 : k1.isB = true → p2 = true := by first | exact fun _ => rfl | exact fun h => nomatch h) (hp2 : k2.isB = true → p3 = true := by first | exact fun _ => rfl | exact fun h => nomatch h)
    (hm : lastMarks [op, op'] [eb, ec] = false := by with_unfolding_all rfl) : SE X C (p1 && p2 && p3) Γ (.Compare ea [op, op'] [eb, ec] pos) (.ch o1 o2 a b c) (.own .v) Γ2 :=
  PE.imp (pe_chain ho ho' ha hb hc hm) fun _ _ _ h => c_ch hs1 hs2 hp1 hp2 h
theorem t_ch {o1 o2 : Op2} {r1 r2 : R2} {k3 : Kd} {op op' : CmpOp} (ho : OpR X (compareOp op) r1) (ho' : OpR X (compareOp op') r2) (hs1 : OpA C.B r1 (evOp2 o1) k1.md k2.md) (hs2 : OpA C.B r2 (evOp2 o2) k2.md k3.md)
    (ha : SE X C p1 Γ ea a k1 Γ1) (hb : SE X C p2 Γ1 eb b k2 Γ2) (hc : SE X C p3 Γ2 ec c k3 Γ2) (hp1 : k1.isB = true → p2 = true := by first | exact fun _ => rfl | exact fun h => nomatch h) (hp2 : k2.isB = true → p3 = true := by first | exact fun _ => rfl | exact fun h => nomatch h)
    (hm : lastMarks [op, op'] [eb, ec] = false := by with_unfolding_all rfl) : ST X C (p1 && p2 && p3) Γ (.Compare ea [op, op'] [eb, ec] pos) (.ch o1 o2 a b c) Γ2 :=
  PT.imp (pt_chain ho ho' ha hb hc hm) fun _ _ _ h => c_ch hs1 hs2 hp1 hp2 (tT_val h)
end
end Mi
namespace Mi
open PySem PySem.Spec PyProof.Rows L2
inductive AK where
  | kd (k : Kd) | ref (i : Nat)
inductive ArR (B : Tb) (O S : List Addr) (H : Hp) (σ : VS) : List AK → List Ar → List V → List Addr → Prop
  | nil : ArR B O S H σ [] [] [] []
  | kd {k ks d as v vs T U} : Vl B O S H k d v T → ArR B O S H σ ks as vs U → ArR B O S H σ (.kd k :: ks) (.d d :: as) (v :: vs) (T ++ U)
  | ref {i ks as v vs U} : σ[i]? = some (some v) → ArR B O S H σ ks as vs U → ArR B O S H σ (.ref i :: ks) (.s i :: as) (v :: vs) U
def OkA (C : Cf) (σ : VS) (H : Hp) (S R : List Addr) (p : Bool) (ks : List AK) (Γ' : G) (Q : List V → Hp → Prop) (as : List Ar) (e' : Env) : Prop :=
  ∀ vs H' S' T, Post (if p then [] else S) H H' → (p = true → S' = S) → New S H (S' ++ T) → Sta C.B C.M (T ++ R) Γ' e' σ H' S' → ArR C.B (S' ++ (T ++ R)) S' H' σ ks as vs T → Q vs H'
def tA (C : Cf) (p : Bool) (Γ : G) (ms : Exs) (ks : List AK) (Γ' : G) : TA := fun σ H Q => ∃ e S R, Sta C.B C.M R Γ e σ H S ∧ Out C σ H S R (OkA C σ H S R p ks Γ' Q) (evEs C.F ms e)
def SA (X : Cx) (C : Cf) (p : Bool) (Γ : G) (es : List Expr) (ms : Exs) (ks : List AK) (Γ' : G) : Prop := PA X es (tA C p Γ ms ks Γ')
theorem PA.imp {X : Cx} {e : List Expr} {t t' : TA} (h : PA X e t) (i : ∀ σ H Q, t' σ H Q → t σ H Q) : PA X e t' := ⟨fun pos pins s σ H Q I q => h.run pos pins s σ H Q I (i σ H Q q)⟩
section
variable {C : Cf} {σ : VS} {H H1 : Hp} {S R S1 Z : List Addr} {p p2 : Bool} {Γ Γ1 Γ2 : G} {e e1 : Env} {ms : Exs} {ks : List AK}
theorem At.evA (a : At C σ H S R p Γ1 e1 H1 S1 Z) {β : Type} {ok : β → Env → Prop} {f : List Ar → Env → Mi.R β} {Q : List V → Hp → Prop} (o : Out C σ H S R ok ((evEs C.F ms e1).bind f))
    (h : ∀ as e2 vs H2 S2 T2, At C σ H S R (p && p2) Γ2 e2 H2 S2 (T2 ++ Z) → ArR C.B (S2 ++ (T2 ++ Z)) S2 H2 σ ks as vs T2 → Holds C p2 H1 H2 S1 Z S2 (T2 ++ Z) → New S1 H1 (S2 ++ T2) → Out C σ H S R ok (f as e2) → Q vs H2) : tA C p2 Γ1 ms ks Γ2 σ H1 Q := by
  refine ⟨e1, S1, Z, a.sta, ?_⟩
  cases h1 : evEs C.F ms e1 with
  | bad => rw [h1] at o; exact o.elim
  | err c fs e' => rw [h1] at o; exact a.err o
  | ok as e2 =>
    rw [h1] at o
    intro vs H2 S2 T2 po ps n s2 v2
    refine h as e2 vs H2 S2 T2 ⟨?_, fun z => ?_, a.n.trans a.po.ite n.left, fun b hb => List.mem_append_right _ (a.rz b hb), a.ndR, s2⟩ v2 (holds_of a.sta.nd po ps n) n o
    · cases p with
      | false => exact a.po.trans a.n po.ite
      | true =>
        cases p2 with
        | true => exact fun b o' hn he => po b o' (fun z => nomatch z) (a.po b o' (fun z => nomatch z) he)
        | false => exact a.po.ite.trans a.n po
    · have z' := Bool.and_eq_true_iff.mp z
      rw [ps z'.2, a.ps z'.1]
theorem ArR.fr {B : Tb} {O O' S S' : List Addr} {H H' : Hp} {as : List Ar} {vs : List V} {T : List Addr} (h : ArR B O S H σ ks as vs T) (g : ∀ k d v T', Vl B O S H k d v T' → (∀ a ∈ T', a ∈ T) → Vl B O' S' H' k d v T') : ArR B O' S' H' σ ks as vs T := by
  induction h with
  | nil => exact .nil
  | kd h1 _ ih => exact .kd (g _ _ _ _ h1 fun _ => memL) (ih fun k d v T' w hw => g k d v T' w fun a ha => memR (hw a ha))
  | ref h1 _ ih => exact .ref h1 (ih g)
end
section
variable {X : Cx} {C : Cf} {ea : Expr} {es : List Expr} {pos : Pos} {a : Ex} {ms : Exs} {p p1 p2 : Bool} {k k1 : Kd} {ks : List AK} {m : Md} {Γ Γ1 Γ2 : G}
theorem wa_nil : SA X C true Γ [] .nil [] Γ := PA.imp pa_nil fun σ H Q ⟨e, S, R, s, o⟩ => (show OkA C σ H S R true [] Γ Q [] e from o) [] H S [] (Post.refl _ _) (fun _ => rfl) (by simpa using New.refl) s .nil
theorem wa_cons (ha : SE X C p1 Γ ea a k1 Γ1) (hr : SA X C p2 Γ1 es ms ks Γ2) (hp : k1.isB = true → p2 = true := by first | exact fun _ => rfl | exact fun h => nomatch h)
    (hs : starEach (ea :: es) X.env = (false, eval ea X.env) :: starEach es X.env := by rfl) : SA X C (p1 && p2) Γ (ea :: es) (.cons a ms) (.kd k1 :: ks) Γ2 :=
  PA.imp (pa_cons ha hr hs) fun σ H Q h => by
    obtain ⟨e, S, R, s, o⟩ := h
    have o : Out C σ H S R (OkA C σ H S R (p1 && p2) (.kd k1 :: ks) Γ2 Q) ((evE C.F a e).bind fun d e1 => (evEs C.F ms e1).bind fun r e2 => .ok (Ar.d d :: r) e2) := o
    refine (At.start s).evN o fun d e1 x H1 S1 T1 a1 v1 _ n1 o1 => ?_
    refine a1.evA o1 fun as e2 vs H2 S2 T2 a2 v2 hold nw o2 => ?_
    have w1 := hold _ _ _ _ v1 (fun _ => memL) hp
    have nd := a2.sta.nd
    have perm : ((T1 ++ T2) ++ R).Perm (T2 ++ (T1 ++ R)) := by
      rw [← List.append_assoc]
      exact (List.perm_append_comm).append_right R
    have ndZ : ((T1 ++ T2) ++ R).Nodup := perm.nodup_iff.mpr (List.nodup_append.mp nd).2.1
    have mem : ∀ x, x ∈ (T1 ++ T2) ++ R ↔ x ∈ T2 ++ (T1 ++ R) := fun x => perm.mem_iff
    have f : Fr (S2 ++ (T2 ++ (T1 ++ R))) (S2 ++ ((T1 ++ T2) ++ R)) H2 H2 := Fr.sub fun x hx => (List.mem_append.mp hx).elim memL fun z => memR ((mem x).mp z)
    have g : ∀ k d v T', Vl C.B (S2 ++ (T2 ++ (T1 ++ R))) S2 H2 k d v T' → Vl C.B (S2 ++ ((T1 ++ T2) ++ R)) S2 H2 k d v T' := fun k d v T' h => by
      cases k with
      | own m => exact Ow.fr f h fun _ _ _ z => z
      | bor m =>
        obtain ⟨h0, U, h1, h2⟩ := h
        exact ⟨h0, U, h1, Ow.fr f h2 fun _ _ _ z => z⟩
    refine (show OkA C σ H S R (p1 && p2) (.kd k1 :: ks) Γ2 Q (Ar.d d :: as) e2 from o2) (x :: vs) H2 S2 (T1 ++ T2) a2.po a2.ps (a2.n.app fun z hz => ?_) (a2.sta.drop ndZ fun x hx => (mem x).mp hx) (.kd (g _ _ _ _ w1) (v2.fr fun k d v T' h _ => g k d v T' h))
    rcases List.mem_append.mp hz with z' | z'
    · exact n1.right z z'
    · exact (n1.left.trans a1.po.ite nw.right) z z'
theorem wa_ref {i : Nat} {x : Str} {pos' : Pos} (hr : SA X C p2 Γ es ms ks Γ2) (hN : X.N[i]? = some x := by rfl) (hm : Γ[i]? = some (some m) := by rfl) (hv : Vis X.env.scope x := by first | exact Or.inl rfl | exact Or.inr (Or.inl rfl) | exact Or.inr (Or.inr rfl))
    (hd : (x == ("__debug__" : Str)) = false := by decide) (hcd : (x == ("__classdict__" : Str)) = false := by decide) : SA X C p2 Γ (.Name x pos' :: es) (.ref i ms) (.ref i :: ks) Γ2 :=
  PA.imp (pa_cons (pe_var hN hv hd hcd) hr rfl) fun σ H Q h => by
    obtain ⟨e, S, R, s, o⟩ := h
    obtain ⟨d, v, U, h1, h2, h3, h4⟩ := s.sl.get hm
    have o : Out C σ H S R (OkA C σ H S R p2 (.ref i :: ks) Γ2 Q) ((evEs C.F ms e).bind fun r e1 => .ok (Ar.s i :: r) e1) := o
    refine ⟨v, h2, (At.start s).evA o fun as e2 vs H2 S2 T2 a2 v2 hold nw o2 => ?_⟩
    exact (show OkA C σ H S R p2 (.ref i :: ks) Γ2 Q (Ar.s i :: as) e2 from o2) (v :: vs) H2 S2 T2 a2.po a2.ps nw a2.sta (.ref h2 v2)
def allM (m : Md) : List AK → Bool
  | [] => true
  | .kd (.own m') :: r => decide (m' = m) && allM m r
  | _ => false
theorem ArR.all {B : Tb} {O S : List Addr} {H : Hp} {σ : VS} {as : List Ar} {vs : List V} {T : List Addr} (h : ArR B O S H σ ks as vs T) (hk : allM m ks = true) : ∃ ds, dsOf as = some ds ∧ OwL B O H m ds vs T ∧ vs.length = ks.length := by
  induction h with
  | nil => exact ⟨[], rfl, .nil, rfl⟩
  | @kd k ks d as v vs T U h1 _ ih =>
    cases k with
    | bor _ => cases hk
    | own m' =>
      have hk := Bool.and_eq_true_iff.mp hk
      have z := of_decide_eq_true hk.1
      subst z
      obtain ⟨ds, e1, e2, e3⟩ := ih hk.2
      exact ⟨d :: ds, by simp [dsOf, e1], .cons h1 e2, by simp [e3]⟩
  | ref _ _ _ => cases hk
theorem w_tup {x1 : Nat} (ha : SA X C p Γ es ms ks Γ1) (hk : allM .v ks = true := by rfl) (hl : ks.length < LIM := by decide) : SE X C p Γ (.Tuple es x1 pos) (.tup ms) (.own .v) Γ1 :=
  PE.imp (pe_tup ha) fun σ H Q h => by
    obtain ⟨e, S, R, s, o⟩ := h
    have o : Out C σ H S R (OkE C σ H S R p (.own .v) Γ1 Q) ((evEs C.F ms e).bind fun as e1 => ofO ((dsOf as).map .tup) e1) := o
    refine (At.start s).evA o fun as e2 vs H2 S2 T2 a2 v2 _ nw o2 => ?_
    obtain ⟨ds, e1, e2, e3⟩ := v2.all hk
    have z := e2.v_nil
    subst z
    rw [e1] at o2
    refine ⟨by rw [e3]; exact lim_line hl, fun q hq => ?_⟩
    exact a2.fin (show OkE C σ H S R p (.own .v) Γ1 Q (.tup ds) _ from o2) (post_upd hq) (T := []) (fun _ h => absurd h List.not_mem_nil) List.nodup_nil (new_tup a2.sta.lives e2 hq)
theorem w_lst (ha : SA X C p Γ es ms ks Γ1) (hk : allM m ks = true := by rfl) (hl : ks.length < LIM := by decide) : SE X C p Γ (.List es pos) (.lst ms) (.own (.l m)) Γ1 :=
  PE.imp (pe_lst ha) fun σ H Q h => by
    obtain ⟨e, S, R, s, o⟩ := h
    have o : Out C σ H S R (OkE C σ H S R p (.own (.l m)) Γ1 Q) ((evEs C.F ms e).bind fun as e1 => ofO ((dsOf as).map .lst) e1) := o
    refine (At.start s).evA o fun as e2 vs H2 S2 T2 a2 v2 _ nw o2 => ?_
    obtain ⟨ds, e1, e2, e3⟩ := v2.all hk
    rw [e1] at o2
    refine ⟨by rw [e3]; exact lim_line hl, fun q hq => ?_⟩
    have nq : q ∉ S2 ++ (T2 ++ R) := notLive a2.sta.lives hq
    have lv : Live (T2 ++ R) (upd H2 q (.lst vs)) := a2.sta.live.post (post_upd hq) fun _ _ z => nomatch z
    refine (show OkE C σ H S R p (.own (.l m)) Γ1 Q (.lst ds) _ from o2) (.ref q) _ S2 (q :: T2) ?_ a2.ps (a2.n.app fun z hz => ?_) (a2.sta.grow (post_upd hq) ?_ ?_ fun z hz => ?_) (.lst upd_same (e2.fr (Fr.grow (post_upd hq) fun z hz => ?_) (KeepS.all (post_upd hq))))
    · cases p with
      | false => exact a2.po.trans a2.n (Post.nil (post_upd hq) _)
      | true => exact fun b o' hn he => post_upd hq b o' (fun z => nomatch z) (a2.po b o' (fun z => nomatch z) he)
    · rcases List.mem_cons.mp hz with rfl | hz
      · exact a2.n.trans a2.po.ite (New.fresh (T := [z]) fun y hy => by rw [List.mem_singleton.mp hy]; exact hq) z (by simp)
      · exact nw.right z hz
    · exact List.nodup_cons.mpr ⟨fun z => nq (memR z), (List.nodup_append.mp a2.sta.nd).2.1⟩
    · exact Live.cons upd_same lv
    · rcases List.mem_cons.mp hz with rfl | hz
      · exact .inr hq
      · exact .inl hz
    · simp only [List.mem_append, List.mem_cons, List.cons_append] at hz ⊢
      rcases hz with z' | rfl | z'
      · exact .inl (.inl z')
      · exact .inr hq
      · exact .inl (.inr z')
def B1S (B : Tb) (r : List V → Hp → VK → Prop) (f : D → Option D) (m1 m : Md) : Prop := ∀ (O : List Addr) (H : Hp) (x : V) (d d' : D) (U : List Addr) (Q : VK), Live O H → (∀ a ∈ U, a ∈ O) → Ow B O H m1 d x U → f d = some d' →
  (∀ v H' T, Post [] H H' → (∀ a ∈ T, H a = none) → T.Nodup → Ow B (T ++ O) H' m d' v T → Q v H') → r [x] H Q
def B2S (B : Tb) (r : List V → Hp → VK → Prop) (f : D → D → Option D) (m1 m2 m : Md) : Prop := ∀ (O : List Addr) (H : Hp) (x y : V) (d1 d2 d' : D) (U W : List Addr) (Q : VK), Live O H → (∀ a ∈ U, a ∈ O) → (∀ a ∈ W, a ∈ O) → Ow B O H m1 d1 x U → Ow B O H m2 d2 y W → f d1 d2 = some d' →
  (∀ v H' T, Post [] H H' → (∀ a ∈ T, H a = none) → T.Nodup → Ow B (T ++ O) H' m d' v T → Q v H') → r [x, y] H Q
theorem c_bi1 {r : List V → Hp → VK → Prop} {o : Bi} {f : D → Option D} (hf : ∀ d, evBi o [d] = f d) (hs : B1S C.B r f k1.md m) {σ : VS} {H : Hp} {Q : VK}
    (h : tE C p Γ (.bi o (.cons a .nil)) (.own m) Γ1 σ H Q) : tCB r (tA C p Γ (.cons a .nil) [.kd k1] Γ1) σ H Q := by
  obtain ⟨e, S, R, s, o'⟩ := h
  have o' : Out C σ H S R (OkE C σ H S R p (.own m) Γ1 Q) ((evEs C.F (.cons a .nil) e).bind fun as e1 => ofO ((dsOf as).bind fun ds => evBi o ds) e1) := o'
  refine (At.start s).evA o' fun as e2 vs H2 S2 T2 a2 v2 _ nw o2 => ?_
  cases v2 with
  | @kd _ _ d _ v _ T U h1 h2 =>
    cases h2
    obtain ⟨d', hd, q⟩ := Out.ofO o2
    have hd : evBi o [d] = some d' := hd
    rw [hf] at hd
    obtain ⟨U, u, ow⟩ := h1.view (fun _ => memL) fun a h => memR (memL (memL h))
    exact hs _ H2 v d d' U Q a2.sta.lives u ow hd fun v H' T po nT ndT ow => a2.fin q po nT ndT ow
theorem c_bi2 {b : Ex} {k2 : Kd} {r : List V → Hp → VK → Prop} {o : Bi} {f : D → D → Option D} (hf : ∀ d d', evBi o [d, d'] = f d d') (hs : B2S C.B r f k1.md k2.md m) {σ : VS} {H : Hp} {Q : VK}
    (h : tE C p Γ (.bi o (.cons a (.cons b .nil))) (.own m) Γ1 σ H Q) : tCB r (tA C p Γ (.cons a (.cons b .nil)) [.kd k1, .kd k2] Γ1) σ H Q := by
  obtain ⟨e, S, R, s, o'⟩ := h
  have o' : Out C σ H S R (OkE C σ H S R p (.own m) Γ1 Q) ((evEs C.F (.cons a (.cons b .nil)) e).bind fun as e1 => ofO ((dsOf as).bind fun ds => evBi o ds) e1) := o'
  refine (At.start s).evA o' fun as e2 vs H2 S2 T2 a2 v2 _ nw o2 => ?_
  cases v2 with
  | @kd _ _ d _ v _ T U h1 h2 =>
    cases h2 with
    | @kd _ _ d3 _ v3 _ T3 U3 h3 h4 =>
      cases h4
      obtain ⟨d', hd, q⟩ := Out.ofO o2
      have hd : evBi o [d, d3] = some d' := hd
      rw [hf] at hd
      obtain ⟨U1, u1, ow1⟩ := h1.view (fun _ => memL) fun a h => memR (memL (memL h))
      obtain ⟨U2, u2, ow2⟩ := h3.view (fun _ => memL) fun a h => memR (memL (memR (memL h)))
      exact hs _ H2 v v3 d d3 d' U1 U2 Q a2.sta.lives u1 u2 ow1 ow2 hd fun v H' T po nT ndT ow => a2.fin q po nT ndT ow
variable {x : Str} {pp : Pos} {id T : String} {r : List V → Hp → VK → Prop}
theorem w_b1 {o : Bi} {f : D → Option D} (hc : CallR X (.builtin id) r) (hf : ∀ d, evBi o [d] = f d) (hs : B1S C.B r f k1.md m) (hm : X.mg x = none) (ha : SA X C p Γ [ea] (.cons a .nil) [.kd k1] Γ1) (hg : Gl X x := by rfl) (hv : bootBuiltins x = some (.builtin id) := by decide +kernel)
    (hn : x ≠ "__name__" := by decide) (hdb : (x == ("__debug__" : Str)) = false := by decide) (he : starEach [ea] X.env = (false, eval ea X.env) :: starEach [] X.env := by rfl) : SE X C p Γ (.Call (.Name x pp) [ea] [] pos) (.bi o (.cons a .nil)) (.own m) Γ1 :=
  PE.imp (pe_callB hc hg hm hv ha hn hdb he rfl) fun _ _ _ h => c_bi1 hf hs h
theorem w_t1 {o : Bi} {f : D → Option D} (hc : CallR X (.type T) r) (hf : ∀ d, evBi o [d] = f d) (hs : B1S C.B r f k1.md m) (hm : X.mg x = none) (ha : SA X C p Γ [ea] (.cons a .nil) [.kd k1] Γ1) (hg : Gl X x := by rfl) (hv : bootBuiltins x = some (.type T) := by decide +kernel)
    (hn : x ≠ "__name__" := by decide) (hdb : (x == ("__debug__" : Str)) = false := by decide) (he : starEach [ea] X.env = (false, eval ea X.env) :: starEach [] X.env := by rfl) : SE X C p Γ (.Call (.Name x pp) [ea] [] pos) (.bi o (.cons a .nil)) (.own m) Γ1 :=
  PE.imp (pe_callTy hc hg hm hv ha hn hdb he rfl) fun _ _ _ h => c_bi1 hf hs h
theorem w_b2 {eb : Expr} {b : Ex} {k2 : Kd} {o : Bi} {f : D → D → Option D} (hc : CallR X (.builtin id) r) (hf : ∀ d d', evBi o [d, d'] = f d d') (hs : B2S C.B r f k1.md k2.md m) (hm : X.mg x = none) (ha : SA X C p Γ [ea, eb] (.cons a (.cons b .nil)) [.kd k1, .kd k2] Γ1) (hg : Gl X x := by rfl) (hv : bootBuiltins x = some (.builtin id) := by decide +kernel)
    (hn : x ≠ "__name__" := by decide) (hdb : (x == ("__debug__" : Str)) = false := by decide) (he : starEach [ea, eb] X.env = (false, eval ea X.env) :: starEach [eb] X.env := by rfl) (hpl : (backTo pos (starEach [eb] X.env)).any (·.1) = false := by rfl) : SE X C p Γ (.Call (.Name x pp) [ea, eb] [] pos) (.bi o (.cons a (.cons b .nil))) (.own m) Γ1 :=
  PE.imp (pe_callB hc hg hm hv ha hn hdb he hpl) fun _ _ _ h => c_bi2 hf hs h
end
end Mi
namespace Mi
open PySem PySem.Spec PyProof.Rows L2
structure FnG (P : Program) (w : World) (K : PySem.W.Frag) (mg : Str → Option Value) (base : Heap) (k : Nat) (f : Addr) (fd : FuncData) (ps : List Str) (sp : Sp) : Prop where
  len : ∀ vs H Q E, sp vs H Q E → vs.length = ps.length
  run : ∀ (A : Around) (outer : List PySem.Env) (s : Shared) (H : Hp) (args : Args) (us : List Value) (vs : List V) (Q : VK) (E : XK), A.guards = some [] → Room k A → Env0 P w K mg base A outer s H →
    BindsTo s fd args (ps.zip us) → Vals vs us → sp vs H Q E → codeAny (model P w) A (.call (.ref f) args) (CR (L2.CX P w) outer P w H s Q E) s
theorem FnG.mono {P : Program} {w : World} {K : PySem.W.Frag} {mg : Str → Option Value} {base : Heap} {j k : Nat} {f : Addr} {fd : FuncData} {ps : List Str} {sp : Sp} (F : FnG P w K mg base j f fd ps sp) (h : j ≤ k) : FnG P w K mg base k f fd ps sp :=
  ⟨F.len, fun A outer s H args us vs Q E hg hr => F.run A outer s H args us vs Q E hg (hr.mono h)⟩
abbrev bodyX (P : Program) (w : World) (K : PySem.W.Frag) (mg : Str → Option Value) (base : Heap) (N : List Str) (qual : Str) (sc : Scope) (f : Addr) (cd : Value) (A : Around) (outer : List PySem.Env) (s : Shared) (H : Hp) (E : XK) : Cx := cxOf (L2.CX P w) P w K mg base N qual sc f cd A outer s H E
theorem FnG.make {P : Program} {w : World} {K : PySem.W.Frag} {mg : Str → Option Value} {base : Heap} {k : Nat} {f : Addr} {fd : FuncData} {x qual : Str} {st : Stmt} {N ps : List Str} {sp : Sp} (F : Fun K x qual st f fd) (S : FnScope N ps (defScope st))
    (len : ∀ vs H Q E, sp vs H Q E → vs.length = ps.length)
    (body : ∀ (cd : Value) (A : Around) (outer : List PySem.Env) (s : Shared) (H : Hp) (vs : List V) (Q : VK) (E : XK), A.guards = some [] → Room k (A.deeper (envOfC qual (defScope st) s.heap.objs.size f cd)) → sp vs H Q E →
      ∃ t, PSs (bodyX P w K mg base N qual (defScope st) f cd A outer s H E) (defBody st) t ∧ t { nx := fun _ H' => Q .non H', rt := Q } (start N vs) H) : FnG P w K mg base (k + 1) f fd ps sp := by
  obtain ⟨oc, od, kV, doc, pm, an, cd, ct, osl, rfl, lk, hcd⟩ := F.ex
  constructor
  · exact len
  intro A outer s H args us vs Q E hg hr e0 hb r hsp
  have hl := len _ _ _ _ hsp
  have old : ∀ b o, base.get? b = some o → s.heap.get? b = some o := fun b o e => (e0.bs b o e).1
  have inK : K.In s.heap := e0.mod.kin.keeps old
  have lim := e0.mod.nolimit.keeps old
  have places : ∀ y ∈ ps.zip us, (defScope st).names.lookup y.1 = some .local ∨ ((defScope st).names.lookup y.1 = some .cell ∧ ((cellsFrom (s.heap.objs.size + 1) (defScope st).names []).lookup y.1).isSome = true) := by
    intro y hy
    have hm : y.1 ∈ ps := (List.of_mem_zip (a := y.1) (b := y.2) hy).1
    exact (S.par y.1 hm).imp id fun q => ⟨q, PySem.W.cellsFrom_some _ _ _ (.inl q)⟩
  refine codeAny_call_function hr.depth (inK _ _ lk) rfl S.co S.gen rfl (PySem.W.codeRec_of inK hcd) ?_
  refine hb _ _ _ _ ?_
  refine wpAny_newFunctionEnv_cells S.kind places ?_
  intro env he s1 x1
  subst he
  refine ⟨lim.keeps x1.toInCall.keep, codeAny_func ?_⟩
  obtain ⟨t, ht, hq⟩ := body cd A outer s H vs Q E hg (hr.deeper _) hsp
  have I0 := inv_start (CX := L2.CX P w) (E := E) (N := N) S hr.hd e0 hl r x1
  refine wpAny_mono (ht.run [] s1 (start N vs) H _ I0 hq) ?_ fun _ _ z => z
  intro fl s' hs
  cases fl with
  | ret u =>
    obtain ⟨v, σ', H', J, rv, q⟩ := hs
    exact ⟨v, H', J.os, J.bare, J.base, J.hok, rv, q⟩
  | next =>
    obtain ⟨σ', H', J, q⟩ := hs
    exact ⟨.non, H', J.os, J.bare, J.base, J.hok, rfl, q⟩
  | brk => exact hs.elim fun _ h => h.elim fun _ h => False.elim h.2
  | cont => exact hs.elim fun _ h => h.elim fun _ h => False.elim h.2
section
variable {X : Cx} {C : Cf} {k : Nat} {f : Addr} {fd : FuncData} {ps : List Str} {sp : Sp} {dvs : List V} {ds : List Value} {E : XK}
def tCallG (σ : VS) (C : Cf) (sp : Sp) (vs : List V) (H : Hp) (Q : VK) : Prop := ∃ E : XK, (∀ cls d H', E cls d H' → C.W cls d σ H') ∧ sp vs H Q E
theorem runG {pins : List (Addr × Obj)} {σ : VS} {H : Hp} {s : Shared} {Q : VK} {us : List Value} {vs : List V} (g : Gd X C) (F : FnG X.prog X.w X.K X.mg X.base k f fd ps sp) (hr : Room k X.A) (hb : Binds X.K fd ps ds) (hd : Vals dvs ds)
    (I : Inv X pins σ H s) (r : Vals vs us) (h : tCallG σ C sp (vs ++ dvs) H Q) : wpAny (model X.prog X.w) X.A (call (.ref f) us) (EP X pins σ Q) X.xe s := by
  obtain ⟨E, hE, h⟩ := h
  have r2 := r.append hd
  have hl : (us ++ ds).length = ps.length := r2.length ▸ F.len _ _ _ _ h
  refine wpAny_call (codeAny_mono (F.run X.A X.stack s H ⟨us, []⟩ (us ++ ds) _ Q E g.gu hr I.env0 (hb s us I.kIn hl) r2 h) ?_)
  intro res s' hq
  cases res with
  | error e => exact g.tk e s' (XE.of_call I (fun cls d H' q => hE cls d H' q) hq)
  | ok fl =>
    cases fl with
    | ret u => exact I.after hq
    | next => exact False.elim hq
    | brk => exact False.elim hq
    | cont => exact False.elim hq
def tCG (C : Cf) (sp : Sp) (dvs : List V) (t : TA) : TE := fun σ H Q => t σ H fun vs H1 => tCallG σ C sp (vs ++ dvs) H1 Q
variable {x m : Str} {p pos apos : Pos} {e o : Expr} {es : List Expr} {ta : TE} {t : TA} {Cl : Addr}
theorem peG_call (g : Gd X C) (F : FnG X.prog X.w X.K X.mg X.base k f fd ps sp) (hr : Room k X.A) (hm : X.mg x = some (.ref f)) (hk : PySem.W.keepIn X.K (.ref f) = true) (hb : Binds X.K fd ps ds) (hd : Vals dvs ds) (ha : PA X (e :: es) t)
    (hg : Gl X x := by rfl) (hdb : (x == ("__debug__" : Str)) = false := by decide) (he : starEach (e :: es) X.env = (false, eval e X.env) :: starEach es X.env := by rfl) (hpl : (backTo pos (starEach es X.env)).any (·.1) = false := by rfl) :
    PE X (.Call (.Name x p) (e :: es) [] pos) (tCG C sp dvs t) := by
  constructor
  intro pins s σ H Q I h
  refine wpAny_Call_Name_kw (ld_glob I hg hm ?_ hdb)
  have args := ha.run pos pins s σ H _ I h
  exact PySem.W.callWith_K (h₀ := X.base) I.ok.mod.kin hk (thn args fun us s1 ⟨vs, H1, I1, r, q⟩ => ⟨I1.kIn, runG g F hr hb hd I1 r q⟩) he hpl
theorem peG_call0 (g : Gd X C) (F : FnG X.prog X.w X.K X.mg X.base k f fd ps sp) (hr : Room k X.A) (hm : X.mg x = some (.ref f)) (hk : PySem.W.keepIn X.K (.ref f) = true) (hb : Binds X.K fd ps ds) (hd : Vals dvs ds)
    (hg : Gl X x := by rfl) (hdb : (x == ("__debug__" : Str)) = false := by decide) : PE X (.Call (.Name x p) [] [] pos) (tCG C sp dvs tNil) := by
  constructor
  intro pins s σ H Q I h
  exact wpAny_Call_Name_kw (ld_glob I hg hm (PySem.W.callWith_K0 I.kIn hk (runG (us := []) g F hr hb hd I .nil h)) hdb)
def tMG (C : Cf) (Cl : Addr) (m : Str) (sp : Sp) (dvs : List V) (ta : TE) (t : TA) : TE := fun σ H Q => ta σ H fun x H1 => ∃ a dx fs, x = .ref a ∧ H1 a = some (.ins Cl dx fs) ∧ fs.lookup m = none ∧ t σ H1 fun vs H2 => tCallG σ C sp (x :: (vs ++ dvs)) H2 Q
theorem peG_meth {pl : Sem Bool} (g : Gd X C) (ho : PE X o ta) (c : Cls X.K Cl) (hm : Meth X.K Cl m f) (F : FnG X.prog X.w X.K X.mg X.base k f fd ps sp) (hr : Room k X.A) (hb : Binds X.K fd ps ds) (hd : Vals dvs ds) (ha : PA X (e :: es) t)
    (hst : starEach (e :: es) X.env = (false, eval e X.env) :: starEach es X.env := by rfl) (hpl : (backTo pos (starEach es X.env)).any (·.1) = false := by rfl)
    (ht : eval (.Call (.Attribute o m apos) (e :: es) [] pos) X.env = (do
      let ov ← eval o X.env
      standAt apos.atName
      let (f, first) ← holding [ov] (getMethod ov m pl)
      callWith pos f first (backTo pos (starEach (e :: es) X.env)) (backToKw pos (keywordEach [] X.env))) := by rfl) : PE X (.Call (.Attribute o m apos) (e :: es) [] pos) (tMG C Cl m sp dvs ta t) := by
  constructor
  intro pins s σ H Q I h
  have recv := ho.run pins s σ H _ I h
  refine PySem.W.methodCall_KW (pl := pl) (thn recv ?_) ht
  intro u s1 ⟨x, H1, I1, rx, a, dx, fs, ex, ea, l, q⟩
  subst ex
  cases rx
  refine getmeth_ok I1 ea c hm l ?_
  refine PySem.W.callWith_K (first := [.ref a]) (h₀ := X.base) I.ok.mod.kin hm.kp (thn (ha.run pos pins s1 σ H1 _ I1 q) ?_) hst hpl
  intro us s2 ⟨vs, H2, I2, r, q2⟩
  exact ⟨I2.kIn, runG (us := .ref a :: us) (vs := .ref a :: vs) g F hr hb hd I2 (.cons rfl r) q2⟩
theorem peG_meth0 {pl : Sem Bool} (g : Gd X C) (ho : PE X o ta) (c : Cls X.K Cl) (hm : Meth X.K Cl m f) (F : FnG X.prog X.w X.K X.mg X.base k f fd ps sp) (hr : Room k X.A) (hb : Binds X.K fd ps ds) (hd : Vals dvs ds)
    (ht : eval (.Call (.Attribute o m apos) [] [] pos) X.env = (do
      let ov ← eval o X.env
      standAt apos.atName
      let (f, first) ← holding [ov] (getMethod ov m pl)
      callWith pos f first (backTo pos (starEach [] X.env)) (backToKw pos (keywordEach [] X.env))) := by rfl) : PE X (.Call (.Attribute o m apos) [] [] pos) (tMG C Cl m sp dvs ta tNil) := by
  constructor
  intro pins s σ H Q I h
  refine PySem.W.methodCall_KW (pl := pl) (thn (ho.run pins s σ H _ I h) ?_) ht
  intro u s1 ⟨x, H1, I1, rx, a, dx, fs, ex, ea, l, q⟩
  subst ex
  cases rx
  exact getmeth_ok I1 ea c hm l (PySem.W.callWith_K0 (first := [.ref a]) I1.kIn hm.kp (runG (us := [.ref a]) (vs := [.ref a]) g F hr hb hd I1 (.cons rfl .nil) q))
def tNG (C : Cf) (Cl : Addr) (sp : Sp) (dvs : List V) (t : TA) : TE := fun σ H Q => t σ H fun vs H1 => ∀ x dx, H1 x = none → H1 dx = none → dx ≠ x →
  tCallG σ C sp (.ref x :: (vs ++ dvs)) (upd (upd H1 dx (.own x)) x (.ins Cl dx [])) fun v H2 => v = .non ∧ Q (.ref x) H2
theorem guards_make {A : Around} {a : Addr} {us : List Value} {kw : List (Str × Value)} (h : A.guards = some []) : (A.under (.builtin "type.__call__" ⟨.ref a :: us, kw⟩)).guards = some [] := by
  have e : (Code.builtin "type.__call__" ⟨.ref a :: us, kw⟩).guards = [] := by
    simp [Code.guards, Code.isGuard, guardIds]
  show pushGuards (Code.builtin "type.__call__" ⟨.ref a :: us, kw⟩).guards A.guards = some []
  rw [e]
  exact h
theorem runNG {pins : List (Addr × Obj)} {σ : VS} {H : Hp} {s : Shared} {Q : VK} {us : List Value} {vs : List V} (g : Gd X C) (M : Mk X.K Cl f) (F : FnG X.prog X.w X.K X.mg X.base k f fd ps sp) (hr : Room (k + 1) X.A) (hb : Binds X.K fd ps ds) (hd : Vals dvs ds)
    (I : Inv X pins σ H s) (r : Vals vs us) (h : ∀ x dx, H x = none → H dx = none → dx ≠ x → tCallG σ C sp (.ref x :: (vs ++ dvs)) (upd (upd H dx (.own x)) x (.ins Cl dx [])) fun v H2 => v = .non ∧ Q (.ref x) H2) :
    wpAny (model X.prog X.w) X.A (call (.ref Cl) us) (EP X pins σ Q) X.xe s := by
  have fresh : ∀ n, s.heap.objs.size ≤ n → H n = none := fun n hn => I.hok.fresh hn
  obtain ⟨E, hE, hq⟩ := h (s.heap.objs.size + 1) s.heap.objs.size (fresh _ (Nat.le_succ _)) (fresh _ (Nat.le_refl _)) (Nat.ne_of_lt (Nat.lt_succ_self _))
  have I2 := Inv.made (C := Cl) I
  have r2 : Vals (V.ref (s.heap.objs.size + 1) :: (vs ++ dvs)) (Value.ref (s.heap.objs.size + 1) :: (us ++ ds)) := .cons rfl (r.append hd)
  have hl : (Value.ref (s.heap.objs.size + 1) :: us ++ ds).length = ps.length := (r2.length ▸ F.len _ _ _ _ hq :)
  have run := F.run _ X.stack _ _ ⟨Value.ref (s.heap.objs.size + 1) :: us, []⟩ (Value.ref (s.heap.objs.size + 1) :: (us ++ ds)) _ _ E (guards_make g.gu) (hr.make Cl us []) (I2.env0.make Cl us []) (hb _ (Value.ref (s.heap.objs.size + 1) :: us) I2.kIn hl) r2 hq
  refine wpAny_call (make_map (f := f) I.kIn M.makes M.init (beq_iff_eq.mp M.fn) (codeAny_mono run ?_))
  intro res s' hq'
  cases res with
  | error e => exact g.tk e s' (XE.of_call I2 (fun cls d H' q => hE cls d H' q) hq')
  | ok fl =>
    cases fl with
    | ret u =>
      obtain ⟨v, H', I3, rv, ev, q3⟩ := I2.after hq'
      subst ev
      exact ⟨rv, ⟨V.ref (s.heap.objs.size + 1), H', I3, rfl, q3⟩⟩
    | next => exact False.elim hq'
    | brk => exact False.elim hq'
    | cont => exact False.elim hq'
theorem peG_make (g : Gd X C) (M : Mk X.K Cl f) (F : FnG X.prog X.w X.K X.mg X.base k f fd ps sp) (hr : Room (k + 1) X.A) (hm : X.mg x = some (.ref Cl)) (hb : Binds X.K fd ps ds) (hd : Vals dvs ds) (ha : PA X (e :: es) t)
    (hg : Gl X x := by rfl) (hdb : (x == ("__debug__" : Str)) = false := by decide) (he : starEach (e :: es) X.env = (false, eval e X.env) :: starEach es X.env := by rfl) (hpl : (backTo pos (starEach es X.env)).any (·.1) = false := by rfl) :
    PE X (.Call (.Name x p) (e :: es) [] pos) (tNG C Cl sp dvs t) := by
  constructor
  intro pins s σ H Q I h
  refine wpAny_Call_Name_kw (ld_glob I hg hm ?_ hdb)
  refine PySem.W.callWith_K (h₀ := X.base) I.ok.mod.kin M.kp (thn (ha.run pos pins s σ H _ I h) ?_) he hpl
  intro us s1 ⟨vs, H1, I1, r, q⟩
  exact ⟨I1.kIn, runNG g M F hr hb hd I1 r q⟩
end
end Mi
namespace Mi
open PySem PySem.Spec PyProof.Rows L2
section
variable {B : Tb} {O : List Addr} {H : Hp} {σ : VS}
theorem Sl.take1 {Γ : G} {e : Env} {S : List Addr} (h : Sl B O H Γ e σ S) : ∀ {i : Nat} {m : Md}, Γ[i]? = some (some m) →
    ∃ d v U S', gt e i = some d ∧ σ[i]? = some (some v) ∧ Ow B O H m d v U ∧ S.Perm (U ++ S') ∧ Sl B O H (Γ.set i none) e σ S' := by
  induction h with
  | nil => intro i m h; simp at h
  | no h ih =>
    intro i m hi
    cases i with
    | zero => simp at hi
    | succ i =>
      obtain ⟨d, v, U, S', h1, h2, h3, h4, h5⟩ := ih (by simpa using hi)
      exact ⟨d, v, U, S', h1, by simpa using h2, h3, h4, .no h5⟩
  | @hv m' d v Γ e σ S T h1 h2 ih =>
    intro i m hi
    cases i with
    | zero =>
      have : m' = m := by simpa using hi
      subst this
      exact ⟨d, v, S, T, rfl, rfl, h1, List.Perm.refl _, .no h2⟩
    | succ i =>
      obtain ⟨d', v', U, S', h3, h4, h5, h6, h7⟩ := ih (by simpa using hi)
      refine ⟨d', v', U, S ++ S', h3, by simpa using h4, h5, ?_, .hv h1 h7⟩
      refine (h6.append_left S).trans ?_
      rw [← List.append_assoc, ← List.append_assoc]
      exact List.perm_append_comm.append_right S'
theorem Sl.put1 {Γ : G} {e : Env} {S : List Addr} {m : Md} {d : D} {v : V} {U : List Addr} (h : Sl B O H Γ e σ S) (ow : Ow B O H m d v U) : ∀ {i : Nat}, Γ[i]? = some none → σ[i]? = some (some v) →
    ∃ S', S'.Perm (U ++ S) ∧ Sl B O H (Γ.set i (some m)) (st e i (some d)) σ S' := by
  induction h with
  | nil => intro i h; simp at h
  | @no Γ e σ S x y h ih =>
    intro i hi hs
    cases i with
    | zero =>
      have : y = some v := by simpa using hs
      subst this
      exact ⟨U ++ S, List.Perm.refl _, .hv ow h⟩
    | succ i =>
      obtain ⟨S', h1, h2⟩ := ih (by simpa using hi) (by simpa using hs)
      exact ⟨S', h1, .no h2⟩
  | @hv m' d' v' Γ e σ S T h1 h2 ih =>
    intro i hi hs
    cases i with
    | zero => simp at hi
    | succ i =>
      obtain ⟨S', h3, h4⟩ := ih (by simpa using hi) (by simpa using hs)
      refine ⟨S ++ S', ?_, .hv h1 h4⟩
      refine (h3.append_left S).trans ?_
      rw [← List.append_assoc, ← List.append_assoc]
      exact List.perm_append_comm.append_right T
end
def okArgs (Γ : G) : List AK → List Bool → List Md → Bool
  | [], [], [] => true
  | .kd (.own m) :: ks, false :: rf, m' :: pm => decide (m = m') && (decide (m = .v) || decide (m = .s)) && okArgs Γ ks rf pm
  | .ref i :: ks, true :: rf, m :: pm => decide (Γ[i]? = some (some m)) && okArgs (Γ.set i none) ks rf pm
  | _, _, _ => false
def lendG (Γ : G) : List AK → G
  | [] => Γ
  | .kd _ :: ks => lendG Γ ks
  | .ref i :: ks => lendG (Γ.set i none) ks
def envO : List Bool → List D → Env
  | true :: r, o :: os => some o :: envO r os
  | true :: r, [] => none :: envO r []
  | false :: r, os => none :: envO r os
  | [], _ => []
def GMp : List Bool → List Md → G
  | true :: r, m :: ms => some m :: GMp r ms
  | false :: r, _ :: ms => none :: GMp r ms
  | _, _ => []
section
variable {B : Tb} {O O' S0 : List Addr} {H H' : Hp} {σ : VS}
theorem lend {ks : List AK} {as : List Ar} {vs : List V} {T : List Addr} (h : ArR B O S0 H σ ks as vs T) : ∀ {Γ : G} {e : Env} {S : List Addr} {rf : List Bool} {pm : List Md}, Sl B O H Γ e σ S → okArgs Γ ks rf pm = true →
    ∃ ds U S', arD as e = some ds ∧ S.Perm (U ++ S') ∧ Sl B O H (pm.map some) (ds.map some) (vs.map some) U ∧ Sl B O H (lendG Γ ks) e σ S' := by
  induction h with
  | nil =>
    intro Γ e S rf pm hs hk
    cases rf with
    | cons _ _ => simp [okArgs] at hk
    | nil =>
      cases pm with
      | cons _ _ => simp [okArgs] at hk
      | nil => exact ⟨[], [], S, rfl, List.Perm.refl _, .nil, hs⟩
  | @kd k ks d as v vs T U h1 _ ih =>
    intro Γ e S rf pm hs hk
    cases k with
    | bor _ => cases rf <;> cases pm <;> simp [okArgs] at hk
    | own m =>
      cases rf with
      | nil => simp [okArgs] at hk
      | cons r rf =>
        cases pm with
        | nil => cases r <;> simp [okArgs] at hk
        | cons m' pm =>
          cases r with
          | true => simp [okArgs] at hk
          | false =>
            simp only [okArgs, Bool.and_eq_true, Bool.or_eq_true, decide_eq_true_eq] at hk
            obtain ⟨⟨rfl, hm⟩, hk⟩ := hk
            obtain ⟨ds, U', S', e1, e2, e3, e4⟩ := ih hs hk
            have zT : T = [] := by
              rcases hm with rfl | rfl
              · exact Ow.v_nil h1
              · exact Ow.s_nil h1
            subst zT
            exact ⟨d :: ds, U', S', by simp [arD, e1], e2, .hv (S := []) h1 e3, e4⟩
  | @ref i ks as v vs U h1 _ ih =>
    intro Γ e S rf pm hs hk
    cases rf with
    | nil => simp [okArgs] at hk
    | cons r rf =>
      cases pm with
      | nil => cases r <;> simp [okArgs] at hk
      | cons m pm =>
        cases r with
        | false => simp [okArgs] at hk
        | true =>
          simp only [okArgs, Bool.and_eq_true, decide_eq_true_eq] at hk
          obtain ⟨d, v', U1, S1, g1, g2, g3, g4, g5⟩ := hs.take1 hk.1
          rw [h1] at g2
          cases g2
          obtain ⟨ds, U', S', e1, e2, e3, e4⟩ := ih g5 hk.2
          refine ⟨d :: ds, U1 ++ U', S', by simp [arD, g1, e1], ?_, .hv g3 e3, e4⟩
          rw [List.append_assoc]
          exact g4.trans (e2.append_left U1)
theorem lent {ks : List AK} {as : List Ar} {vs : List V} {T : List Addr} (h : ArR B O S0 H σ ks as vs T) : ∀ {Γ : G} {e : Env} {S S' : List Addr} {rf : List Bool} {pm : List Md} {os : List D}, okArgs Γ ks rf pm = true →
    Sl B O' H' (GMp rf pm) (envO rf os) (vs.map some) S' → Sl B O' H' (lendG Γ ks) e σ S → os.length = (rf.filter id).length → ∃ e' Sf, putO as os e = some e' ∧ Sf.Perm (S' ++ S) ∧ Sl B O' H' Γ e' σ Sf := by
  induction h with
  | nil =>
    intro Γ e S S' rf pm os hk h1 h2 hl
    cases rf with
    | cons _ _ => simp [okArgs] at hk
    | nil =>
      cases os with
      | cons _ _ => simp at hl
      | nil =>
        cases h1
        exact ⟨e, S, rfl, List.Perm.refl _, h2⟩
  | @kd k ks d as v vs T U _ _ ih =>
    intro Γ e S S' rf pm os hk h1 h2 hl
    cases k with
    | bor _ => cases rf <;> cases pm <;> simp [okArgs] at hk
    | own m =>
      cases rf with
      | nil => simp [okArgs] at hk
      | cons r rf =>
        cases pm with
        | nil => cases r <;> simp [okArgs] at hk
        | cons m' pm =>
          cases r with
          | true => simp [okArgs] at hk
          | false =>
            simp only [okArgs, Bool.and_eq_true, Bool.or_eq_true, decide_eq_true_eq] at hk
            cases h1 with
            | no h1 => exact ih hk.2 h1 h2 (by simpa using hl)
  | @ref i ks as v vs U g1 _ ih =>
    intro Γ e S S' rf pm os hk h1 h2 hl
    cases rf with
    | nil => simp [okArgs] at hk
    | cons r rf =>
      cases pm with
      | nil => cases r <;> simp [okArgs] at hk
      | cons m pm =>
        cases r with
        | false => simp [okArgs] at hk
        | true =>
          simp only [okArgs, Bool.and_eq_true, decide_eq_true_eq] at hk
          cases os with
          | nil => simp at hl
          | cons o os =>
            cases h1 with
            | @hv _ _ _ _ _ _ S1 T1 ow h1 =>
              obtain ⟨e', Sf, e1, e2, e3⟩ := ih hk.2 h1 h2 (by simpa using hl)
              have hi : i < Γ.length := (List.getElem?_eq_some_iff.mp hk.1).1
              obtain ⟨Sg, f1, f2⟩ := e3.put1 ow (i := i) (by simp [hi]) g1
              refine ⟨st e' i (some o), Sg, by simp [putO, e1], ?_, ?_⟩
              · rw [List.append_assoc]
                exact f1.trans (e2.append_left S1)
              · have z : (Γ.set i none).set i (some m) = Γ := by
                  rw [List.set_set]
                  obtain ⟨hi', e⟩ := List.getElem?_eq_some_iff.mp hk.1
                  rw [← e]
                  exact List.set_getElem_self hi'
                rw [z] at f2
                exact f2
end
def spF (B : Tb) (fs : List D → FR) (rf : List Bool) (pm : List Md) (rm : Md) : Sp := fun vs H Q E => vs.length = rf.length ∧ ∃ ds S R, (S ++ R).Nodup ∧ Live R H ∧ Sl B (S ++ R) H (pm.map some) (ds.map some) (vs.map some) S ∧
  match fs ds with
  | .ok r os => ∀ v H' S' T, os.length = (rf.filter id).length → Post S H H' → New S H (S' ++ T) → (S' ++ (T ++ R)).Nodup → Live (T ++ R) H' → Sl B (S' ++ (T ++ R)) H' (GMp rf pm) (envO rf os) (vs.map some) S' → Ow B (S' ++ (T ++ R)) H' rm r v T → Q v H'
  | .err c es os => ∀ cls dx H' S', os.length = (rf.filter id).length → Post S H H' → New S H S' → (S' ++ R).Nodup → Live R H' → Sl B (S' ++ R) H' (GMp rf pm) (envO rf os) (vs.map some) S' → ExR B (S' ++ R) H' c es cls dx → E cls dx H'
  | .bad => False
section
variable {X : Cx} {C : Cf} {p : Bool} {Γ Γ1 : G} {ms : Exs} {ks : List AK} {n : Nat} {fs : List D → FR} {rf : List Bool} {pm : List Md} {rm : Md}
theorem c_call0 {σ : VS} {H H1 : Hp} {S R S1 Z T : List Addr} {e1 : Env} {as : List Ar} {vs : List V} {Q : VK} (a : At C σ H S R p Γ e1 H1 S1 Z) (ar : ArR C.B (S1 ++ Z) S1 H1 σ ks as vs T) (hk : okArgs Γ ks rf pm = true) (hlen : vs.length = rf.length)
    (hx : leG Γ C.GX = true) (o : ∀ ds, arD as e1 = some ds → Out C σ H S R (OkE C σ H S R false (.own rm) Γ Q) (callR (fs ds) as e1)) : tCallG σ C (spF C.B fs rf pm rm) vs H1 Q := by
  obtain ⟨ds, U, S', h1, h2, h3, h4⟩ := lend ar a.sta.sl hk
  have o := o ds h1
  have ndU : (U ++ (S' ++ Z)).Nodup := by
    rw [← List.append_assoc]
    exact (h2.append_right Z).nodup_iff.mp a.sta.nd
  have mem : ∀ x, x ∈ U ++ (S' ++ Z) ↔ x ∈ S1 ++ Z := fun x => by
    rw [← List.append_assoc]
    exact ((h2.append_right Z).mem_iff).symm
  have fr : Fr (S1 ++ Z) (U ++ (S' ++ Z)) H1 H1 := Fr.sub fun x hx => (mem x).mp hx
  have lS : Live S' H1 := h4.live
  have rest : ∀ {H2 : Hp} {S2 T2 : List Addr}, Post U H1 H2 → New U H1 (S2 ++ T2) → (S2 ++ (T2 ++ (S' ++ Z))).Nodup → Live (T2 ++ (S' ++ Z)) H2 → Sl C.B (S2 ++ (T2 ++ (S' ++ Z))) H2 (lendG Γ ks) e1 σ S' := by
    intro H2 S2 T2 po nw nd lv
    refine h4.fr ⟨fun x ob hn he => po x ob (fun z => hn ((mem x).mp (memL z))) he, fun x ob hn he hz => ?_⟩ fun x hx ob he => po x ob (fun z => ?_) he
    · simp only [List.mem_append] at hz
      rcases hz with z | z | z | z
      · rcases nw x (memL z) with w | w
        · exact hn ((mem x).mp (memL w))
        · rw [he] at w; cases w
      · rcases nw x (memR z) with w | w
        · exact hn ((mem x).mp (memL w))
        · rw [he] at w; cases w
      · exact hn ((mem x).mp (memR (memL z)))
      · exact hn (memR z)
    · exact disj ndU z (memL hx)
  have back : ∀ {H2 : Hp} {S2 T2 Sf : List Addr} {e' : Env}, Post U H1 H2 → New U H1 (S2 ++ T2) → (S2 ++ (T2 ++ (S' ++ Z))).Nodup → Live (T2 ++ (S' ++ Z)) H2 → Sf.Perm (S2 ++ S') → Sl C.B (S2 ++ (T2 ++ (S' ++ Z))) H2 Γ e' σ Sf →
      Post S H H2 ∧ New S H (Sf ++ T2) ∧ Sta C.B C.M (T2 ++ R) Γ e' σ H2 Sf ∧ ∀ x, x ∈ Sf ++ (T2 ++ R) → x ∈ S2 ++ (T2 ++ (S' ++ Z)) := by
    intro H2 S2 T2 Sf e' po nw nd lv pm' sl
    have sub : ∀ x, x ∈ Sf ++ (T2 ++ R) → x ∈ S2 ++ (T2 ++ (S' ++ Z)) := by
      intro x hx
      simp only [List.mem_append] at hx ⊢
      rcases hx with z | z | z
      · rcases List.mem_append.mp (pm'.mem_iff.mp z) with w | w
        · exact .inl w
        · exact .inr (.inr (.inl w))
      · exact .inr (.inl z)
      · exact .inr (.inr (.inr (a.rz x z)))
    have uS : ∀ x ∈ U, x ∈ S1 := fun x hx => h2.mem_iff.mpr (memL hx)
    have s'S : ∀ x ∈ S', x ∈ S1 := fun x hx => h2.mem_iff.mpr (memR hx)
    have po1 : Post S1 H1 H2 := po.mono uS
    have nw1 : New S1 H1 (Sf ++ T2) := fun x hx => by
      rcases List.mem_append.mp hx with z | z
      · rcases List.mem_append.mp (pm'.mem_iff.mp z) with w | w
        · exact (nw x (memL w)).imp (uS x) id
        · exact .inl (s'S x w)
      · exact (nw x (memR z)).imp (uS x) id
    have ndS2 := List.nodup_append.mp nd
    have ndT := List.nodup_append.mp ndS2.2.1
    have ndSZ := List.nodup_append.mp ndT.2.1
    have nSf : Sf.Nodup := pm'.nodup_iff.mpr (List.nodup_append.mpr ⟨ndS2.1, ndSZ.1, fun x hx y hy z => ndS2.2.2 x hx y (memR (memL hy)) z⟩)
    have nd2 : (Sf ++ (T2 ++ R)).Nodup := by
      refine List.nodup_append.mpr ⟨nSf, List.nodup_append.mpr ⟨ndT.1, a.ndR, fun x hx y hy z => ndT.2.2 x hx y (memR (a.rz y hy)) z⟩, fun x hx y hy z => ?_⟩
      subst z
      have hy' : x ∈ T2 ∨ x ∈ Z := (List.mem_append.mp hy).imp id (a.rz x)
      rcases List.mem_append.mp (pm'.mem_iff.mp hx) with w | w
      · rcases hy' with q | q
        · exact ndS2.2.2 x w x (memL q) rfl
        · exact ndS2.2.2 x w x (memR (memR q)) rfl
      · rcases hy' with q | q
        · exact ndT.2.2 x q x (memL w) rfl
        · exact ndSZ.2.2 x w x q rfl
    refine ⟨a.po.ite.trans a.n po1, a.n.trans a.po.ite nw1, ⟨nd2, ?_, sl.fr (Fr.sub sub) fun _ _ _ z => z, a.sta.mp⟩, sub⟩
    intro x hx
    rcases List.mem_append.mp hx with z | z
    · exact lv x (memL z)
    · exact lv x (memR (memR (a.rz x z)))
  refine ⟨fun cls dx H' => C.W cls dx σ H', fun _ _ _ h => h, hlen, ds, U, S' ++ Z, ndU, lS.app a.sta.live, h3.fr fr fun _ _ _ z => z, ?_⟩
  cases hf : fs ds with
  | bad => rw [hf] at o; exact o.elim
  | ok r os =>
    rw [hf] at o
    intro v H2 S2 T2 hl po nw nd lv sl ow
    obtain ⟨e', Sf, g1, g2, g3⟩ := lent ar hk sl (rest po nw nd lv) hl
    have o : Out C σ H S R (OkE C σ H S R false (.own rm) Γ Q) (callR (.ok r os) as e1) := o
    unfold callR at o
    dsimp only at o
    rw [g1] at o
    obtain ⟨b1, b2, b3, b4⟩ := back po nw nd lv g2 g3
    exact (show OkE C σ H S R false (.own rm) Γ Q r e' from o) v H2 Sf T2 b1 (fun z => nomatch z) b2 b3 (Ow.fr (Fr.sub b4) ow fun _ _ _ z => z)
  | err c es os =>
    rw [hf] at o
    intro cls dx H2 S2 hl po nw nd lv sl ex
    obtain ⟨e', Sf, g1, g2, g3⟩ := lent ar hk sl (rest (T2 := []) po (by simpa using nw) (by simpa using nd) (by simpa using lv)) hl
    have o : Out C σ H S R (OkE C σ H S R false (.own rm) Γ Q) (callR (.err c es os) as e1) := o
    unfold callR at o
    dsimp only at o
    rw [g1] at o
    obtain ⟨b1, b2, b3, b4⟩ := back (T2 := []) po (by simpa using nw) (by simpa using nd) (by simpa using lv) g2 g3
    obtain ⟨S3, c1, c2⟩ := b3.le hx
    refine (show ErrQ C σ H S R c es e' from o) cls dx H2 S3 b1 (fun x hx => b2.left x (c1 x hx)) c2 (ex.fr (Fr.sub fun x hx => ?_))
    have := b4 x ((List.mem_append.mp hx).elim (fun z => memL (c1 x z)) memR)
    simpa using this
theorem ArR.len {B : Tb} {O S : List Addr} {H : Hp} {σ : VS} {as : List Ar} {vs : List V} {T : List Addr} (h : ArR B O S H σ ks as vs T) : vs.length = ks.length := by
  induction h with
  | nil => rfl
  | kd _ _ ih => simp [ih]
  | ref _ _ ih => simp [ih]
theorem okArgs.len : ∀ {ks : List AK} {Γ : G} {rf : List Bool} {pm : List Md}, okArgs Γ ks rf pm = true → ks.length = rf.length := by
  intro ks
  induction ks with
  | nil => intro Γ rf pm h; cases rf <;> cases pm <;> first | rfl | simp [okArgs] at h
  | cons k ks ih =>
    intro Γ rf pm h
    cases k with
    | kd k =>
      cases k with
      | bor _ => cases rf <;> cases pm <;> simp [okArgs] at h
      | own m =>
        cases rf with
        | nil => simp [okArgs] at h
        | cons r rf => cases pm <;> cases r <;> simp [okArgs] at h; simp [ih h.2]
    | ref i =>
      cases rf with
      | nil => simp [okArgs] at h
      | cons r rf => cases pm <;> cases r <;> simp [okArgs] at h; simp [ih h.2]
variable {x m : Str} {pp pos apos : Pos} {e o : Expr} {es : List Expr} {k : Nat} {f : Addr} {fd : FuncData} {ps : List Str}
theorem w_call (g : Gd X C) (F : FnG X.prog X.w X.K X.mg X.base k f fd ps (spF C.B fs rf pm rm)) (hF : ∀ ds, C.F n ds = fs ds) (hr : Room k X.A) (hm : X.mg x = some (.ref f)) (hk : PySem.W.keepIn X.K (.ref f) = true) (hb : Binds X.K fd ps []) (ha : SA X C p Γ (e :: es) ms ks Γ1)
    (ok : okArgs Γ1 ks rf pm = true := by rfl) (hx : leG Γ1 C.GX = true := by rfl) (hg : Gl X x := by rfl) (hdb : (x == ("__debug__" : Str)) = false := by decide) (he : starEach (e :: es) X.env = (false, eval e X.env) :: starEach es X.env := by rfl) (hpl : (backTo pos (starEach es X.env)).any (·.1) = false := by rfl) :
    SE X C false Γ (.Call (.Name x pp) (e :: es) [] pos) (.call n ms) (.own rm) Γ1 :=
  PE.imp (peG_call g F hr hm hk hb .nil ha hg hdb he hpl) fun σ H Q h => by
    obtain ⟨e, S, R, s, o⟩ := h
    have o : Out C σ H S R (OkE C σ H S R false (.own rm) Γ1 Q) ((evEs C.F ms e).bind fun as e1 => match arD as e1 with
      | some ds => callR (C.F n ds) as e1
      | none => .bad) := o
    refine (At.start s).evA o fun as e2 vs H2 S2 T2 a2 v2 _ nw o2 => ?_
    rw [List.append_nil]
    refine c_call0 a2 v2 ok (v2.len.trans (okArgs.len ok)) hx fun ds hd => ?_
    rw [hd] at o2
    rw [← hF]
    exact o2
theorem w_call0 (g : Gd X C) (F : FnG X.prog X.w X.K X.mg X.base k f fd ps (spF C.B fs [] [] rm)) (hF : ∀ ds, C.F n ds = fs ds) (hr : Room k X.A) (hm : X.mg x = some (.ref f)) (hk : PySem.W.keepIn X.K (.ref f) = true) (hb : Binds X.K fd ps [])
    (hx : leG Γ C.GX = true := by rfl) (hg : Gl X x := by rfl) (hdb : (x == ("__debug__" : Str)) = false := by decide) : SE X C false Γ (.Call (.Name x pp) [] [] pos) (.call n .nil) (.own rm) Γ :=
  PE.imp (peG_call0 g F hr hm hk hb .nil hg hdb) fun σ H Q h => by
    obtain ⟨e, S, R, s, o⟩ := h
    have o : Out C σ H S R (OkE C σ H S R false (.own rm) Γ Q) (callR (C.F n []) [] e) := o
    refine c_call0 (ks := []) (as := []) (vs := []) (At.start s) .nil rfl rfl hx fun ds hd => ?_
    cases hd
    rw [← hF]
    exact o
theorem OwF.lookup {B : Tb} {O : List Addr} {H : Hp} {x : Str} (hx : ∀ n, B.fn n ≠ x) : ∀ {fs : List (Nat × D)} {gs : List (Str × V)} {md : Nat → Md} {S : List Addr}, OwF B O H md fs gs S → gs.lookup x = none := by
  intro fs
  induction fs with
  | nil => intro gs md S h; cases h; rfl
  | cons f fs ih =>
    intro gs md S h
    cases h with
    | @cons _ d _ v vs _ _ n h1 h2 =>
      have e : (x == B.fn n) = false := beq_eq_false_iff_ne.mpr fun z => hx n z.symm
      simp only [List.lookup, e]
      exact ih h2
theorem Ow.obj_at {B : Tb} {O : List Addr} {H : Hp} {md : Md} {c : Nat} {fs : List (Nat × D)} {v : V} {S : List Addr} (h : Ow B O H md (.obj c fs) v S) : ∃ a dx gs mf U, v = .ref a ∧ H a = some (.ins (B.ca c) dx gs) ∧ OwF B O H mf fs gs U := by
  cases h with
  | objV _ h1 h2 => exact ⟨_, _, _, _, _, rfl, h1, h2⟩
  | obj h1 h2 => exact ⟨_, _, _, _, _, rfl, h1, h2⟩
variable {c : Nat} {a : Ex} {Γ2 : G} {p1 p2 : Bool}
theorem isCls {c : Nat} {d : D} (h : isTy (.cls c) d = true) : ∃ fs, d = .obj c fs := by
  cases d <;> simp [isTy] at h
  subst h
  exact ⟨_, rfl⟩
theorem w_mR {i : Nat} {xo : Str} {pl : Sem Bool} {md : Md} {e1 : Expr} {po : Pos} (g : Gd X C) (cl : Cls X.K (C.B.ca c)) (hm : Meth X.K (C.B.ca c) m f) (F : FnG X.prog X.w X.K X.mg X.base k f fd ps (spF C.B fs rf pm rm)) (hF : ∀ ds, C.F n ds = fs ds) (hr : Room k X.A) (hb : Binds X.K fd ps [])
    (hfn : ∀ n, C.B.fn n ≠ m) (ha : SA X C p Γ (e1 :: es) ms ks Γ1) (ok : okArgs Γ1 (.ref i :: ks) rf pm = true := by rfl) (hx : leG Γ1 C.GX = true := by rfl) (hN : X.N[i]? = some xo := by rfl) (hmi : Γ[i]? = some (some md) := by rfl)
    (hv : Vis X.env.scope xo := by first | exact Or.inl rfl | exact Or.inr (Or.inl rfl) | exact Or.inr (Or.inr rfl)) (hd : (xo == ("__debug__" : Str)) = false := by decide) (hcd : (xo == ("__classdict__" : Str)) = false := by decide)
    (hst : starEach (e1 :: es) X.env = (false, eval e1 X.env) :: starEach es X.env := by rfl) (hpl : (backTo pos (starEach es X.env)).any (·.1) = false := by rfl)
    (ht : eval (.Call (.Attribute (.Name xo po) m apos) (e1 :: es) [] pos) X.env = (do
      let ov ← eval (.Name xo po) X.env
      standAt apos.atName
      let (f, first) ← holding [ov] (getMethod ov m pl)
      callWith pos f first (backTo pos (starEach (e1 :: es) X.env)) (backToKw pos (keywordEach [] X.env))) := by rfl) :
    SE X C false Γ (.Call (.Attribute (.Name xo po) m apos) (e1 :: es) [] pos) (.mR c n i ms) (.own rm) Γ1 :=
  PE.imp (peG_meth (pl := pl) g (pe_var hN hv hd hcd) cl hm F hr hb .nil ha hst hpl ht) fun σ H Q h => by
    obtain ⟨e, S, R, s, o⟩ := h
    obtain ⟨d, v, U, h1, h2, h3, h4⟩ := s.sl.get hmi
    have o : Out C σ H S R (OkE C σ H S R false (.own rm) Γ1 Q) (match gt e i with
      | some d => if isTy (.cls c) d then (evEs C.F ms e).bind fun as e2 => (match arD (.s i :: as) e2 with
        | some ds => callR (C.F n ds) (.s i :: as) e2
        | none => .bad) else .bad
      | none => .bad) := o
    rw [h1] at o
    dsimp only at o
    split at o
    · rename_i hc
      obtain ⟨fs', rfl⟩ := isCls hc
      obtain ⟨b, dx, gs, mf, U', rfl, h5, h6⟩ := h4.obj_at
      refine ⟨.ref b, h2, b, dx, gs, rfl, h5, h6.lookup hfn, ?_⟩
      refine (At.start s).evA o fun as e2 vs H2 S2 T2 a2 v2 _ nw o2 => ?_
      rw [List.append_nil]
      have ar : ArR C.B (S2 ++ (T2 ++ R)) S2 H2 σ (.ref i :: ks) (.s i :: as) (.ref b :: vs) T2 := .ref h2 v2
      refine c_call0 a2 ar ok (ar.len.trans (okArgs.len ok)) hx fun ds hd => ?_
      rw [hd] at o2
      rw [← hF]
      exact o2
    · exact o.elim
theorem w_mR0 {i : Nat} {xo : Str} {pl : Sem Bool} {md : Md} {po : Pos} (g : Gd X C) (cl : Cls X.K (C.B.ca c)) (hm : Meth X.K (C.B.ca c) m f) (F : FnG X.prog X.w X.K X.mg X.base k f fd ps (spF C.B fs rf pm rm)) (hF : ∀ ds, C.F n ds = fs ds) (hr : Room k X.A) (hb : Binds X.K fd ps [])
    (hfn : ∀ n, C.B.fn n ≠ m) (ok : okArgs Γ [.ref i] rf pm = true := by rfl) (hx : leG Γ C.GX = true := by rfl) (hN : X.N[i]? = some xo := by rfl) (hmi : Γ[i]? = some (some md) := by rfl)
    (hv : Vis X.env.scope xo := by first | exact Or.inl rfl | exact Or.inr (Or.inl rfl) | exact Or.inr (Or.inr rfl)) (hd : (xo == ("__debug__" : Str)) = false := by decide) (hcd : (xo == ("__classdict__" : Str)) = false := by decide)
    (ht : eval (.Call (.Attribute (.Name xo po) m apos) [] [] pos) X.env = (do
      let ov ← eval (.Name xo po) X.env
      standAt apos.atName
      let (f, first) ← holding [ov] (getMethod ov m pl)
      callWith pos f first (backTo pos (starEach [] X.env)) (backToKw pos (keywordEach [] X.env))) := by rfl) :
    SE X C false Γ (.Call (.Attribute (.Name xo po) m apos) [] [] pos) (.mR c n i .nil) (.own rm) Γ :=
  PE.imp (peG_meth0 (pl := pl) g (pe_var hN hv hd hcd) cl hm F hr hb .nil ht) fun σ H Q h => by
    obtain ⟨e, S, R, s, o⟩ := h
    obtain ⟨d, v, U, h1, h2, h3, h4⟩ := s.sl.get hmi
    have o : Out C σ H S R (OkE C σ H S R false (.own rm) Γ Q) (match gt e i with
      | some d => if isTy (.cls c) d then (match arD [.s i] e with
        | some ds => callR (C.F n ds) [.s i] e
        | none => .bad) else .bad
      | none => .bad) := o
    rw [h1] at o
    dsimp only at o
    split at o
    · rename_i hc
      obtain ⟨fs', rfl⟩ := isCls hc
      obtain ⟨b, dx, gs, mf, U', rfl, h5, h6⟩ := h4.obj_at
      refine ⟨.ref b, h2, b, dx, gs, rfl, h5, h6.lookup hfn, ?_⟩
      have ar : ArR C.B (S ++ R) S H σ [.ref i] [.s i] [.ref b] [] := .ref h2 .nil
      refine c_call0 (At.start s) ar ok (ar.len.trans (okArgs.len ok)) hx fun ds hd => ?_
      rw [hd] at o
      rw [← hF]
      exact o
    · exact o.elim
theorem w_mV {pl : Sem Bool} {e1 : Expr} (g : Gd X C) (cl : Cls X.K (C.B.ca c)) (hm : Meth X.K (C.B.ca c) m f) (F : FnG X.prog X.w X.K X.mg X.base k f fd ps (spF C.B fs rf pm rm)) (hF : ∀ ds, C.F n ds = fs ds) (hr : Room k X.A) (hb : Binds X.K fd ps [])
    (hfn : ∀ n, C.B.fn n ≠ m) (ho : SE X C p1 Γ o a (.own .v) Γ1) (ha : SA X C p2 Γ1 (e1 :: es) ms ks Γ2) (ok : okArgs Γ2 (.kd (.own .v) :: ks) rf pm = true := by rfl) (hx : leG Γ2 C.GX = true := by rfl)
    (hst : starEach (e1 :: es) X.env = (false, eval e1 X.env) :: starEach es X.env := by rfl) (hpl : (backTo pos (starEach es X.env)).any (·.1) = false := by rfl)
    (ht : eval (.Call (.Attribute o m apos) (e1 :: es) [] pos) X.env = (do
      let ov ← eval o X.env
      standAt apos.atName
      let (f, first) ← holding [ov] (getMethod ov m pl)
      callWith pos f first (backTo pos (starEach (e1 :: es) X.env)) (backToKw pos (keywordEach [] X.env))) := by rfl) :
    SE X C false Γ (.Call (.Attribute o m apos) (e1 :: es) [] pos) (.mV c n a ms) (.own rm) Γ2 :=
  PE.imp (peG_meth (pl := pl) g ho cl hm F hr hb .nil ha hst hpl ht) fun σ H Q h => by
    obtain ⟨e, S, R, s, o⟩ := h
    have o : Out C σ H S R (OkE C σ H S R false (.own rm) Γ2 Q) ((evE C.F a e).bind fun d e1 => if isTy (.cls c) d then (evEs C.F ms e1).bind fun as e2 => (match arD as e2 with
      | some ds => callR (C.F n (d :: ds)) (.d d :: as) e2
      | none => .bad) else .bad) := o
    refine (At.start s).ev o fun d e1 x H1 S1 T1 a1 v1 _ o1 => ?_
    have z := Ow.v_nil v1
    subst z
    split at o1
    · rename_i hc
      obtain ⟨fs', rfl⟩ := isCls hc
      obtain ⟨b, dx, gs, mf, U', rfl, h5, h6⟩ := Ow.obj_at v1
      refine ⟨b, dx, gs, rfl, h5, h6.lookup hfn, ?_⟩
      refine a1.evA o1 fun as e2 vs H2 S2 T2 a2 v2 hold nw o2 => ?_
      rw [List.append_nil]
      have w1 := hold _ _ _ _ v1 (fun _ z => nomatch z) (fun z => nomatch z)
      have ar : ArR C.B (S2 ++ (T2 ++ ([] ++ R))) S2 H2 σ (.kd (.own .v) :: ks) (.d (.obj c fs') :: as) (.ref b :: vs) ([] ++ T2) := .kd w1 v2
      refine c_call0 a2 ar ok (ar.len.trans (okArgs.len ok)) hx fun ds hd => ?_
      obtain ⟨ds', hd', rfl⟩ := Option.map_eq_some_iff.mp (show (arD as e2).map (D.obj c fs' :: ·) = some ds from hd)
      rw [hd'] at o2
      rw [← hF]
      exact o2
    · exact o1.elim
theorem w_mV0 {pl : Sem Bool} (g : Gd X C) (cl : Cls X.K (C.B.ca c)) (hm : Meth X.K (C.B.ca c) m f) (F : FnG X.prog X.w X.K X.mg X.base k f fd ps (spF C.B fs rf pm rm)) (hF : ∀ ds, C.F n ds = fs ds) (hr : Room k X.A) (hb : Binds X.K fd ps [])
    (hfn : ∀ n, C.B.fn n ≠ m) (ho : SE X C p1 Γ o a (.own .v) Γ1) (ok : okArgs Γ1 [.kd (.own .v)] rf pm = true := by rfl) (hx : leG Γ1 C.GX = true := by rfl)
    (ht : eval (.Call (.Attribute o m apos) [] [] pos) X.env = (do
      let ov ← eval o X.env
      standAt apos.atName
      let (f, first) ← holding [ov] (getMethod ov m pl)
      callWith pos f first (backTo pos (starEach [] X.env)) (backToKw pos (keywordEach [] X.env))) := by rfl) :
    SE X C false Γ (.Call (.Attribute o m apos) [] [] pos) (.mV c n a .nil) (.own rm) Γ1 :=
  PE.imp (peG_meth0 (pl := pl) g ho cl hm F hr hb .nil ht) fun σ H Q h => by
    obtain ⟨e, S, R, s, o⟩ := h
    have o : Out C σ H S R (OkE C σ H S R false (.own rm) Γ1 Q) ((evE C.F a e).bind fun d e1 => if isTy (.cls c) d then callR (C.F n [d]) [.d d] e1 else .bad) := o
    refine (At.start s).ev o fun d e1 x H1 S1 T1 a1 v1 _ o1 => ?_
    have z := Ow.v_nil v1
    subst z
    split at o1
    · rename_i hc
      obtain ⟨fs', rfl⟩ := isCls hc
      obtain ⟨b, dx, gs, mf, U', rfl, h5, h6⟩ := Ow.obj_at v1
      refine ⟨b, dx, gs, rfl, h5, h6.lookup hfn, ?_⟩
      have ar : ArR C.B (S1 ++ ([] ++ R)) S1 H1 σ [.kd (.own .v)] [.d (.obj c fs')] [.ref b] ([] ++ []) := .kd v1 .nil
      refine c_call0 a1 ar ok (ar.len.trans (okArgs.len ok)) hx fun ds hd => ?_
      cases hd
      rw [← hF]
      exact o1
    · exact o1.elim
def valArgs : List AK → List Bool → List Md → Bool
  | [], [], [] => true
  | .kd (.own m) :: ks, false :: rf, m' :: pm => decide (m = m') && (decide (m = .v) || decide (m = .s)) && valArgs ks rf pm
  | _, _, _ => false
theorem vals_in {B : Tb} {O S0 : List Addr} {H : Hp} {σ : VS} {ks : List AK} {as : List Ar} {vs : List V} {T : List Addr} (h : ArR B O S0 H σ ks as vs T) : ∀ {rf : List Bool} {pm : List Md}, valArgs ks rf pm = true →
    T = [] ∧ ks.length = rf.length ∧ rf.filter id = [] ∧ ∃ ds, (∀ e, arD as e = some ds) ∧ Sl B O H (pm.map some) (ds.map some) (vs.map some) [] := by
  induction h with
  | nil =>
    intro rf pm hk
    cases rf with
    | cons r _ => cases pm <;> simp [valArgs] at hk
    | nil => cases pm with
      | cons _ _ => simp [valArgs] at hk
      | nil => exact ⟨rfl, rfl, rfl, [], fun _ => rfl, .nil⟩
  | @kd k ks d as v vs T U h1 _ ih =>
    intro rf pm hk
    cases k with
    | bor _ => cases rf <;> cases pm <;> simp [valArgs] at hk
    | own m =>
      cases rf with
      | nil => simp [valArgs] at hk
      | cons r rf =>
        cases pm with
        | nil => cases r <;> simp [valArgs] at hk
        | cons m' pm =>
          cases r with
          | true => simp [valArgs] at hk
          | false =>
            simp only [valArgs, Bool.and_eq_true, Bool.or_eq_true, decide_eq_true_eq] at hk
            obtain ⟨⟨rfl, hm⟩, hk⟩ := hk
            obtain ⟨rfl, e1, e2, ds, e3, e4⟩ := ih hk
            have zT : T = [] := by
              rcases hm with rfl | rfl
              · exact Ow.v_nil h1
              · exact Ow.s_nil h1
            subst zT
            exact ⟨rfl, by simp [e1], by simp [e2], d :: ds, fun e => by simp [arD, e3], .hv (S := []) (T := []) h1 e4⟩
  | ref _ _ _ => intro rf pm hk; cases rf <;> cases pm <;> simp [valArgs] at hk
theorem noOut {B : Tb} {O : List Addr} {H : Hp} : ∀ {rf : List Bool} {pm : List Md} {σ : VS} {U : List Addr}, rf.filter id = [] → Sl B O H (GMp rf pm) (envO rf []) σ U → U = [] := by
  intro rf
  induction rf with
  | nil =>
    intro pm σ U _ h
    have h : Sl B O H [] [] σ U := by cases pm <;> exact h
    cases h
    rfl
  | cons r rf ih =>
    intro pm σ U hf h
    cases r with
    | true => simp at hf
    | false =>
      cases pm with
      | nil =>
        have h : Sl B O H [] (none :: envO rf []) σ U := h
        cases h
      | cons m pm =>
        have h : Sl B O H (none :: GMp rf pm) (none :: envO rf []) σ U := h
        cases h with
        | no h => exact ih (by simpa using hf) h
theorem w_mk (g : Gd X C) (M : Mk X.K (C.B.ca c) f) (F : FnG X.prog X.w X.K X.mg X.base k f fd ps (spF C.B fs (true :: rf) (.o c :: pm) .v)) (hF : ∀ ds, C.F n ds = fs ds) (hr : Room (k + 1) X.A) (hm : X.mg x = some (.ref (C.B.ca c))) (hb : Binds X.K fd ps [])
    (ha : SA X C p Γ (e :: es) ms ks Γ1) (ok : valArgs ks rf pm = true := by rfl) (hx : leG Γ1 C.GX = true := by rfl) (hg : Gl X x := by rfl) (hdb : (x == ("__debug__" : Str)) = false := by decide) (he : starEach (e :: es) X.env = (false, eval e X.env) :: starEach es X.env := by rfl) (hpl : (backTo pos (starEach es X.env)).any (·.1) = false := by rfl) :
    SE X C false Γ (.Call (.Name x pp) (e :: es) [] pos) (.mk c n ms) (.own (.o c)) Γ1 :=
  PE.imp (peG_make g M F hr hm hb .nil ha hg hdb he hpl) fun σ H Q h => by
    obtain ⟨e, S, R, s, o⟩ := h
    have o : Out C σ H S R (OkE C σ H S R false (.own (.o c)) Γ1 Q) ((evEs C.F ms e).bind fun as e1 => match arD as e1 with
      | some ds => (match C.F n (.obj c [] :: ds) with
        | .ok .non [o] => .ok o e1
        | .err c fs [_] => .err c fs e1
        | _ => .bad)
      | none => .bad) := o
    refine (At.start s).evA o fun as e2 vs H2 S2 T2 a2 v2 _ nw o2 => ?_
    obtain ⟨rfl, l1, l2, ds, d1, d2⟩ := vals_in v2 ok
    rw [d1] at o2
    dsimp only at o2
    intro b dx hb hdx hne
    rw [List.append_nil]
    have p1 : Post [] H2 (upd H2 dx (.own b)) := post_upd hdx
    have hb1 : (upd H2 dx (.own b)) b = none := by rw [upd_ne (Ne.symm hne)]; exact hb
    have p2 : Post [] (upd H2 dx (.own b)) (upd (upd H2 dx (.own b)) b (.ins (C.B.ca c) dx [])) := post_upd hb1
    have p12 : Post [] H2 (upd (upd H2 dx (.own b)) b (.ins (C.B.ca c) dx [])) := fun y oy hn he => p2 y oy hn (p1 y oy hn he)
    have lv := a2.sta.lives
    have nb : b ∉ S2 ++ ([] ++ R) := notLive lv hb
    refine ⟨fun cls dx H' => C.W cls dx σ H', fun _ _ _ h => h, by simp [v2.len, l1], .obj c [] :: ds, [b], S2 ++ ([] ++ R), by simpa using ⟨by simpa using nb, by simpa using a2.sta.nd⟩, lv.post p12 (fun _ _ z => nomatch z),
      .hv (S := [b]) (T := []) (.obj upd_same .nil) (d2.fr (Fr.grow p12 fun y hy => ?_) (fun _ z => nomatch z)), ?_⟩
    · rcases List.mem_cons.mp hy with rfl | hy
      · exact .inr hb
      · exact .inl (by simpa using hy)
    rw [← hF]
    have fin : ∀ {H3 : Hp} {S3 T3 : List Addr}, Post [b] (upd (upd H2 dx (.own b)) b (.ins (C.B.ca c) dx [])) H3 → New [b] (upd (upd H2 dx (.own b)) b (.ins (C.B.ca c) dx [])) (S3 ++ T3) →
        Post [] H2 H3 ∧ ∀ y ∈ S3 ++ T3, H2 y = none := by
      intro H3 S3 T3 q1 q2
      refine ⟨fun y oy hn he => q1 y oy (fun z => ?_) (p12 y oy hn he), fun y hy => ?_⟩
      · rw [List.mem_singleton.mp z, hb] at he; cases he
      · rcases q2 y hy with z | z
        · rw [List.mem_singleton.mp z]; exact hb
        · cases w : H2 y with
          | none => rfl
          | some oy => rw [p12 y oy (fun z => nomatch z) w] at z; cases z
    cases hf : C.F n (.obj c [] :: ds) with
    | bad => rw [hf] at o2; exact o2.elim
    | ok r os =>
      rw [hf] at o2
      intro v H3 S3 T3 hl po nw3 nd lv3 sl ow
      have key : r = .non ∧ ∃ o', os = [o'] ∧ OkE C σ H S R false (.own (.o c)) Γ1 Q o' e2 := by
        cases r <;> first | exact o2.elim | skip
        cases os with
        | nil => exact o2.elim
        | cons o' os =>
          cases os with
          | nil => exact ⟨rfl, o', rfl, o2⟩
          | cons _ _ => exact o2.elim
      obtain ⟨rfl, o', rfl, ok3⟩ := key
      obtain ⟨f1, f2⟩ := fin po nw3
      cases sl with
      | @hv _ _ _ _ _ _ U1 U2 ow1 sl2 =>
        have zU : U2 = [] := noOut l2 sl2
        subst zU
        have nw' : ∀ y ∈ U1, H2 y = none := fun y hy => f2 y (by simp [hy])
        have ow2 : Ow C.B (U1 ++ (S2 ++ ([] ++ R))) H3 (.o c) o' (.ref b) U1 := Ow.fr (Fr.sub fun y hy => by
          simp only [List.mem_append] at hy ⊢
          rcases hy with z | z | z | z
          · exact .inl (.inl z)
          · exact .inr (.inr (.inl z))
          · cases z
          · exact .inr (.inr (.inr (.inr z)))) ow1 (fun _ _ _ z => z)
        refine ⟨Ow.non_eq ow, a2.fin (p := p) (OkE.np ok3) f1 nw' ?_ ow2⟩
        have := (List.nodup_append.mp nd).1
        simpa using this
    | err c' es' os =>
      rw [hf] at o2
      intro cls dx' H3 S3 hl po nw3 nd lv3 sl ex
      have key : ErrQ C σ H S R c' es' e2 := by
        cases os with
        | nil => exact o2.elim
        | cons o' os =>
          cases os with
          | nil => exact o2
          | cons _ _ => exact o2.elim
      obtain ⟨f1, f2⟩ := fin (T3 := []) po (by simpa using nw3)
      have sta3 : Sta C.B C.M ([] ++ R) Γ1 e2 σ H3 S2 := a2.sta.grow f1 (by simpa using a2.ndR) (fun y hy => lv3 y (memR (by simpa using hy))) (fun y hy => .inl hy)
      obtain ⟨S4, c1, c3⟩ := sta3.le hx
      refine key cls dx' H3 S4 (a2.po.ite.trans a2.n (f1.nil _)) (fun y hy => a2.n y (c1 y hy)) c3 (ex.fr (Fr.sub fun y hy => ?_))
      simp only [List.mem_append] at hy ⊢
      rcases hy with z | z
      · exact .inr (.inl (c1 y z))
      · exact .inr (.inr (.inr z))
end
end Mi
namespace Mi
open PySem PySem.Spec PyProof.Rows L2
def ErrS (C : Cf) (H : Hp) (S R : List Addr) (c : Nat) (fs : List D) (e' : Env) : Prop :=
  ∀ cls dx σ' H' S', Post S H H' → New S H S' → Sta C.B C.M R C.GX e' σ' H' S' → ExR C.B (S' ++ R) H' c fs cls dx → C.W cls dx σ' H'
def OutS (C : Cf) (E : Ends) (H : Hp) (S R : List Addr) (Γ' : G) : Mi.R Fl → Prop
  | .ok .nxt e' => ∀ σ' H' S', Post S H H' → New S H S' → Sta C.B C.M R Γ' e' σ' H' S' → E.nx σ' H'
  | .ok (.ret d) e' => ∀ v σ' H' S' T, Post S H H' → New S H (S' ++ T) → Sta C.B C.M (T ++ R) C.GR e' σ' H' S' → Ow C.B (S' ++ (T ++ R)) H' C.RM d v T → E.rt v H'
  | .err c fs e' => ErrS C H S R c fs e'
  | .bad => False
def tS (C : Cf) (Γ : G) (m : Sm) (Γ' : G) : TS := fun E σ H => ∃ e S R, Sta C.B C.M R Γ e σ H S ∧ OutS C E H S R Γ' (evS C.F C.sb m e)
def SS (X : Cx) (C : Cf) (Γ : G) (s : Stmt) (m : Sm) (Γ' : G) : Prop := PS X s (tS C Γ m Γ')
def SSs (X : Cx) (C : Cf) (Γ : G) (s : List Stmt) (m : Sm) (Γ' : G) : Prop := PSs X s (tS C Γ m Γ')
theorem PS.imp {X : Cx} {s : Stmt} {t t' : TS} (h : PS X s t) (i : ∀ E σ H, t' E σ H → t E σ H) : PS X s t' := ⟨fun pins s σ H E I q => h.run pins s σ H E I (i E σ H q)⟩
theorem PSs.imp {X : Cx} {s : List Stmt} {t t' : TS} (h : PSs X s t) (i : ∀ E σ H, t' E σ H → t E σ H) : PSs X s t' := ⟨fun pins s σ H E I q => h.run pins s σ H E I (i E σ H q)⟩
section
variable {X : Cx} {C : Cf} {E : Ends} {σ : VS} {H H1 : Hp} {S R S1 : List Addr} {Γ Γ1 Γ2 Γ' : G} {e e1 : Env} {r : Mi.R Fl}
theorem ErrS.step {c : Nat} {fs : List D} {e' : Env} (q : ErrS C H S R c fs e') (p : Post S H H1) (n : New S H S1) : ErrS C H1 S1 R c fs e' :=
  fun cls dx σ' H' S' hp hn hs hx => q cls dx σ' H' S' (p.trans n hp) (n.trans p hn) hs hx
theorem OutS.step (o : OutS C E H S R Γ' r) (p : Post S H H1) (n : New S H S1) : OutS C E H1 S1 R Γ' r := by
  cases r with
  | bad => exact o
  | err c fs e' => exact ErrS.step o p n
  | ok fl e' =>
    cases fl with
    | nxt => exact fun σ' H' S' hp hn hs => o σ' H' S' (p.trans n hp) (n.trans p hn) hs
    | ret d => exact fun v σ' H' S' T hp hn hs ow => o v σ' H' S' T (p.trans n hp) (n.trans p hn) hs ow
theorem OutS.out {α : Type} {f : α → Env → Mi.R Fl} {x : Mi.R α} (o : OutS C E H S R Γ' (x.bind f)) : Out C σ H S R (fun d e1 => OutS C E H S R Γ' (f d e1)) x := by
  cases x with
  | bad => exact o
  | err c fs e' => exact fun cls dx H' S' hp hn hs hx => (show ErrS C H S R c fs e' from o) cls dx σ H' S' hp hn hs hx
  | ok a e' => exact o
theorem OutS.le (o : OutS C E H S R Γ2 r) (l : leG Γ1 Γ2 = true) : OutS C E H S R Γ1 r := by
  cases r with
  | bad => exact o
  | err c fs e' => exact o
  | ok fl e' =>
    cases fl with
    | ret d => exact o
    | nxt =>
      intro σ' H' S' hp hn hs
      obtain ⟨S2, h1, s2⟩ := hs.le l
      exact o σ' H' S2 hp (fun a ha => hn a (h1 a ha)) s2
theorem w_leS {s : Stmt} {m : Sm} (h : SS X C Γ s m Γ1) (l : leG Γ1 Γ2 = true) : SS X C Γ s m Γ2 := PS.imp h fun E σ H ⟨e, S, R, s, o⟩ => ⟨e, S, R, s, o.le l⟩
theorem w_leSs {s : List Stmt} {m : Sm} (h : SSs X C Γ s m Γ1) (l : leG Γ1 Γ2 = true) : SSs X C Γ s m Γ2 := PSs.imp h fun E σ H ⟨e, S, R, s, o⟩ => ⟨e, S, R, s, o.le l⟩
theorem tS.pre {m : Sm} (h : tS C Γ m Γ2 E σ H) (l : leG Γ Γ1 = true) : ∃ e S R, Sta C.B C.M R Γ1 e σ H S ∧ OutS C E H S R Γ2 (evS C.F C.sb m e) := by
  obtain ⟨e, S, R, s, o⟩ := h
  obtain ⟨S2, h1, s2⟩ := s.le l
  exact ⟨e, S2, R, s2, o.step (Post.refl _ _) fun a ha => .inl (h1 a ha)⟩
theorem w_preSs {s : List Stmt} {m : Sm} (h : SSs X C Γ1 s m Γ2) (l : leG Γ Γ1 = true) : SSs X C Γ s m Γ2 := PSs.imp h fun E σ H q => q.pre l
theorem ss_one {s : Stmt} {m : Sm} (h : SS X C Γ s m Γ1) : SSs X C Γ [s] m Γ1 := PSs.imp (pss_one h) fun _ _ _ h => h
theorem ss_nil : SSs X C Γ [] .skip Γ := PSs.imp pss_nil fun E σ H ⟨e, S, R, s, o⟩ => (show ∀ σ' H' S', Post S H H' → New S H S' → Sta C.B C.M R Γ e σ' H' S' → E.nx σ' H' from o) σ H S (Post.refl _ _) New.refl s
theorem c_seq {a b : Sm} (h : tS C Γ (.seq a b) Γ2 E σ H) : tS C Γ a Γ1 { E with nx := tS C Γ1 b Γ2 E } σ H := by
  obtain ⟨e, S, R, s, o⟩ := h
  refine ⟨e, S, R, s, ?_⟩
  have o : OutS C E H S R Γ2 (match evS C.F C.sb a e with
    | .ok .nxt e1 => evS C.F C.sb b e1
    | r => r) := o
  cases h1 : evS C.F C.sb a e with
  | bad => rw [h1] at o; exact o
  | err c fs e' => rw [h1] at o; exact o
  | ok fl e1 =>
    rw [h1] at o
    cases fl with
    | ret d => exact o
    | nxt => exact fun σ' H' S' hp hn hs => ⟨e1, S', R, hs, OutS.step o hp hn⟩
theorem ss_cons {s : Stmt} {rest : List Stmt} {a b : Sm} (h1 : SS X C Γ s a Γ1) (h2 : SSs X C Γ1 rest b Γ2) : SSs X C Γ (s :: rest) (.seq a b) Γ2 := PSs.imp (pss_cons h1 h2) fun _ _ _ h => c_seq h
theorem s_pass {pos : Pos} : SS X C Γ (.Pass pos) .skip Γ := PS.imp ps_pass fun E σ H ⟨e, S, R, s, o⟩ => (show ∀ σ' H' S', Post S H H' → New S H S' → Sta C.B C.M R Γ e σ' H' S' → E.nx σ' H' from o) σ H S (Post.refl _ _) New.refl s
theorem stm1 {m : Ex} {k : Kd} {p : Bool} {f : D → Env → Mi.R Fl} {Q : VK} (s : Sta C.B C.M R Γ e σ H S) (o : OutS C E H S R Γ' ((evE C.F m e).bind f))
    (h : ∀ d e1 v H1 S1 T1, At C σ H S R p Γ1 e1 H1 S1 (T1 ++ R) → Vl C.B (S1 ++ (T1 ++ R)) S1 H1 k d v T1 → New S H (S1 ++ T1) → OutS C E H S R Γ' (f d e1) → Q v H1) : tE C p Γ m k Γ1 σ H Q :=
  (At.start s).evN (f := fun d e1 => .ok d e1) (o.out (σ := σ)).ret fun d e1 v H1 S1 T1 a1 v1 _ n1 o1 => h d e1 v H1 S1 T1 a1 v1 n1 o1
theorem At.stp {p : Bool} {Z : List Addr} (a : At C σ H S R p Γ1 e1 H1 S1 Z) (o : OutS C E H S R Γ' r) : OutS C E H1 S1 R Γ' r := o.step a.po.ite a.n
theorem At.staR {p : Bool} {Z : List Addr} (a : At C σ H S R p Γ1 e1 H1 S1 Z) : Sta C.B C.M R Γ1 e1 σ H1 S1 := a.sta.drop a.ndR a.rz
variable {ea : Expr} {a : Ex} {k : Kd} {p : Bool} {pos : Pos}
theorem s_expr (ha : SE X C p Γ ea a k Γ1) (hs : swapsWith ea none pos.line X.env = pure false := by rfl) : SS X C Γ (.Expr ea pos) (.ex a) Γ1 :=
  PS.imp (ps_expr ha hs) fun E σ H ⟨e, S, R, s, o⟩ => stm1 (f := fun _ e1 => .ok .nxt e1) s o fun d e1 v H1 S1 T1 a1 v1 n1 o1 =>
    (show ∀ σ' H' S', Post S H H' → New S H S' → Sta C.B C.M R Γ1 e1 σ' H' S' → E.nx σ' H' from o1) σ H1 S1 a1.po.ite a1.n a1.staR
theorem s_ret (ha : SE X C p Γ ea a (.own C.RM) Γ1) (l : leG Γ1 C.GR = true := by rfl) : SS X C Γ (.Return (some ea) pos) (.ret a) Γ2 :=
  PS.imp (ps_ret ha) fun E σ H ⟨e, S, R, s, o⟩ => stm1 (f := fun d e1 => .ok (.ret d) e1) s o fun d e1 v H1 S1 T1 a1 v1 n1 o1 => by
    obtain ⟨S2, h1, s2⟩ := a1.sta.le l
    refine o1 v σ H1 S2 T1 a1.po.ite (fun x hx => n1 x ?_) s2 (Ow.fr (Fr.sub fun x hx => ?_) v1 fun _ _ _ z => z)
    · rcases List.mem_append.mp hx with z | z
      · exact memL (h1 x z)
      · exact memR z
    · rcases List.mem_append.mp hx with z | z
      · exact memL (h1 x z)
      · exact memR z
theorem s_if {ec : Expr} {c : Ex} {ba bb : List Stmt} {ma mb : Sm} (hc : ST X C p Γ ec c Γ1) (ha : SSs X C Γ1 ba ma Γ2) (hb : SSs X C Γ1 bb mb Γ2) : SS X C Γ (.If ec ba bb pos) (.ife c ma mb) Γ2 :=
  PS.imp (ps_if hc ha hb) fun E σ H ⟨e, S, R, s, o⟩ => by
    have o : OutS C E H S R Γ2 ((evE C.F c e).bind fun (x : D) e1 => match x with
      | .bl true => evS C.F C.sb ma e1
      | .bl false => evS C.F C.sb mb e1
      | _ => .bad) := o
    refine (At.start s).evT (f := fun d e1 => .ok d e1) (ok := fun (x : D) e1 => OutS C E H S R Γ2 (match x with
      | .bl true => evS C.F C.sb ma e1
      | .bl false => evS C.F C.sb mb e1
      | _ => .bad)) (o.out (σ := σ)).ret (fun d e2 o => ?_) fun b e2 H2 S2 a2 _ o2 => ?_
    · cases d <;> first | exact False.elim o | exact ⟨_, rfl⟩
    · cases b with
      | true => rw [if_pos rfl]; exact ⟨e2, S2, R, a2.staR, a2.stp o2⟩
      | false => rw [if_neg Bool.false_ne_true]; exact ⟨e2, S2, R, a2.staR, a2.stp o2⟩
theorem Sl.store {B : Tb} {O : List Addr} {H : Hp} {σ : VS} {Γ : G} {e : Env} {S T : List Addr} {m : Md} {d : D} {v : V} (h : Sl B O H Γ e σ S) (ow : Ow B O H m d v T) : ∀ {i : Nat}, Γ[i]? = some none →
    ∃ S', S'.Perm (T ++ S) ∧ Sl B O H (Γ.set i (some m)) (st e i (some d)) (σ.set i (some v)) S' := by
  induction h with
  | nil => intro i h; simp at h
  | @no Γ e σ S x y h ih =>
    intro i hi
    cases i with
    | zero => exact ⟨T ++ S, List.Perm.refl _, .hv ow h⟩
    | succ i =>
      obtain ⟨S', h1, h2⟩ := ih (by simpa using hi)
      exact ⟨S', h1, .no h2⟩
  | @hv m' d' v' Γ e σ S U h1 h2 ih =>
    intro i hi
    cases i with
    | zero => simp at hi
    | succ i =>
      obtain ⟨S', h3, h4⟩ := ih (by simpa using hi)
      refine ⟨S ++ S', ?_, .hv h1 h4⟩
      refine (h3.append_left S).trans ?_
      rw [← List.append_assoc, ← List.append_assoc]
      exact List.perm_append_comm.append_right U
theorem leG_none : ∀ (Γ : G) (i : Nat), leG Γ (Γ.set i none) = true
  | [], _ => rfl
  | m :: Γ, 0 => by
    have h : ∀ Γ : G, leG Γ Γ = true := by
      intro Γ
      induction Γ with
      | nil => rfl
      | cons m Γ ih => cases m <;> simp [leG, leM, ih]
    simp [leG, leM, h]
  | m :: Γ, i + 1 => by
    have := leG_none Γ i
    cases m <;> simp [leG, leM, this]
theorem Sta.bind {B : Tb} {M : MP} {T : List Addr} {m : Md} {d : D} {v : V} {i : Nat} (s : Sta B M (T ++ R) Γ e σ H S) (ow : Ow B (S ++ (T ++ R)) H m d v T) (hi : i < Γ.length) (hM : M.mi.contains i = false) :
    ∃ S', (∀ a ∈ S', a ∈ S ++ T) ∧ Sta B M R (Γ.set i (some m)) (st e i (some d)) (σ.set i (some v)) H S' := by
  obtain ⟨S0, h1, s0⟩ := s.le (leG_none Γ i)
  have sub : ∀ a ∈ S0 ++ (T ++ R), a ∈ S ++ (T ++ R) := fun a ha => (List.mem_append.mp ha).elim (fun z => memL (h1 a z)) memR
  obtain ⟨S', h2, h3⟩ := s0.sl.store (Ow.fr (Fr.sub sub) ow fun _ _ _ z => z) (i := i) (by simp [hi])
  rw [List.set_set] at h3
  have nd0 := s0.nd
  have p2 : (S' ++ R).Perm (S0 ++ (T ++ R)) := by
    refine (h2.append_right R).trans ?_
    rw [← List.append_assoc]
    exact List.perm_append_comm.append_right R
  refine ⟨S', fun a ha => ?_, p2.nodup_iff.mpr nd0, fun a ha => s.live a (memR ha), h3.fr (Fr.sub fun a ha => (p2.mem_iff.mp ha)) fun _ _ _ z => z, fun j hj => ?_⟩
  · rcases List.mem_append.mp (h2.mem_iff.mp ha) with z | z
    · exact memR z
    · exact memL (h1 a z)
  · rw [← s.mp j hj]
    have : j ≠ i := fun z => by
      subst z
      simp [List.contains_iff_mem.mpr hj] at hM
      exact absurd hj (by simpa using hM)
    rw [List.getElem?_set_ne (Ne.symm this)]
theorem s_setN {i : Nat} {x : Str} {pos' : Pos} {m : Md} (nd : X.N.Nodup) (ha : SE X C p Γ ea a (.own m) Γ1) (hi : X.N[i]? = some x := by rfl) (hl : i < Γ1.length := by decide) (hM : C.M.mi.contains i = false := by rfl)
    (hx : Loc X.env.scope x := by first | exact .inl rfl | exact .inr rfl) (hs : swapsWith ea (some (.Name x pos')) pos.line X.env = pure false := by rfl) (hf : X.fn x = true ∨ X.env.scope.names.lookup x = some .local := by first | exact .inl rfl | exact .inr rfl) :
    SS X C Γ (.Assign [.Name x pos'] ea pos) (.asg (.nm i) a) (Γ1.set i (some m)) :=
  PS.imp (ps_set nd hi hx ha hs hf) fun E σ H ⟨e, S, R, s, o⟩ => stm1 (f := fun d e1 => .ok .nxt (st e1 i (some d))) s o fun d e1 v H1 S1 T1 a1 v1 n1 o1 => by
    obtain ⟨S', h1, h2⟩ := a1.sta.bind v1 hl hM
    exact o1 _ H1 S' a1.po.ite (fun x hx => n1 x (h1 x hx)) h2
theorem s_set {i : Nat} {x : Str} {pos' : Pos} {m : Md} (g : Gd X C) (ha : SE X C p Γ ea a (.own m) Γ1) (hi : X.N[i]? = some x := by rfl) (hl : i < Γ1.length := by decide) (hM : C.M.mi.contains i = false := by rfl)
    (hx : Loc X.env.scope x := by first | exact .inl rfl | exact .inr rfl) (hs : swapsWith ea (some (.Name x pos')) pos.line X.env = pure false := by rfl) (hf : X.fn x = true ∨ X.env.scope.names.lookup x = some .local := by first | exact .inl rfl | exact .inr rfl) :
    SS X C Γ (.Assign [.Name x pos'] ea pos) (.asg (.nm i) a) (Γ1.set i (some m)) := s_setN g.nd ha hi hl hM hx hs hf
mutual
def tgS : Tg → List Nat
  | .nm i => [i]
  | .tp ts => tgSs ts
  | .tl ts => tgSs ts
def tgSs : Tgs → List Nat
  | .nil => []
  | .cons t ts => tgS t ++ tgSs ts
end
def Oth (L : List Nat) (σ σ' : VS) : Prop := ∀ j : Nat, j ∉ L → σ'[j]? = σ[j]?
def tG (C : Cf) (Γ : G) (t : Tg) (Γ' : G) : TG := fun v σ H Q => ∃ d e S R, Sta C.B C.M R Γ e σ H S ∧ Ow C.B (S ++ R) H .v d v [] ∧ ∃ e', bindT t d e = some e' ∧ ∀ σ' S', Oth (tgS t) σ σ' → (∀ a ∈ S', a ∈ S) → Sta C.B C.M R Γ' e' σ' H S' → Q σ' H
def tGs (C : Cf) (Γ : G) (ts : Tgs) (Γ' : G) : TGs := fun vs σ H Q => ∃ ds e S R, Sta C.B C.M R Γ e σ H S ∧ OwL C.B (S ++ R) H .v ds vs [] ∧ ∃ e', bindTs ts ds e = some e' ∧ ∀ σ' S', Oth (tgSs ts) σ σ' → (∀ a ∈ S', a ∈ S) → Sta C.B C.M R Γ' e' σ' H S' → Q σ' H
def SG (X : Cx) (C : Cf) (Γ : G) (ex : Expr) (t : Tg) (Γ' : G) : Prop := PG X ex (tG C Γ t Γ')
def SGs (X : Cx) (C : Cf) (Γ : G) (ex : List Expr) (t : Tgs) (Γ' : G) : Prop := PGs X ex (tGs C Γ t Γ')
theorem PG.imp {X : Cx} {s : Expr} {t t' : TG} (h : PG X s t) (i : ∀ v σ H Q, t' v σ H Q → t v σ H Q) : PG X s t' := ⟨fun pins s σ H v u Q I r q => h.run pins s σ H v u Q I r (i v σ H Q q)⟩
theorem PGs.imp {X : Cx} {s : List Expr} {t t' : TGs} (h : PGs X s t) (i : ∀ v σ H Q, t' v σ H Q → t v σ H Q) : PGs X s t' := ⟨fun pins s σ H v u Q I r q => h.run pins s σ H v u Q I r (i v σ H Q q)⟩
theorem g_nm {i : Nat} {x : Str} {pos' : Pos} (g : Gd X C) (hi : X.N[i]? = some x := by rfl) (hl : i < Γ.length := by decide) (hM : C.M.mi.contains i = false := by rfl) (hx : Loc X.env.scope x := by first | exact .inl rfl | exact .inr rfl)
    (hf : X.fn x = true ∨ X.env.scope.names.lookup x = some .local := by first | exact .inl rfl | exact .inr rfl) : SG X C Γ (.Name x pos') (.nm i) (Γ.set i (some .v)) :=
  PG.imp (pg_name g.nd hi hx hf) fun v σ H Q ⟨d, e, S, R, s, ow, e', h1, h2⟩ => by
    cases h1
    obtain ⟨S', h3, h4⟩ := Sta.bind (T := []) s ow hl hM
    exact h2 _ S' (fun j hj => List.getElem?_set_ne (fun z => hj (by simp [tgS, z]))) (fun a ha => by simpa using h3 a ha) h4
theorem g_nil : SGs X C Γ [] .nil Γ := PGs.imp pgs_nil fun vs σ H Q ⟨ds, e, S, R, s, ow, e', h1, h2⟩ => by
  cases ds with
  | nil =>
    cases ow
    cases h1
    exact ⟨rfl, h2 σ S (fun _ _ => rfl) (fun _ h => h) s⟩
  | cons _ _ => cases h1
theorem OwL.v_cons {B : Tb} {O : List Addr} {d : D} {ds : List D} {vs : List V} {U : List Addr} (h : OwL B O H .v (d :: ds) vs U) : ∃ v ws, vs = v :: ws ∧ Ow B O H .v d v [] ∧ OwL B O H .v ds ws [] := by
  cases h with
  | cons h1 h2 =>
    have z1 := h1.v_nil
    have z2 := h2.v_nil
    subst z1; subst z2
    exact ⟨_, _, rfl, h1, h2⟩
theorem g_cons {ex : Expr} {exs : List Expr} {t : Tg} {ts : Tgs} (h1 : SG X C Γ ex t Γ1) (h2 : SGs X C Γ1 exs ts Γ2) (hs : (assignEach (ex :: exs) X.env).map (·.2) = assign ex X.env :: (assignEach exs X.env).map (·.2) := by rfl) : SGs X C Γ (ex :: exs) (.cons t ts) Γ2 :=
  PGs.imp (pgs_cons h1 h2 hs) fun vs σ H Q ⟨ds, e, S, R, s, ow, e', h1, h2⟩ => by
    cases ds with
    | nil => cases h1
    | cons d ds =>
      obtain ⟨v, ws, rfl, o1, o2⟩ := ow.v_cons
      obtain ⟨e1, g1, g2⟩ := Option.bind_eq_some_iff.mp (show (bindT t d e).bind (fun e1 => bindTs ts ds e1) = some e' from h1)
      refine ⟨v, ws, rfl, d, e, S, R, s, o1, e1, g1, fun σ1 S1 t1 k1 s1 => ⟨ds, e1, S1, R, s1, o2.fr (Fr.sub fun a ha => ?_) (fun _ z => nomatch z), e', g2, fun σ2 S2 t2 k2 s2 => h2 σ2 S2 (fun j hj => (t2 j (fun z => hj (by simp [tgSs, z]))).trans (t1 j (fun z => hj (by simp [tgSs, z])))) (fun a ha => k1 a (k2 a ha)) s2⟩⟩
      exact (List.mem_append.mp ha).elim (fun z => memL (k1 a z)) memR
def Tgs.len : Tgs → Nat
  | .nil => 0
  | .cons _ ts => ts.len + 1
theorem bindTs_len : ∀ {ts : Tgs} {ds : List D} {e e' : Env}, bindTs ts ds e = some e' → ds.length = ts.len
  | .nil, [], _, _, _ => rfl
  | .nil, _ :: _, _, _, h => nomatch h
  | .cons _ _, [], _, _, h => nomatch h
  | .cons t ts, d :: ds, e, e', h => by
    obtain ⟨e1, _, g2⟩ := Option.bind_eq_some_iff.mp (show (bindT t d e).bind (fun e1 => bindTs ts ds e1) = some e' from h)
    simp [Tgs.len, bindTs_len g2]
theorem g_tup {exs : List Expr} {j : Nat} {ts : Tgs} {pos' : Pos} (g : Gd X C) (h : SGs X C Γ exs ts Γ1) (hn : (assignEach exs X.env).length = ts.len := by rfl) (hst : (assignEach exs X.env).findIdx? (·.1) = none := by rfl) : SG X C Γ (.Tuple exs j pos') (.tp ts) Γ1 :=
  PG.imp (pg_tup g.calm h hn hst) fun v σ H Q ⟨d, e, S, R, s, ow, e', h1, h2⟩ => by
    cases d <;> first | cases h1 | skip
    rename_i ds
    have h1 : bindTs ts ds e = some e' := h1
    obtain ⟨a, vs, rfl, k1, k2⟩ := ow.tup_eq
    exact ⟨a, vs, rfl, .of k1.2, by rw [← k2.len, bindTs_len h1], ds, e, S, R, s, k2, e', h1, h2⟩
theorem s_asg {tg : Expr} {t : Tg} (ha : SE X C p Γ ea a (.own .v) Γ1) (hg : SG X C Γ1 tg t Γ2) (hs : swapsWithSole [tg] ea pos.line X.env = pure false := by rfl) (hw : swappedStores [tg] ea X.env = pure none := by rfl)
    (h1 : (assignEach [tg] X.env).map (·.2) = [assign tg X.env] := by rfl) : SS X C Γ (.Assign [tg] ea pos) (.asg t a) Γ2 :=
  PS.imp (ps_asg ha hg hs hw h1) fun E σ H ⟨e, S, R, s, o⟩ => stm1 (f := fun d e1 => match bindT t d e1 with
    | some e2 => .ok .nxt e2
    | none => .bad) s o fun d e1 v H1 S1 T1 a1 v1 n1 o1 => by
    have z := Ow.v_nil v1
    subst z
    cases hb : bindT t d e1 with
    | none => rw [hb] at o1; exact o1.elim
    | some e2 =>
      rw [hb] at o1
      exact ⟨d, e1, S1, R, a1.staR, v1, e2, hb, fun σ' S' _ k s' => o1 σ' H1 S' a1.po.ite (fun x hx => a1.n x (k x hx)) s'⟩
def Yld (B : Tb) (ds : List D) (j : L2.It) (S Z : List Addr) (H : Hp) : Prop :=
  ∀ (O' : List Addr) (H' : Hp), Post S H H' → (∀ a ∈ O', a ∈ S ++ Z ∨ H a = none) → Live O' H' → (∀ i, ds.length ≤ i → j.stop i H') ∧ ∀ i d, ds[i]? = some d → j.go i H' ∧ ∀ x H'', j.yld i H' x H'' → Post [] H' H'' ∧ Ow B O' H'' .v d x []
def OkI (C : Cf) (σ : VS) (H : Hp) (S R : List Addr) (p : Bool) (Γ' : G) (Q : L2.It → Hp → Prop) (ds : List D) (e' : Env) : Prop :=
  ∀ j H' S' T, Post (if p then [] else S) H H' → (p = true → S' = S) → New S H (S' ++ T) → Sta C.B C.M (T ++ R) Γ' e' σ H' S' → Yld C.B ds j (S' ++ R) T H' → Q j H'
def tI (C : Cf) (p : Bool) (Γ : G) (it : Mi.It) (Γ' : G) : TI := fun σ H Q => ∃ e S R, Sta C.B C.M R Γ e σ H S ∧ Out C σ H S R (OkI C σ H S R p Γ' Q) (evIt C.F it e)
def SI (X : Cx) (C : Cf) (p : Bool) (Γ : G) (tg ex : Expr) (it : Mi.It) (Γ' : G) : Prop := PI X tg ex (tI C p Γ it Γ')
theorem PI.imp {X : Cx} {tg s : Expr} {t t' : TI} (h : PI X tg s t) (i : ∀ σ H Q, t' σ H Q → t σ H Q) : PI X tg s t' := ⟨fun pins s σ H R I q => h.run pins s σ H R I (i σ H R q)⟩
theorem Fr.of {B : Tb} {S Z O' : List Addr} {H H' : Hp} (po : Post S H H') (n : ∀ a ∈ O', a ∈ S ++ Z ∨ H a = none) : Fr (S ++ Z) O' H H' := ⟨fun a ob hn he => po a ob (fun z => hn (memL z)) he, fun a ob hn he hz => (n a hz).elim hn fun w => by rw [he] at w; cases w⟩
theorem s_for {tg it : Expr} {t : Tg} {i : Mi.It} {body : List Stmt} {b : Sm} (g : Gd X C) (hi : SI X C p Γ tg it i Γ1) (l1 : leG Γ1 Γ2 = true) (hg : SG X C Γ2 tg t Γ') (hb : SSs X C Γ' body b Γ2)
    (hs : ∀ x, foldedSetIterable it X.env x = pure x := by intro _; rfl) : SS X C Γ (.For tg it body [] pos) (.forr t i b) Γ2 :=
  PS.imp (ps_for g.own g.calm hi hg hb hs) fun E σ H ⟨e, S, R, s, o⟩ => by
    have o : OutS C E H S R Γ2 ((evIt C.F i e).bind fun xs e1 => forL (bindT t) (fun e => evS C.F C.sb b e) xs e1) := o
    refine ⟨e, S, R, s, (o.out (σ := σ)).imp fun ds e1 o1 => ?_⟩
    intro j H1 S1 T1 po ps n1 s1 y1
    have po := po.ite
    obtain ⟨S2, k1, s2⟩ := s1.le l1
    have y2 : Yld C.B ds j S2 (T1 ++ R) H1 := fun O' H' po n lv => y1 O' H' (po.mono fun a ha => memL (k1 a ha)) (fun a ha => (n a ha).imp (fun z => (List.mem_append.mp z).elim (fun w => memL (memL (k1 a w))) fun w => (List.mem_append.mp w).elim memR fun w => memL (memR w)) id) lv
    have n2 : New S H S2 := fun a ha => n1 a (memL (k1 a ha))
    refine ⟨fun i m σ' H' => i + m = ds.length ∧ ∃ e' S', Post S2 H1 H' ∧ New S2 H1 S' ∧ Sta C.B C.M (T1 ++ R) Γ2 e' σ' H' S' ∧ OutS C E H' S' R Γ2 (forL (bindT t) (fun e => evS C.F C.sb b e) (ds.drop i) e'),
      ⟨ds.length, by simp, e1, S2, Post.refl _ _, New.refl, s2, by simpa using OutS.step o1 po n2⟩, ?_⟩
    rintro i m σ3 H3 ⟨him, e3, S3, po3, n3, s3, o3⟩
    obtain ⟨st, go⟩ := y2 (S3 ++ (T1 ++ R)) H3 po3 (fun a ha => (List.mem_append.mp ha).elim (fun z => (n3 a z).imp memL id) fun z => .inl (memR z)) s3.lives
    by_cases hi : i < ds.length
    · have hd : ds[i]? = some ds[i] := List.getElem?_eq_getElem hi
      obtain ⟨g1, g2⟩ := go i _ hd
      refine .inr ⟨g1, fun σ' H' => ∃ e' S', Post S2 H1 H' ∧ New S2 H1 S' ∧ Sta C.B C.M (T1 ++ R) Γ2 e' σ' H' S' ∧ OutS C E H' S' R Γ2 (forL (bindT t) (fun e => evS C.F C.sb b e) (ds.drop (i + 1)) e'), fun σ' H' hN => ⟨m - 1, by omega, by omega, hN⟩, fun x H4 hy => ?_⟩
      obtain ⟨q1, q2⟩ := g2 x H4 hy
      rw [List.drop_eq_getElem_cons hi] at o3
      have o3 : OutS C E H3 S3 R Γ2 (match bindT t ds[i] e3 with
        | none => .bad
        | some e1 => match evS C.F C.sb b e1 with
          | .ok .nxt e2 => forL (bindT t) (fun e => evS C.F C.sb b e) (ds.drop (i + 1)) e2
          | r => r) := o3
      cases hbt : bindT t ds[i] e3 with
      | none => rw [hbt] at o3; exact o3.elim
      | some e4 =>
        rw [hbt] at o3
        dsimp only at o3
        have s4 : Sta C.B C.M (T1 ++ R) Γ2 e3 σ3 H4 S3 := s3.grow q1 (List.nodup_append.mp s3.nd).2.1 (s3.live.post q1 fun _ _ z => nomatch z) fun _ h => .inl h
        refine ⟨ds[i], e3, S3, T1 ++ R, s4, q2, e4, hbt, fun σ5 S5 _ k5 s5 => ⟨e4, S5, T1 ++ R, s5, ?_⟩⟩
        have p34 : Post S3 H3 H4 := q1.nil _
        have n35 : New S3 H3 S5 := fun a ha => .inl (k5 a ha)
        cases hev : evS C.F C.sb b e4 with
        | bad => rw [hev] at o3; exact o3
        | err c fs e' =>
          rw [hev] at o3
          intro cls dx σ' H' S' hp hn hs hx
          exact (show ErrS C H3 S3 R c fs e' from o3) cls dx σ' H' S' (p34.trans n35 hp) (n35.trans p34 hn) hs.dropL (hx.fr (Fr.sub fun a ha => (List.mem_append.mp ha).elim memL fun z => memR (memR z)))
        | ok fl e5 =>
          rw [hev] at o3
          cases fl with
          | nxt =>
            intro σ' H' S' hp hn hs
            refine ⟨e5, S', po3.trans n3 (p34.trans n35 hp), n3.trans po3 (n35.trans p34 hn), hs, OutS.step o3 (p34.trans n35 hp) (n35.trans p34 hn)⟩
          | ret d =>
            intro v σ' H' S' T hp hn hs ow
            have nd := List.nodup_append.mp (List.nodup_append.mp hs.nd).2.1
            have hndR : R.Nodup := (List.nodup_append.mp s.nd).2.1
            have sub : ∀ a ∈ T ++ R, a ∈ T ++ (T1 ++ R) := fun a ha => (List.mem_append.mp ha).elim memL fun z => memR (memR z)
            have ndTR : (T ++ R).Nodup := List.nodup_append.mpr ⟨nd.1, hndR, fun x hx y hy z => nd.2.2 x hx y (memR hy) z⟩
            exact (show ∀ v σ' H' S' T, Post S3 H3 H' → New S3 H3 (S' ++ T) → Sta C.B C.M (T ++ R) C.GR e5 σ' H' S' → Ow C.B (S' ++ (T ++ R)) H' C.RM d v T → E.rt v H' from o3) v σ' H' S' T (p34.trans n35 hp) (n35.trans p34 hn) (hs.drop ndTR sub)
              (Ow.fr (Fr.sub fun a ha => (List.mem_append.mp ha).elim memL fun z => memR (sub a z)) ow fun _ _ _ z => z)
    · have hz : ds.drop i = [] := List.drop_eq_nil_of_le (by omega)
      rw [hz] at o3
      exact .inl ⟨st i (by omega), (show ∀ σ' H' S', Post S3 H3 H' → New S3 H3 S' → Sta C.B C.M R Γ2 e3 σ' H' S' → E.nx σ' H' from o3) σ3 H3 S3 (Post.refl _ _) New.refl s3.dropL⟩
theorem At.evI {m : Ex} {k : Kd} {f : D → Env → Mi.R (List D)} {Q : L2.It → Hp → Prop} {K : VK} (s : Sta C.B C.M R Γ e σ H S) (o : Out C σ H S R (OkI C σ H S R p Γ1 Q) ((evE C.F m e).bind f))
    (h : ∀ d e1 v H1 S1 T1, At C σ H S R p Γ1 e1 H1 S1 (T1 ++ R) → Vl C.B (S1 ++ (T1 ++ R)) S1 H1 k d v T1 → New S H (S1 ++ T1) → Out C σ H S R (OkI C σ H S R p Γ1 Q) (f d e1) → K v H1) : tE C p Γ m k Γ1 σ H K :=
  (At.start s).evN (f := f) o fun d e1 v H1 S1 T1 a1 v1 _ n1 o1 => h d e1 v H1 S1 T1 a1 v1 n1 o1
theorem yld_list {B : Tb} {a : Addr} {vs : List V} {ds : List D} {S Z : List Addr} (ha : a ∉ S) (h1 : H a = some (.lst vs)) (h2 : OwL B (S ++ Z) H .v ds vs []) : Yld B ds (Itl X.K a) S Z H := by
  intro O' H' po n lv
  have h1' : H' a = some (.lst vs) := po a _ ha h1
  have one : ∀ xs, SqL X.K H' a xs → SqL X.K H' a vs := fun _ _ => .of h1'
  have h2' := h2.fr (Fr.of (B := B) (Z := Z) po n) (fun _ z => nomatch z)
  refine ⟨fun i hi => ⟨vs, .of h1', by rw [← h2.len]; exact hi⟩, fun i d hd => ?_⟩
  obtain ⟨v, U, g1, g2, g3⟩ := h2'.get hd
  refine ⟨⟨vs, v, .of h1', g1⟩, fun x H'' hy => ?_⟩
  obtain ⟨rfl, hx⟩ := hy
  have e := hx vs (.of h1')
  rw [g1] at e
  cases e
  have z := g2.v_nil
  subst z
  exact ⟨Post.refl _ _, g2⟩
theorem yld_tup {B : Tb} {a : Addr} {vs : List V} {ds : List D} {S Z : List Addr} (ha : a ∉ S) (h1 : H a = some (.tup vs)) (h2 : OwL B (S ++ Z) H .v ds vs []) : Yld B ds (Itt X.K a) S Z H := by
  intro O' H' po n lv
  have h1' : H' a = some (.tup vs) := po a _ ha h1
  have h2' := h2.fr (Fr.of (B := B) (Z := Z) po n) (fun _ z => nomatch z)
  refine ⟨fun i hi => ⟨vs, .of h1', by rw [← h2.len]; exact hi⟩, fun i d hd => ?_⟩
  obtain ⟨v, U, g1, g2, g3⟩ := h2'.get hd
  refine ⟨⟨vs, v, .of h1', g1⟩, fun x H'' hy => ?_⟩
  obtain ⟨rfl, hx⟩ := hy
  have e := hx vs (.of h1')
  rw [g1] at e
  cases e
  have z := g2.v_nil
  subst z
  exact ⟨Post.refl _ _, g2⟩
theorem szt {S T Z : List Addr} {a : Addr} (h : a ∈ (S ++ Z) ++ T) : a ∈ S ++ (T ++ Z) := by
  simp only [List.mem_append] at h ⊢
  rcases h with (h | h) | h
  · exact .inl h
  · exact .inr (.inr h)
  · exact .inr (.inl h)
theorem Vl.lstv {B : Tb} {S T Z : List Addr} {m : Md} {ds : List D} {v : V} (h : Vl B (S ++ (T ++ Z)) S H (.own m) (.lst ds) v T) (hm : m = .v ∨ m = .l .v) (nd : (S ++ (T ++ Z)).Nodup) : ∃ a vs, v = .ref a ∧ a ∉ S ++ Z ∧ H a = some (.lst vs) ∧ OwL B ((S ++ Z) ++ T) H .v ds vs [] := by
  have h : Ow B (S ++ (T ++ Z)) H m (.lst ds) v T := h
  rcases hm with rfl | rfl
  · cases h with
    | lstV h1 h2 => exact ⟨_, _, rfl, fun z => h1.1 (szt (memL z)), h1.2, h2.fr (Fr.sub fun _ => szt) fun _ z => nomatch z⟩
  · cases h with
    | lst h1 h2 =>
      have z := h2.v_nil
      subst z
      exact ⟨_, _, rfl, fun z => (List.mem_append.mp z).elim (fun z => disj nd z (by simp)) fun z => disj (List.nodup_append.mp nd).2.1 (List.mem_singleton.mpr rfl) z, h1, h2.fr (Fr.sub fun _ => szt) fun _ z => nomatch z⟩
theorem i_list {tg : Expr} {m : Md} (ha : SE X C p Γ ea a (.own m) Γ1) (hm : m = .v ∨ m = .l .v := by first | exact .inl rfl | exact .inr rfl) : SI X C p Γ tg ea (.lst a) Γ1 :=
  PI.imp (pi_list ha) fun σ H Q ⟨e, S, R, s, o⟩ => At.evI (f := fun (d : D) e1 => match d with
    | .lst ds => .ok ds e1
    | _ => .bad) s o fun d e1 v H1 S1 T1 a1 v1 n1 o1 => by
    cases d <;> first | exact False.elim o1 | skip
    rename_i ds
    obtain ⟨b, vs, rfl, k1, k2, k3⟩ := v1.lstv hm a1.sta.nd
    exact ⟨b, rfl, ⟨vs, .of k2⟩, (show OkI C σ H S R p Γ1 Q ds e1 from o1) _ H1 S1 T1 a1.po a1.ps n1 a1.sta (yld_list k1 k2 k3)⟩
theorem i_tup {tg : Expr} (ha : SE X C p Γ ea a (.own .v) Γ1) : SI X C p Γ tg ea (.tup a) Γ1 :=
  PI.imp (pi_tup ha) fun σ H Q ⟨e, S, R, s, o⟩ => At.evI (f := fun (d : D) e1 => match d with
    | .tup ds => .ok ds e1
    | _ => .bad) s o fun d e1 v H1 S1 T1 a1 v1 n1 o1 => by
    cases d <;> first | exact False.elim o1 | skip
    rename_i ds
    obtain ⟨b, vs, rfl, k1, k2⟩ := Ow.tup_eq v1
    exact ⟨b, rfl, ⟨vs, .of k1.2⟩, (show OkI C σ H S R p Γ1 Q ds e1 from o1) _ H1 S1 T1 a1.po a1.ps n1 a1.sta (yld_tup (fun z => k1.1 (szt (memL z))) k1.2 (k2.fr (Fr.sub fun _ => szt) fun _ z => nomatch z))⟩
theorem rngD_get {lo : Int} {n i : Nat} {d : D} (h : (rngD lo n)[i]? = some d) : i < n ∧ d = .int (lo + i) := by
  unfold rngD at h
  rw [List.getElem?_map] at h
  obtain ⟨j, h1, h2⟩ := Option.map_eq_some_iff.mp h
  obtain ⟨h3, h4⟩ := List.getElem?_eq_some_iff.mp h1
  simp at h3 h4
  subst h4
  exact ⟨h3, h2.symm⟩
theorem yld_rng {B : Tb} {lo : Int} {n : Nat} {S Z : List Addr} : Yld B (rngD lo n) (Itr lo n) S Z H := by
  intro O' H' po nw lv
  refine ⟨fun i hi => (show n ≤ i by simpa [rngD] using hi), fun i d hd => ?_⟩
  obtain ⟨h1, rfl⟩ := rngD_get hd
  exact ⟨h1, fun x H'' hy => by
    obtain ⟨rfl, rfl⟩ := hy
    exact ⟨Post.refl _ _, .int⟩⟩
theorem lim62 {j : Int} (h : j.natAbs < LIM) : -(2 ^ 62) ≤ j ∧ j < 2 ^ 62 := by
  simp only [LIM] at h
  omega
variable {tg : Expr} {pp : Pos} {es : List Expr} {ms : Exs} {k2 : Kd} {b : Ex} {eb : Expr}
theorem i_r1 (hm : X.mg "range" = none) (ha : SA X C p Γ [ea] (.cons a .nil) [.kd k] Γ1) (hg : Gl X "range" := by rfl) (hs : starEach [ea] X.env = [(false, eval ea X.env)] := by rfl) : SI X C p Γ tg (.Call (.Name "range" pp) [ea] [] pos) (.rng (.cons a .nil)) Γ1 :=
  PI.imp (pi_range1 hg hm ha hs) fun σ H Q ⟨e, S, R, s, o⟩ => (At.start s).evA (f := fun as e1 => match dsOf as with
    | some [.int j] => if j.natAbs < LIM then .ok (rngD 0 j.toNat) e1 else .bad
    | some [.int i, .int j] => if i.natAbs < LIM ∧ j.natAbs < LIM then .ok (rngD i (j - i).toNat) e1 else .bad
    | _ => .bad) o fun as e2 vs H2 S2 T2 a2 v2 _ nw o2 => by
    cases v2 with
    | @kd _ _ d _ v _ T U h1 h2 =>
      cases h2
      cases d <;> first | exact False.elim o2 | skip
      rename_i j
      have o2 : Out C σ H S R (OkI C σ H S R p Γ1 Q) (if j.natAbs < LIM then .ok (rngD 0 j.toNat) e2 else .bad) := o2
      split at o2
      · rename_i hz
        obtain ⟨U, u, ow⟩ := h1.view (fun _ => memL) fun a h => memR (memL (memL h))
        exact ⟨j, by rw [ow.int_eq], (lim62 hz).1, (lim62 hz).2, (show OkI C σ H S R p Γ1 Q (rngD 0 j.toNat) e2 from o2) _ H2 S2 _ a2.po a2.ps nw a2.sta yld_rng⟩
      · exact o2.elim
theorem i_r2 (hm : X.mg "range" = none) (ha : SA X C p Γ [ea, eb] (.cons a (.cons b .nil)) [.kd k, .kd k2] Γ1) (hg : Gl X "range" := by rfl) (hs : starEach [ea, eb] X.env = [(false, eval ea X.env), (false, eval eb X.env)] := by rfl) (hs2 : starEach [eb] X.env = [(false, eval eb X.env)] := by rfl) :
    SI X C p Γ tg (.Call (.Name "range" pp) [ea, eb] [] pos) (.rng (.cons a (.cons b .nil))) Γ1 :=
  PI.imp (pi_range2 hg hm ha hs hs2) fun σ H Q ⟨e, S, R, s, o⟩ => (At.start s).evA (f := fun as e1 => match dsOf as with
    | some [.int j] => if j.natAbs < LIM then .ok (rngD 0 j.toNat) e1 else .bad
    | some [.int i, .int j] => if i.natAbs < LIM ∧ j.natAbs < LIM then .ok (rngD i (j - i).toNat) e1 else .bad
    | _ => .bad) o fun as e2 vs H2 S2 T2 a2 v2 _ nw o2 => by
    cases v2 with
    | @kd _ _ d _ v _ T U h1 h2 =>
      cases h2 with
      | @kd _ _ d3 _ v3 _ T3 U3 h3 h4 =>
        cases h4
        cases d <;> first | exact False.elim o2 | skip
        rename_i i
        cases d3 <;> first | exact False.elim o2 | skip
        rename_i j
        have o2 : Out C σ H S R (OkI C σ H S R p Γ1 Q) (if i.natAbs < LIM ∧ j.natAbs < LIM then .ok (rngD i (j - i).toNat) e2 else .bad) := o2
        split at o2
        · rename_i hz
          obtain ⟨U, u, ow⟩ := h1.view (fun _ => memL) fun a h => memR (memL (memL h))
          obtain ⟨U', u', ow'⟩ := h3.view (fun _ => memL) fun a h => memR (memL (memR (memL h)))
          exact ⟨i, j, by rw [ow.int_eq, ow'.int_eq], ⟨(lim62 hz.1).1, (lim62 hz.1).2, (lim62 hz.2).1, (lim62 hz.2).2⟩, (show OkI C σ H S R p Γ1 Q (rngD i (j - i).toNat) e2 from o2) _ H2 S2 _ a2.po a2.ps nw a2.sta yld_rng⟩
        · exact o2.elim
theorem enumD_get : ∀ {ds : List D} {n i : Nat} {d : D}, (enumD n ds)[i]? = some d → ∃ x, ds[i]? = some x ∧ d = .tup [.int ((n + i : Nat) : Int), x]
  | [], n, i, d, h => by simp [enumD] at h
  | x :: ds, n, 0, d, h => by simp [enumD] at h; exact ⟨x, rfl, by rw [← h]; simp⟩
  | x :: ds, n, i + 1, d, h => by
    obtain ⟨y, h1, h2⟩ := enumD_get (ds := ds) (n := n + 1) (i := i) (by simpa [enumD] using h)
    exact ⟨y, by simpa using h1, by rw [h2]; congr 4; omega⟩
theorem enumD_len : ∀ {ds : List D} {n : Nat}, (enumD n ds).length = ds.length
  | [], _ => rfl
  | _ :: ds, n => by simp [enumD, enumD_len (ds := ds) (n := n + 1)]
theorem yld_enum {B : Tb} {b : Addr} {vs : List V} {ds : List D} {S Z : List Addr} (hb : b ∉ S) (h1 : H b = some (.lst vs)) (h2 : OwL B (S ++ Z) H .v ds vs []) : Yld B (enumD 0 ds) (Ite X.K b) S Z H := by
  intro O' H' po n lv
  have h1' : H' b = some (.lst vs) := po b _ hb h1
  have h2' := h2.fr (Fr.of (B := B) (Z := Z) po n) (fun _ z => nomatch z)
  refine ⟨fun i hi => ⟨vs, .of h1', by rw [← h2.len, ← enumD_len (n := 0)]; exact hi⟩, fun i d hd => ?_⟩
  obtain ⟨x, hx, rfl⟩ := enumD_get hd
  obtain ⟨v, U, g1, g2, g3⟩ := h2'.get hx
  refine ⟨⟨vs, v, .of h1', g1⟩, fun y H'' hy => ?_⟩
  obtain ⟨T, x', rfl, hT, rfl, hx'⟩ := hy
  have e := hx' vs (.of h1')
  rw [g1] at e
  cases e
  have z := g2.v_nil
  subst z
  refine ⟨post_upd hT, ?_⟩
  simpa using new_tup lv (OwL.cons (S := []) (T := []) (.int (i := (i : Int))) (OwL.cons (S := []) (T := []) g2 .nil)) hT
theorem i_en {m : Md} {elts : List Expr} {kk : Nat} {tpos : Pos} (hg' : X.mg "enumerate" = none) (ha : SE X C p Γ ea a (.own m) Γ1) (hm : m = .v ∨ m = .l .v := by first | exact .inl rfl | exact .inr rfl) (hg : Gl X "enumerate" := by rfl) (hs : starEach [ea] X.env = [(false, eval ea X.env)] := by rfl) :
    SI X C p Γ (.Tuple elts kk tpos) (.Call (.Name "enumerate" pp) [ea] [] pos) (.en a) Γ1 :=
  PI.imp (pi_enum hg hg' (pa_cons ha pa_nil hs) hs) fun σ H Q ⟨e, S, R, s, o⟩ => At.evI (f := fun (d : D) e1 => match d with
    | .lst ds => .ok (enumD 0 ds) e1
    | _ => .bad) s o fun d e1 v H1 S1 T1 a1 v1 n1 o1 => by
    cases d <;> first | exact False.elim o1 | skip
    rename_i ds
    obtain ⟨b, vs, rfl, k1, k2, k3⟩ := v1.lstv hm a1.sta.nd
    exact ⟨b, vs, rfl, .of k2, (show OkI C σ H S R p Γ1 Q (enumD 0 ds) e1 from o1) _ H1 S1 T1 a1.po a1.ps n1 a1.sta (yld_enum k1 k2 k3)⟩
inductive Tn (step : Env → W) : Nat → Env → Mi.R Fl → Prop
  | done {x : Env} {y : Mi.R Fl} : step x = .done y → Tn step 0 x y
  | more {n : Nat} {x x1 : Env} {y : Mi.R Fl} : step x = .more x1 → Tn step n x1 y → Tn step (n + 1) x y
theorem tn_of {step : Env → W} : ∀ n : Nat, (∀ e r, whileB step n e = .done r → ∃ k, Tn step k e r) ∧ ∀ e e1, whileB step n e = .more e1 → ∀ r k, Tn step k e1 r → ∃ k', Tn step k' e r
  | 0 => ⟨fun e r h => ⟨0, .done h⟩, fun e e1 h r k t => ⟨k + 1, .more h t⟩⟩
  | n + 1 => by
    obtain ⟨ih1, ih2⟩ := tn_of (step := step) n
    have un : ∀ e, whileB step (n + 1) e = match whileB step n e with
      | .more e1 => whileB step n e1
      | r => r := fun _ => rfl
    refine ⟨fun e r h => ?_, fun e e1 h r k t => ?_⟩
    · rw [un] at h
      cases hw : whileB step n e with
      | done r' => rw [hw] at h; cases h; exact ih1 e r hw
      | more e1 =>
        rw [hw] at h
        obtain ⟨k, t⟩ := ih1 e1 r h
        exact ih2 e e1 hw r k t
    · rw [un] at h
      cases hw : whileB step n e with
      | done r' => rw [hw] at h; cases h
      | more e2 =>
        rw [hw] at h
        obtain ⟨k', t'⟩ := ih2 e2 e1 h r k t
        exact ih2 e e2 hw r k' t'
def wstep (C : Cf) (c : Ex) (mb : Sm) : Env → W := fun e => match evE C.F c e with
  | .ok (.bl true) e1 => match evS C.F C.sb mb e1 with
    | .ok .nxt e2 => .more e2
    | r => .done r
  | .ok (.bl false) e1 => .done (.ok .nxt e1)
  | .err k fs e1 => .done (.err k fs e1)
  | _ => .done .bad
theorem s_while {ec : Expr} {c : Ex} {body : List Stmt} {mb : Sm} (g : Gd X C) (hc : ST X C p Γ ec c Γ) (hb : SSs X C Γ body mb Γ) : SS X C Γ (.While ec body [] pos) (.whl c mb) Γ :=
  PS.imp (ps_while g.own hc hb) fun E σ H ⟨e, S, R, s, o⟩ => by
    have o : OutS C E H S R Γ (match whileB (wstep C c mb) 40 e with
      | .done r => r
      | .more _ => .bad) := o
    cases hw : whileB (wstep C c mb) 40 e with
    | more _ => rw [hw] at o; exact o.elim
    | done r =>
      rw [hw] at o
      obtain ⟨k, t⟩ := (tn_of (step := wstep C c mb) 40).1 e r hw
      refine ⟨fun m σ' H' => ∃ e' S', Tn (wstep C c mb) m e' r ∧ Sta C.B C.M R Γ e' σ' H' S' ∧ OutS C E H' S' R Γ r, ⟨k, e, S, t, s, o⟩, ?_⟩
      rintro m σ1 H1 ⟨e1, S1, t1, s1, o1⟩
      have turn : Out C σ1 H1 S1 R (fun d e2 => ∃ b, d = .bl b ∧ if b then (match evS C.F C.sb mb e2 with
          | .ok .nxt e3 => ∃ n, m = n + 1 ∧ Tn (wstep C c mb) n e3 r
          | r' => r = r') else r = .ok .nxt e2) (evE C.F c e1) := by
        have hstep : ∀ x, wstep C c mb e1 = x → (match evE C.F c e1 with
          | .ok (.bl true) e1 => match evS C.F C.sb mb e1 with
            | .ok .nxt e2 => W.more e2
            | r => .done r
          | .ok (.bl false) e1 => .done (.ok .nxt e1)
          | .err k fs e1 => .done (.err k fs e1)
          | _ => .done .bad) = x := fun x h => h
        cases hev : evE C.F c e1 with
        | bad =>
          cases t1 with
          | done h => have h := hstep _ h; rw [hev] at h; cases h; exact o1
          | more h _ => have h := hstep _ h; rw [hev] at h; cases h
        | err k' fs e2 =>
          cases t1 with
          | done h => have h := hstep _ h; rw [hev] at h; cases h; exact fun cls dx H' S' a b c d => (show ErrS C H1 S1 R k' fs e2 from o1) cls dx σ1 H' S' a b c d
          | more h _ => have h := hstep _ h; rw [hev] at h; cases h
        | ok d e2 =>
          cases d
          case bl b =>
            refine ⟨b, rfl, ?_⟩
            cases b with
            | false =>
              cases t1 with
              | done h => have h := hstep _ h; rw [hev] at h; cases h; rfl
              | more h _ => have h := hstep _ h; rw [hev] at h; cases h
            | true =>
              rw [if_pos rfl]
              cases t1 with
              | done h =>
                have h := hstep _ h
                rw [hev] at h
                dsimp only at h
                cases hs : evS C.F C.sb mb e2 with
                | bad => rw [hs] at h; cases h; rfl
                | err _ _ _ => rw [hs] at h; cases h; rfl
                | ok fl e3 =>
                  rw [hs] at h
                  cases fl with
                  | nxt => cases h
                  | ret _ => cases h; rfl
              | more h t2 =>
                have h := hstep _ h
                rw [hev] at h
                dsimp only at h
                cases hs : evS C.F C.sb mb e2 with
                | bad => rw [hs] at h; cases h
                | err _ _ _ => rw [hs] at h; cases h
                | ok fl e3 =>
                  rw [hs] at h
                  cases fl with
                  | ret _ => cases h
                  | nxt => cases h; exact ⟨_, rfl, t2⟩
          all_goals
            exfalso
            cases t1 with
            | done h => have h := hstep _ h; rw [hev] at h; cases h; exact o1
            | more h _ => have h := hstep _ h; rw [hev] at h; cases h
      refine (At.start s1).evT (f := fun d e1 => .ok d e1) turn.ret (fun d e2 o => ⟨_, o.choose_spec.1⟩) fun b e2 H2 S2 a2 _ o2 => ?_
      obtain ⟨b', hb', o2⟩ := (show ∃ b', D.bl b = .bl b' ∧ _ from o2)
      cases hb'
      cases b with
      | false =>
        have o2 : r = .ok .nxt e2 := by simpa using o2
        subst o2
        rw [if_neg Bool.false_ne_true]
        exact (show ∀ σ' H' S', Post S1 H1 H' → New S1 H1 S' → Sta C.B C.M R Γ e2 σ' H' S' → E.nx σ' H' from o1) σ1 H2 S2 a2.po.ite a2.n a2.sta
      | true =>
        rw [if_pos rfl] at o2 ⊢
        refine ⟨fun σ' H' => ∃ n e' S', m = n + 1 ∧ Tn (wstep C c mb) n e' r ∧ Sta C.B C.M R Γ e' σ' H' S' ∧ OutS C E H' S' R Γ r, fun σ' H' ⟨n, e', S', h1, h2, h3, h4⟩ => ⟨n, by omega, e', S', h2, h3, h4⟩, ⟨e2, S2, R, a2.sta, ?_⟩⟩
        have o1' := a2.stp o1
        cases hs : evS C.F C.sb mb e2 with
        | bad => rw [hs] at o2; subst o2; exact o1'
        | err c' fs e3 => rw [hs] at o2; subst o2; exact o1'
        | ok fl e3 =>
          rw [hs] at o2
          cases fl with
          | ret d => subst o2; exact o1'
          | nxt =>
            obtain ⟨n, hn, t3⟩ := o2
            exact fun σ' H' S' hp hn' hs' => ⟨n, e3, S', hn, t3, hs', o1'.step hp hn'⟩
end
end Mi
namespace Mi
open PySem PySem.Spec PyProof.Rows L2
section
variable {X : Cx} {C : Cf} {E : Ends} {σ : VS} {H H1 : Hp} {S R S1 : List Addr} {Γ Γ1 Γ2 Γ' : G} {e e1 : Env} {r : Mi.R Fl}
variable {ea : Expr} {a : Ex} {k : Kd} {p : Bool} {pos : Pos} {i : Nat} {x : Str} {pos' : Pos} {m : Md}
theorem s_augI {op : Operator} {o : Op2} {f : Int → Int → Int} {m0 : Md} (g : Gd X C) (ho : PIp X op (ipI f)) (hf : ∀ x y z, evOp2 o x y = some z → ∃ i j, x = .int i ∧ y = .int j ∧ z = .int (f i j)) (ha : SE X C p Γ ea a k Γ1) (hm0 : Γ[i]? = some (some m0) := by rfl) (hmi : Γ1[i]? = some (some m) := by rfl)
    (hi : X.N[i]? = some x := by rfl) (hl : i < Γ1.length := by decide) (hM : C.M.mi.contains i = false := by rfl) (hx : Loc X.env.scope x := by first | exact .inl rfl | exact .inr rfl)
    (hf' : X.fn x = true ∨ X.env.scope.names.lookup x = some .local := by first | exact .inl rfl | exact .inr rfl) : SS X C Γ (.AugAssign (.Name x pos') op ea pos) (.aug i o a) (Γ1.set i (some .v)) :=
  PS.imp (ps_aug g.nd hi hx ha ho hf') fun E σ H ⟨e, S, R, s, o'⟩ => by
    obtain ⟨d0, v0, U0, g1, g2, g3, g4⟩ := s.sl.get hm0
    refine ⟨v0, g2, stm1 (f := fun y e1 => match gt e1 i with
        | some x => (match evOp2 o x y with
          | some z => .ok .nxt (st e1 i (some z))
          | none => .bad)
        | none => .bad) s o' fun y e1 w H1 S1 T1 a1 v1 n1 o1 => ?_⟩
    obtain ⟨d, v, U, h1, h2, h3, h4⟩ := a1.sta.sl.get hmi
    rw [g2] at h2
    cases h2
    rw [h1] at o1
    dsimp only at o1
    cases hz : evOp2 o d y with
    | none => rw [hz] at o1; exact o1.elim
    | some z =>
      rw [hz] at o1
      obtain ⟨i', j', rfl, rfl, rfl⟩ := hf _ _ _ hz
      obtain ⟨U2, _, ow⟩ := v1.view (fun _ => memL) fun a h => memR (memL h)
      refine ⟨i', j', h4.int_eq, ow.int_eq, ?_⟩
      obtain ⟨S', k1, k2⟩ := Sta.bind (T := []) (m := .v) (d := .int (f i' j')) (v := .int (f i' j')) a1.staR .int hl hM
      exact o1 _ H1 S' a1.po.ite (fun x hx => a1.n x (by simpa using k1 x hx)) k2
theorem aug_add : ∀ x y z, evOp2 .add x y = some z → ∃ i j, x = .int i ∧ y = .int j ∧ z = .int (i + j) := fun x y z h => by
  have h : addOp x y = some z := h
  unfold addOp at h
  split at h
  · cases h; exact ⟨_, _, rfl, rfl, rfl⟩
  · cases h
theorem aug_sub : ∀ x y z, evOp2 .sub x y = some z → ∃ i j, x = .int i ∧ y = .int j ∧ z = .int (i - j) := fun x y z h => by
  have h : intOp (fun _ _ => true) (fun i j => i - j) x y = some z := h
  unfold intOp at h
  split at h
  · rw [if_pos rfl] at h; cases h; exact ⟨_, _, rfl, rfl, rfl⟩
  · cases h
theorem Sta.upd {B : Tb} {M : MP} {T : List Addr} (s : Sta B M (T ++ R) Γ e σ H S) (hi : Γ[i]? = some (some m)) : ∃ d v U Z, gt e i = some d ∧ σ[i]? = some (some v) ∧ Ow B (S ++ (T ++ R)) H m d v U ∧ S.Perm (U ++ Z) ∧
    ∀ (H' : Hp) (d' : D) (U' : List Addr), Post U H H' → (∀ a ∈ U', a ∈ U ∨ a ∈ T ∨ H a = none) → U'.Nodup → Ow B (U' ++ (Z ++ R)) H' m d' v U' → ∃ S', S'.Perm (U' ++ Z) ∧ Sta B M R Γ (st e i (some d')) σ H' S' := by
  obtain ⟨d, v, U, Z, h1, h2, h3, h4, h5⟩ := s.sl.take1 hi
  refine ⟨d, v, U, Z, h1, h2, h3, h4, fun H' d' U' po nU ndU ow => ?_⟩
  have nd1 : (U ++ (Z ++ (T ++ R))).Nodup := by
    rw [← List.append_assoc]
    exact (h4.append_right _).nodup_iff.mp s.nd
  have nd2 := List.nodup_append.mp nd1
  have ndZ := List.nodup_append.mp nd2.2.1
  have ndT := List.nodup_append.mp ndZ.2.1
  have lv : Live (Z ++ R) H := fun a ha => (List.mem_append.mp ha).elim (h5.live a) fun z => s.live a (memR z)
  have ndZR : (Z ++ R).Nodup := List.nodup_append.mpr ⟨ndZ.1, ndT.2.1, fun x hx y hy z => ndZ.2.2 x hx y (memR hy) z⟩
  have dj : ∀ a ∈ U', a ∉ Z ++ R := fun a ha hz => by
    rcases nU a ha with w | w | w
    · exact nd2.2.2 a w a ((List.mem_append.mp hz).elim memL fun q => memR (memR q)) rfl
    · rcases List.mem_append.mp hz with q | q
      · exact ndZ.2.2 a q a (memL w) rfl
      · exact ndT.2.2 a w a q rfl
    · obtain ⟨ob, q, _⟩ := lv a hz
      rw [w] at q; cases q
  have nd3 : (U' ++ (Z ++ R)).Nodup := List.nodup_append.mpr ⟨ndU, ndZR, fun x hx y hy z => dj x hx (z ▸ hy)⟩
  have f : Fr (S ++ (T ++ R)) (U' ++ (Z ++ R)) H H' := by
    refine ⟨fun a ob hn he => po a ob (fun z => hn (memL (h4.mem_iff.mpr (memL z)))) he, fun a ob hn he hz => ?_⟩
    rcases List.mem_append.mp hz with z | z
    · rcases nU a z with w | w | w
      · exact hn (memL (h4.mem_iff.mpr (memL w)))
      · exact hn (memR (memL w))
      · rw [he] at w; cases w
    · rcases List.mem_append.mp z with w | w
      · exact hn (memL (h4.mem_iff.mpr (memR w)))
      · exact hn (memR (memR w))
  have h6 : Sl B (U' ++ (Z ++ R)) H' (Γ.set i none) e σ Z := h5.fr f fun a ha ob he => po a ob (fun z => nd2.2.2 a z a (memL ha) rfl) he
  have hil : i < Γ.length := (List.getElem?_eq_some_iff.mp hi).1
  obtain ⟨S', p1, p2⟩ := h6.put1 ow (i := i) (by simp [hil]) h2
  have zΓ : (Γ.set i none).set i (some m) = Γ := by
    rw [List.set_set]
    obtain ⟨hi', e⟩ := List.getElem?_eq_some_iff.mp hi
    rw [← e]
    exact List.set_getElem_self hi'
  rw [zΓ] at p2
  have p3 : (S' ++ R).Perm (U' ++ (Z ++ R)) := by
    rw [← List.append_assoc]
    exact p1.append_right R
  refine ⟨S', p1, p3.nodup_iff.mpr nd3, fun a ha => ?_, p2.fr (Fr.sub fun a ha => p3.mem_iff.mp ha) fun _ _ _ z => z, s.mp⟩
  obtain ⟨ob, q, k⟩ := s.live a (memR ha)
  exact ⟨ob, po a ob (fun z => nd2.2.2 a z a (memR (memR ha)) rfl) q, k⟩
theorem OwL.set {B : Tb} {O : List Addr} {m : Md} {ds : List D} {vs : List V} {d : D} {v : V} (h : OwL B O H .v ds vs []) (ow : Ow B O H .v d v []) : ∀ n : Nat, OwL B O H .v (ds.set n d) (vs.set n v) [] := by
  induction ds generalizing vs with
  | nil => intro n; cases h; exact .nil
  | cons d' ds ih =>
    intro n
    obtain ⟨w, ws, rfl, h1, h2⟩ := h.v_cons
    cases n with
    | zero => exact .cons (S := []) (T := []) ow h2
    | succ n => exact .cons (S := []) (T := []) h1 (ih h2 n)
theorem Ow.l_inv {B : Tb} {O : List Addr} {m : Md} {ds : List D} {v : V} {U : List Addr} (h : Ow B O H (.l m) (.lst ds) v U) : ∃ a vs T, v = .ref a ∧ H a = some (.lst vs) ∧ OwL B O H m ds vs T ∧ U = a :: T := by
  cases h with
  | lst h1 h2 => exact ⟨_, _, _, rfl, h1, h2, rfl⟩
theorem post_write {a : Addr} {o o' : HO} (h : H a = some o) {U : List Addr} (ha : a ∈ U) : Post U H (upd H a o') := fun b ob hn he => by
  have nb : b ≠ a := fun z => hn (by rw [z]; exact ha)
  rw [upd_ne nb]
  exact he
variable {ei : Expr} {ai : Ex} {p2 : Bool} {k2 : Kd} {spos : Pos}
theorem s_isetL (g : Gd X C) (ha : SE X C p Γ ea a (.own .v) Γ1) (hi2 : SE X C p2 Γ1 ei ai k2 Γ2) (hN : X.N[i]? = some x := by rfl) (hm1 : Γ1[i]? = some (some m) := by rfl) (hm2 : Γ2[i]? = some (some (.l .v)) := by rfl)
    (hv : Vis X.env.scope x := by first | exact Or.inl rfl | exact Or.inr (Or.inl rfl) | exact Or.inr (Or.inr rfl)) (hd : (x == ("__debug__" : Str)) = false := by decide) (hcd : (x == ("__classdict__" : Str)) = false := by decide)
    (hs : swapsWithSole [.Subscript (.Name x pos') ei spos] ea pos.line X.env = pure false := by rfl) (hw : swappedStores [.Subscript (.Name x pos') ei spos] ea X.env = pure none := by rfl)
    (h1 : (assignEach [.Subscript (.Name x pos') ei spos] X.env).map (·.2) = [assign (.Subscript (.Name x pos') ei spos) X.env] := by rfl)
    (has : ∀ v, assign (.Subscript (.Name x pos') ei spos) X.env v = (do
      let ov ← holding [v] (eval (.Name x pos') X.env)
      let iv ← holding [v, ov] (eval ei X.env)
      standAt spos
      holding [v, ov, iv] (setItem ov iv v)
      release [v, ov, iv] []) := by intro _; rfl) : SS X C Γ (.Assign [.Subscript (.Name x pos') ei spos] ea pos) (.iset (.sl i) ai a) Γ2 :=
  PS.imp (ps_asg ha (pg_sub (pe_var hN hv hd hcd) hi2 set_list has) hs hw h1) fun E σ H ⟨e, S, R, s, o'⟩ => by
    have o' : OutS C E H S R Γ2 ((evE C.F a e).bind fun d e1 => (evE C.F ai e1).bind fun k e3 => match gt e3 i with
      | some d0 => match setI d0 k d with
        | some o' => .ok .nxt (st e3 i (some o'))
        | none => .bad
      | none => .bad) := o'
    refine (At.start s).evN (f := fun d e1 => (evE C.F ai e1).bind fun k e3 => .ok (d, k) e3) (ok := fun (dk : D × D) e3 => OutS C E H S R Γ2 (match gt e3 i with
      | some d0 => match setI d0 dk.2 dk.1 with
        | some o' => .ok .nxt (st e3 i (some o'))
        | none => .bad
      | none => .bad)) ?_ fun d e1 w H1 S1 T1 a1 v1 _ n1 o1 => ?_
    · have q := o'.out (σ := σ)
      cases hq : evE C.F a e with
      | bad => rw [hq] at q; exact q
      | err _ _ _ => rw [hq] at q; exact q
      | ok d e1 =>
        rw [hq] at q
        have q : OutS C E H S R Γ2 ((evE C.F ai e1).bind _) := q
        have q := q.out (σ := σ)
        show Out C σ H S R _ ((evE C.F ai e1).bind _)
        cases hq2 : evE C.F ai e1 with
        | bad => rw [hq2] at q; exact q
        | err _ _ _ => rw [hq2] at q; exact q
        | ok _ _ => rw [hq2] at q; exact q
    have z := Ow.v_nil v1
    subst z
    obtain ⟨d0, v0, U0, g1, g2, g3, g4⟩ := a1.sta.sl.get hm1
    refine ⟨v0, g2, a1.evN (f := fun k e3 => .ok (d, k) e3) o1 fun kd e3 y H3 S3 T3 a3 v3 hold n3 o3 => ?_⟩
    have w1 := hold _ _ _ _ v1 (fun _ z => nomatch z) (fun z => nomatch z)
    have sR : Sta C.B C.M ([] ++ R) Γ2 e3 σ H3 S3 := a3.staR
    obtain ⟨dd, vv, U, Z, h1, h2, h3, h4, back⟩ := sR.upd hm2
    rw [g2] at h2
    cases h2
    have o3 : OutS C E H S R Γ2 (match gt e3 i with
      | some d0 => match setI d0 kd d with
        | some o' => .ok .nxt (st e3 i (some o'))
        | none => .bad
      | none => .bad) := o3
    rw [h1] at o3
    dsimp only at o3
    cases hset : setI dd kd d with
    | none => rw [hset] at o3; exact o3.elim
    | some dn =>
      rw [hset] at o3
      have key : ∃ xs n j, dd = .lst xs ∧ kd = .int n ∧ Mi.ixN xs.length n = some j ∧ dn = .lst (xs.set j d) := by
        unfold setI evMu at hset
        cases dd with
        | lst xs =>
          cases kd with
          | int n =>
            obtain ⟨j, hj, rfl⟩ := Option.map_eq_some_iff.mp (by simpa using hset)
            exact ⟨xs, n, j, rfl, rfl, hj, rfl⟩
          | _ => simp at hset
        | dct kvs => cases h3
        | _ => simp at hset
      obtain ⟨xs, n, j, rfl, rfl, hj, rfl⟩ := key
      obtain ⟨b, vs, T, rfl, hb, hL, rfl⟩ := h3.l_inv
      have zT := hL.v_nil
      subst zT
      obtain ⟨U2, _, ow2⟩ := v3.view (fun _ => memL) fun a h => memR (memL h)
      have hbn : b ∉ Z ++ R := by
        have nd := sR.nd
        have : ([b] ++ (Z ++ R)).Nodup := by
          rw [← List.append_assoc]
          exact (h4.append_right R).nodup_iff.mp (by simpa using nd)
        simp at this
        simpa using this.1
      refine ⟨b, vs, n, j, rfl, ow2.int_eq, hb, by rw [← hL.len, ← ixN_eq]; exact hj, ?_⟩
      have po : Post [b] H3 (upd H3 b (.lst (vs.set j w))) := post_write hb (by simp)
      have f : Fr (S3 ++ ([] ++ R)) ([b] ++ (Z ++ R)) H3 (upd H3 b (.lst (vs.set j w))) := ⟨fun x ob hn he => po x ob (fun z => hn (memL (h4.mem_iff.mpr (memL z)))) he, fun x ob hn he z => by
        rcases List.mem_append.mp z with z | z
        · exact hn (memL (h4.mem_iff.mpr (memL z)))
        · rcases List.mem_append.mp z with z | z
          · exact hn (memL (h4.mem_iff.mpr (memR z)))
          · exact hn (memR (memR z))⟩
      have f0 : Fr (S3 ++ (T3 ++ ([] ++ R))) ([b] ++ (Z ++ R)) H3 (upd H3 b (.lst (vs.set j w))) := ⟨fun x ob hn he => f.keep x ob (fun z => hn ((List.mem_append.mp z).elim memL fun q => memR (memR q))) he, fun x ob hn he => f.out x ob (fun z => hn ((List.mem_append.mp z).elim memL fun q => memR (memR q))) he⟩
      obtain ⟨S', p1, p2⟩ := back _ (.lst (xs.set j d)) [b] po (fun x hx => .inl hx) (by simp) (.lst (S := []) upd_same ((hL.fr f (fun _ z => nomatch z)).set (m := .v) (Ow.fr f0 w1 (fun _ z => nomatch z)) j))
      exact o3 σ _ S' (a3.po.ite.trans a3.n (po.mono fun x hx => h4.mem_iff.mpr (memL hx))) (fun x hx => a3.n x (h4.mem_iff.mpr (p1.mem_iff.mp hx))) p2
end
end Mi
namespace Mi
open PySem PySem.Spec PyProof.Rows L2
def wipeG : List Nat → G → G
  | [], Γ => Γ
  | i :: r, Γ => (wipeG r Γ).set i none
def ownOk (own : List Nat) (Γ : G) : Bool := own.all fun i => match Γ[i]? with
  | some (some m) => decide (m = .v)
  | _ => true
section
variable {B : Tb} {O : List Addr} {H : Hp}
theorem Sl.len {Γ : G} {e : Env} {σ : VS} {S : List Addr} (h : Sl B O H Γ e σ S) : σ.length = Γ.length := by
  induction h with
  | nil => rfl
  | no _ ih => simp [ih]
  | hv _ _ ih => simp [ih]
theorem Sl.wipe1 {Γ : G} {e : Env} {σ : VS} {S : List Addr} (h : Sl B O H Γ e σ S) : ∀ {i : Nat}, (∀ m, Γ[i]? = some (some m) → m = .v) → Sl B O H (Γ.set i none) (st e i none) (σ.set i none) S := by
  induction h with
  | nil => intro i _; exact .nil
  | no h ih =>
    intro i hi
    cases i with
    | zero => exact .no h
    | succ i => exact .no (ih fun m hm => hi m (by simpa using hm))
  | @hv m d v Γ e σ S T h1 h2 ih =>
    intro i hi
    cases i with
    | zero =>
      have z := hi m rfl
      subst z
      have z := h1.v_nil
      subst z
      exact .no h2
    | succ i => exact .hv h1 (ih fun m hm => hi m (by simpa using hm))
theorem wipeG_get : ∀ {own : List Nat} {Γ : G} {i : Nat} {m : Md}, (wipeG own Γ)[i]? = some (some m) → Γ[i]? = some (some m) ∧ i ∉ own
  | [], _, _, _, h => ⟨h, List.not_mem_nil⟩
  | j :: own, Γ, i, m, h => by
    have h : ((wipeG own Γ).set j none)[i]? = some (some m) := h
    by_cases e : j = i
    · subst e
      rw [List.getElem?_set_self'] at h
      cases hq : (wipeG own Γ)[j]? with
      | none => rw [hq] at h; cases h
      | some _ => rw [hq] at h; simp at h
    · rw [List.getElem?_set_ne e] at h
      obtain ⟨h1, h2⟩ := wipeG_get h
      exact ⟨h1, fun z => (List.mem_cons.mp z).elim (fun y => e y.symm) h2⟩
theorem ownOk_get {own : List Nat} {Γ : G} (h : ownOk own Γ = true) {i : Nat} (hi : i ∈ own) {m : Md} (e : Γ[i]? = some (some m)) : m = .v := by
  have := List.all_eq_true.mp h i hi
  rw [e] at this
  exact of_decide_eq_true this
theorem Sl.wipe {Γ : G} {e : Env} {σ : VS} {S : List Addr} (h : Sl B O H Γ e σ S) : ∀ {own : List Nat}, (∀ i ∈ own, ∀ m, Γ[i]? = some (some m) → m = .v) → Sl B O H (wipeG own Γ) (wipeE own e) (L2.wipe σ own) S
  | [], _ => h
  | i :: own, hi => (Sl.wipe h fun j hj => hi j (List.mem_cons_of_mem _ hj)).wipe1 fun m hm => hi i (List.mem_cons_self ..) m (wipeG_get hm).1
theorem Sl.putN : ∀ {Γ : G} {e : Env} {σ : VS} {S : List Addr} {i : Nat} {x : Option D}, Sl B O H (Γ.set i none) e (σ.set i none) S → (∀ m, Γ[i]? = some (some m) → m = .v ∧ ∃ d v, x = some d ∧ σ[i]? = some (some v) ∧ Ow B O H .v d v []) → Sl B O H Γ (st e i x) σ S
  | [], e, σ, S, i, x, h, _ => by
    have h : Sl B O H [] e (σ.set i none) S := by simpa using h
    generalize hs : σ.set i none = τ at h
    cases h
    cases σ with
    | nil => exact .nil
    | cons a b => cases i <;> cases hs
  | m :: Γ, e, [], S, i, x, h, _ => by
    exfalso
    have l := h.len
    simp at l
  | m :: Γ, e, y :: σ, S, 0, x, h, hx => by
    have h : Sl B O H (none :: Γ) e (none :: σ) S := h
    cases h with
    | @no _ e' _ _ x' _ hq =>
      cases m with
      | none => exact .no hq
      | some m =>
        obtain ⟨rfl, d, v, rfl, hv, ow⟩ := hx m rfl
        have hv : y = some v := by simpa using hv
        subst hv
        exact .hv (S := []) ow hq
  | m :: Γ, e, y :: σ, S, i + 1, x, h, hx => by
    have h : Sl B O H (m :: Γ.set i none) e (y :: σ.set i none) S := h
    cases h with
    | @no _ e' _ _ x' _ h => exact .no (Sl.putN h fun m hm => hx m (by simpa using hm))
    | @hv _ d v _ e' _ S' T h1 h2 => exact .hv h1 (Sl.putN h2 fun m hm => hx m (by simpa using hm))
theorem Sl.back {e0 : Env} {Γ : G} {σ : VS} {S : List Addr} : ∀ {own : List Nat} {e : Env}, Sl B O H (wipeG own Γ) e (L2.wipe σ own) S → (∀ i ∈ own, ∀ m, Γ[i]? = some (some m) → m = .v ∧ ∃ d v, gt e0 i = some d ∧ σ[i]? = some (some v) ∧ Ow B O H .v d v []) → Sl B O H Γ (backE own e0 e) σ S
  | [], e, h, _ => h
  | i :: own, e, h, hx => by
    have h : Sl B O H ((wipeG own Γ).set i none) e ((L2.wipe σ own).set i none) S := h
    refine Sl.back (own := own) (h.putN fun m hm => ?_) fun j hj => hx j (List.mem_cons_of_mem _ hj)
    obtain ⟨h1, h2⟩ := wipeG_get hm
    obtain ⟨q1, d, v, q2, q3, q4⟩ := hx i (List.mem_cons_self ..) m h1
    exact ⟨q1, d, v, q2, by rw [wipe_out h2]; exact q3, q4⟩
end
def blkC (C : Cf) : Cf := { C with M := ⟨[], []⟩, W := fun _ _ _ _ => False }
theorem Gd.blk {X : Cx} {C : Cf} (g : Gd X C) {s : Shared} {H : Hp} {scope : Scope} {cenv : PySem.Env} {fp : List Addr} : Gd (X.blk s H scope cenv fp) (blkC C) :=
  ⟨g.K, g.calm, g.nd, g.gu, g.un, fun u s' ⟨_, _, _, _, _, _, _, _, _, _, _, _, _, _, _, _, w⟩ => w.elim, PassesOwn.never⟩
def STs (X : Cx) (C : Cf) (p : Bool) (Γ : G) (ifs : List Expr) (m : Ex) (Γ' : G) : Prop := PTs X ifs (tT C p Γ m Γ')
theorem PTs.imp {X : Cx} {ifs : List Expr} {t t' : TT} (h : PTs X ifs t) (i : ∀ σ H Q, t' σ H Q → t σ H Q) : PTs X ifs t' := ⟨fun pins s σ H Q I q => h.run pins s σ H Q I (i σ H Q q)⟩
theorem ts_nil {X : Cx} {C : Cf} {Γ : G} : STs X C true Γ [] (.cst (.bl true)) Γ := PTs.imp pts_nil fun σ H Q ⟨e, S, R, s, o⟩ => by
  obtain ⟨b, hb, q⟩ := (show OkT C σ H S R true Γ Q (.bl true) e from o)
  cases hb
  exact q H S (Post.refl _ _) (fun _ => rfl) New.refl s
theorem ts_one {X : Cx} {C : Cf} {p : Bool} {Γ Γ' : G} {c : Expr} {m : Ex} (h : ST X C p Γ c m Γ') : STs X C p Γ [c] m Γ' := pts_one h
theorem noErr_ok {α : Type} {C : Cf} {σ : VS} {H : Hp} {S R : List Addr} {ok : α → Env → Prop} {r : Mi.R α} (o : Out C σ H S R ok (noErr r)) : ∃ a e, r = .ok a e ∧ ok a e := by
  cases r with
  | ok a e => exact ⟨a, e, rfl, o⟩
  | err c fs e => exact o.elim
  | bad => exact o.elim
theorem bind_ok {α β : Type} {x : Mi.R α} {f : α → Env → Mi.R β} {b : β} {e : Env} (h : x.bind f = .ok b e) : ∃ a e1, x = .ok a e1 ∧ f a e1 = .ok b e := by
  cases x with
  | ok a e1 => exact ⟨a, e1, rfl, h⟩
  | err c fs e1 => cases h
  | bad => cases h
theorem OwL.appS {B : Tb} {O : List Addr} {H : Hp} {m : Md} : ∀ {ds ds' : List D} {vs vs' : List V} {S T : List Addr}, OwL B O H m ds vs S → OwL B O H m ds' vs' T → OwL B O H m (ds ++ ds') (vs ++ vs') (S ++ T)
  | [], _, _, _, _, _, h1, h2 => by cases h1; exact h2
  | d :: ds, _, _, _, _, _, h1, h2 => by
    cases h1 with
    | cons k1 k2 =>
      rw [List.append_assoc]
      exact .cons k1 (OwL.appS k2 h2)
theorem Sl.cong {B : Tb} {O : List Addr} {H : Hp} {Γ : G} {e : Env} {σ : VS} {S : List Addr} (h : Sl B O H Γ e σ S) : ∀ {τ : VS}, τ.length = σ.length → (∀ (i : Nat) m, Γ[i]? = some (some m) → τ[i]? = σ[i]?) → Sl B O H Γ e τ S := by
  induction h with
  | nil => intro τ l _; cases τ <;> first | exact .nil | cases l
  | no h ih =>
    intro τ l q
    cases τ with
    | nil => cases l
    | cons y τ => exact .no (ih (by simpa using l) fun i m hm => by simpa using q (i + 1) m (by simpa using hm))
  | @hv m d v Γ e σ S T h1 h2 ih =>
    intro τ l q
    cases τ with
    | nil => cases l
    | cons y τ =>
      have z : y = some v := by simpa using q 0 m rfl
      subst z
      exact .hv h1 (ih (by simpa using l) fun i m hm => by simpa using q (i + 1) m (by simpa using hm))
theorem wipe_eq {σ τ : VS} {own L : List Nat} (o : Oth L (L2.wipe σ own) τ) (l : τ.length = σ.length) (h : ∀ i ∈ L, i ∈ own) : L2.wipe τ own = L2.wipe σ own := by
  have inn : ∀ (ρ : VS) (own : List Nat) (i : Nat), i ∈ own → (L2.wipe ρ own)[i]? = if i < ρ.length then some none else none := by
    intro ρ own
    induction own with
    | nil => intro i h; cases h
    | cons j own ih =>
      intro i hi
      show ((L2.wipe ρ own).set j none)[i]? = _
      by_cases e : j = i
      · subst e
        by_cases hl : j < ρ.length
        · rw [if_pos hl, List.getElem?_set_self (by rw [wipe_length]; exact hl)]
        · rw [if_neg hl, List.getElem?_eq_none (by simp [wipe_length]; omega)]
      · rw [List.getElem?_set_ne e]
        exact ih i ((List.mem_cons.mp hi).elim (fun z => absurd z.symm e) id)
  refine List.ext_getElem? fun i => ?_
  by_cases hi : i ∈ own
  · rw [inn _ _ _ hi, inn _ _ _ hi, l]
  · rw [wipe_out hi, o i fun z => hi (h i z)]
theorem Sta.updR {B : Tb} {M : MP} {R : List Addr} {Γ : G} {e : Env} {σ : VS} {H : Hp} {S : List Addr} {D : Addr} {u : HO} (s : Sta B M R Γ e σ H S) (hD : D ∈ R) (hu : ownK u = true := by rfl) : Sta B M R Γ e σ (L2.upd H D u) S := by
  have ne : ∀ a, a ∉ S ++ R → a ≠ D := fun a ha z => ha (memR (z ▸ hD))
  have nS : ∀ a ∈ S, a ≠ D := fun a ha z => disj s.nd ha (z ▸ hD)
  refine ⟨s.nd, fun a ha => ?_, s.sl.fr ⟨fun a o n e => by rw [upd_ne (ne a n)]; exact e, fun a o n _ => n⟩ fun a ha o e => by rw [upd_ne (nS a ha)]; exact e, s.mp⟩
  by_cases z : a = D
  · exact ⟨u, by rw [z, upd_same], hu⟩
  · rw [upd_ne z]; exact s.live a ha
structure LcS (C : Cf) (σ : VS) (own : List Nat) (Γ1 : G) (S1 Z : List Addr) (H1 : Hp) (me : Md) (Da : Addr) (dn : List Mi.D) (vs : List V) (T : List Addr) (e' : Env) (S' : List Addr) (H' : Hp) : Prop where
  po : Post S1 H1 H'
  nw : New S1 H1 (S' ++ (Da :: T))
  hD : H' Da = some (.lst vs)
  ol : OwL C.B (S' ++ (Da :: (T ++ Z))) H' me dn vs T
  st : Sta C.B ⟨[], []⟩ (Da :: (T ++ Z)) (wipeG own Γ1) e' (L2.wipe σ own) H' S'
section
variable {C : Cf} {σ : VS} {own : List Nat} {Γ1 : G} {S1 Z : List Addr} {H1 : Hp} {me : Md} {Da : Addr} {dn : List Mi.D} {vs : List V} {T : List Addr} {e' e5 : Env} {S' S5 S7 T7 : List Addr} {H' H5 H7 : Hp}
theorem LcS.none (l : LcS C σ own Γ1 S1 Z H1 me Da dn vs T e' S' H') (po : Post S' H' H5) (nw : New S' H' S5) (st : Sta C.B ⟨[], []⟩ (Da :: (T ++ Z)) (wipeG own Γ1) e5 (L2.wipe σ own) H5 S5) : LcS C σ own Γ1 S1 Z H1 me Da dn vs T e5 S5 H5 := by
  have nd := l.st.nd
  refine ⟨l.po.trans l.nw.left po, fun a ha => ?_, po Da _ (fun z => disj nd z (List.mem_cons_self ..)) l.hD, l.ol.fr ⟨fun a o n e => po a o (fun z => n (memL z)) e, fun a o n e z => ?_⟩ fun a ha o e => po a o (fun z => disj nd z (List.mem_cons_of_mem _ (memL ha))) e, st⟩
  · rcases List.mem_append.mp ha with z | z
    · exact (l.nw.left.trans l.po nw) a z
    · exact l.nw.right a z
  · rcases List.mem_append.mp z with z | z
    · rcases nw a z with w | w
      · exact n (memL w)
      · rw [e] at w; cases w
    · exact n (memR z)
theorem LcS.item {d : Mi.D} {v : V} (l : LcS C σ own Γ1 S1 Z H1 me Da dn vs T e' S' H') (po : Post S' H' H7) (nw : New S' H' (S7 ++ T7)) (st : Sta C.B ⟨[], []⟩ (T7 ++ (Da :: (T ++ Z))) (wipeG own Γ1) e5 (L2.wipe σ own) H7 S7) (ow : Ow C.B (S7 ++ (T7 ++ (Da :: (T ++ Z)))) H7 me d v T7) :
    LcS C σ own Γ1 S1 Z H1 me Da (dn ++ [d]) (vs ++ [v]) (T ++ T7) e5 S7 (L2.upd H7 Da (.lst (vs ++ [v]))) := by
  have nd := l.st.nd
  have mem : ∀ x, x ∈ Da :: ((T ++ T7) ++ Z) ↔ x ∈ T7 ++ (Da :: (T ++ Z)) := fun x => by
    simp only [List.mem_append, List.mem_cons]
    constructor
    · rintro (h | (h | h) | h)
      · exact .inr (.inl h)
      · exact .inr (.inr (.inl h))
      · exact .inl h
      · exact .inr (.inr (.inr h))
    · rintro (h | h | h | h)
      · exact .inr (.inl (.inr h))
      · exact .inl h
      · exact .inr (.inl (.inl h))
      · exact .inr (.inr h)
  have ndR : (Da :: ((T ++ T7) ++ Z)).Nodup := by
    have h := (List.nodup_append.mp st.nd).2.1
    have perm : (Da :: ((T ++ T7) ++ Z)).Perm (T7 ++ (Da :: (T ++ Z))) := by
      refine List.Perm.trans (.cons Da ?_) List.perm_middle.symm
      rw [List.append_assoc]
      refine List.Perm.trans ?_ (List.perm_append_comm_assoc T T7 Z)
      exact List.Perm.refl _
    exact perm.nodup_iff.mpr h
  have st2 := st.drop ndR fun a ha => (mem a).mp ha
  have st3 := st2.updR (u := .lst (vs ++ [v])) (List.mem_cons_self ..)
  have ndD : Da ∉ (T ++ T7) ++ Z := (List.nodup_cons.mp ndR).1
  have nS7 : Da ∉ S7 := fun z => disj st2.nd z (List.mem_cons_self ..)
  have hD7 := po Da _ (fun z => disj nd z (List.mem_cons_self ..)) l.hD
  have f2 : Fr (S7 ++ (T7 ++ (Da :: (T ++ Z)))) (S7 ++ (Da :: ((T ++ T7) ++ Z))) H7 (L2.upd H7 Da (.lst (vs ++ [v]))) := by
    refine ⟨fun a o n e => ?_, fun a o n e z => n ?_⟩
    · rw [upd_ne fun z => n (memR ((mem a).mp (by rw [z]; exact List.mem_cons_self ..)))]; exact e
    · exact (List.mem_append.mp z).elim memL fun z => memR ((mem a).mp z)
  have f1 : Fr (S' ++ (Da :: (T ++ Z))) (S7 ++ (T7 ++ (Da :: (T ++ Z)))) H' H7 := by
    refine ⟨fun a o n e => po a o (fun z => n (memL z)) e, fun a o n e z => ?_⟩
    have z' : a ∈ S7 ++ T7 ∨ a ∈ Da :: (T ++ Z) := by simpa [or_assoc] using z
    rcases z' with z' | z'
    · rcases nw a z' with w | w
      · exact n (memL w)
      · rw [e] at w; cases w
    · exact n (memR z')
  refine ⟨fun a o n e => ?_, fun a ha => ?_, upd_same, OwL.appS ((l.ol.fr f1 fun a ha o e => po a o (fun z => disj nd z (List.mem_cons_of_mem _ (memL ha))) e).fr f2 fun a ha o e => ?_) (by
      have h1 := ow.fr f2 fun a ha o e => by rw [upd_ne fun z => ndD (by rw [← z]; exact memL (memR ha))]; exact e
      have h2 := OwL.cons h1 (OwL.nil (B := C.B) (m := me))
      simpa using h2), st3⟩
  · have h7 := (l.po.trans l.nw.left po) a o n e
    rw [upd_ne fun z => ?_]; exact h7
    rcases l.nw.right a (by rw [z]; exact List.mem_cons_self ..) with w | w
    · exact n w
    · rw [e] at w; cases w
  · have ha' : a ∈ S7 ++ T7 ∨ a ∈ Da :: T := by
      simp only [List.mem_append, List.mem_cons] at ha ⊢
      rcases ha with h | h | h | h
      · exact .inl (.inl h)
      · exact .inr (.inl h)
      · exact .inr (.inr h)
      · exact .inl (.inr h)
    rcases ha' with z | z
    · exact (l.nw.left.trans l.po nw) a z
    · exact l.nw.right a z
  · rw [upd_ne fun z => ndD (by rw [← z]; exact memL (memL ha))]; exact e
theorem Out.of_ok {α : Type} {C : Cf} {σ : VS} {H : Hp} {S R : List Addr} {ok : α → Env → Prop} {r : Mi.R α} {a : α} {e : Env} (h : r = .ok a e) (q : ok a e) : Out C σ H S R ok r := by
  subst h; exact q
theorem lcLoop_cons {bnd : Mi.D → Env → Option Env} {c : Env → Mi.R Mi.D} {f : Env → Mi.R (List Mi.D)} {x : Mi.D} {xs : List Mi.D} {e e2 : Env} {r : List Mi.D} (h : lcLoop bnd c f (x :: xs) e = .ok r e2) :
    ∃ e1 b e3, bnd x e = some e1 ∧ c e1 = .ok (.bl b) e3 ∧ if b = true then ∃ d1 e4 r', f e3 = .ok d1 e4 ∧ lcLoop bnd c f xs e4 = .ok r' e2 ∧ r = d1 ++ r' else lcLoop bnd c f xs e3 = .ok r e2 := by
  have h : (match bnd x e with
    | none => Mi.R.bad
    | some e1 => (c e1).bind fun b e2 => match b with
      | .bl true => (f e2).bind fun ds e3 => (lcLoop bnd c f xs e3).bind fun r e4 => .ok (ds ++ r) e4
      | .bl false => lcLoop bnd c f xs e2
      | _ => .bad) = .ok r e2 := h
  cases hb : bnd x e with
  | none => rw [hb] at h; cases h
  | some e1 =>
    rw [hb] at h
    obtain ⟨b, e3, h1, h2⟩ := bind_ok h
    cases b <;> first | cases h2 | skip
    rename_i b
    refine ⟨e1, b, e3, rfl, h1, ?_⟩
    cases b with
    | true =>
      rw [if_pos rfl]
      obtain ⟨d1, e4, h3, h4⟩ := bind_ok h2
      obtain ⟨r', e5, h5, h6⟩ := bind_ok h4
      cases h6
      exact ⟨d1, e4, r', h3, h5, rfl⟩
    | false => rw [if_neg Bool.false_ne_true]; exact h2
end
section
variable {X : Cx} {C : Cf} {p pt pe : Bool} {Γ Γ1 Γc Γd Γe : G} {it : Mi.It} {t : Tg} {c f : Ex} {own : List Nat} {me : Md}
theorem Sta.toW {B : Tb} {R : List Addr} {Γ Γe : G} {e : Env} {σ τ : VS} {H : Hp} {S : List Addr} (s : Sta B ⟨[], []⟩ R Γe e τ H S) (l : leG Γe (wipeG own Γ) = true) (q : L2.wipe τ own = L2.wipe σ own) : ∃ S', (∀ a ∈ S', a ∈ S) ∧ Sta B ⟨[], []⟩ R (wipeG own Γ) e (L2.wipe σ own) H S' := by
  obtain ⟨S', h1, s'⟩ := s.le l
  have hl : σ.length = τ.length := by
    have := congrArg List.length q
    rw [wipe_length, wipe_length] at this
    exact this.symm
  refine ⟨S', h1, s'.nd, s'.live, s'.sl.cong (by rw [wipe_length]; exact hl) fun i m hm => ?_, fun i hi => nomatch hi⟩
  rw [← q, wipe_out (wipeG_get hm).2]
theorem c_lc (hg : leG Γe (wipeG own Γ1) = true) (hd : leG Γd (wipeG own Γ1) = true) (hc : Γc.length = (wipeG own Γ1).length) (ht : ∀ i ∈ tgS t, i ∈ own) (hown : ownOk own Γ1 = true) {σ : VS} {H : Hp} {Q : VK}
    (h : tE C false Γ (.lc own f t it c) (.own (.l me)) Γ1 σ H Q) : tLc (tI C p Γ it Γ1) (tG (blkC C) (wipeG own Γ1) t Γc) (tT (blkC C) pt Γc c Γd) (tE (blkC C) pe Γd f (.own me) Γe) own σ H Q := by
  obtain ⟨e, S, R, s, o⟩ := h
  have o : Out C σ H S R (OkE C σ H S R false (.own (.l me)) Γ1 Q) ((evIt C.F it e).bind fun xs e1 => noErr ((lcLoop (bindT t) (fun e => evE C.F c e) (fun e => (evE C.F f e).bind fun d e1 => .ok [d] e1) xs (wipeE own e1)).bind fun ds e2 =>
    if ds.length < LIM then .ok (.lst ds) (backE own e1 e2) else .bad)) := o
  refine ⟨e, S, R, s, ?_⟩
  cases hi : evIt C.F it e with
  | bad => rw [hi] at o; exact o
  | err k fs e' => rw [hi] at o; exact o
  | ok xs e1 =>
    rw [hi] at o
    obtain ⟨rr, ee, o1, o2⟩ := noErr_ok o
    obtain ⟨ds, e2, o3, o4⟩ := bind_ok o1
    split at o4
    case isFalse => cases o4
    rename_i hlim
    cases o4
    intro J H1 S1 T1 po ps n1 s1 y1
    have po := po.ite
    intro Da hD
    let stp : List Mi.D → Env → Mi.R (List Mi.D) := lcLoop (bindT t) (fun e => evE C.F c e) (fun e => (evE C.F f e).bind fun d e1 => .ok [d] e1)
    have nDS : Da ∉ S1 ++ (T1 ++ R) := notLive s1.lives hD
    have slW := Sl.wipe (own := own) s1.sl fun i hi' m hm => ownOk_get hown hi' hm
    refine ⟨fun i m H' => i + m = xs.length ∧ ∃ dn vs T e' S' r', LcS C σ own Γ1 S1 (T1 ++ R) H1 me Da dn vs T e' S' H' ∧ stp (xs.drop i) e' = .ok r' e2 ∧ dn ++ r' = ds, ⟨xs.length, by simp, [], [], [], wipeE own e1, S1, ds, ⟨?_, ?_, upd_same, .nil, ?_⟩, by simpa using o3, rfl⟩, ?_⟩
    · exact (post_upd hD).nil _
    · intro a ha
      rcases List.mem_append.mp ha with z | z
      · exact .inl z
      · rw [List.mem_singleton.mp z]; exact .inr hD
    · have nd := s1.nd
      have s1' : Sta C.B ⟨[], []⟩ (T1 ++ R) (wipeG own Γ1) (wipeE own e1) (L2.wipe σ own) H1 S1 := ⟨nd, s1.live, slW, fun i hi => nomatch hi⟩
      refine s1'.grow (post_upd hD) (List.nodup_cons.mpr ⟨fun z => nDS (memR z), (List.nodup_append.mp nd).2.1⟩) (Live.cons upd_same (s1.live.post (post_upd hD) fun _ _ z => nomatch z)) fun a ha => ?_
      rcases List.mem_cons.mp ha with z | z
      · rw [z]; exact .inr hD
      · exact .inl z
    · rintro i m H' ⟨him, dn, vs, T, e', S', r', L, o5, o6⟩
      have Oe : S' ++ (Da :: (T ++ (T1 ++ R))) = S' ++ (Da :: (T ++ (T1 ++ R))) := rfl
      obtain ⟨ys, yg⟩ := y1 (S' ++ (Da :: (T ++ (T1 ++ R)))) H' (L.po.mono fun _ => memL) (fun a ha => by
        have ha' : a ∈ S' ++ (Da :: T) ∨ a ∈ T1 ++ R := by simpa [or_assoc] using ha
        rcases ha' with z | z
        · exact (L.nw a z).imp (fun w => memL (memL w)) id
        · refine .inl ?_
          simp only [List.mem_append] at z ⊢
          exact z.elim .inr fun w => .inl (.inr w)) L.st.lives
      by_cases hlt : i < xs.length
      · have hx : xs[i]? = some xs[i] := List.getElem?_eq_getElem hlt
        obtain ⟨g1, g2⟩ := yg i _ hx
        rw [List.drop_eq_getElem_cons hlt] at o5
        obtain ⟨e3, b, e4, b1, b2, b3⟩ := lcLoop_cons o5
        refine .inr ⟨g1, fun H'' => ∃ dn vs T e' S' r', LcS C σ own Γ1 S1 (T1 ++ R) H1 me Da dn vs T e' S' H'' ∧ stp (xs.drop (i + 1)) e' = .ok r' e2 ∧ dn ++ r' = ds, fun H'' q => ⟨m - 1, by omega, by omega, q⟩, fun x H4 hy => ?_⟩
        obtain ⟨q1, q2⟩ := g2 x H4 hy
        have L4 : LcS C σ own Γ1 S1 (T1 ++ R) H1 me Da dn vs T e' S' H4 := L.none (q1.nil _) New.refl (L.st.grow q1 (List.nodup_append.mp L.st.nd).2.1 (L.st.live.post q1 fun _ _ z => nomatch z) fun _ h => .inl h)
        refine ⟨xs[i], e', S', Da :: (T ++ (T1 ++ R)), L4.st, q2, e3, b1, fun σ5 S5 oth k5 s5 => ?_⟩
        have hl5 : σ5.length = σ.length := by
          rw [s5.sl.len, hc, ← L4.st.sl.len, wipe_length]
        have hw : L2.wipe σ5 own = L2.wipe σ own := wipe_eq oth hl5 ht
        refine ⟨hw, e3, S5, _, s5, Out.of_ok b2 ⟨b, rfl, fun H5 S6 po6 ps6 n6 s6 => ?_⟩⟩
        have n5 : New S' H4 S5 := fun a ha => .inl (k5 a ha)
        have p45 : Post S' H4 H5 := (Post.refl S' H4).trans n5 po6.ite
        have n46 : New S' H4 S6 := n5.trans (Post.refl _ _) n6
        cases b with
        | false =>
          rw [if_neg Bool.false_ne_true] at b3
          dsimp only
          rw [if_neg Bool.false_ne_true]
          obtain ⟨S8, k8, s8⟩ := Sta.toW s6 hd hw
          exact ⟨dn, vs, T, e4, S8, r', L4.none p45 (fun a ha => n46 a (k8 a ha)) s8, b3, o6⟩
        | true =>
          rw [if_pos rfl] at b3
          dsimp only
          rw [if_pos rfl]
          obtain ⟨d1, e6, r2, b4, b5, b6⟩ := b3
          obtain ⟨d0, e7, b7, b8⟩ := bind_ok b4
          cases b8
          refine ⟨e4, S6, _, s6, Out.of_ok b7 fun v H7 S7 T7 po7 ps7 n7 s7 vl7 => ?_⟩
          have ow : Ow C.B (S7 ++ (T7 ++ (Da :: (T ++ (T1 ++ R))))) H7 me d0 v T7 := vl7
          obtain ⟨S8, k8, s8⟩ := Sta.toW s7 hg hw
          have p47 : Post S' H4 H7 := p45.trans n46 po7.ite
          have n47 : New S' H4 (S7 ++ T7) := n46.trans p45 n7
          have n48 : New S' H4 (S8 ++ T7) := fun a ha => n47 a ((List.mem_append.mp ha).elim (fun z => memL (k8 a z)) memR)
          have L7 := L4.item (d := d0) (v := v) p47 n48 s8 (ow.fr (Fr.sub fun a ha => (List.mem_append.mp ha).elim (fun z => memL (k8 a z)) memR) fun _ _ _ z => z)
          have hD7 : H7 Da = some (.lst vs) := p47 Da _ (fun z => disj L4.st.nd z (List.mem_cons_self ..)) L4.hD
          refine ⟨vs, hD7, ?_, dn ++ [d0], vs ++ [v], T ++ T7, e6, S8, r2, L7, b5, by rw [List.append_assoc, ← b6]; exact o6⟩
          rw [← L4.ol.len]
          have : dn.length + 1 ≤ ds.length := by rw [← o6, b6]; simp
          exact lim_line (by omega)
      · have hz : xs.drop i = [] := List.drop_eq_nil_of_le (by omega)
        rw [hz] at o5
        cases o5
        refine .inl ⟨ys i (by omega), ?_⟩
        have o6 : dn = ds := by simpa using o6
        subst o6
        have nd := L.st.nd
        have n0 : New S H (S' ++ (Da :: T)) := n1.left.trans po L.nw
        have p0 : Post S H H' := po.trans n1.left L.po
        have ndZ : ((Da :: T) ++ R).Nodup := by
          have h := (List.nodup_append.mp nd).2.1
          have sub : ((Da :: T) ++ R).Sublist (Da :: (T ++ (T1 ++ R))) := by
            refine List.Sublist.cons₂ Da ?_
            exact List.Sublist.append_left (List.sublist_append_right _ _) T
          exact sub.nodup h
        have mem : ∀ a ∈ (Da :: T) ++ R, a ∈ Da :: (T ++ (T1 ++ R)) := fun a ha => by
          simp only [List.cons_append, List.mem_cons, List.mem_append] at ha ⊢
          rcases ha with h | h | h
          · exact .inl h
          · exact .inr (.inl h)
          · exact .inr (.inr (.inr h))
        have sD := L.st.drop ndZ mem
        have f1 : Fr (S1 ++ (T1 ++ R)) (S' ++ ((Da :: T) ++ R)) H1 H' := by
          refine ⟨fun a ob n e => L.po a ob (fun z => n (memL z)) e, fun a ob n e z => ?_⟩
          have z' : a ∈ S' ++ (Da :: T) ∨ a ∈ R := by simpa [or_assoc] using z
          rcases z' with z' | z'
          · rcases L.nw a z' with w | w
            · exact n (memL w)
            · rw [e] at w; cases w
          · exact n (memR (memR z'))
        refine o2 (.ref Da) H' S' (Da :: T) p0 (fun z => nomatch z) n0 ⟨sD.nd, sD.live, Sl.back sD.sl fun i hi' m hm => ?_, s1.mp⟩ (.lst L.hD (L.ol.fr (Fr.sub fun a ha => (List.mem_append.mp ha).elim memL fun z => memR (mem a z)) fun _ _ _ z => z))
        have z := ownOk_get hown hi' hm
        subst z
        obtain ⟨d, v, U, h1, h2, h3, h4⟩ := s1.sl.get hm
        have zU := h4.v_nil
        subst zU
        exact ⟨rfl, d, v, h1, h2, h4.fr f1 fun _ z => nomatch z⟩
theorem w_lc {elt tg iter : Expr} {ifs : List Expr} {scope : Scope} {ow : List (Str × Nat)} {pos : Pos} (g : Gd X C) (hi : SI X C p Γ tg iter it Γ1) (ok : BlkOk X.N X.env.scope scope ow)
    (hg : ∀ (s : Shared) (H : Hp) (L : Addr) (cl : List (Str × Addr)) (fp : List Addr), Gd (X.blk s H scope (compEnvC scope cl L X.env) fp) (blkC C) → SG (X.blk s H scope (compEnvC scope cl L X.env) fp) (blkC C) (wipeG (ow.map (·.2)) Γ1) tg t Γc)
    (ht : ∀ (s : Shared) (H : Hp) (L : Addr) (cl : List (Str × Addr)) (fp : List Addr), Gd (X.blk s H scope (compEnvC scope cl L X.env) fp) (blkC C) → STs (X.blk s H scope (compEnvC scope cl L X.env) fp) (blkC C) pt Γc ifs c Γd)
    (he : ∀ (s : Shared) (H : Hp) (L : Addr) (cl : List (Str × Addr)) (fp : List Addr), Gd (X.blk s H scope (compEnvC scope cl L X.env) fp) (blkC C) → SE (X.blk s H scope (compEnvC scope cl L X.env) fp) (blkC C) pe Γd elt f (.own me) Γe)
    (l1 : leG Γe (wipeG (ow.map (·.2)) Γ1) = true := by rfl) (l2 : leG Γd (wipeG (ow.map (·.2)) Γ1) = true := by rfl) (l3 : Γc.length = (wipeG (ow.map (·.2)) Γ1).length := by rfl) (l4 : ∀ i ∈ tgS t, i ∈ ow.map (·.2) := by decide) (l5 : ownOk (ow.map (·.2)) Γ1 = true := by rfl)
    (hs : ∀ x, foldedSetIterable iter X.env x = pure x := by intro _; rfl) : SE X C false Γ (.ListComp elt [⟨tg, iter, ifs, 0⟩] scope pos) (.lc (ow.map (·.2)) f t it c) (.own (.l me)) Γ1 :=
  PE.imp (pe_lc g.calm g.nd hi ok (fun s H L cl fp => hg s H L cl fp g.blk) (fun s H L cl fp => ht s H L cl fp g.blk) (fun s H L cl fp => he s H L cl fp g.blk) hs) fun σ H Q h => c_lc l1 l2 l3 l4 l5 h
theorem s_setLc {elt tg iter : Expr} {ifs : List Expr} {scope : Scope} {ow : List (Str × Nat)} {pos spos py : Pos} {i : Nat} {y : Str} (g : Gd X C) (hi : SI X C p Γ tg iter it Γ1) (ok : BlkOk X.N X.env.scope scope ow)
    (hg : ∀ (s : Shared) (H : Hp) (L : Addr) (cl : List (Str × Addr)) (fp : List Addr), Gd (X.blk s H scope (compEnvC scope cl L X.env) fp) (blkC C) → SG (X.blk s H scope (compEnvC scope cl L X.env) fp) (blkC C) (wipeG (ow.map (·.2)) Γ1) tg t Γc)
    (ht : ∀ (s : Shared) (H : Hp) (L : Addr) (cl : List (Str × Addr)) (fp : List Addr), Gd (X.blk s H scope (compEnvC scope cl L X.env) fp) (blkC C) → STs (X.blk s H scope (compEnvC scope cl L X.env) fp) (blkC C) pt Γc ifs c Γd)
    (he : ∀ (s : Shared) (H : Hp) (L : Addr) (cl : List (Str × Addr)) (fp : List Addr), Gd (X.blk s H scope (compEnvC scope cl L X.env) fp) (blkC C) → SE (X.blk s H scope (compEnvC scope cl L X.env) fp) (blkC C) pe Γd elt f (.own me) Γe)
    (hy : X.N[i]? = some y := by rfl) (hl : i < Γ1.length := by decide) (hM : C.M.mi.contains i = false := by rfl) (hyl : X.env.scope.names.lookup y = some .local := by rfl)
    (hsw : swapsWith (.ListComp elt [⟨tg, iter, ifs, 0⟩] scope pos) (some (.Name y py)) spos.line X.env = pure true := by exact sw_true rfl rfl rfl rfl)
    (l1 : leG Γe (wipeG (ow.map (·.2)) Γ1) = true := by rfl) (l2 : leG Γd (wipeG (ow.map (·.2)) Γ1) = true := by rfl) (l3 : Γc.length = (wipeG (ow.map (·.2)) Γ1).length := by rfl) (l4 : ∀ i ∈ tgS t, i ∈ ow.map (·.2) := by decide) (l5 : ownOk (ow.map (·.2)) Γ1 = true := by rfl)
    (hs : ∀ x, foldedSetIterable iter X.env x = pure x := by intro _; rfl) : SS X C Γ (.Assign [.Name y py] (.ListComp elt [⟨tg, iter, ifs, 0⟩] scope pos) spos) (.asg (.nm i) (.lc (ow.map (·.2)) f t it c)) (Γ1.set i (some (.l me))) :=
  PS.imp (ps_setLc g.calm g.nd hy hyl hsw hi ok (fun s H L cl fp => hg s H L cl fp g.blk) (fun s H L cl fp => ht s H L cl fp g.blk) (fun s H L cl fp => he s H L cl fp g.blk) hs) fun E σ H ⟨e, S, R, s, o⟩ =>
    c_lc l1 l2 l3 l4 l5 (stm1 (f := fun d e1 => .ok .nxt (st e1 i (some d))) s o fun d e1 v H1 S1 T1 a1 v1 n1 o1 => by
      obtain ⟨S', h1, h2⟩ := a1.sta.bind v1 hl hM
      exact o1 _ H1 S' a1.po.ite (fun x hx => n1 x (h1 x hx)) h2)
end
end Mi
namespace Mi
open PySem PySem.Spec PyProof.Rows L2
theorem wipe_in {ρ : VS} : ∀ {own : List Nat} {i : Nat}, i ∈ own → (L2.wipe ρ own)[i]? = if i < ρ.length then some none else none
  | j :: own, i, hi => by
    show ((L2.wipe ρ own).set j none)[i]? = _
    by_cases e : j = i
    · subst e
      by_cases hl : j < ρ.length
      · rw [if_pos hl, List.getElem?_set_self (by rw [wipe_length]; exact hl)]
      · rw [if_neg hl, List.getElem?_eq_none (by simp [wipe_length]; omega)]
    · rw [List.getElem?_set_ne e]
      exact wipe_in ((List.mem_cons.mp hi).elim (fun z => absurd z.symm e) id)
theorem wipe_wipe {σ : VS} {own own2 : List Nat} (h : ∀ i ∈ own2, i ∈ own) : L2.wipe (L2.wipe σ own2) own = L2.wipe σ own := by
  refine List.ext_getElem? fun i => ?_
  by_cases hi : i ∈ own
  · rw [wipe_in hi, wipe_in hi, wipe_length]
  · rw [wipe_out hi, wipe_out hi, wipe_out fun z => hi (h i z)]
section
variable {X : Cx} {C : Cf} {p p2 pt pt2 pe : Bool} {Γ Γ1 Γc Γd Γe Γf Γg Γh : G} {it it2 : Mi.It} {t t2 : Tg} {c c2 f : Ex} {own own2 : List Nat} {me : Md}
theorem lc_turn (hg : leG Γe (wipeG own Γ1) = true) (hd : leG Γd (wipeG own Γ1) = true) (hc : Γc.length = (wipeG own Γ1).length) (ht : ∀ i ∈ tgS t, i ∈ own)
    {σ : VS} {S1 Z : List Addr} {H1 : Hp} {Da : Addr} {dn : List D} {vs : List V} {T : List Addr} {e' : Env} {S' : List Addr} {H4 : Hp} (L4 : LcS C σ own Γ1 S1 Z H1 me Da dn vs T e' S' H4) {x : D} {v : V}
    (q2 : Ow C.B (S' ++ (Da :: (T ++ Z))) H4 .v x v []) {e1 e3 : Env} {b : Bool} (b1 : bindT t x e' = some e1) (b2 : evE C.F c e1 = .ok (.bl b) e3) {d0 : D} {e4 : Env} (b3 : b = true → evE C.F f e3 = .ok d0 e4) (hlen : b = true → dn.length + 1 < LIM) {Nx : Hp → Prop}
    (nx : ∀ vs' T' S8 H8, Post (Da :: S') H4 H8 → (∀ a ∈ S8 ++ T', a ∈ S' ++ T ∨ H4 a = none) → LcS C σ own Γ1 S1 Z H1 me Da (if b = true then dn ++ [d0] else dn) vs' T' (if b = true then e4 else e3) S8 H8 → Nx H8) :
    tG (blkC C) (wipeG own Γ1) t Γc v (L2.wipe σ own) H4 fun σ2 H2 => L2.wipe σ2 own = L2.wipe σ own ∧ tT (blkC C) pt Γc c Γd σ2 H2 fun b H3 =>
      if b = true then tE (blkC C) pe Γd f (.own me) Γe σ2 H3 fun y H4 => ∃ acc, H4 Da = some (.lst acc) ∧ acc.length < sizeLine ∧ Nx (L2.upd H4 Da (.lst (acc ++ [y]))) else Nx H3 := by
  refine ⟨x, e', S', Da :: (T ++ Z), L4.st, q2, e1, b1, fun σ5 S5 oth k5 s5 => ?_⟩
  have hl5 : σ5.length = σ.length := by rw [s5.sl.len, hc, ← L4.st.sl.len, wipe_length]
  have hw : L2.wipe σ5 own = L2.wipe σ own := wipe_eq oth hl5 ht
  refine ⟨hw, e1, S5, _, s5, Out.of_ok b2 ⟨b, rfl, fun H5 S6 po6 ps6 n6 s6 => ?_⟩⟩
  have n5 : New S' H4 S5 := fun a ha => .inl (k5 a ha)
  have p45 : Post S' H4 H5 := (Post.refl S' H4).trans n5 po6.ite
  have n46 : New S' H4 S6 := n5.trans (Post.refl _ _) n6
  cases b with
  | false =>
    dsimp only
    rw [if_neg Bool.false_ne_true]
    obtain ⟨S8, k8, s8⟩ := Sta.toW s6 hd hw
    refine nx vs T S8 H5 (p45.mono fun a ha => List.mem_cons_of_mem _ ha) (fun a ha => ?_) ?_
    · rcases List.mem_append.mp ha with z | z
      · exact (n46 a (k8 a z)).imp memL id
      · exact .inl (memR z)
    · rw [if_neg Bool.false_ne_true, if_neg Bool.false_ne_true]
      exact L4.none p45 (fun a ha => n46 a (k8 a ha)) s8
  | true =>
    dsimp only
    rw [if_pos rfl]
    refine ⟨e3, S6, _, s6, Out.of_ok (b3 rfl) fun v H7 S7 T7 po7 ps7 n7 s7 vl7 => ?_⟩
    have ow : Ow C.B (S7 ++ (T7 ++ (Da :: (T ++ Z)))) H7 me d0 v T7 := vl7
    obtain ⟨S8, k8, s8⟩ := Sta.toW s7 hg hw
    have p47 : Post S' H4 H7 := p45.trans n46 po7.ite
    have n47 : New S' H4 (S7 ++ T7) := n46.trans p45 n7
    have n48 : New S' H4 (S8 ++ T7) := fun a ha => n47 a ((List.mem_append.mp ha).elim (fun z => memL (k8 a z)) memR)
    have L7 := L4.item (d := d0) (v := v) p47 n48 s8 (ow.fr (Fr.sub fun a ha => (List.mem_append.mp ha).elim (fun z => memL (k8 a z)) memR) fun _ _ _ z => z)
    have hD7 : H7 Da = some (.lst vs) := p47 Da _ (fun z => disj L4.st.nd z (List.mem_cons_self ..)) L4.hD
    refine ⟨vs, hD7, ?_, nx _ _ _ _ (fun a o n e => ?_) (fun a ha => ?_) (by rw [if_pos rfl, if_pos rfl]; exact L7)⟩
    · rw [← L4.ol.len]
      exact lim_line (hlen rfl)
    · rw [upd_ne fun z => n (by rw [z]; exact List.mem_cons_self ..)]
      exact p47 a o (fun z => n (List.mem_cons_of_mem _ z)) e
    · rcases List.mem_append.mp ha with z | z
      · exact (n48 a (memL z)).imp memL id
      · rcases List.mem_append.mp z with z | z
        · exact .inl (memR z)
        · exact (n48 a (memR z)).imp memL id
theorem c_lc2 (hg : leG Γe (wipeG own2 Γf) = true) (hd : leG Γh (wipeG own2 Γf) = true) (hc : Γg.length = (wipeG own2 Γf).length) (ht : ∀ i ∈ tgS t2, i ∈ own2)
    (hd1 : leG Γd (wipeG own Γ1) = true) (hc1 : Γc.length = (wipeG own Γ1).length) (ht1 : ∀ i ∈ tgS t, i ∈ own) (hown : ownOk own Γ1 = true) (ho2 : ∀ i ∈ own2, i ∈ own) (hf1 : leG Γf (wipeG own2 Γf) = true) (hf2 : leG (wipeG own2 Γf) (wipeG own Γ1) = true) {σ : VS} {H : Hp} {Q : VK}
    (h : tE C false Γ (.lc2 own own2 f t it c t2 it2 c2) (.own (.l me)) Γ1 σ H Q) : tLc2 (tI C p Γ it Γ1) (tG (blkC C) (wipeG own Γ1) t Γc) (tT (blkC C) pt Γc c Γd) (tI (blkC C) p2 Γd it2 Γf) (tG (blkC C) (wipeG own2 Γf) t2 Γg) (tT (blkC C) pt2 Γg c2 Γh) (tE (blkC C) pe Γh f (.own me) Γe) own own2 σ H Q := by
  obtain ⟨e, S, R, s, o⟩ := h
  have o : Out C σ H S R (OkE C σ H S R false (.own (.l me)) Γ1 Q) ((evIt C.F it e).bind fun xs e1 => noErr ((lcLoop (bindT t) (fun e => evE C.F c e) (fun e => (evIt C.F it2 e).bind fun ys e1 =>
      lcLoop (bindT t2) (fun e => evE C.F c2 e) (fun e => (evE C.F f e).bind fun d e1 => .ok [d] e1) ys e1) xs (wipeE own e1)).bind fun ds e2 =>
    if ds.length < LIM then .ok (.lst ds) (backE own e1 e2) else .bad)) := o
  refine ⟨e, S, R, s, ?_⟩
  cases hi : evIt C.F it e with
  | bad => rw [hi] at o; exact o
  | err k fs e' => rw [hi] at o; exact o
  | ok xs e1 =>
    rw [hi] at o
    obtain ⟨rr, ee, o1, o2⟩ := noErr_ok o
    obtain ⟨ds, e2, o3, o4⟩ := bind_ok o1
    split at o4
    case isFalse => cases o4
    rename_i hlim
    cases o4
    intro J H1 S1 T1 po ps n1 s1 y1
    have po := po.ite
    intro Da hD
    let stp2 : List D → Env → Mi.R (List D) := lcLoop (bindT t2) (fun e => evE C.F c2 e) (fun e => (evE C.F f e).bind fun d e1 => .ok [d] e1)
    let stp : List D → Env → Mi.R (List D) := lcLoop (bindT t) (fun e => evE C.F c e) (fun e => (evIt C.F it2 e).bind fun ys e1 => stp2 ys e1)
    have o3 : stp xs (wipeE own e1) = .ok ds e2 := o3
    have nDS : Da ∉ S1 ++ (T1 ++ R) := notLive s1.lives hD
    have slW := Sl.wipe (own := own) s1.sl fun i hi' m hm => ownOk_get hown hi' hm
    refine ⟨fun i m H' => i + m = xs.length ∧ ∃ dn vs T e' S' r', LcS C σ own Γ1 S1 (T1 ++ R) H1 me Da dn vs T e' S' H' ∧ stp (xs.drop i) e' = .ok r' e2 ∧ dn ++ r' = ds, ⟨xs.length, by simp, [], [], [], wipeE own e1, S1, ds, ⟨?_, ?_, upd_same, .nil, ?_⟩, by simpa using o3, rfl⟩, ?_⟩
    · exact (post_upd hD).nil _
    · intro a ha
      rcases List.mem_append.mp ha with z | z
      · exact .inl z
      · rw [List.mem_singleton.mp z]; exact .inr hD
    · have nd := s1.nd
      have s1' : Sta C.B ⟨[], []⟩ (T1 ++ R) (wipeG own Γ1) (wipeE own e1) (L2.wipe σ own) H1 S1 := ⟨nd, s1.live, slW, fun i hi => nomatch hi⟩
      refine s1'.grow (post_upd hD) (List.nodup_cons.mpr ⟨fun z => nDS (memR z), (List.nodup_append.mp nd).2.1⟩) (Live.cons upd_same (s1.live.post (post_upd hD) fun _ _ z => nomatch z)) fun a ha => ?_
      rcases List.mem_cons.mp ha with z | z
      · rw [z]; exact .inr hD
      · exact .inl z
    · rintro i m H' ⟨him, dn, vs, T, e', S', r', L, o5, o6⟩
      obtain ⟨ys, yg⟩ := y1 (S' ++ (Da :: (T ++ (T1 ++ R)))) H' (L.po.mono fun _ => memL) (fun a ha => by
        have ha' : a ∈ S' ++ (Da :: T) ∨ a ∈ T1 ++ R := by simpa [or_assoc] using ha
        rcases ha' with z | z
        · exact (L.nw a z).imp (fun w => memL (memL w)) id
        · refine .inl ?_
          simp only [List.mem_append] at z ⊢
          exact z.elim .inr fun w => .inl (.inr w)) L.st.lives
      by_cases hlt : i < xs.length
      · have hx : xs[i]? = some xs[i] := List.getElem?_eq_getElem hlt
        obtain ⟨g1, g2⟩ := yg i _ hx
        rw [List.drop_eq_getElem_cons hlt] at o5
        obtain ⟨e3, b, e4, b1, b2, b3⟩ := lcLoop_cons o5
        refine .inr ⟨g1, fun H'' => ∃ dn vs T e' S' r', LcS C σ own Γ1 S1 (T1 ++ R) H1 me Da dn vs T e' S' H'' ∧ stp (xs.drop (i + 1)) e' = .ok r' e2 ∧ dn ++ r' = ds, fun H'' q => ⟨m - 1, by omega, by omega, q⟩, fun x H4 hy => ?_⟩
        obtain ⟨q1, q2⟩ := g2 x H4 hy
        have L4 : LcS C σ own Γ1 S1 (T1 ++ R) H1 me Da dn vs T e' S' H4 := L.none (q1.nil _) New.refl (L.st.grow q1 (List.nodup_append.mp L.st.nd).2.1 (L.st.live.post q1 fun _ _ z => nomatch z) fun _ h => .inl h)
        refine ⟨xs[i], e', S', Da :: (T ++ (T1 ++ R)), L4.st, q2, e3, b1, fun σ5 S5 oth k5 s5 => ?_⟩
        have hl5 : σ5.length = σ.length := by rw [s5.sl.len, hc1, ← L4.st.sl.len, wipe_length]
        have hw : L2.wipe σ5 own = L2.wipe σ own := wipe_eq oth hl5 ht1
        refine ⟨hw, e3, S5, _, s5, Out.of_ok b2 ⟨b, rfl, fun H5 S6 po6 ps6 n6 s6 => ?_⟩⟩
        have n5 : New S' H4 S5 := fun a ha => .inl (k5 a ha)
        have p45 : Post S' H4 H5 := (Post.refl S' H4).trans n5 po6.ite
        have n46 : New S' H4 S6 := n5.trans (Post.refl _ _) n6
        cases b with
        | false =>
          rw [if_neg Bool.false_ne_true] at b3
          dsimp only
          rw [if_neg Bool.false_ne_true]
          obtain ⟨S8, k8, s8⟩ := Sta.toW s6 hd1 hw
          exact ⟨dn, vs, T, e4, S8, r', L4.none p45 (fun a ha => n46 a (k8 a ha)) s8, b3, o6⟩
        | true =>
          rw [if_pos rfl] at b3
          dsimp only
          rw [if_pos rfl]
          obtain ⟨dd, e6, r2, b4, b5, b6⟩ := b3
          obtain ⟨us, e7, b7, b8⟩ := bind_ok b4
          refine ⟨e4, S6, _, s6, Out.of_ok b7 fun J1 H6 S7 T7 po7 ps7 n7 s7 y7 => ?_⟩
          have p47 : Post S' H4 H6 := p45.trans n46 po7.ite
          have n47 : New S' H4 (S7 ++ T7) := n46.trans p45 n7
          have memZ : ∀ a, a ∈ Da :: (T ++ (T7 ++ (T1 ++ R))) ↔ a ∈ T7 ++ (Da :: (T ++ (T1 ++ R))) := fun a => by
            simp only [List.mem_append, List.mem_cons]
            constructor
            · rintro (h | h | h | h)
              · exact .inr (.inl h)
              · exact .inr (.inr (.inl h))
              · exact .inl h
              · exact .inr (.inr (.inr h))
            · rintro (h | h | h | h)
              · exact .inr (.inr (.inl h))
              · exact .inl h
              · exact .inr (.inl h)
              · exact .inr (.inr (.inr h))
          have ndI : (Da :: (T ++ (T7 ++ (T1 ++ R)))).Nodup := by
            have hnd := (List.nodup_append.mp s7.nd).2.1
            have perm : (Da :: (T ++ (T7 ++ (T1 ++ R)))).Perm (T7 ++ (Da :: (T ++ (T1 ++ R)))) := by
              refine List.Perm.trans (.cons Da ?_) List.perm_middle.symm
              exact List.perm_append_comm_assoc T T7 (T1 ++ R)
            exact perm.nodup_iff.mpr hnd
          obtain ⟨S8, k8, s8⟩ := Sta.toW (σ := σ5) (own := own2) (Γ := Γf) (s7.drop ndI fun a ha => (memZ a).mp ha) hf1 rfl
          have n48 : New S' H4 S8 := fun a ha => n47 a (memL (k8 a ha))
          have ndL := L4.st.nd
          have LI : LcS C σ5 own2 Γf S1 (T7 ++ (T1 ++ R)) H1 me Da dn vs T e7 S8 H6 := by
            refine ⟨L4.po.trans L4.nw.left p47, fun a ha => ?_, p47 Da _ (fun z => disj ndL z (List.mem_cons_self ..)) L4.hD, L4.ol.fr ⟨fun a o n e => p47 a o (fun z => n (memL z)) e, fun a o n e z => ?_⟩ fun a ha o e => p47 a o (fun z => disj ndL z (List.mem_cons_of_mem _ (memL ha))) e, s8⟩
            · rcases List.mem_append.mp ha with z | z
              · exact (L4.nw.left.trans L4.po n48) a z
              · exact L4.nw.right a z
            · have z' : a ∈ S7 ++ T7 ∨ a ∈ Da :: (T ++ (T1 ++ R)) := by
                rcases List.mem_append.mp z with w | w
                · exact .inl (memL (k8 a w))
                · exact (List.mem_append.mp ((memZ a).mp w)).imp memR id
              rcases z' with z' | z'
              · rcases n47 a z' with w | w
                · exact n (memL w)
                · rw [e] at w; cases w
              · exact n (memR z')
          refine ⟨fun j k H' => j + k = us.length ∧ ∃ dn2 vs T2 e' S' r', Post (S7 ++ (Da :: (T ++ (T1 ++ R)))) H6 H' ∧ (∀ a ∈ S' ++ T2, a ∈ S7 ++ (Da :: (T ++ (T1 ++ R))) ∨ H6 a = none) ∧ LcS C σ5 own2 Γf S1 (T7 ++ (T1 ++ R)) H1 me Da dn2 vs T2 e' S' H' ∧ stp2 (us.drop j) e' = .ok r' e6 ∧ dn2 ++ r' = dn ++ dd,
            ⟨us.length, by simp, dn, vs, T, e7, S8, dd, Post.refl _ _, fun a ha => ?_, LI, by simpa using b8, rfl⟩, ?_⟩
          · rcases List.mem_append.mp ha with z | z
            · exact .inl (memL (k8 a z))
            · exact .inl (memR (List.mem_cons_of_mem _ (memL z)))
          · rintro j k H8 ⟨hjk, dn2, vs2, T2, e8, S9, r3, po9, nw9, L9, c5, c6⟩
            have hlive := L9.st.lives
            obtain ⟨zs, zg⟩ := y7 (S9 ++ (Da :: (T2 ++ (T7 ++ (T1 ++ R))))) H8 po9 (fun a ha => by
              have ha' : a ∈ S9 ++ T2 ∨ a ∈ (S7 ++ (Da :: (T ++ (T1 ++ R)))) ++ T7 := by
                simp only [List.mem_append, List.mem_cons] at ha ⊢
                rcases ha with h | h | h | h | h
                · exact .inl (.inl h)
                · exact .inr (.inl (.inr (.inl h)))
                · exact .inl (.inr h)
                · exact .inr (.inr h)
                · exact .inr (.inl (.inr (.inr (.inr h))))
              rcases ha' with z | z
              · exact (nw9 a z).imp memL id
              · exact .inl z) hlive
            by_cases hlt2 : j < us.length
            · have hx2 : us[j]? = some us[j] := List.getElem?_eq_getElem hlt2
              obtain ⟨h1, h2⟩ := zg j _ hx2
              rw [List.drop_eq_getElem_cons hlt2] at c5
              obtain ⟨e9, b', e10, d1, d2, d3⟩ := lcLoop_cons c5
              refine .inr ⟨h1, fun H'' => ∃ dn2 vs T2 e' S' r', Post (S7 ++ (Da :: (T ++ (T1 ++ R)))) H6 H'' ∧ (∀ a ∈ S' ++ T2, a ∈ S7 ++ (Da :: (T ++ (T1 ++ R))) ∨ H6 a = none) ∧ LcS C σ5 own2 Γf S1 (T7 ++ (T1 ++ R)) H1 me Da dn2 vs T2 e' S' H'' ∧ stp2 (us.drop (j + 1)) e' = .ok r' e6 ∧ dn2 ++ r' = dn ++ dd, fun H'' q => ⟨k - 1, by omega, by omega, q⟩, fun y H9 hy9 => ?_⟩
              obtain ⟨r1, r2'⟩ := h2 y H9 hy9
              have L10 : LcS C σ5 own2 Γf S1 (T7 ++ (T1 ++ R)) H1 me Da dn2 vs2 T2 e8 S9 H9 := L9.none (r1.nil _) New.refl (L9.st.grow r1 (List.nodup_append.mp L9.st.nd).2.1 (L9.st.live.post r1 fun _ _ z => nomatch z) fun _ h => .inl h)
              have po10 : Post (S7 ++ (Da :: (T ++ (T1 ++ R)))) H6 H9 := fun a o n e => r1 a o (fun z => nomatch z) (po9 a o n e)
              have key : ∀ {H8' : Hp} {S8' T8' : List Addr}, Post (Da :: S9) H9 H8' → (∀ a ∈ S8' ++ T8', a ∈ S9 ++ T2 ∨ H9 a = none) → Post (S7 ++ (Da :: (T ++ (T1 ++ R)))) H6 H8' ∧ (∀ a ∈ S8' ++ T8', a ∈ S7 ++ (Da :: (T ++ (T1 ++ R))) ∨ H6 a = none) := fun {H8' S8' T8'} pp nn => by
                refine ⟨fun a o n e => pp a o (fun z => ?_) (po10 a o n e), fun a ha => ?_⟩
                · rcases List.mem_cons.mp z with w | w
                  · exact n (memR (by rw [w]; exact List.mem_cons_self ..))
                  · rcases nw9 a (memL w) with u | u
                    · exact n u
                    · rw [e] at u; cases u
                · rcases nn a ha with w | w
                  · exact nw9 a w
                  · by_cases hm : a ∈ S7 ++ (Da :: (T ++ (T1 ++ R)))
                    · exact .inl hm
                    · refine .inr ?_
                      cases hq : H6 a with
                      | none => rfl
                      | some o =>
                        rw [po10 a o hm hq] at w
                        cases w
              cases b' with
              | false =>
                rw [if_neg Bool.false_ne_true] at d3
                refine lc_turn (d0 := .non) (e4 := e10) hg hd hc ht L10 r2' d1 d2 (fun z => nomatch z) (fun z => nomatch z) fun vs' T' S8' H8' pp nn LL => ?_
                rw [if_neg Bool.false_ne_true, if_neg Bool.false_ne_true] at LL
                obtain ⟨k1, k2⟩ := key pp nn
                exact ⟨dn2, vs', T', e10, S8', r3, k1, k2, LL, d3, c6⟩
              | true =>
                rw [if_pos rfl] at d3
                obtain ⟨d5, e11, r4, d6, d7, d8⟩ := d3
                obtain ⟨d9, e12, d10, d11⟩ := bind_ok d6
                cases d11
                have hl : dn2.length + 1 < LIM := by
                  have h1 := congrArg List.length c6
                  have h2 := congrArg List.length o6
                  rw [d8] at h1
                  rw [b6] at h2
                  simp at h1 h2
                  omega
                refine lc_turn hg hd hc ht L10 r2' d1 d2 (fun _ => d10) (fun _ => hl) fun vs' T' S8' H8' pp nn LL => ?_
                rw [if_pos rfl, if_pos rfl] at LL
                obtain ⟨k1, k2⟩ := key pp nn
                exact ⟨dn2 ++ [d9], vs', T', e11, S8', r4, k1, k2, LL, d7, by rw [List.append_assoc, ← d8]; exact c6⟩
            · have hz : us.drop j = [] := List.drop_eq_nil_of_le (by omega)
              rw [hz] at c5
              cases c5
              refine .inl ⟨zs j (by omega), ?_⟩
              have c6 : dn2 = dn ++ dd := by simpa using c6
              have ndO : (Da :: (T2 ++ (T1 ++ R))).Nodup := by
                refine List.Sublist.nodup (List.Sublist.cons₂ Da ?_) (List.nodup_append.mp L9.st.nd).2.1
                exact List.Sublist.append_left (List.sublist_append_right _ _) T2
              have memO : ∀ a ∈ Da :: (T2 ++ (T1 ++ R)), a ∈ Da :: (T2 ++ (T7 ++ (T1 ++ R))) := fun a ha => by
                simp only [List.mem_append, List.mem_cons] at ha ⊢
                rcases ha with h | h | h
                · exact .inl h
                · exact .inr (.inl h)
                · exact .inr (.inr (.inr h))
              obtain ⟨S10, k10, s10⟩ := Sta.toW (σ := σ) (own := own) (Γ := Γ1) (L9.st.drop ndO memO) hf2 (by rw [wipe_wipe ho2, hw])
              refine ⟨dn2, vs2, T2, _, S10, r2, ⟨L9.po, fun a ha => L9.nw a ((List.mem_append.mp ha).elim (fun z => memL (k10 a z)) memR), L9.hD, L9.ol.fr (Fr.sub fun a ha => (List.mem_append.mp ha).elim (fun z => memL (k10 a z)) fun z => memR (memO a z)) fun _ _ _ z => z, s10⟩, b5, ?_⟩
              rw [c6, List.append_assoc, ← b6]
              exact o6
      · have hz : xs.drop i = [] := List.drop_eq_nil_of_le (by omega)
        rw [hz] at o5
        cases o5
        refine .inl ⟨ys i (by omega), ?_⟩
        have o6 : dn = ds := by simpa using o6
        subst o6
        have nd := L.st.nd
        have n0 : New S H (S' ++ (Da :: T)) := n1.left.trans po L.nw
        have p0 : Post S H H' := po.trans n1.left L.po
        have ndZ : ((Da :: T) ++ R).Nodup := by
          have h := (List.nodup_append.mp nd).2.1
          have sub : ((Da :: T) ++ R).Sublist (Da :: (T ++ (T1 ++ R))) := by
            refine List.Sublist.cons₂ Da ?_
            exact List.Sublist.append_left (List.sublist_append_right _ _) T
          exact sub.nodup h
        have mem : ∀ a ∈ (Da :: T) ++ R, a ∈ Da :: (T ++ (T1 ++ R)) := fun a ha => by
          simp only [List.cons_append, List.mem_cons, List.mem_append] at ha ⊢
          rcases ha with h | h | h
          · exact .inl h
          · exact .inr (.inl h)
          · exact .inr (.inr (.inr h))
        have sD := L.st.drop ndZ mem
        have f1 : Fr (S1 ++ (T1 ++ R)) (S' ++ ((Da :: T) ++ R)) H1 H' := by
          refine ⟨fun a ob n e => L.po a ob (fun z => n (memL z)) e, fun a ob n e z => ?_⟩
          have z' : a ∈ S' ++ (Da :: T) ∨ a ∈ R := by simpa [or_assoc] using z
          rcases z' with z' | z'
          · rcases L.nw a z' with w | w
            · exact n (memL w)
            · rw [e] at w; cases w
          · exact n (memR (memR z'))
        refine o2 (.ref Da) H' S' (Da :: T) p0 (fun z => nomatch z) n0 ⟨sD.nd, sD.live, Sl.back sD.sl fun i hi' m hm => ?_, s1.mp⟩ (.lst L.hD (L.ol.fr (Fr.sub fun a ha => (List.mem_append.mp ha).elim memL fun z => memR (mem a z)) fun _ _ _ z => z))
        have z := ownOk_get hown hi' hm
        subst z
        obtain ⟨d, v, U, h1, h2, h3, h4⟩ := s1.sl.get hm
        have zU := h4.v_nil
        subst zU
        exact ⟨rfl, d, v, h1, h2, h4.fr f1 fun _ z => nomatch z⟩
theorem w_lc2 {elt tg iter tg2 iter2 : Expr} {ifs ifs2 : List Expr} {scope : Scope} {ow : List (Str × Nat)} {pos : Pos} (g : Gd X C) (hi : SI X C p Γ tg iter it Γ1) (ok : BlkOk X.N X.env.scope scope ow)
    (hg : ∀ (s : Shared) (H : Hp) (L : Addr) (cl : List (Str × Addr)) (fp : List Addr), Gd (X.blk s H scope (compEnvC scope cl L X.env) fp) (blkC C) → SG (X.blk s H scope (compEnvC scope cl L X.env) fp) (blkC C) (wipeG (ow.map (·.2)) Γ1) tg t Γc)
    (ht : ∀ (s : Shared) (H : Hp) (L : Addr) (cl : List (Str × Addr)) (fp : List Addr), Gd (X.blk s H scope (compEnvC scope cl L X.env) fp) (blkC C) → STs (X.blk s H scope (compEnvC scope cl L X.env) fp) (blkC C) pt Γc ifs c Γd)
    (hi2 : ∀ (s : Shared) (H : Hp) (L : Addr) (cl : List (Str × Addr)) (fp : List Addr), Gd (X.blk s H scope (compEnvC scope cl L X.env) fp) (blkC C) → SI (X.blk s H scope (compEnvC scope cl L X.env) fp) (blkC C) p2 Γd tg2 iter2 it2 Γf)
    (hg2 : ∀ (s : Shared) (H : Hp) (L : Addr) (cl : List (Str × Addr)) (fp : List Addr), Gd (X.blk s H scope (compEnvC scope cl L X.env) fp) (blkC C) → SG (X.blk s H scope (compEnvC scope cl L X.env) fp) (blkC C) (wipeG own2 Γf) tg2 t2 Γg)
    (ht2 : ∀ (s : Shared) (H : Hp) (L : Addr) (cl : List (Str × Addr)) (fp : List Addr), Gd (X.blk s H scope (compEnvC scope cl L X.env) fp) (blkC C) → STs (X.blk s H scope (compEnvC scope cl L X.env) fp) (blkC C) pt2 Γg ifs2 c2 Γh)
    (he : ∀ (s : Shared) (H : Hp) (L : Addr) (cl : List (Str × Addr)) (fp : List Addr), Gd (X.blk s H scope (compEnvC scope cl L X.env) fp) (blkC C) → SE (X.blk s H scope (compEnvC scope cl L X.env) fp) (blkC C) pe Γh elt f (.own me) Γe)
    (l1 : leG Γe (wipeG own2 Γf) = true := by rfl) (l2 : leG Γh (wipeG own2 Γf) = true := by rfl) (l3 : Γg.length = (wipeG own2 Γf).length := by rfl) (l4 : ∀ i ∈ tgS t2, i ∈ own2 := by decide)
    (m1 : leG Γd (wipeG (ow.map (·.2)) Γ1) = true := by rfl) (m2 : Γc.length = (wipeG (ow.map (·.2)) Γ1).length := by rfl) (m3 : ∀ i ∈ tgS t, i ∈ ow.map (·.2) := by decide) (m4 : ownOk (ow.map (·.2)) Γ1 = true := by rfl)
    (m5 : ∀ i ∈ own2, i ∈ ow.map (·.2) := by decide) (m6 : leG Γf (wipeG own2 Γf) = true := by rfl) (m7 : leG (wipeG own2 Γf) (wipeG (ow.map (·.2)) Γ1) = true := by rfl)
    (hs : ∀ x, foldedSetIterable iter X.env x = pure x := by intro _; rfl) (hs2 : ∀ env x, foldedSetIterable iter2 env x = pure x := by intro _ _; rfl) :
    SE X C false Γ (.ListComp elt [⟨tg, iter, ifs, 0⟩, ⟨tg2, iter2, ifs2, 0⟩] scope pos) (.lc2 (ow.map (·.2)) own2 f t it c t2 it2 c2) (.own (.l me)) Γ1 :=
  PE.imp (pe_lc2 g.calm g.nd hi ok m5 (fun s H L cl fp => hg s H L cl fp g.blk) (fun s H L cl fp => ht s H L cl fp g.blk) (fun s H L cl fp => hi2 s H L cl fp g.blk) (fun s H L cl fp => hg2 s H L cl fp g.blk) (fun s H L cl fp => ht2 s H L cl fp g.blk) (fun s H L cl fp => he s H L cl fp g.blk) hs hs2) fun σ H Q h => c_lc2 l1 l2 l3 l4 m1 m2 m3 m4 m5 m6 m7 h
theorem s_setLc2 {elt tg iter tg2 iter2 : Expr} {ifs ifs2 : List Expr} {scope : Scope} {ow : List (Str × Nat)} {pos spos py : Pos} {i : Nat} {y : Str} (g : Gd X C) (hi : SI X C p Γ tg iter it Γ1) (ok : BlkOk X.N X.env.scope scope ow)
    (hg : ∀ (s : Shared) (H : Hp) (L : Addr) (cl : List (Str × Addr)) (fp : List Addr), Gd (X.blk s H scope (compEnvC scope cl L X.env) fp) (blkC C) → SG (X.blk s H scope (compEnvC scope cl L X.env) fp) (blkC C) (wipeG (ow.map (·.2)) Γ1) tg t Γc)
    (ht : ∀ (s : Shared) (H : Hp) (L : Addr) (cl : List (Str × Addr)) (fp : List Addr), Gd (X.blk s H scope (compEnvC scope cl L X.env) fp) (blkC C) → STs (X.blk s H scope (compEnvC scope cl L X.env) fp) (blkC C) pt Γc ifs c Γd)
    (hi2 : ∀ (s : Shared) (H : Hp) (L : Addr) (cl : List (Str × Addr)) (fp : List Addr), Gd (X.blk s H scope (compEnvC scope cl L X.env) fp) (blkC C) → SI (X.blk s H scope (compEnvC scope cl L X.env) fp) (blkC C) p2 Γd tg2 iter2 it2 Γf)
    (hg2 : ∀ (s : Shared) (H : Hp) (L : Addr) (cl : List (Str × Addr)) (fp : List Addr), Gd (X.blk s H scope (compEnvC scope cl L X.env) fp) (blkC C) → SG (X.blk s H scope (compEnvC scope cl L X.env) fp) (blkC C) (wipeG own2 Γf) tg2 t2 Γg)
    (ht2 : ∀ (s : Shared) (H : Hp) (L : Addr) (cl : List (Str × Addr)) (fp : List Addr), Gd (X.blk s H scope (compEnvC scope cl L X.env) fp) (blkC C) → STs (X.blk s H scope (compEnvC scope cl L X.env) fp) (blkC C) pt2 Γg ifs2 c2 Γh)
    (he : ∀ (s : Shared) (H : Hp) (L : Addr) (cl : List (Str × Addr)) (fp : List Addr), Gd (X.blk s H scope (compEnvC scope cl L X.env) fp) (blkC C) → SE (X.blk s H scope (compEnvC scope cl L X.env) fp) (blkC C) pe Γh elt f (.own me) Γe)
    (hy : X.N[i]? = some y := by rfl) (hl : i < Γ1.length := by decide) (hM : C.M.mi.contains i = false := by rfl) (hyl : X.env.scope.names.lookup y = some .local := by rfl)
    (hsw : swapsWith (.ListComp elt [⟨tg, iter, ifs, 0⟩, ⟨tg2, iter2, ifs2, 0⟩] scope pos) (some (.Name y py)) spos.line X.env = pure true := by exact sw_true rfl rfl rfl rfl)
    (l1 : leG Γe (wipeG own2 Γf) = true := by rfl) (l2 : leG Γh (wipeG own2 Γf) = true := by rfl) (l3 : Γg.length = (wipeG own2 Γf).length := by rfl) (l4 : ∀ i ∈ tgS t2, i ∈ own2 := by decide)
    (m1 : leG Γd (wipeG (ow.map (·.2)) Γ1) = true := by rfl) (m2 : Γc.length = (wipeG (ow.map (·.2)) Γ1).length := by rfl) (m3 : ∀ i ∈ tgS t, i ∈ ow.map (·.2) := by decide) (m4 : ownOk (ow.map (·.2)) Γ1 = true := by rfl)
    (m5 : ∀ i ∈ own2, i ∈ ow.map (·.2) := by decide) (m6 : leG Γf (wipeG own2 Γf) = true := by rfl) (m7 : leG (wipeG own2 Γf) (wipeG (ow.map (·.2)) Γ1) = true := by rfl)
    (hs : ∀ x, foldedSetIterable iter X.env x = pure x := by intro _; rfl) (hs2 : ∀ env x, foldedSetIterable iter2 env x = pure x := by intro _ _; rfl) :
    SS X C Γ (.Assign [.Name y py] (.ListComp elt [⟨tg, iter, ifs, 0⟩, ⟨tg2, iter2, ifs2, 0⟩] scope pos) spos) (.asg (.nm i) (.lc2 (ow.map (·.2)) own2 f t it c t2 it2 c2)) (Γ1.set i (some (.l me))) :=
  PS.imp (ps_setLc2 g.calm g.nd hy hyl hsw hi ok m5 (fun s H L cl fp => hg s H L cl fp g.blk) (fun s H L cl fp => ht s H L cl fp g.blk) (fun s H L cl fp => hi2 s H L cl fp g.blk) (fun s H L cl fp => hg2 s H L cl fp g.blk) (fun s H L cl fp => ht2 s H L cl fp g.blk) (fun s H L cl fp => he s H L cl fp g.blk) hs hs2) fun E σ H ⟨e, S, R, s, o⟩ =>
    c_lc2 l1 l2 l3 l4 m1 m2 m3 m4 m5 m6 m7 (stm1 (f := fun d e1 => .ok .nxt (st e1 i (some d))) s o fun d e1 v H1 S1 T1 a1 v1 n1 o1 => by
      obtain ⟨S', h1, h2⟩ := a1.sta.bind v1 hl hM
      exact o1 _ H1 S' a1.po.ite (fun x hx => n1 x (h1 x hx)) h2)
end
end Mi
namespace Mi
open PySem PySem.Spec PyProof.Rows L2
theorem lim63 {j : Int} (h : j.natAbs < LIM) : -(2 ^ 63) ≤ j ∧ j < 2 ^ 63 := by
  simp only [LIM] at h
  omega
def rStrAdd : R2 := fun x y H Q => ∃ i j, x = .str i ∧ y = .str j ∧ i.length + j.length ≤ sizeLine ∧ Q (.str (i ++ j)) H
def rAddG (K : PySem.W.Frag) : R2 := fun x y H Q => (rI0 fun i j => V.int (i + j)) x y H Q ∨ rCat x y H Q ∨ rStrAdd x y H Q ∨ rCatA K x y H Q
theorem op_addG {X : Cx} : OpR X (binaryOp .Add) (rAddG X.K) := op_add.or (op_cat.or (op_add_str.or op_catA))
theorem Ow.toLv {B : Tb} {O : List Addr} {H : Hp} {d : D} {v : V} (h : Ow B O H .v d v []) (n : ∀ ds, d ≠ .lst ds) (n2 : ∀ ds, d ≠ .dct ds) (n3 : ∀ c ds, d ≠ .obj c ds) : Ow B O H (.l .v) d v [] := by
  cases h with
  | non => exact .non
  | bl => exact .bl
  | int => exact .int
  | str => exact .str
  | tup _ h1 h2 => exact .tup rfl h1 h2
  | lstV _ _ => exact absurd rfl (n _)
  | dKV _ _ _ => exact absurd rfl (n2 _)
  | dTV _ _ _ => exact absurd rfl (n2 _)
  | objV _ _ _ => exact absurd rfl (n3 _ _)
section
variable {B : Tb} {m1 m2 m : Md}
theorem s_addG (h1 : m1 = .v ∨ m1 = .l .v := by first | exact .inl rfl | exact .inr rfl) (h2 : m2 = .v ∨ m2 = .l .v := by first | exact .inl rfl | exact .inr rfl) : OpS B (rAddG B.K) (evOp2 .addG) m1 m2 (.l .v) := fun O H x y d1 d2 d U1 U2 Q hl u1 u2 o1 o2 e q => by
  have e0 : addG d1 d2 = some d := e
  unfold addG at e0
  split at e0
  · exact .inl (s_add O H x y _ _ d U1 U2 Q hl u1 u2 o1 o2 e0 q)
  · exact .inr (.inl (s_cat h1 h2 O H x y _ _ d U1 U2 Q hl u1 u2 o1 o2 e0 q))
  · exact .inr (.inr (.inl (s_catS O H x y _ _ d U1 U2 Q hl u1 u2 o1 o2 e0 q)))
  · refine .inr (.inr (.inr (s_catT O H x y _ _ d U1 U2 Q hl u1 u2 o1 o2 e0 fun v H' T po nT ndT ow => ?_)))
    have z := Ow.v_nil ow
    subst z
    split at e0
    · cases e0
      exact q v H' [] po nT ndT (ow.toLv (fun _ z => nomatch z) (fun _ z => nomatch z) fun _ _ z => nomatch z)
    · cases e0
  · cases e0
def rMulG : R2 := fun x y H Q => (rI (fun i j => CMul i j ∨ CMulW i j) fun i j => V.int (i * j)) x y H Q ∨ rRep x y H Q
theorem op_mulG {X : Cx} : OpR X (binaryOp .Mult) rMulG := op_mulA.or op_rep
theorem OwL.rep {B : Tb} {O : List Addr} {H : Hp} {ds : List D} {vs : List V} (h : OwL B O H .v ds vs []) : ∀ n : Nat, OwL B O H .v (List.replicate n ds).flatten (List.replicate n vs).flatten []
  | 0 => .nil
  | n + 1 => by
    rw [List.replicate_succ, List.replicate_succ, List.flatten_cons, List.flatten_cons]
    exact h.app (OwL.rep h n)
theorem s_mulG (h1 : m1 = .v ∨ m1 = .l .v := by first | exact .inl rfl | exact .inr rfl) : OpS B rMulG (evOp2 .mulG) m1 m2 (.l .v) := fun O H x y d1 d2 d U1 U2 Q hl u1 u2 o1 o2 e q => by
  have e0 : mulG d1 d2 = some d := e
  unfold mulG at e0
  split at e0
  · split at e0
    · rename_i hz
      cases e0
      exact .inl ⟨_, _, o1.int_eq, o2.int_eq, mulOk_c hz, q _ H [] (Post.refl _ _) (fun _ h => absurd h List.not_mem_nil) List.nodup_nil .int⟩
    · cases e0
  · split at e0
    · rename_i xs j hz
      cases e0
      have lv : ∃ a vs, x = .ref a ∧ H a = some (.lst vs) ∧ OwL B O H .v xs vs [] := by
        rcases h1 with rfl | rfl
        · cases o1 with
          | lstV k1 k2 => exact ⟨_, _, rfl, k1.2, k2⟩
        · cases o1 with
          | lst k1 k2 =>
            have z := k2.v_nil
            subst z
            exact ⟨_, _, rfl, k1, k2⟩
      obtain ⟨a, vs, rfl, g1, g2⟩ := lv
      refine .inr ⟨a, j, vs, rfl, o2.int_eq, g1, (lim63 hz.2).1, (lim63 hz.2).2, by rw [← g2.len]; exact lim_line hz.1, fun p hp => q _ _ [p] (post_upd hp) (fun z hz => by rw [List.mem_singleton.mp hz]; exact hp) (by simp) (new_lst hl (g2.rep _) hp)⟩
    · cases e0
  · cases e0
end
section
variable {X : Cx}
def rInT (K : PySem.W.Frag) (g : Bool → Bool) : R2 := fun x y H Q => ∃ d ds, Dp K H x d ∧ Dp K H y (.tuple ds) ∧ SeqAt.shaped d = true ∧ SeqAt.shaped (.tuple ds) = true ∧ Q (.bl (g (ds.any fun z => PyData.eqv z d))) H
theorem room_inT {d : PyData} {ds : List PyData} {u : Nat} (h : SeqAt.shaped d = true) (hu : u + 65 < cLine) : u + 1 + min (PyData.depthAll ds) d.depth < cLine := by
  have h2 : d.depth ≤ 64 := of_decide_eq_true (Bool.and_eq_true_iff.mp (show (d.canLay0 && decide (d.depth ≤ 64)) = true from h)).2
  have := Nat.min_le_right (PyData.depthAll ds) d.depth
  omega
theorem op_inT (hu : X.A.units + 65 < cLine) : OpR X (compareOp .In) (rInT X.K id) := fun pins s σ H x y v u Q I rx ry ⟨d, ds, hd, he, sd, se, q⟩ => by
  obtain ⟨bs, k1⟩ := Dp.reads I (.tuple ds) y u he ry
  obtain ⟨as, k2⟩ := Dp.reads I d x v hd rx
  exact SeqAt.in_tuple_reads k1 k2 (SeqAt.canLay_of_shaped se) (SeqAt.canLay_of_shaped sd) (room_inT sd hu) ⟨.bl _, H, I, rfl, q⟩
theorem op_ninT (hu : X.A.units + 65 < cLine) : OpR X (compareOp .NotIn) (rInT X.K not) := fun pins s σ H x y v u Q I rx ry ⟨d, ds, hd, he, sd, se, q⟩ => by
  obtain ⟨bs, k1⟩ := Dp.reads I (.tuple ds) y u he ry
  obtain ⟨as, k2⟩ := Dp.reads I d x v hd rx
  exact SeqAt.notIn_tuple_reads k1 k2 (SeqAt.canLay_of_shaped se) (SeqAt.canLay_of_shaped sd) (room_inT sd hu) ⟨.bl _, H, I, rfl, q⟩
def rSgn (g : Bool → Bool) : R2 := fun x y H Q => ∃ (c : Nat) (z : Str), x = .str ⟨#[c]⟩ ∧ y = .str z ∧ Q (.bl (g (decide (c ∈ z.cps.toList)))) H
theorem op_inSg : OpR X (compareOp .In) (rSgn id) := op_in_sign
theorem op_ninSg : OpR X (compareOp .NotIn) (rSgn not) := op_notIn_sign
def rInG (K : PySem.W.Frag) : R2 := fun x y H Q => rInD K x y H Q ∨ rInT K id x y H Q ∨ rSgn id x y H Q
def rNinG (K : PySem.W.Frag) : R2 := fun x y H Q => rNotInD K x y H Q ∨ rInT K not x y H Q ∨ rSgn not x y H Q
theorem op_inG {C : Cf} (g : Gd X C) : OpR X (compareOp .In) (rInG X.K) := (op_inD (by have := g.un; omega)).or ((op_inT (by have := g.un; omega)).or op_inSg)
theorem op_ninG {C : Cf} (g : Gd X C) : OpR X (compareOp .NotIn) (rNinG X.K) := (op_notInD (by have := g.un; omega)).or ((op_ninT (by have := g.un; omega)).or op_ninSg)
end
theorem shp_mono : ∀ {n : Nat} {d : D}, shp n d = true → shp (n + 1) d = true := by
  intro n
  induction n with
  | zero => intro d h; cases d <;> first | exact h | (simp [shp] at h)
  | succ n ih =>
    intro d h
    cases d with
    | lst ds => simp only [shp, List.all_eq_true] at h ⊢; exact fun x hx => ih (h x hx)
    | tup ds => simp only [shp, List.all_eq_true] at h ⊢; exact fun x hx => ih (h x hx)
    | non => rfl
    | bl _ => rfl
    | int _ => rfl
    | str _ => exact h
    | _ => simp [shp] at h
theorem any_eqv {ds : List D} {a : D} (h1 : shp SD a = true) (h2 : ds.all (shp SD) = true) : ((toPDs ds).any fun z => PyData.eqv z (toPD a)) = ds.any fun d => eqD d a := by
  rw [toPDs_eq, List.any_map]
  induction ds with
  | nil => rfl
  | cons d ds ih =>
    simp only [List.all_cons, Bool.and_eq_true] at h2
    simp only [List.any_cons, Function.comp, eqD_eqv SD _ _ h2.1 h1]
    rw [← ih h2.2]
section
variable {B : Tb} {m1 m2 m : Md}
theorem sign_mem {y x : Str} (h : x.length = 1) : ∃ c, x = ⟨#[c]⟩ ∧ (y.cps.toList.any fun c => decide (x.cps.toList = [c])) = decide (c ∈ y.cps.toList) := by
  obtain ⟨⟨l⟩⟩ := x
  match l, h with
  | [c], _ =>
    refine ⟨c, rfl, ?_⟩
    show (y.cps.toList.any fun z => decide ([c] = [z])) = decide (c ∈ y.cps.toList)
    rw [Bool.eq_iff_iff]
    simp only [List.any_eq_true, decide_eq_true_eq]
    constructor
    · rintro ⟨z, h1, h2⟩
      cases h2
      exact h1
    · exact fun h1 => ⟨c, h1, rfl⟩
theorem s_in (g : Bool → Bool) {o : Op2} (ho : ∀ a b, evOp2 o a b = (inG a b).map fun c => .bl (g c)) (r : R2) (hr : ∀ x y H Q,
    ((∃ d ds, Dp B.K H x d ∧ Dp B.K H y (.list ds) ∧ SeqAt.shaped d = true ∧ SeqAt.shaped (.list ds) = true ∧ Q (.bl (g (ds.any fun z => PyData.eqv z d))) H) ∨
     (∃ d ds, Dp B.K H x d ∧ Dp B.K H y (.tuple ds) ∧ SeqAt.shaped d = true ∧ SeqAt.shaped (.tuple ds) = true ∧ Q (.bl (g (ds.any fun z => PyData.eqv z d))) H) ∨
     (∃ (c : Nat) (z : Str), x = .str ⟨#[c]⟩ ∧ y = .str z ∧ Q (.bl (g (decide (c ∈ z.cps.toList)))) H)) → r x y H Q) : OpS B r (evOp2 o) m1 m2 m := opS_atom fun O H x y d1 d2 d U1 U2 Q o1 o2 e q => by
  rw [ho] at e
  obtain ⟨c, hc, rfl⟩ := Option.map_eq_some_iff.mp e
  refine hr x y H Q ?_
  unfold inG at hc
  split at hc
  · split at hc
    · rename_i ds h
      cases hc
      have h := Bool.and_eq_true_iff.mp h
      have hs : shp (SD + 1) (.lst ds) = true := h.2
      refine .inl ⟨toPD d1, toPDs ds, o1.dp SD _ _ _ _ h.1, ?_, shp_shaped (by decide) h.1, ?_, ?_⟩
      · have := o2.dp (SD + 1) _ _ _ _ hs
        simpa only [toPD] using this
      · have := shp_shaped (n := SD + 1) (by decide) hs
        simpa only [toPD] using this
      · rw [any_eqv h.1 h.2]
        exact q _ .bl
    · cases hc
  · split at hc
    · rename_i ds h
      cases hc
      have h := Bool.and_eq_true_iff.mp h
      have hs : shp (SD + 1) (.tup ds) = true := h.2
      refine .inr (.inl ⟨toPD d1, toPDs ds, o1.dp SD _ _ _ _ h.1, ?_, shp_shaped (by decide) h.1, ?_, ?_⟩)
      · have := o2.dp (SD + 1) _ _ _ _ hs
        simpa only [toPD] using this
      · have := shp_shaped (n := SD + 1) (by decide) hs
        simpa only [toPD] using this
      · rw [any_eqv h.1 h.2]
        exact q _ .bl
    · cases hc
  · split at hc
    · split at hc
      · rename_i y' _ x' hx
        cases hc
        obtain ⟨c, h1, h2⟩ := sign_mem (y := y') hx
        refine .inr (.inr ⟨c, y', by rw [o1.str_eq, h1], o2.str_eq, ?_⟩)
        rw [← h2]
        exact q _ .bl
      · cases hc
    · cases hc
  · cases hc
theorem s_inn : OpS B (rInG B.K) (evOp2 .inn) m1 m2 m := s_in id (fun a b => by show (inG a b).map D.bl = _; rfl) _ fun x y H Q h => h
theorem s_nin : OpS B (rNinG B.K) (evOp2 .nin) m1 m2 m := s_in not (fun a b => rfl) _ fun x y H Q h => h
end
def OkP (C : Cf) (σ : VS) (H : Hp) (S R : List Addr) (p : Bool) (Γ' : G) (Q : Option Int → Hp → Prop) (o : Option Int) (e' : Env) : Prop :=
  ∀ H' S', Post (if p then [] else S) H H' → (p = true → S' = S) → New S H S' → Sta C.B C.M R Γ' e' σ H' S' → Q o H'
def tP (C : Cf) (p : Bool) (Γ : G) (m : Op) (Γ' : G) : TO := fun σ H Q => ∃ e S R, Sta C.B C.M R Γ e σ H S ∧ Out C σ H S R (OkP C σ H S R p Γ' Q) (evOp C.F m e)
def SP (X : Cx) (C : Cf) (p : Bool) (Γ : G) (ex : Option Expr) (m : Op) (Γ' : G) : Prop := PO X ex (tP C p Γ m Γ')
theorem PO.imp {X : Cx} {e : Option Expr} {t t' : TO} (h : PO X e t) (i : ∀ σ H Q, t' σ H Q → t σ H Q) : PO X e t' := ⟨fun pins s σ H Q I q => h.run pins s σ H Q I (i σ H Q q)⟩
section
variable {X : Cx} {C : Cf} {σ : VS} {H H1 : Hp} {S R S1 Z : List Addr} {p p1 p2 p3 : Bool} {Γ Γ1 Γ2 Γ3 : G} {e e1 : Env} {a : Ex} {l h : Op} {k1 : Kd} {m : Md} {ea : Expr} {pos : Pos}
theorem wp_no : SP X C true Γ none .no Γ := PO.imp po_none fun σ H Q ⟨e, S, R, s, o⟩ => (show OkP C σ H S R true Γ Q none e from o) H S (Post.refl _ _) (fun _ => rfl) New.refl s
theorem wp_ex (ha : SE X C p Γ ea a (.own .v) Γ1) : SP X C p Γ (some ea) (.ex a) Γ1 := PO.imp (po_some ha) fun σ H Q ⟨e, S, R, s, o⟩ => by
  have o : Out C σ H S R (OkP C σ H S R p Γ1 Q) ((evE C.F a e).bind fun (d : D) e1 => match d with
    | .int i => .ok (some i) e1
    | _ => .bad) := o
  refine (At.start s).ev o fun d e1 v H1 S1 T1 a1 v1 _ o1 => ?_
  cases d <;> first | exact False.elim o1 | skip
  rename_i i
  refine ⟨i, Ow.int_eq v1, ?_⟩
  exact (show OkP C σ H S R p Γ1 Q (some i) e1 from o1) H1 S1 a1.po a1.ps a1.n (a1.sta.drop a1.ndR a1.rz)
theorem At.evP (a : At C σ H S R p Γ1 e1 H1 S1 Z) {β : Type} {ok : β → Env → Prop} {f : Option Int → Env → Mi.R β} {Q : Option Int → Hp → Prop} (o : Out C σ H S R ok ((evOp C.F l e1).bind f))
    (h : ∀ b e2 H2 S2, At C σ H S R (p && p2) Γ2 e2 H2 S2 Z → Holds C p2 H1 H2 S1 Z S2 Z → Out C σ H S R ok (f b e2) → Q b H2) : tP C p2 Γ1 l Γ2 σ H1 Q := by
  refine ⟨e1, S1, Z, a.sta, ?_⟩
  cases h1 : evOp C.F l e1 with
  | bad => rw [h1] at o; exact o.elim
  | err c fs e' => rw [h1] at o; exact a.err o
  | ok d e2 =>
    rw [h1] at o
    intro H2 S2 po ps n s2
    refine h d e2 H2 S2 ⟨?_, fun z => ?_, a.n.trans a.po.ite n, a.rz, a.ndR, s2⟩ (holds_of (T2 := []) a.sta.nd po ps (by simpa using n)) o
    · cases p with
      | false => exact a.po.trans a.n po.ite
      | true =>
        cases p2 with
        | true => exact fun b o' hn he => po b o' (fun z => nomatch z) (a.po b o' (fun z => nomatch z) he)
        | false => exact a.po.ite.trans a.n po
    · have z' := Bool.and_eq_true_iff.mp z
      rw [ps z'.2, a.ps z'.1]
def SlS (B : Tb) (r : V → Option Int → Option Int → Hp → VK → Prop) (m1 m : Md) : Prop := ∀ (O : List Addr) (H : Hp) (x : V) (d d' : D) (l h : Option Int) (U : List Addr) (Q : VK), Live O H → (∀ a ∈ U, a ∈ O) → Ow B O H m1 d x U → slOp d l h = some d' →
  (∀ v H' T, Post [] H H' → (∀ a ∈ T, H a = none) → T.Nodup → Ow B (T ++ O) H' m d' v T → Q v H') → r x l h H Q
theorem w_sl {r : V → Option Int → Option Int → Hp → VK → Prop} {el eh : Option Expr} {pp : Pos} (hr : SlR X r) (hs : SlS C.B r k1.md m) (ha : SE X C p1 Γ ea a k1 Γ1) (hl : SP X C p2 Γ1 el l Γ2) (hh : SP X C p3 Γ2 eh h Γ3)
    (hp2 : k1.isB = true → p2 = true := by first | exact fun _ => rfl | exact fun h => nomatch h) (hp3 : k1.isB = true → p3 = true := by first | exact fun _ => rfl | exact fun h => nomatch h) : SE X C (p1 && p2 && p3) Γ (.Subscript ea (.Slice el eh none pp) pos) (.sl a l h) (.own m) Γ3 :=
  PE.imp (pe_slice hr ha hl hh) fun σ H Q ⟨e, S, R, s, o⟩ => by
    have o : Out C σ H S R (OkE C σ H S R (p1 && p2 && p3) (.own m) Γ3 Q) ((evE C.F a e).bind fun x e1 => (evOp C.F l e1).bind fun y e2 => (evOp C.F h e2).bind fun z e3 => ofO (slOp x y z) e3) := o
    refine (At.start s).ev o fun d e1 x H1 S1 T1 a1 v1 _ o1 => ?_
    refine a1.evP (f := fun y e2 => (evOp C.F h e2).bind fun z e3 => ofO (slOp d y z) e3) o1 fun y e2 H2 S2 a2 hold2 o2 => ?_
    refine a2.evP (f := fun z e3 => ofO (slOp d y z) e3) o2 fun z e3 H3 S3 a3 hold3 o3 => ?_
    obtain ⟨d', hd, q⟩ := Out.ofO o3
    have w3 := hold3 _ _ _ _ (hold2 _ _ _ _ v1 (fun _ => memL) hp2) (fun _ => memL) hp3
    obtain ⟨U, u, ow⟩ := w3.view (fun _ => memL) fun a h => memR (memL h)
    exact hs _ H3 x d d' y z U Q a3.sta.lives u ow hd fun v H' T po nT ndT ow => a3.fin q po nT ndT ow
end
theorem slI_sIx (n d : Nat) (o : Option Int) : slI n d o = HT.sIx n d o := by cases o <;> rfl
theorem cut_cutV (vs : List V) (l h : Option Int) : cut vs l h = cutV vs l h := by
  unfold cut cutV
  rw [slI_sIx, slI_sIx]
section
variable {B : Tb} {O : List Addr} {H : Hp}
theorem OwL.drop' {m : Md} : ∀ {ds : List D} {vs : List V} (n : Nat), OwL B O H .v ds vs [] → OwL B O H .v (ds.drop n) (vs.drop n) []
  | ds, vs, 0, h => by simpa using h
  | [], vs, n + 1, h => by cases h; exact .nil
  | d :: ds, vs, n + 1, h => by
    obtain ⟨v, ws, rfl, _, h2⟩ := h.v_cons
    exact OwL.drop' (m := m) n h2
theorem OwL.take' : ∀ {ds : List D} {vs : List V} (n : Nat), OwL B O H .v ds vs [] → OwL B O H .v (ds.take n) (vs.take n) []
  | ds, vs, 0, h => by simpa using OwL.nil
  | [], vs, n + 1, h => by cases h; exact .nil
  | d :: ds, vs, n + 1, h => by
    obtain ⟨v, ws, rfl, h1, h2⟩ := h.v_cons
    exact .cons (S := []) (T := []) h1 (OwL.take' n h2)
theorem OwL.cut {ds : List D} {vs : List V} {l h : Option Int} (o : OwL B O H .v ds vs []) : OwL B O H .v (Mi.cut ds l h) (cutV vs l h) [] := by
  rw [← cut_cutV]
  unfold Mi.cut
  rw [o.len]
  exact (o.drop' (m := .v) _).take' _
theorem Ow.lst_v {m : Md} {ds : List D} {v : V} {U : List Addr} (h : Ow B O H m (.lst ds) v U) (hm : m = .v ∨ m = .l .v ∨ m = .s) : ∃ a vs, v = .ref a ∧ SqL B.K H a vs ∧ OwL B O H .v ds vs [] := by
  rcases hm with rfl | rfl | rfl
  · cases h with
    | lstV h1 h2 => exact ⟨_, _, rfl, .of h1.2, h2⟩
  · cases h with
    | lst h1 h2 =>
      have z := h2.v_nil
      subst z
      exact ⟨_, _, rfl, .of h1, h2⟩
  · cases h with
    | @scr a ns h1 =>
      refine ⟨_, _, rfl, h1.sq, ?_⟩
      clear h1
      induction ns with
      | nil => exact .nil
      | cons n ns ih => exact .cons (S := []) (T := []) .int ih
end
def rSlG (K : PySem.W.Frag) : V → Option Int → Option Int → Hp → VK → Prop := fun x lo hi H Q => rSlL K x lo hi H Q ∨ rSlA K x lo hi H Q ∨ rSlS x lo hi H Q
theorem sl_gen {X : Cx} : SlR X (rSlG X.K) := sl_list.or (sl_tupA.or sl_str)
theorem s_sl {B : Tb} {m1 : Md} (hm : m1 = .v ∨ m1 = .l .v ∨ m1 = .s := by first | exact .inl rfl | exact .inr (.inl rfl) | exact .inr (.inr rfl)) : SlS B (rSlG B.K) m1 (.l .v) := fun O H x d d' l h U Q hl u ow e q => by
  cases d with
  | lst ds =>
    cases (show some (D.lst (cut ds l h)) = some d' from e)
    obtain ⟨a, vs, rfl, g1, g2⟩ := ow.lst_v hm
    exact .inl ⟨a, vs, rfl, g1, fun p hp => q _ _ [p] (post_upd hp) (fun z hz => by rw [List.mem_singleton.mp hz]; exact hp) (by simp) (new_lst hl g2.cut hp)⟩
  | tup ds =>
    cases (show some (D.tup (cut ds l h)) = some d' from e)
    obtain ⟨a, vs, rfl, g1, g2⟩ := ow.tup_eq
    refine .inr (.inl ⟨a, vs, rfl, .of g1.2, fun z => ?_, fun z p hp => ?_⟩)
    · have hc : cut ds l h = ds := by
        unfold cut
        rw [slI_sIx, slI_sIx, g2.len, z.1, z.2, List.drop_zero, Nat.sub_zero, ← g2.len, List.take_length]
      rw [hc] at q
      exact q _ _ [] (Post.refl _ _) (fun _ h => absurd h List.not_mem_nil) List.nodup_nil (.tup rfl g1 g2)
    · have ow' := new_tup hl (g2.cut (l := l) (h := h)) hp
      exact q _ _ [] (post_upd hp) (fun _ h => absurd h List.not_mem_nil) List.nodup_nil (ow'.toLv (fun _ z => nomatch z) (fun _ z => nomatch z) fun _ _ z => nomatch z)
  | str z =>
    have e : (if z.length < LIM then some (D.str ⟨(cut z.cps.toList l h).toArray⟩) else none) = some d' := e
    split at e
    · cases e
      rename_i hz
      refine .inr (.inr ⟨z, ow.str_eq, lim_line hz, ?_⟩)
      have : cutS z l h = ⟨(cut z.cps.toList l h).toArray⟩ := by
        unfold cutS cut
        rw [slI_sIx, slI_sIx]
        have hl : z.cps.toList.length = z.length := by simp [Str.length]
        rw [hl]
      rw [this]
      exact q _ _ [] (Post.refl _ _) (fun _ h => absurd h List.not_mem_nil) List.nodup_nil .str
    · cases e
  | _ => cases e
end Mi
namespace Mi
open PySem PySem.Spec PyProof.Rows L2
theorem b1_atom {B : Tb} {r : List V → Hp → VK → Prop} {f : D → Option D} {m1 m : Md} (h : ∀ (O : List Addr) (H : Hp) (x : V) (d d' : D) (U : List Addr) (Q : VK), Ow B O H m1 d x U → f d = some d' → (∀ v, Ow B O H m d' v [] → Q v H) → r [x] H Q) : B1S B r f m1 m :=
  fun O H x d d' U Q _ _ o e q => h O H x d d' U Q o e fun v ow => q v H [] (Post.refl _ _) (fun _ h => absurd h List.not_mem_nil) List.nodup_nil ow
theorem b2_atom {B : Tb} {r : List V → Hp → VK → Prop} {f : D → D → Option D} {m1 m2 m : Md} (h : ∀ (O : List Addr) (H : Hp) (x y : V) (d1 d2 d' : D) (U W : List Addr) (Q : VK), Ow B O H m1 d1 x U → Ow B O H m2 d2 y W → f d1 d2 = some d' → (∀ v, Ow B O H m d' v [] → Q v H) → r [x, y] H Q) : B2S B r f m1 m2 m :=
  fun O H x y d1 d2 d' U W Q _ _ _ o1 o2 e q => h O H x y d1 d2 d' U W Q o1 o2 e fun v ow => q v H [] (Post.refl _ _) (fun _ h => absurd h List.not_mem_nil) List.nodup_nil ow
theorem ints_map : ∀ {ds : List D} {ns : List Int}, ints? ds = some ns → ds = ns.map .int
  | [], ns, h => by cases h; rfl
  | d :: ds, ns, h => by
    cases d <;> first | cases h | skip
    rename_i i
    obtain ⟨r, h1, rfl⟩ := Option.map_eq_some_iff.mp (show (ints? ds).map (i :: ·) = some ns from h)
    rw [ints_map h1]
    rfl
theorem strs_map : ∀ {ds : List D} {ns : List Str}, strs? ds = some ns → ds = ns.map .str
  | [], ns, h => by cases h; rfl
  | d :: ds, ns, h => by
    cases d <;> first | cases h | skip
    rename_i i
    obtain ⟨r, h1, rfl⟩ := Option.map_eq_some_iff.mp (show (strs? ds).map (i :: ·) = some ns from h)
    rw [strs_map h1]
    rfl
theorem bools_map : ∀ {ds : List D} {ns : List Bool}, bools? ds = some ns → ds = ns.map .bl
  | [], ns, h => by cases h; rfl
  | d :: ds, ns, h => by
    cases d <;> first | cases h | skip
    rename_i i
    obtain ⟨r, h1, rfl⟩ := Option.map_eq_some_iff.mp (show (bools? ds).map (i :: ·) = some ns from h)
    rw [bools_map h1]
    rfl
section
variable {B : Tb} {O : List Addr} {H : Hp} {m m1 m2 : Md}
theorem OwL.ints_eq : ∀ {ns : List Int} {vs : List V} {U : List Addr}, OwL B O H m (ns.map .int) vs U → vs = ns.map V.int
  | [], vs, U, h => by cases h; rfl
  | n :: ns, vs, U, h => by
    cases h with
    | cons h1 h2 => rw [h1.int_eq, OwL.ints_eq h2]; rfl
theorem OwL.strs_eq : ∀ {ns : List Str} {vs : List V} {U : List Addr}, OwL B O H m (ns.map .str) vs U → vs = ns.map V.str
  | [], vs, U, h => by cases h; rfl
  | n :: ns, vs, U, h => by
    cases h with
    | cons h1 h2 => rw [h1.str_eq, OwL.strs_eq h2]; rfl
theorem OwL.bls_eq : ∀ {ns : List Bool} {vs : List V} {U : List Addr}, OwL B O H m (ns.map .bl) vs U → vs = ns.map V.bl
  | [], vs, U, h => by cases h; rfl
  | n :: ns, vs, U, h => by
    cases h with
    | cons h1 h2 => rw [h1.bl_eq, OwL.bls_eq h2]; rfl
theorem OwK.len : ∀ {ds : List (D × D)} {vs : List (Key × V)} {S : List Addr}, OwK B O H m ds vs S → ds.length = vs.length
  | [], vs, S, h => by cases h; rfl
  | d :: ds, vs, S, h => by cases h with
    | cons h1 h2 => simp [OwK.len h2]
theorem OwT.len : ∀ {ds : List (D × D)} {vs : List (List Key × V)} {S : List Addr}, OwT B O H m ds vs S → ds.length = vs.length
  | [], vs, S, h => by cases h; rfl
  | d :: ds, vs, S, h => by cases h with
    | cons h1 h2 => simp [OwT.len h2]
theorem Ow.dct_eq {kvs : List (D × D)} {v : V} {U : List Addr} (h : Ow B O H m (.dct kvs) v U) : ∃ a m' W, v = .ref a ∧ (∀ b ∈ W, b ∈ U) ∧ ((∃ ks, H a = some (.dK ks) ∧ OwK B O H m' kvs ks W) ∨ ∃ ks, H a = some (.dT ks) ∧ OwT B O H m' kvs ks W) := by
  cases h with
  | dKV n h1 h2 => exact ⟨_, _, _, rfl, fun _ z => z, .inl ⟨_, h1, h2⟩⟩
  | dTV n h1 h2 => exact ⟨_, _, _, rfl, fun _ z => z, .inr ⟨_, h1, h2⟩⟩
  | dK h1 h2 => exact ⟨_, _, _, rfl, fun _ z => List.mem_cons_of_mem _ z, .inl ⟨_, h1, h2⟩⟩
  | dT h1 h2 => exact ⟨_, _, _, rfl, fun _ z => List.mem_cons_of_mem _ z, .inr ⟨_, h1, h2⟩⟩
end
def rLenK : List V → Hp → VK → Prop := fun xs H Q => ∃ (a : Addr) (kvs : List (Key × V)), xs = [V.ref a] ∧ H a = some (.dK kvs) ∧ Q (.int kvs.length) H
def rLenV (K : PySem.W.Frag) : List V → Hp → VK → Prop := fun xs H Q => ∃ x n, xs = [x] ∧ LenV K x H n ∧ Q (.int n) H
def rLenG (K : PySem.W.Frag) : List V → Hp → VK → Prop := fun xs H Q => rLenV K xs H Q ∨ rLenK xs H Q ∨ rLenT xs H Q
section
variable {X : Cx}
theorem cr_lenV : CallR X (.builtin "len") (rLenV X.K) := call_len
theorem cr_lenK : CallR X (.builtin "len") rLenK := call_lenD
theorem cr_len : CallR X (.builtin "len") (rLenG X.K) := cr_lenV.or (cr_lenK.or call_len_dT)
end
section
variable {B : Tb} {m m1 m2 : Md}
theorem b_len : B1S B (rLenG B.K) biLen m1 m := b1_atom fun O H x d d' U Q o e q => by
  unfold biLen at e
  obtain ⟨n, h1, rfl⟩ := Option.map_eq_some_iff.mp e
  cases d with
  | lst ds =>
    obtain ⟨a, vs, m', W, rfl, g1, g2, _⟩ := o.lst_sq
    cases h1
    exact .inl ⟨_, ds.length, rfl, .inl ⟨vs, g1, g2.len⟩, q _ .int⟩
  | tup ds =>
    obtain ⟨a, vs, rfl, g1, g2⟩ := o.tup_eq
    cases h1
    exact .inl ⟨_, ds.length, rfl, .inr ⟨vs, .of g1.2, g2.len⟩, q _ .int⟩
  | dct kvs =>
    obtain ⟨a, m', W, rfl, _, ⟨ks, g1, g2⟩ | ⟨ks, g1, g2⟩⟩ := o.dct_eq
    · cases h1
      exact .inr (.inl ⟨a, ks, rfl, g1, by rw [← g2.len]; exact q _ .int⟩)
    · cases h1
      exact .inr (.inr ⟨a, ks, rfl, g1, by rw [← g2.len]; exact q _ .int⟩)
  | str y =>
    have h1 : (if y.length < LIM then some y.length else (none : Option Nat)) = some n := h1
    split at h1
    · rename_i hz
      cases h1
      have z := o.str_eq
      subst z
      exact .inl ⟨_, y.length, rfl, ⟨lim_line hz, rfl⟩, q _ .int⟩
    · cases h1
  | _ => cases h1
def rAbs : List V → Hp → VK → Prop := fun xs H Q => ∃ i, xs = [.int i] ∧ Q (.int (if i < 0 then -i else i)) H
theorem cr_abs {X : Cx} : CallR X (.builtin "abs") rAbs := call_abs
theorem b_abs : B1S B rAbs biAbs m1 m := b1_atom fun O H x d d' U Q o e q => by
  cases d <;> first | cases e | skip
  rename_i i
  exact ⟨i, by rw [o.int_eq], q _ .int⟩
def rMx : List V → Hp → VK → Prop := fun xs H Q => ∃ i j, xs = [.int i, .int j] ∧ Q (.int (if j > i then j else i)) H
def rMn : List V → Hp → VK → Prop := fun xs H Q => ∃ i j, xs = [.int i, .int j] ∧ Q (.int (if j < i then j else i)) H
theorem cr_mx {X : Cx} (hc : X.calm = true) : CallR X (.builtin "max") rMx := call_max2 hc
theorem cr_mn {X : Cx} (hc : X.calm = true) : CallR X (.builtin "min") rMn := call_min2 hc
theorem b_max2 : B2S B rMx (bi2 max) m1 m2 m := b2_atom fun O H x y d1 d2 d' U W Q o1 o2 e q => by
  unfold bi2 at e
  split at e
  · cases e
    rename_i i j
    refine ⟨i, j, by rw [o1.int_eq, o2.int_eq], ?_⟩
    have : (if j > i then j else i) = max i j := by
      by_cases h : j > i
      · rw [if_pos h]; omega
      · rw [if_neg h]; omega
    rw [this]
    exact q _ .int
  · cases e
theorem b_min2 : B2S B rMn (bi2 min) m1 m2 m := b2_atom fun O H x y d1 d2 d' U W Q o1 o2 e q => by
  unfold bi2 at e
  split at e
  · cases e
    rename_i i j
    refine ⟨i, j, by rw [o1.int_eq, o2.int_eq], ?_⟩
    have : (if j < i then j else i) = min i j := by
      by_cases h : j < i
      · rw [if_pos h]; omega
      · rw [if_neg h]; omega
    rw [this]
    exact q _ .int
  · cases e
def rInt1 : List V → Hp → VK → Prop := fun xs H Q => (∃ i, xs = [.int i] ∧ Q (.int i) H) ∨ ∃ k, xs = [.bl k] ∧ Q (.int (if k then 1 else 0)) H
def rIntS : List V → Hp → VK → Prop := fun xs H Q => ∃ a n, xs = [.str a] ∧ PySem.intText? a = some n ∧ a.length ≤ 640 ∧ Q (.int n) H
def rIntG : List V → Hp → VK → Prop := fun xs H Q => rInt1 xs H Q ∨ rIntS xs H Q
theorem cr_int1 {X : Cx} : CallR X (.type "int") rInt1 := call_int1
theorem cr_intS {X : Cx} : CallR X (.type "int") rIntS := call_int_str
theorem cr_int {X : Cx} : CallR X (.type "int") rIntG := cr_int1.or cr_intS
theorem b_int : B1S B rIntG biInt m1 m := b1_atom fun O H x d d' U Q o e q => by
  cases d <;> first | cases e | skip
  · rename_i b
    exact .inl (.inr ⟨b, by rw [o.bl_eq], q _ .int⟩)
  · rename_i i
    exact .inl (.inl ⟨i, by rw [o.int_eq], q _ .int⟩)
  · rename_i s
    have e : (if s.length ≤ 640 then (PySem.intText? s).map D.int else none) = some d' := e
    split at e
    · rename_i hz
      obtain ⟨n, h1, rfl⟩ := Option.map_eq_some_iff.mp e
      exact .inr ⟨s, n, by rw [o.str_eq], h1, hz, q _ .int⟩
    · cases e
def rStrI : List V → Hp → VK → Prop := fun xs H Q => ∃ i, xs = [.int i] ∧ i.natAbs.log2 < 1920 ∧ Q (.str (toString i)) H
def rStrS : List V → Hp → VK → Prop := fun xs H Q => ∃ a, xs = [.str a] ∧ Q (.str a) H
def rStrG : List V → Hp → VK → Prop := fun xs H Q => rStrI xs H Q ∨ rStrS xs H Q
theorem cr_strI {X : Cx} : CallR X (.type "str") rStrI := call_str_int
theorem cr_strS {X : Cx} : CallR X (.type "str") rStrS := SkE.call_str_str
theorem cr_str {X : Cx} : CallR X (.type "str") rStrG := cr_strI.or cr_strS
theorem b_str : B1S B rStrG biStr m1 m := b1_atom fun O H x d d' U Q o e q => by
  cases d with
  | int i =>
    have e : (if i.natAbs.log2 < 1920 then some (D.str (toString i)) else none) = some d' := e
    split at e
    · rename_i hz
      cases e
      exact .inl ⟨i, by rw [o.int_eq], hz, q _ .str⟩
    · cases e
  | str s =>
    cases e
    exact .inr ⟨s, by rw [o.str_eq], q _ .str⟩
  | _ => cases e
theorem b_sum : B1S B (rSum B.K) biSum m1 m := b1_atom fun O H x d d' U Q o e q => by
  cases d <;> first | cases e | skip
  rename_i ds
  obtain ⟨ns, h1, rfl⟩ := Option.map_eq_some_iff.mp (show (ints? ds).map (fun ns => D.int ns.sum) = some d' from e)
  have z := ints_map h1
  subst z
  obtain ⟨a, vs, m', W, rfl, g1, g2, _⟩ := o.lst_sq
  rw [g2.ints_eq] at g1
  exact ⟨a, ns, rfl, g1, q _ .int⟩
theorem fold_max : ∀ (xs : List Int) (x : Int), xs.foldl max x ∈ x :: xs ∧ ∀ y ∈ x :: xs, y ≤ xs.foldl max x
  | [], x => ⟨by simp, fun y hy => by rw [List.mem_singleton.mp hy]; exact Int.le_refl _⟩
  | z :: xs, x => by
    obtain ⟨h1, h2⟩ := fold_max xs (max x z)
    refine ⟨?_, fun y hy => ?_⟩
    · rcases List.mem_cons.mp h1 with h | h
      · rw [List.foldl_cons, h]
        by_cases c : x ≤ z
        · rw [Int.max_eq_right c]; simp
        · rw [Int.max_eq_left (by omega)]; simp
      · exact List.mem_cons_of_mem _ (List.mem_cons_of_mem _ h)
    · rw [List.foldl_cons]
      have h3 := h2 (max x z) (List.mem_cons_self ..)
      rcases List.mem_cons.mp hy with h | h
      · omega
      · rcases List.mem_cons.mp h with h | h
        · omega
        · exact h2 y (List.mem_cons_of_mem _ h)
theorem fold_min : ∀ (xs : List Int) (x : Int), xs.foldl min x ∈ x :: xs ∧ ∀ y ∈ x :: xs, xs.foldl min x ≤ y
  | [], x => ⟨by simp, fun y hy => by rw [List.mem_singleton.mp hy]; exact Int.le_refl _⟩
  | z :: xs, x => by
    obtain ⟨h1, h2⟩ := fold_min xs (min x z)
    refine ⟨?_, fun y hy => ?_⟩
    · rcases List.mem_cons.mp h1 with h | h
      · rw [List.foldl_cons, h]
        by_cases c : x ≤ z
        · rw [Int.min_eq_left c]; simp
        · rw [Int.min_eq_right (by omega)]; simp
      · exact List.mem_cons_of_mem _ (List.mem_cons_of_mem _ h)
    · rw [List.foldl_cons]
      have h3 := h2 (min x z) (List.mem_cons_self ..)
      rcases List.mem_cons.mp hy with h | h
      · omega
      · rcases List.mem_cons.mp h with h | h
        · omega
        · exact h2 y (List.mem_cons_of_mem _ h)
theorem b_maxL : B1S B (rMax B.K) (biMM maxI) m1 m := b1_atom fun O H x d d' U Q o e q => by
  cases d <;> first | cases e | skip
  rename_i ds
  obtain ⟨i, h0, rfl⟩ := Option.map_eq_some_iff.mp (show ((ints? ds).bind maxI).map D.int = some d' from e)
  obtain ⟨ns, h1, h2⟩ := Option.bind_eq_some_iff.mp h0
  have z := ints_map h1
  subst z
  obtain ⟨a, vs, m', W, rfl, g1, g2, _⟩ := o.lst_sq
  rw [g2.ints_eq] at g1
  cases ns with
  | nil => cases h2
  | cons n ns =>
    cases h2
    obtain ⟨k1, k2⟩ := fold_max ns n
    refine ⟨a, n :: ns, rfl, g1, Nat.succ_pos _, fun j hj hm => ?_⟩
    have : j = ns.foldl max n := Int.le_antisymm (k2 j hj) (hm _ k1)
    rw [this]
    exact q _ .int
theorem b_minL : B1S B (rMin B.K) (biMM minI) m1 m := b1_atom fun O H x d d' U Q o e q => by
  cases d <;> first | cases e | skip
  rename_i ds
  obtain ⟨i, h0, rfl⟩ := Option.map_eq_some_iff.mp (show ((ints? ds).bind minI).map D.int = some d' from e)
  obtain ⟨ns, h1, h2⟩ := Option.bind_eq_some_iff.mp h0
  have z := ints_map h1
  subst z
  obtain ⟨a, vs, m', W, rfl, g1, g2, _⟩ := o.lst_sq
  rw [g2.ints_eq] at g1
  cases ns with
  | nil => cases h2
  | cons n ns =>
    cases h2
    obtain ⟨k1, k2⟩ := fold_min ns n
    refine ⟨a, n :: ns, rfl, g1, Nat.succ_pos _, fun j hj hm => ?_⟩
    have : j = ns.foldl min n := Int.le_antisymm (hm _ k1) (k2 j hj)
    rw [this]
    exact q _ .int
theorem b_all : B1S B (rAll B.K) biAll m1 m := b1_atom fun O H x d d' U Q o e q => by
  cases d <;> first | cases e | skip
  rename_i ds
  obtain ⟨bs, h1, rfl⟩ := Option.map_eq_some_iff.mp (show (bools? ds).map (fun bs => D.bl (bs.all id)) = some d' from e)
  have z := bools_map h1
  subst z
  obtain ⟨a, vs, m', W, rfl, g1, g2, _⟩ := o.lst_sq
  rw [g2.bls_eq] at g1
  exact ⟨a, bs, rfl, g1, q _ .bl⟩
def rListS (K : PySem.W.Frag) : List V → Hp → VK → Prop := fun xs H Q => ∃ p ys, xs = [.ref p] ∧ (SqL K H p ys ∨ SqT K H p ys) ∧ ∀ l, H l = none → Q (.ref l) (upd H l (.lst ys))
def rListT : List V → Hp → VK → Prop := fun xs H Q => ∃ d kvs, xs = [V.ref d] ∧ Rd H d (.dT kvs) ∧ ∀ p bs, H p = none → IsKeys H kvs bs → Q (.ref p) (upd H p (.lst (bs.map V.ref)))
def rListG (K : PySem.W.Frag) : List V → Hp → VK → Prop := fun xs H Q => rListS K xs H Q ∨ rListD xs H Q ∨ rListT xs H Q
end
section
variable {X : Cx}
theorem cr_listS : CallR X (.type "list") (rListS X.K) := call_list_of
theorem cr_listT (hc : X.calm = true) : CallR X (.type "list") rListT := call_list_dT hc
theorem cr_list (hc : X.calm = true) : CallR X (.type "list") (rListG X.K) := cr_listS.or ((call_list_dK hc).or (cr_listT hc))
end
section
variable {B : Tb} {m1 m : Md}
theorem kV_ow {O : List Addr} {H : Hp} (k : Key) : Ow B O H .v (keyD k) (kV k) [] := by
  cases k with
  | inl i => exact .int
  | inr x => exact .str
theorem OwK.keys {O : List Addr} {H : Hp} {m : Md} : ∀ {kvs : List (D × D)} {ks : List (Key × V)} {W : List Addr}, OwK B O H m kvs ks W → OwL B O H .v (kvs.map (·.1)) (ks.map fun kv => kV kv.1) []
  | [], ks, W, h => by cases h; exact .nil
  | kv :: kvs, ks, W, h => by
    cases h with
    | cons h1 h2 => exact .cons (S := []) (T := []) (kV_ow _) (OwK.keys h2)
theorem keys_ow {O : List Addr} {H : Hp} : ∀ (k : List Key), OwL B O H .v (k.map keyD) (k.map kV) []
  | [] => .nil
  | k :: ks => .cons (S := []) (T := []) (kV_ow k) (keys_ow ks)
theorem OwT.keys {O : List Addr} {H : Hp} {m : Md} (lv : Live O H) : ∀ {kvs : List (D × D)} {ks : List (List Key × V)} {W : List Addr} {bs : List Addr}, OwT B O H m kvs ks W → IsKeys H ks bs → OwL B O H .v (kvs.map (·.1)) (bs.map V.ref) []
  | [], ks, W, bs, h, hb => by
    cases h
    cases hb
    exact .nil
  | kv :: kvs, ks, W, bs, h, hb => by
    cases h with
    | cons h1 h2 =>
      cases hb with
      | cons b1 b2 =>
        refine .cons (S := []) (T := []) (.tup rfl ⟨fun z => ?_, b1⟩ (keys_ow _)) (OwT.keys lv h2 b2)
        obtain ⟨o, q, k⟩ := lv _ z
        rw [b1] at q
        cases q
        cases k
theorem b_list (hm : m1 = .v ∨ m1 = .l .v ∨ m1 = .s ∨ m1 = .d .v := by first | exact .inl rfl | exact .inr (.inl rfl) | exact .inr (.inr (.inl rfl)) | exact .inr (.inr (.inr rfl))) : B1S B (rListG B.K) (fun d => (toL d).map .lst) m1 (.l .v) := fun O H x d d' U Q hl u o e q => by
  have newL : ∀ {ds : List D} {vs : List V} {p : Addr}, OwL B O H .v ds vs [] → H p = none → d' = .lst ds → Q (.ref p) (upd H p (.lst vs)) := fun {ds vs p} g hp ed => by
    subst ed
    exact q _ _ [p] (post_upd hp) (fun z hz => by rw [List.mem_singleton.mp hz]; exact hp) (by simp) (new_lst hl g hp)
  cases d <;> first | cases e | skip
  · rename_i ds
    obtain ⟨a, vs, rfl, g1, g2⟩ := o.tup_eq
    exact .inl ⟨a, vs, rfl, .inr (.of g1.2), fun p hp => newL g2 hp rfl⟩
  · rename_i ds
    rcases hm with h | h | h | h
    · obtain ⟨a, vs, rfl, g1, g2⟩ := o.lst_v (.inl h)
      exact .inl ⟨a, vs, rfl, .inl g1, fun p hp => newL g2 hp rfl⟩
    · obtain ⟨a, vs, rfl, g1, g2⟩ := o.lst_v (.inr (.inl h))
      exact .inl ⟨a, vs, rfl, .inl g1, fun p hp => newL g2 hp rfl⟩
    · obtain ⟨a, vs, rfl, g1, g2⟩ := o.lst_v (.inr (.inr h))
      exact .inl ⟨a, vs, rfl, .inl g1, fun p hp => newL g2 hp rfl⟩
    · subst h
      cases o
  · rename_i kvs
    obtain ⟨a, m', W, rfl, _, ⟨ks, g1, g2⟩ | ⟨ks, g1, g2⟩⟩ := o.dct_eq
    · exact .inr (.inl ⟨a, ks, rfl, g1, fun p hp => newL g2.keys hp rfl⟩)
    · exact .inr (.inr ⟨a, ks, rfl, .inl g1, fun p bs hp hb => newL (g2.keys hl hb) hp rfl⟩)
def rTupG (K : PySem.W.Frag) : List V → Hp → VK → Prop := fun xs H Q => ∃ p ys, xs = [.ref p] ∧ ((SqL K H p ys ∧ ∀ l, H l = none → Q (.ref l) (upd H l (.tup ys))) ∨ (SqT K H p ys ∧ Q (.ref p) H))
theorem cr_tup {X : Cx} : CallR X (.type "tuple") (rTupG X.K) := call_tuple_of
theorem b_tup (hm : m1 = .v ∨ m1 = .l .v ∨ m1 = .s := by first | exact .inl rfl | exact .inr (.inl rfl) | exact .inr (.inr rfl)) : B1S B (rTupG B.K) (fun d => (toT d).map .tup) m1 .v := fun O H x d d' U Q hl u o e q => by
  cases d <;> first | cases e | skip
  · rename_i ds
    obtain ⟨a, vs, rfl, g1, g2⟩ := o.tup_eq
    exact ⟨a, vs, rfl, .inr ⟨.of g1.2, q _ H [] (Post.refl _ _) (fun _ h => absurd h List.not_mem_nil) List.nodup_nil (.tup rfl g1 g2)⟩⟩
  · rename_i ds
    obtain ⟨a, vs, rfl, g1, g2⟩ := o.lst_v hm
    exact ⟨a, vs, rfl, .inl ⟨g1, fun p hp => q _ _ [] (post_upd hp) (fun _ h => absurd h List.not_mem_nil) List.nodup_nil (new_tup hl g2 hp)⟩⟩
end
end Mi
namespace Mi
open PySem PySem.Spec PyProof.Rows L2
def miOf (rf : List Bool) : List Nat := (List.range rf.length).filter fun i => rf.getD i false
theorem mem_miOf {rf : List Bool} {i : Nat} : i ∈ miOf rf ↔ rf[i]? = some true := by
  unfold miOf
  rw [List.mem_filter, List.mem_range]
  constructor
  · rintro ⟨h1, h2⟩
    rw [List.getElem?_eq_getElem h1]
    rw [List.getD_eq_getElem?_getD, List.getElem?_eq_getElem h1] at h2
    simpa using h2
  · intro h
    obtain ⟨h1, h2⟩ := List.getElem?_eq_some_iff.mp h
    refine ⟨h1, ?_⟩
    rw [List.getD_eq_getElem?_getD, h]
    rfl
abbrev bodyC (B : Tb) (F : FS) (sub : Sub) (rf : List Bool) (pm : List Md) (rm : Md) (n : Nat) (vs : List V) (E : XK) : Cf :=
  { B := B, M := ⟨miOf rf, vs.map some⟩, F := F, sb := sub, W := fun cls dx _ H => E cls dx H, GX := GMp rf pm ++ List.replicate n none, RM := rm, GR := GMp rf pm ++ List.replicate n none }
section
variable {B : Tb} {O : List Addr} {H : Hp}
theorem Sl.pad {Γ : G} {e : Env} {σ : VS} {S : List Addr} (h : Sl B O H Γ e σ S) (n : Nat) : Sl B O H (Γ ++ List.replicate n none) (e ++ List.replicate n none) (σ ++ List.replicate n none) S := by
  induction h with
  | nil =>
    induction n with
    | zero => exact .nil
    | succ n ih => exact .no ih
  | no _ ih => exact .no ih
  | hv h1 _ ih => exact .hv h1 ih
theorem Sl.nones : ∀ (n : Nat) {e : Env} {σ : VS} {S : List Addr}, Sl B O H (List.replicate n none) e σ S → S = []
  | 0, e, σ, S, h => by
    have h : Sl B O H [] e σ S := h
    cases h
    rfl
  | n + 1, e, σ, S, h => by
    have h : Sl B O H (none :: List.replicate n none) e σ S := h
    cases h with
    | no h' => exact Sl.nones n h'
theorem outs : ∀ {rf : List Bool} {pm : List Md} {vs : List V} {n : Nat} {e : Env} {σ : VS} {S : List Addr}, rf.length = pm.length → vs.length = rf.length → (∀ i : Nat, rf[i]? = some true → σ[i]? = (vs.map some)[i]?) → Sl B O H (GMp rf pm ++ List.replicate n none) e σ S →
    ∃ os, outsOf rf e = some os ∧ os.length = (rf.filter id).length ∧ Sl B O H (GMp rf pm) (envO rf os) (vs.map some) S := by
  intro rf
  induction rf with
  | nil =>
    intro pm vs n e σ S hp hv hi h
    cases pm with
    | cons _ _ => simp at hp
    | nil =>
      cases vs with
      | cons _ _ => simp at hv
      | nil =>
        have zS : S = [] := Sl.nones n h
        subst zS
        exact ⟨[], rfl, rfl, .nil⟩
  | cons r rf ih =>
    intro pm vs n e σ S hp hv hi h
    cases pm with
    | nil => simp at hp
    | cons m pm =>
      cases vs with
      | nil => simp at hv
      | cons v vs =>
        cases r with
        | true =>
          have h : Sl B O H (some m :: (GMp rf pm ++ List.replicate n none)) e σ S := h
          cases h with
          | @hv _ d w _ e' σ' S1 T1 ow h'' =>
            have hw : w = v := by
              have := hi 0 rfl
              simpa using this
            subst hw
            obtain ⟨os, h1, h2, h3⟩ := ih (by simpa using hp) (by simpa using hv) (fun i hi' => by simpa using hi (i + 1) (by simpa using hi')) h''
            exact ⟨d :: os, by simp [outsOf, h1], by simp [h2], .hv ow h3⟩
        | false =>
          have h : Sl B O H (none :: (GMp rf pm ++ List.replicate n none)) e σ S := h
          cases h with
          | @no _ e' σ' _ x y h'' =>
            obtain ⟨os, h1, h2, h3⟩ := ih (by simpa using hp) (by simpa using hv) (fun i hi' => by simpa using hi (i + 1) (by simpa using hi')) h''
            exact ⟨os, by simp [outsOf, h1], by simp [h2], .no h3⟩
end
theorem def_ok {P : Program} {w : World} {K : PySem.W.Frag} {mg : Str → Option Value} {base : Heap} {k n : Nat} {f : Addr} {fd : FuncData} {x qual : Str} {st : Stmt} {N ps : List Str} {B : Tb} {F : FS} {sub : Sub} {fn : Fn} {pm : List Md} {rm : Md} {Γe : G}
    (Fu : Fun K x qual st f fd) (Sc : FnScope N ps (defScope st)) (hB : B.K = K) (h1 : fn.rf.length = ps.length) (h2 : fn.ns = ps.length + n) (h3 : N.length = ps.length + n) (h4 : pm.length = fn.rf.length) (hle : leG Γe (GMp fn.rf pm ++ List.replicate n none) = true)
    (body : ∀ (cd : Value) (A : Around) (outer : List PySem.Env) (s : Shared) (H : Hp) (vs : List V) (E : XK), Room k (A.deeper (envOfC qual (defScope st) s.heap.objs.size f cd)) → Gd (bodyX P w K mg base N qual (defScope st) f cd A outer s H E) (bodyC B F sub fn.rf pm rm n vs E) →
      SSs (bodyX P w K mg base N qual (defScope st) f cd A outer s H E) (bodyC B F sub fn.rf pm rm n vs E) (pm.map some ++ List.replicate n none) (defBody st) fn.body Γe) :
    FnG P w K mg base (k + 1) f fd ps (spF B (runFn F sub fn) fn.rf pm rm) := by
  refine FnG.make Fu Sc (fun vs H Q E h => h.1.trans h1) fun cd A outer s H vs Q E hg hr hsp => ?_
  obtain ⟨hlen, ds, S, R, nd, lv, sl, hm⟩ := hsp
  have tk : Takes (bodyX P w K mg base N qual (defScope st) f cd A outer s H E) fun cls dx _ H => E cls dx H := takes_of rfl rfl rfl rfl
  have g : Gd (bodyX P w K mg base N qual (defScope st) f cd A outer s H E) (bodyC B F sub fn.rf pm rm n vs E) :=
    ⟨hB.symm, rfl, Sc.nd, hg, by have := hr.un; show (A.deeper _).units + 150 < cLine; omega, tk, passes_of rfl⟩
  refine ⟨_, body cd A outer s H vs E hr g, ds.map some ++ List.replicate n none, S, R, ⟨nd, lv, ?_, fun i hi => ?_⟩, ?_⟩
  · have e : L2.start N vs = vs.map some ++ List.replicate n none := by
      unfold L2.start
      rw [h3, hlen, h1, Nat.add_sub_cancel_left]
    rw [e]
    exact sl.pad n
  · have hi' := mem_miOf.mp hi
    have hlt : i < vs.length := by rw [hlen]; exact (List.getElem?_eq_some_iff.mp hi').1
    unfold L2.start
    rw [List.getElem?_append_left (by simpa using hlt)]
  · have hds : ds.length = fn.rf.length := by
      have : ∀ {pm : List Md} {ds : List D} {vs : List V} {U : List Addr} {O : List Addr}, Sl B O H (pm.map some) (ds.map some) (vs.map some) U → ds.length = vs.length := by
        intro pm
        induction pm with
        | nil => intro ds vs U O h; cases ds <;> cases vs <;> first | rfl | (exfalso; simp at h; cases h)
        | cons m pm ih =>
          intro ds vs U O h
          cases ds with
          | nil => exfalso; simp at h; cases h
          | cons d ds => cases vs with
            | nil => exfalso; simp at h; cases h
            | cons v vs => cases h with
              | hv _ h => simp [ih h]
      rw [this sl, hlen]
    have hm : match (match evS F sub fn.body (ds.map some ++ List.replicate n none) with
      | .ok fl e => match outsOf fn.rf e with
        | some os => FR.ok (match fl with
          | .nxt => .non
          | .ret d => d) os
        | none => .bad
      | .err c fs e => match outsOf fn.rf e with
        | some os => .err c fs os
        | none => .bad
      | .bad => .bad) with
      | .ok r os => ∀ v H' S' T, os.length = (fn.rf.filter id).length → Post S H H' → New S H (S' ++ T) → (S' ++ (T ++ R)).Nodup → Live (T ++ R) H' → Sl B (S' ++ (T ++ R)) H' (GMp fn.rf pm) (envO fn.rf os) (vs.map some) S' → Ow B (S' ++ (T ++ R)) H' rm r v T → Q v H'
      | .err c es os => ∀ cls dx H' S', os.length = (fn.rf.filter id).length → Post S H H' → New S H S' → (S' ++ R).Nodup → Live R H' → Sl B (S' ++ R) H' (GMp fn.rf pm) (envO fn.rf os) (vs.map some) S' → ExR B (S' ++ R) H' c es cls dx → E cls dx H'
      | .bad => False := by
      unfold runFn at hm
      rw [if_pos hds, h2, h1, Nat.add_sub_cancel_left] at hm
      exact hm
    have mps : ∀ {R' : List Addr} {Γ : G} {e' : Env} {σ' : VS} {H' : Hp} {S' : List Addr}, Sta B ⟨miOf fn.rf, vs.map some⟩ R' Γ e' σ' H' S' → ∀ i : Nat, fn.rf[i]? = some true → σ'[i]? = (vs.map some)[i]? := fun s i hi => s.mp i (mem_miOf.mpr hi)
    show OutS _ _ H S R Γe (evS F sub fn.body (ds.map some ++ List.replicate n none))
    cases hev : evS F sub fn.body (ds.map some ++ List.replicate n none) with
    | bad => rw [hev] at hm; exact hm
    | err c fs e' =>
      rw [hev] at hm
      intro cls dx σ' H' S' po nw sta ex
      obtain ⟨os, o1, o2, o3⟩ := outs h4.symm hlen (mps sta) sta.sl
      dsimp only at hm
      rw [o1] at hm
      exact hm cls dx H' S' o2 po nw sta.nd sta.live o3 ex
    | ok fl e' =>
      rw [hev] at hm
      cases fl with
      | nxt =>
        intro σ' H' S' po nw sta0
        obtain ⟨S2, k1, sta⟩ := sta0.le hle
        obtain ⟨os, o1, o2, o3⟩ := outs h4.symm hlen (mps sta) sta.sl
        dsimp only at hm
        rw [o1] at hm
        exact hm .non H' S2 [] o2 po (fun a ha => nw a (k1 a (by simpa using ha))) sta.nd sta.live o3 .non
      | ret d =>
        intro v σ' H' S' T po nw sta ow
        obtain ⟨os, o1, o2, o3⟩ := outs h4.symm hlen (mps sta) sta.sl
        dsimp only at hm
        rw [o1] at hm
        exact hm v H' S' T o2 po nw sta.nd sta.live o3 ow
theorem law_callG {P : Program} {w : World} {K : PySem.W.Frag} {mg mb : Str → Option Value} {k : Nat} {fa a : Addr} {fd : FuncData} {x : Str} {s₁ : Shared} {vs : List Value} {ns : List Int} {B : Tb} {fs : List D → FR}
    (KX : K.In s₁.heap) (hns : s₁.heap.Ns mainGlobals mg) (hb : s₁.heap.Ns builtinsNs mb) (hbb : ∀ x : Str, x ≠ "__name__" → mb x = bootBuiltins x) (hlim : s₁.heap.NoLimit) (hg : s₁.gens = #[])
    (ha : s₁.heap.get? a = some { cls := .type "list", data := .seq vs.toArray }) (hi : IntsAre vs ns) (hl : ns.length ≤ sizeLine) (hr : Room k callerA) (hBK : B.K = K)
    (F : ∀ base : Heap, K.In base → base.Ns mainGlobals mg → FnG P w K mg base k fa fd [x] (spF B fs [false] [.s] .v)) (hbind : ∀ (s : Shared) (u : Value), BindsTo s fd ⟨[u], []⟩ [(x, u)]) (law : fs [.lst (ns.map .int)] = .ok (.bl true) []) :
    codeAny (model P w) callerA (.call (.ref fa) ⟨[.ref a], []⟩) (fun r s' => r = .ok (.ret (.bool true)) ∧ OldK s₁.heap s'.heap ∧ s'.os = s₁.os ∧ AllBare s'.gens) s₁ := by
  have rv := vals_ints hi
  let H : Hp := fun b => if b = a ∧ K.lookup a = none then some (.frz { cls := .type "list", data := .seq vs.toArray } (.lst (ns.map V.int))) else none
  have only : ∀ b ob, H b = some ob → b = a ∧ K.lookup a = none ∧ ob = .frz { cls := .type "list", data := .seq vs.toArray } (.lst (ns.map V.int)) := fun b ob e => by
    by_cases h : b = a ∧ K.lookup a = none
    · exact ⟨h.1, h.2, (Option.some.inj ((if_pos h).symm.trans e)).symm⟩
    · have := (if_neg h).symm.trans e
      cases this
  have hok : HOk P w H s₁.heap := fun b ob e => by
    obtain ⟨rfl, _, rfl⟩ := only b ob e
    exact ⟨ha, by rw [List.length_map]; exact hl, vs, _, rv, ha⟩
  have scr : Scr K [] H a ns := by
    cases hk : K.lookup a with
    | none => exact .inl ⟨List.not_mem_nil, _, if_pos ⟨rfl, hk⟩⟩
    | some o =>
      have e := KX a o hk
      rw [ha] at e
      cases e
      exact .inr (.inr ⟨_, vs.toArray, _, hk, rfl, rfl, rfl, by rw [List.size_toArray, hi.length]; exact hl, by simpa using rv⟩)
  have free : ∀ {b : Addr} {ob : Obj} {es : Array DictEntry} {ep : Nat}, s₁.heap.get? b = some ob → ob.data = .dict es ep → H b = none := fun {b ob es ep} e d => by
    cases q : H b with
    | none => rfl
    | some u =>
      obtain ⟨rfl, _, _⟩ := only b u q
      rw [ha] at e
      cases e
      cases d
  have nsB : ∀ {b : Addr} {m : Str → Option Value}, s₁.heap.Ns b m → (hidT s₁.heap H).Ns b m := fun {b m} ⟨o, es, ep, e, d, r⟩ => ⟨o, es, ep, hidT_get e (free e d), d, r⟩
  have inB : K.In (hidT s₁.heap H) := fun b o e => hidT_get (KX b o e) (by
    cases q : H b with
    | none => rfl
    | some u =>
      obtain ⟨rfl, hk, _⟩ := only b u q
      rw [hk] at e; cases e)
  have lim2 : (hidT s₁.heap H).NoLimit := by
    obtain ⟨mc, q1, q2⟩ := hlim
    exact ⟨mc, nsB q1, q2⟩
  have e0 : Env0 P w K mg (hidT s₁.heap H) callerA [] s₁ H :=
    ⟨rfl, ⟨inB, nsB hns, ⟨mb, nsB hb, hbb⟩, lim2⟩, fun b o e => of_hidT e, Nat.le_of_eq (hidT_size _ _), trivial, fun b hb => absurd (show b ∈ ([] : List Addr) from hb) (by simp), hok, .of_eq hg⟩
  have run := (F _ inB (nsB hns)).run callerA [] s₁ H ⟨[.ref a], []⟩ [.ref a] [.ref a] (fun v _ => v = .bl true) (fun _ _ _ => False) rfl hr e0 (hbind s₁ (.ref a)) (.cons rfl .nil)
    ⟨rfl, [.lst (ns.map .int)], [], [], List.nodup_nil, Live.nil, .hv (S := []) (.scr (hBK ▸ scr)) .nil, by
      rw [law]
      intro v H' S' T _ _ _ _ _ _ ow
      exact ow.bl_eq⟩
  refine codeAny_mono run fun r s' h => ?_
  cases r with
  | error e =>
    obtain ⟨_, _, _, _, _, _, _, _, _, _, _, _, q⟩ := (show L2.CX P w [] H s₁ (fun _ _ _ => False) e s' from h)
    exact q.elim
  | ok fl =>
    cases fl with
    | next => exact False.elim h
    | brk => exact False.elim h
    | cont => exact False.elim h
    | ret u =>
      obtain ⟨v, H', os, bare, un, hok', r', q⟩ := h
      have q' : v = .bl true := q
      subst q'
      obtain rfl : u = Value.bool true := r'
      refine ⟨rfl, OldK.of_keep fun b o e => ?_, os, bare⟩
      cases q : H b with
      | none => exact un.keep b o e q (fun z => absurd (show b ∈ ([] : List Addr) from z) (by simp)) (by simp)
      | some u =>
        obtain ⟨rfl, _, rfl⟩ := only b u q
        obtain ⟨e1, _⟩ := hok _ _ q
        obtain ⟨e2, _⟩ := hok' _ _ (un.frzs _ _ _ q)
        rw [e] at e1
        cases e1
        exact e2
theorem walk_ofG {l : PySem.W.OpenLaw} {n k : Nat} {q : Program} {loose : List Str} {XP : (Str → Option Value) → Heap → Prop} {YP : World → Heap → Prop} {d : DefRec} {K : Params → PySem.W.Frag} {x : Str} {B : World → Tb} {fs : List D → FR}
    (hn : l.most = some n) (hn2 : n ≤ sizeLine) (hdf : d.params.defaults = []) (hr : Room k callerA) (hY : ∀ (w : World) (h : Heap), YP w h → (K w.params).In h) (hBK : ∀ w, (B w).K = K w.params)
    (F : ∀ (w : World) (mg : Str → Option Value) (fa : Addr) (h : Heap), (K w.params).In h → h.Ns mainGlobals mg → mg d.name = some (.ref fa) → ∃ fd : FuncData, (∀ (s : Shared) (u : Value), BindsTo s fd ⟨[u], []⟩ [(x, u)]) ∧
      ∀ base : Heap, (K w.params).In base → base.Ns mainGlobals mg → FnG l.prog w (K w.params) mg base k fa fd [x] (spF (B w) fs [false] [.s] .v))
    (law : ∀ ns : List Int, ns.length ≤ n → fs [.lst (ns.map .int)] = .ok (.bl true) []) : PySem.W.WalkO q loose XP YP l.row.toRowW d [] (fun f vs => PySem.call f vs) := by
  refine Att.attach_call hn hdf fun w s₀ s₁ mg mb fa o pm cd doc a vs ns G Y ho hd hcd hmg hobj hints hlen hg => ?_
  have KX := hY w _ Y
  obtain ⟨fd, hb, hF⟩ := F w mg fa _ KX G.T.g hmg
  exact law_callG KX G.T.g G.T.b G.T.builtins G.T.nolimit hg hobj hints (Nat.le_trans hlen hn2) hr (hBK w) hF hb (law ns hlen)
end Mi
namespace Mi
open PySem PySem.Spec PyProof.Rows L2
def MuS (B : Tb) (r : V → List V → Hp → VK → Prop) (mm : Mu) (m : Md) (ks : List AK) : Prop :=
  ∀ (O S : List Addr) (σ : VS) (H : Hp) (x : V) (d res d' : D) (as : List Ar) (ds : List D) (vs : List V) (U T W : List Addr) (Q : VK), (U ++ (T ++ W)).Nodup → Live (U ++ (T ++ W)) H → Ow B (U ++ (T ++ W)) H m d x U →
    ArR B (U ++ (T ++ W)) S H σ ks as vs T → dsOf as = some ds → evMu mm d ds = some (res, d') →
    (∀ v H' U', Post U H H' → (∀ a ∈ U', a ∈ U ∨ a ∈ T ∨ H a = none) → U'.Nodup → Ow B (U' ++ W) H' m d' x U' → Ow B (U' ++ W) H' .v res v [] → Q v H') → r x vs H Q
theorem Vl.perm {B : Tb} {O O' S : List Addr} {H : Hp} {k : Kd} {d : D} {v : V} {T : List Addr} (h : Vl B O S H k d v T) (p : ∀ a ∈ O', a ∈ O) : Vl B O' S H k d v T := by
  cases k with
  | own m => exact Ow.fr (Fr.sub p) h fun _ _ _ z => z
  | bor m =>
    obtain ⟨h0, U, h1, h2⟩ := h
    exact ⟨h0, U, h1, Ow.fr (Fr.sub p) h2 fun _ _ _ z => z⟩
section
variable {X : Cx} {C : Cf} {σ : VS} {H : Hp} {p : Bool} {Γ Γ1 : G} {i : Nat} {m m0 : Md} {ms : Exs} {ks : List AK} {r : V → List V → Hp → VK → Prop} {mm : Mu} {es : List Expr} {ea : Expr} {x : Str} {pos pos' apos : Pos}
theorem getP_nil (d : D) : getP d [] = some d := by cases d <;> rfl
theorem setP_nil (d x : D) : setP d [] x = some x := by cases d <;> rfl
theorem c_mut {T : String} (hs : MuS C.B r mm m ks) (hm0 : Γ[i]? = some (some m0)) (hm1 : Γ1[i]? = some (some m)) (hty : ∀ (O : List Addr) (H : Hp) (d : D) (v : V) (U : List Addr), Ow C.B O H m0 d v U → muTy mm d = true → tyV C.B.K T v H)
    {Q : VK} (h : tE C false Γ (.mut mm (.sl i) ms) (.own .v) Γ1 σ H Q) : ∃ v, σ[i]? = some (some v) ∧ tyV C.B.K T v H ∧ tA C p Γ ms ks Γ1 σ H fun xs H2 => r v xs H2 Q := by
  obtain ⟨e, S, R, s, o⟩ := h
  obtain ⟨d0, v0, U0, g1, g2, g3, g4⟩ := s.sl.get hm0
  have o : Out C σ H S R (OkE C σ H S R false (.own .v) Γ1 Q) (if atPl (muTy mm) (gt e i) [] then (evEs C.F ms e).bind fun as e2 => (match dsOf as with
      | some ds => doMu mm ds (i, []) e2
      | none => .bad) else .bad) := o
  rw [g1] at o
  have hat : atPl (muTy mm) (some d0) [] = muTy mm d0 := by simp only [atPl, getP_nil]
  rw [hat] at o
  split at o
  case isFalse => exact o.elim
  rename_i hmt
  refine ⟨v0, g2, hty _ H d0 v0 U0 g4 hmt, ?_⟩
  refine (At.start s).evA o fun as e2 vs H2 S2 T2 a2 v2 _ nw o2 => ?_
  cases hd : dsOf as with
  | none => rw [hd] at o2; exact o2.elim
  | some ds =>
    rw [hd] at o2
    obtain ⟨d, v, U, Z, h1, h2, h3, h4, back⟩ := a2.sta.upd hm1
    rw [g2] at h2
    cases h2
    have o2 : Out C σ H S R (OkE C σ H S R false (.own .v) Γ1 Q) (doMu mm ds (i, []) e2) := o2
    have o2 : Out C σ H S R (OkE C σ H S R false (.own .v) Γ1 Q) (match gt e2 i with
      | some d0 => match getP d0 [] with
        | some a => match evMu mm a ds with
          | some (r, a') => match setP d0 [] a' with
            | some d1 => .ok r (st e2 i (some d1))
            | none => .bad
          | none => .bad
        | none => .bad
      | none => .bad) := o2
    rw [h1] at o2
    simp only [getP_nil] at o2
    cases he : evMu mm d ds with
    | none => rw [he] at o2; exact o2.elim
    | some rd =>
      obtain ⟨res, d'⟩ := rd
      rw [he] at o2
      simp only [setP_nil] at o2
      have mem : ∀ a, a ∈ U ++ (T2 ++ (Z ++ R)) ↔ a ∈ S2 ++ (T2 ++ R) := fun a => by
        simp only [List.mem_append, h4.mem_iff]
        constructor
        · rintro (h | h | h | h)
          · exact .inl (.inl h)
          · exact .inr (.inl h)
          · exact .inl (.inr h)
          · exact .inr (.inr h)
        · rintro ((h | h) | h | h)
          · exact .inl h
          · exact .inr (.inr (.inl h))
          · exact .inr (.inl h)
          · exact .inr (.inr (.inr h))
      have nd : (U ++ (T2 ++ (Z ++ R))).Nodup := by
        have perm : (U ++ (T2 ++ (Z ++ R))).Perm (S2 ++ (T2 ++ R)) := by
          refine List.Perm.trans ?_ (h4.append_right (T2 ++ R)).symm
          rw [List.append_assoc]
          exact (List.perm_append_comm_assoc T2 Z R).append_left U
        exact perm.nodup_iff.mpr a2.sta.nd
      refine hs (S2 ++ (T2 ++ R)) S2 σ H2 _ d res d' as ds vs U T2 (Z ++ R) Q nd (fun a ha => a2.sta.lives a ((mem a).mp ha)) (h3.fr (Fr.sub fun a ha => (mem a).mp ha) fun _ _ _ z => z) (v2.fr fun k d v T' w _ => w.perm fun a ha => (mem a).mp ha) hd he ?_
      intro v H' U' po nU ndU ow owr
      obtain ⟨S', p1, p2⟩ := back H' d' U' po nU ndU ow
      have pS : Post S2 H2 H' := po.mono fun a ha => h4.mem_iff.mpr (memL ha)
      refine (show OkE C σ H S R false (.own .v) Γ1 Q res _ from o2) v H' S' [] (a2.po.ite.trans a2.n pS) (fun z => nomatch z) (fun a ha => ?_) p2 (owr.fr (Fr.sub fun a ha => ?_) fun _ z => nomatch z)
      · have ha : a ∈ S' := by simpa using ha
        rcases List.mem_append.mp (p1.mem_iff.mp ha) with w | w
        · rcases nU a w with w | w | w
          · exact a2.n a (h4.mem_iff.mpr (memL w))
          · exact nw a (memR w)
          · exact (a2.n.trans a2.po.ite (New.fresh (T := [a]) (S := S2) fun b hb => by rw [List.mem_singleton.mp hb]; exact w)) a (by simp)
        · exact a2.n a (h4.mem_iff.mpr (memR w))
      · have ha : a ∈ S' ++ R := by simpa using ha
        rcases List.mem_append.mp ha with w | w
        · exact (List.mem_append.mp (p1.mem_iff.mp w)).elim memL fun q => memR (memL q)
        · exact memR (memR w)
theorem w_mut {T id : String} {name : Str} (pa : PlainAttrs T) (slot : Slot T name id) (hty' : typeOf (.builtin id) = pure (.type "method_descriptor")) (hr : MtR X id r) (hs : MuS C.B r mm m ks) (g : Gd X C)
    (hty : ∀ (O : List Addr) (H : Hp) (d : D) (v : V) (U : List Addr), Ow C.B O H m0 d v U → muTy mm d = true → tyV C.B.K T v H) (ha : SA X C p Γ (ea :: es) ms ks Γ1)
    (hN : X.N[i]? = some x := by rfl) (hm0 : Γ[i]? = some (some m0) := by rfl) (hm1 : Γ1[i]? = some (some m) := by rfl) (hv : Vis X.env.scope x := by first | exact Or.inl rfl | exact Or.inr (Or.inl rfl) | exact Or.inr (Or.inr rfl))
    (hd : (x == ("__debug__" : Str)) = false := by decide) (hcd : (x == ("__classdict__" : Str)) = false := by decide)
    (hbase : attributeBase (.Name x pos') name X.env (eval (.Name x pos') X.env) = eval (.Name x pos') X.env := by rfl)
    (hfew : ((backTo pos (starEach (ea :: es) X.env)).all (fun x => !x.1) && (backToKw pos (keywordEach [] X.env)).all (fun x => x.1.isSome)
      && decide ((ea :: es).length + ([] : List Keyword).length + (if ([] : List Keyword).isEmpty then 0 else 1) < 30)) = true := by rfl)
    (hline : (apos.endLine == pos.line) = true := by rfl) (hs1 : starEach (ea :: es) X.env = (false, eval ea X.env) :: starEach es X.env := by rfl) (hplain : (backTo pos (starEach es X.env)).any (·.1) = false := by rfl) :
    SE X C false Γ (.Call (.Attribute (.Name x pos') name apos) (ea :: es) [] pos) (.mut mm (.sl i) ms) (.own .v) Γ1 :=
  PE.imp (pe_bm pa slot hty' hr (pe_var hN hv hd hcd) ha hbase hfew hline hs1 hplain) fun σ H Q h => by
    obtain ⟨v, h1, h2, h3⟩ := c_mut (p := p) hs hm0 hm1 hty h
    exact ⟨v, h1, g.K ▸ h2, h3⟩
theorem w_mut0 {T id : String} {name : Str} (pa : PlainAttrs T) (slot : Slot T name id) (hty' : typeOf (.builtin id) = pure (.type "method_descriptor")) (hr : MtR X id r) (hs : MuS C.B r mm m []) (g : Gd X C)
    (hty : ∀ (O : List Addr) (H : Hp) (d : D) (v : V) (U : List Addr), Ow C.B O H m d v U → muTy mm d = true → tyV C.B.K T v H)
    (hN : X.N[i]? = some x := by rfl) (hm0 : Γ[i]? = some (some m) := by rfl) (hv : Vis X.env.scope x := by first | exact Or.inl rfl | exact Or.inr (Or.inl rfl) | exact Or.inr (Or.inr rfl))
    (hd : (x == ("__debug__" : Str)) = false := by decide) (hcd : (x == ("__classdict__" : Str)) = false := by decide)
    (hbase : attributeBase (.Name x pos') name X.env (eval (.Name x pos') X.env) = eval (.Name x pos') X.env := by rfl) (hline : (apos.endLine == pos.line) = true := by rfl) :
    SE X C false Γ (.Call (.Attribute (.Name x pos') name apos) [] [] pos) (.mut mm (.sl i) .nil) (.own .v) Γ :=
  PE.imp (pe_bm0 pa slot hty' hr (pe_var hN hv hd hcd) hbase hline) fun σ H Q h => by
    obtain ⟨v, h1, h2, h3⟩ := c_mut (p := true) (ks := []) hs hm0 hm0 hty h
    refine ⟨v, h1, g.K ▸ h2, ?_⟩
    obtain ⟨e, S, R, s, o⟩ := h3
    exact (show OkA C σ H S R true [] Γ _ [] e from o) [] H S [] (Post.refl _ _) (fun _ => rfl) (by simpa using New.refl) s .nil
end
theorem ty_lst {B : Tb} {O : List Addr} {H : Hp} {m : Md} {d : D} {v : V} {U : List Addr} (ow : Ow B O H m d v U) (h : isTy .list d = true) : tyV B.K "list" v H := by
  cases d <;> first | cases h | skip
  obtain ⟨a, vs, m', U, rfl, h1, _⟩ := ow.lst_sq
  exact .inl ⟨rfl, vs, h1⟩
theorem ty_dct {B : Tb} {O : List Addr} {H : Hp} {m : Md} {d : D} {v : V} {U : List Addr} (ow : Ow B O H m d v U) (h : isTy .dict d = true) : tyV B.K "dict" v H := by
  cases d <;> first | cases h | skip
  obtain ⟨a, m', W, rfl, _, ⟨ks, g1, g2⟩ | ⟨ks, g1, g2⟩⟩ := ow.dct_eq
  · exact .inr (.inr (.inl ⟨rfl, .inl ⟨ks, g1⟩⟩))
  · exact .inr (.inr (.inl ⟨rfl, .inr ⟨ks, g1⟩⟩))
section
variable {B : Tb} {mi : Md}
theorem upd_post {H : Hp} {b : Addr} {o o' : HO} {U : List Addr} (h : H b = some o) (hb : b ∈ U) : Post U H (upd H b o') := post_write h hb
theorem fr_write {H : Hp} {b : Addr} {o' : HO} {O O' : List Addr} (hb : b ∈ O) (h : ∀ a ∈ O', a ∈ O) : Fr O O' H (upd H b o') := ⟨fun a o n e => by rw [upd_ne fun z => n (by rw [z]; exact hb)]; exact e, fun a o n _ z => n (h a z)⟩
theorem mu_append : MuS B rAppend .append (.l mi) [.kd (.own mi)] := fun O S σ H x d res d' as ds vs U T W Q nd lv ow ar hd he q => by
  cases ar with
  | @kd _ _ d1 _ v1 _ T1 U1 h1 h2 =>
    cases h2
    cases hd
    cases d <;> first | cases he | skip
    rename_i xs
    obtain ⟨b, ws, Tb, rfl, hb, hL, rfl⟩ := ow.l_inv
    have he : (if xs.length < LIM then some (D.non, D.lst (xs ++ [d1])) else none) = some (res, d') := he
    split at he
    · rename_i hz
      cases he
      have h1 : Ow B _ H mi d1 v1 T1 := h1
      have hz' : ws.length < sizeLine := by
        rw [← hL.len, sizeLine_eq]
        simp only [LIM] at hz
        omega
      have nd1 := List.nodup_append.mp nd
      have ndT := List.nodup_append.mp nd1.2.1
      have bT : b ∉ Tb := (List.nodup_cons.mp nd1.1).1
      have bT1 : b ∉ T1 := fun z => nd1.2.2 b (by simp) b (memL (by simpa using z)) rfl
      have f : Fr ((b :: Tb) ++ ((T1 ++ []) ++ W)) ((b :: (Tb ++ T1)) ++ W) H (upd H b (.lst (ws ++ [v1]))) := fr_write (by simp) fun a ha => by
        simp only [List.cons_append, List.mem_cons, List.mem_append, List.append_nil] at ha ⊢
        rcases ha with h | (h | h) | h
        · exact .inl h
        · exact .inr (.inl h)
        · exact .inr (.inr (.inl h))
        · exact .inr (.inr (.inr h))
      refine ⟨b, ws, v1, rfl, rfl, hb, hz', q .non _ (b :: (Tb ++ T1)) (post_write hb (by simp)) (fun a ha => ?_) ?_ (.lst upd_same ?_) .non⟩
      · simp only [List.mem_cons, List.mem_append] at ha ⊢
        rcases ha with h | h | h
        · exact .inl (.inl h)
        · exact .inl (.inr h)
        · exact .inr (.inl (.inl h))
      · refine List.nodup_cons.mpr ⟨fun z => (List.mem_append.mp z).elim bT bT1, ?_⟩
        refine List.nodup_append.mpr ⟨(List.nodup_cons.mp nd1.1).2, (List.nodup_append.mp ndT.1).1, fun x hx y hy z => nd1.2.2 x (List.mem_cons_of_mem _ hx) y (memL (memL hy)) z⟩
      · have g1 := hL.fr f fun a ha o e => by rw [upd_ne fun z => bT (by rw [← z]; exact ha)]; exact e
        have g2 := h1.fr f fun a ha o e => by rw [upd_ne fun z => bT1 (by rw [← z]; exact ha)]; exact e
        have g3 := OwL.appS g1 (OwL.cons g2 (OwL.nil (B := B) (m := mi)))
        simpa using g3
    · cases he
theorem OwL.last {B : Tb} {O : List Addr} {H : Hp} : ∀ {ds : List D} {vs : List V} {d : D}, OwL B O H .v ds vs [] → ds.getLast? = some d → ∃ v, vs[vs.length - 1]? = some v ∧ Ow B O H .v d v [] ∧ OwL B O H .v ds.dropLast vs.dropLast [] := by
  intro ds vs d h e
  have hl := h.len
  rw [List.getLast?_eq_getElem?] at e
  obtain ⟨v, U, h1, h2, _⟩ := h.get e
  have z := h2.v_nil
  subst z
  refine ⟨v, by rw [← hl]; exact h1, h2, ?_⟩
  rw [List.dropLast_eq_take, List.dropLast_eq_take, hl]
  exact h.take' _
theorem mu_pop : MuS B rPop .pop (.l .v) [] := fun O S σ H x d res d' as ds vs U T W Q nd lv ow ar hd he q => by
  cases ar
  cases hd
  cases d <;> first | cases he | skip
  rename_i xs
  obtain ⟨b, ws, Tb, rfl, hb, hL, rfl⟩ := ow.l_inv
  have z := hL.v_nil
  subst z
  obtain ⟨y, hy, hz⟩ := Option.map_eq_some_iff.mp (show (xs.getLast?).map (fun x => (x, D.lst xs.dropLast)) = some (res, d') from he)
  cases hz
  obtain ⟨v, k1, k2, k3⟩ := hL.last hy
  have f : Fr ([b] ++ ([] ++ W)) ([b] ++ W) H (upd H b (.lst ws.dropLast)) := fr_write (by simp) fun a ha => by simpa using ha
  exact ⟨b, ws, v, rfl, rfl, hb, k1, q v _ [b] (post_write hb (by simp)) (fun a ha => .inl ha) (by simp) (.lst (S := []) upd_same (k3.fr f fun _ z => nomatch z)) (k2.fr f fun _ z => nomatch z)⟩
theorem OwL.erase {B : Tb} {O : List Addr} {H : Hp} : ∀ {ds : List D} {vs : List V} (n : Nat), OwL B O H .v ds vs [] → OwL B O H .v (ds.eraseIdx n) (vs.eraseIdx n) []
  | [], vs, n, h => by cases h; exact .nil
  | d :: ds, vs, n, h => by
    obtain ⟨v, ws, rfl, h1, h2⟩ := h.v_cons
    cases n with
    | zero => exact h2
    | succ n => exact .cons (S := []) (T := []) h1 (OwL.erase n h2)
theorem ixN_seq {n : Nat} {i : Int} {k : Nat} (h : Mi.ixN n i = some k) : seqIndex? i n = some k ∧ k < n := by
  unfold Mi.ixN at h
  unfold seqIndex?
  split at h
  · split at h
    · cases h
      rename_i h1 h2
      exact ⟨by simp; omega, by omega⟩
    · cases h
  · split at h
    · cases h
      rename_i h1 h2
      exact ⟨by simp; omega, by omega⟩
    · cases h
theorem mu_popAt : MuS B rPopAt .popAt (.l .v) [.kd (.own .v)] := fun O S σ H x d res d' as ds vs U T W Q nd lv ow ar hd he q => by
  cases ar with
  | @kd _ _ d1 _ v1 _ T1 U1 h1 h2 =>
    cases h2
    cases hd
    cases d <;> first | cases he | skip
    rename_i xs
    cases d1 <;> first | cases he | skip
    rename_i j
    obtain ⟨b, ws, Tb, rfl, hb, hL, rfl⟩ := ow.l_inv
    have z := hL.v_nil
    subst z
    have he : (if j.natAbs < LIM then (Mi.ixN xs.length j).bind (fun k => (xs[k]?).map fun x => (x, D.lst (xs.eraseIdx k))) else none) = some (res, d') := he
    split at he
    case isFalse => cases he
    rename_i hj
    obtain ⟨k, e1, e2⟩ := Option.bind_eq_some_iff.mp he
    obtain ⟨y, hy, hz⟩ := Option.map_eq_some_iff.mp e2
    cases hz
    obtain ⟨v, U', k1, k2, _⟩ := hL.get hy
    have z := k2.v_nil
    subst z
    have zT : T1 = [] := Ow.v_nil h1
    subst zT
    have f : Fr ([b] ++ (([] ++ []) ++ W)) ([b] ++ W) H (upd H b (.lst (ws.eraseIdx k))) := fr_write (by simp) fun a ha => by simpa using ha
    obtain ⟨i1, i2⟩ := ixN_seq e1
    refine ⟨b, ws, j, k, v, rfl, by rw [Ow.int_eq h1], hb, (lim63 hj).1, (lim63 hj).2, by rw [← hL.len]; exact i1, k1, ?_⟩
    exact q v _ [b] (post_write hb (by simp)) (fun a ha => .inl ha) (by simp) (.lst (S := []) upd_same ((hL.erase k).fr f fun _ z => nomatch z)) (k2.fr f fun _ z => nomatch z)
theorem mu_clear : MuS B rClear .clear (.l mi) [] := fun O S σ H x d res d' as ds vs U T W Q nd lv ow ar hd he q => by
  cases ar
  cases hd
  cases d with
  | lst xs =>
    obtain ⟨b, ws, Tb, rfl, hb, hL, rfl⟩ := ow.l_inv
    cases (show some (D.non, D.lst []) = some (res, d') from he)
    exact ⟨b, ws, rfl, rfl, hb, q .non _ [b] (post_write hb (by simp)) (fun a ha => .inl (by rw [List.mem_singleton.mp ha]; exact List.mem_cons_self ..)) (by simp) (.lst (S := []) upd_same .nil) .non⟩
  | _ => cases he
def rIns : V → List V → Hp → VK → Prop := fun x vs H Q => ∃ (l : Addr) (xs : List V) (i : Int) (y : V), x = .ref l ∧ vs = [.int i, y] ∧ H l = some (.lst xs) ∧ xs.length < sizeLine ∧ 0 ≤ i ∧ i < 2 ^ 63 ∧ Q .non (upd H l (.lst (xs.take i.toNat ++ [y] ++ xs.drop i.toNat)))
theorem mr_ins {X : Cx} : MtR X "list.insert" rIns := mt_insert
theorem mu_insert : MuS B rIns .insert (.l .v) [.kd (.own .v), .kd (.own .v)] := fun O S σ H x d res d' as ds vs U T W Q nd lv ow ar hd he q => by
  cases ar with
  | @kd _ _ d1 _ v1 _ T1 U1 h1 h2 =>
    cases h2 with
    | @kd _ _ d2 _ v2 _ T2 U2 h3 h4 =>
      cases h4
      cases hd
      cases d <;> first | cases he | skip
      rename_i xs
      cases d1 <;> first | cases he | skip
      rename_i j
      obtain ⟨b, ws, Tb, rfl, hb, hL, rfl⟩ := ow.l_inv
      have z := hL.v_nil
      subst z
      have he : (if 0 ≤ j ∧ j ≤ xs.length ∧ xs.length < LIM then some (D.non, D.lst (xs.take j.toNat ++ d2 :: xs.drop j.toNat)) else none) = some (res, d') := he
      split at he
      case isFalse => cases he
      rename_i hj
      cases he
      have z1 : T1 = [] := Ow.v_nil h1
      have z2 : T2 = [] := Ow.v_nil h3
      subst z1; subst z2
      have h3 : Ow B _ H .v d2 v2 [] := h3
      have f : Fr ([b] ++ (([] ++ ([] ++ [])) ++ W)) ([b] ++ W) H (upd H b (.lst (ws.take j.toNat ++ [v2] ++ ws.drop j.toNat))) := fr_write (by simp) fun a ha => by simpa using ha
      have hz : ws.length < sizeLine := by
        rw [← hL.len, sizeLine_eq]
        have := hj.2.2
        simp only [LIM] at this
        omega
      have h63 : j < 2 ^ 63 := by
        have := hj.2
        simp only [LIM] at this
        omega
      refine ⟨b, ws, j, v2, rfl, by rw [Ow.int_eq h1], hb, hz, hj.1, h63, q .non _ [b] (post_write hb (by simp)) (fun a ha => .inl ha) (by simp) (.lst (S := []) upd_same ?_) .non⟩
      have g1 := (hL.take' j.toNat).app ((OwL.cons (S := []) (T := []) h3 .nil).app (hL.drop' (m := .v) j.toNat))
      have g2 := g1.fr f fun _ z => nomatch z
      simpa using g2
end
end Mi
namespace Mi
open PySem PySem.Spec PyProof.Rows L2
def tyN : D → String
  | .non => "NoneType"
  | .bl _ => "bool"
  | .int _ => "int"
  | .str _ => "str"
  | .lst _ => "list"
  | .tup _ => "tuple"
  | .dct _ => "dict"
  | _ => ""
def bOk : D → Bool
  | .obj _ _ => false
  | .exc _ _ => false
  | _ => true
theorem scr_ty {K : PySem.W.Frag} {O : List Addr} {H : Hp} {a : Addr} {ns : List Int} (h : Scr K O H a ns) : TyX K H (.ref a) (.type "list") := by
  rcases h with ⟨_, u, h⟩ | h
  · exact .base (.frz h)
  · rcases h with (h | ⟨_, h⟩) | h
    · cases h
    · cases h
    · obtain ⟨o, its, n, h1, h2, _⟩ := h
      exact .kList h1 h2
theorem Ow.ty {B : Tb} {O : List Addr} {H : Hp} {m : Md} {d : D} {v : V} {U : List Addr} (h : Ow B O H m d v U) (hd : bOk d = true) : TyX B.K H v (.type (tyN d)) := by
  cases h with
  | non => exact .base .non
  | bl => exact .base (.bl _)
  | int => exact .base (.int _)
  | str => exact .base (.str _)
  | tup _ h1 _ => exact .base (.tup h1.2)
  | lstV h1 _ => exact .base (.lst h1.2)
  | lst h1 _ => exact .base (.lst h1)
  | dKV _ h1 _ => exact .base (.dK h1)
  | dTV _ h1 _ => exact .base (.dT h1)
  | dK h1 _ => exact .base (.dK h1)
  | dT h1 _ => exact .base (.dT h1)
  | scr h1 => exact scr_ty h1
  | objV _ _ _ => cases hd
  | obj _ _ => cases hd
def tN : Ty → String
  | .int => "int"
  | .bool => "bool"
  | .str => "str"
  | .list => "list"
  | .tuple => "tuple"
  | .dict => "dict"
  | .cls _ => ""
theorem kitN : ∀ a ∈ ["NoneType", "bool", "int", "str", "list", "tuple", "dict"], ∀ b ∈ ["int", "bool", "str", "list", "tuple", "dict"], kitB a b = some (a == b || (a == "bool" && b == "int")) := by decide +kernel
theorem kit_is {t : Ty} {d : D} (ht : ∀ c, t ≠ .cls c) (hd : bOk d = true) : kitB (tyN d) (tN t) = some (isTy t d) := by
  have h1 : tyN d ∈ ["NoneType", "bool", "int", "str", "list", "tuple", "dict"] := by cases d <;> first | (simp [tyN]; done) | (cases hd; done)
  have h2 : tN t ∈ ["int", "bool", "str", "list", "tuple", "dict"] := by cases t <;> first | (simp [tN]; done) | exact absurd rfl (ht _)
  rw [kitN _ h1 _ h2]
  cases d <;> first | (cases hd; done) | (cases t <;> first | rfl | exact absurd rfl (ht _))
theorem pe_bty {X : Cx} {x : Str} {T : String} {pos : Pos} (hg : Gl X x) (hm : X.mg x = none) (hv : bootBuiltins x = some (.type T)) (hn : x ≠ "__name__" := by decide) (hdb : (x == ("__debug__" : Str)) = false := by decide) : PE X (.Name x pos) (tC (.ty T)) := by
  refine ⟨fun pins s σ H Q I h => ?_⟩
  refine ld_blt I hg hm hv ?_ hn hdb
  exact ⟨.ty T, H, I, rfl, h⟩
section
variable {X : Cx} {C : Cf} {p : Bool} {Γ Γ1 : G} {a : Ex} {k : Kd} {ea : Expr} {x : Str} {pos pp p2 : Pos}
theorem w_isi {t : Ty} (g : Gd X C) (ht : ∀ c, t ≠ .cls c) (hm : X.mg "isinstance" = none) (hm2 : X.mg x = none) (hv2 : bootBuiltins x = some (.type (tN t))) (ha : SE X C p Γ ea a k Γ1) (hg : Gl X "isinstance" := by rfl) (hg2 : Gl X x := by rfl)
    (hn : x ≠ "__name__" := by decide) (hdb : (x == ("__debug__" : Str)) = false := by decide)
    (hs : starEach [ea, .Name x p2] X.env = (false, eval ea X.env) :: starEach [.Name x p2] X.env := by rfl) (hs2 : starEach [.Name x p2] X.env = (false, eval (.Name x p2) X.env) :: starEach [] X.env := by rfl) (hpl : (backTo pos (starEach [.Name x p2] X.env)).any (·.1) = false := by rfl) :
    SE X C p Γ (.Call (.Name "isinstance" pp) [ea, .Name x p2] [] pos) (.bi (.isin t) (.cons a .nil)) (.own .v) Γ1 :=
  PE.imp (pe_callB call_isi hg hm (by decide +kernel) (pa_cons ha (pa_cons (pe_bty hg2 hm2 hv2 hn hdb) pa_nil hs2) hs) (by decide) (by decide) hs hpl) fun σ H Q h => by
    obtain ⟨e, S, R, s, o⟩ := h
    have o : Out C σ H S R (OkE C σ H S R p (.own .v) Γ1 Q) (((evE C.F a e).bind fun d e1 => Mi.R.ok [Ar.d d] e1).bind fun as e1 => ofO ((dsOf as).bind fun ds => evBi (.isin t) ds) e1) := o
    have o' : Out C σ H S R (OkE C σ H S R p (.own .v) Γ1 Q) ((evE C.F a e).bind fun d e1 => ofO (evBi (.isin t) [d]) e1) := by
      cases hq : evE C.F a e <;> rw [hq] at o <;> exact o
    refine (At.start s).ev o' fun d e1 v H1 S1 T1 a1 v1 _ o1 => ?_
    obtain ⟨d', hd, q⟩ := Out.ofO o1
    have hd : (if isOk t d then some (D.bl (isTy t d)) else none) = some d' := hd
    split at hd
    case isFalse => cases hd
    rename_i hok
    cases hd
    have hb : bOk d = true := by
      cases d <;> first | rfl | (cases t <;> first | exact absurd rfl (ht _) | cases hok)
    obtain ⟨U, u, ow⟩ := v1.view (fun _ => memL) fun a h => memR (memL h)
    exact ⟨v, .ty (tN t), .type (tyN d), .type (tN t), isTy t d, rfl, .ty _, g.K ▸ ow.ty hb, kit_ty (kit_is ht hb), a1.fin0 q .bl⟩
end
end Mi
namespace Mi
open PySem PySem.Spec PyProof.Rows L2
section
variable {X : Cx} {C : Cf} {σ : VS} {H : Hp} {S R : List Addr} {Γ Γ1 : G} {e e1 : Env} {p : Bool}
theorem Sta.bind2 {B : Tb} {M : MP} {T1 T2 : List Addr} {m1 m2 : Md} {d1 d2 : D} {v1 v2 : V} {i j : Nat} (s : Sta B M ((T1 ++ T2) ++ R) Γ e σ H S) (o1 : Ow B (S ++ ((T1 ++ T2) ++ R)) H m1 d1 v1 T1) (o2 : Ow B (S ++ ((T1 ++ T2) ++ R)) H m2 d2 v2 T2)
    (hi : i < Γ.length) (hj : j < Γ.length) (hMi : M.mi.contains i = false) (hMj : M.mi.contains j = false) :
    ∃ S', (∀ a ∈ S', a ∈ S ++ (T1 ++ T2)) ∧ Sta B M R ((Γ.set i (some m1)).set j (some m2)) (st (st e i (some d1)) j (some d2)) ((σ.set i (some v1)).set j (some v2)) H S' := by
  have s' : Sta B M (T1 ++ (T2 ++ R)) Γ e σ H S := by rw [← List.append_assoc]; exact s
  obtain ⟨S1, k1, s1⟩ := s'.bind (o1.fr (Fr.sub fun a ha => by rw [List.append_assoc]; exact ha) fun _ _ _ z => z) hi hMi
  have f : Fr (S ++ ((T1 ++ T2) ++ R)) (S1 ++ (T2 ++ R)) H H := Fr.sub fun a ha => by
    rcases List.mem_append.mp ha with z | z
    · rcases List.mem_append.mp (k1 a z) with w | w
      · exact memL w
      · exact memR (memL (memL w))
    · rcases List.mem_append.mp z with w | w
      · exact memR (memL (memR w))
      · exact memR (memR w)
  obtain ⟨S2, k2, s2⟩ := s1.bind (o2.fr f fun _ _ _ z => z) (by simpa using hj) hMj
  refine ⟨S2, fun a ha => ?_, s2⟩
  rcases List.mem_append.mp (k2 a ha) with z | z
  · rcases List.mem_append.mp (k1 a z) with w | w
    · exact memL w
    · exact memR (memL w)
  · exact memR (memR z)
variable {ea eb ec : Expr} {a b c : Ex} {m1 m2 m3 : Md} {i j l : Nat} {x y z : Str} {px py pz pt pt2 pos : Pos} {kt k2 : Nat}
theorem s_par2 (g : Gd X C) (ha : SA X C p Γ [ea, eb] (.cons a (.cons b .nil)) [.kd (.own m1), .kd (.own m2)] Γ1) (hi : X.N[i]? = some x := by rfl) (hj : X.N[j]? = some y := by rfl) (hij : i ≠ j := by decide)
    (hli : i < Γ1.length := by decide) (hlj : j < Γ1.length := by decide) (hMi : C.M.mi.contains i = false := by rfl) (hMj : C.M.mi.contains j = false := by rfl)
    (hx : X.env.scope.names.lookup x = some .local := by rfl) (hy : X.env.scope.names.lookup y = some .local := by rfl)
    (hw : swappedStores [.Tuple [.Name x px, .Name y py] kt pt] (.Tuple [ea, eb] k2 pt2) X.env = pure (some [x, y]) := by rfl)
    (hs : swapsWithSole [.Tuple [.Name x px, .Name y py] kt pt] (.Tuple [ea, eb] k2 pt2) pos.line X.env = pure false := by rfl) :
    SS X C Γ (.Assign [.Tuple [.Name x px, .Name y py] kt pt] (.Tuple [ea, eb] k2 pt2) pos) (.par [i, j] (.cons a (.cons b .nil))) ((Γ1.set i (some m1)).set j (some m2)) :=
  PS.imp (ps_par g.calm g.nd hi hj hij hx hy ha hw hs) fun E σ H ⟨e, S, R, s, o⟩ => by
    have o : OutS C E H S R ((Γ1.set i (some m1)).set j (some m2)) ((evEs C.F (.cons a (.cons b .nil)) e).bind fun as e1 => match (dsOf as).bind fun ds => stN [i, j] ds e1 with
      | some e2 => .ok .nxt e2
      | none => .bad) := o
    refine (At.start s).evA (f := fun as e1 => .ok as e1) (ok := fun as e1 => OutS C E H S R ((Γ1.set i (some m1)).set j (some m2)) (match (dsOf as).bind fun ds => stN [i, j] ds e1 with
      | some e2 => .ok .nxt e2
      | none => .bad)) ?_ fun as e2 vs H2 S2 T2 a2 v2 _ nw o2 => ?_
    · have q := o.out (σ := σ)
      cases hq : evEs C.F (.cons a (.cons b .nil)) e <;> rw [hq] at q <;> exact q
    cases v2 with
    | @kd _ _ d1 _ v1 _ T1 U1 h1 h2 =>
      cases h2 with
      | @kd _ _ d2 _ v2 _ T3 U3 h3 h4 =>
        cases h4
        rw [List.append_nil] at a2 nw h1 h3
        obtain ⟨S', k1, s1⟩ := Sta.bind2 a2.sta (show Ow C.B _ H2 m1 d1 v1 T1 from h1) (show Ow C.B _ H2 m2 d2 v2 T3 from h3) hli hlj hMi hMj
        refine ⟨v1, v2, rfl, ?_⟩
        exact (show ∀ σ' H' S', Post S H H' → New S H S' → Sta C.B C.M R _ (st (st e2 i (some d1)) j (some d2)) σ' H' S' → E.nx σ' H' from o2) _ H2 S' a2.po.ite (fun x hx => nw x (k1 x hx)) s1
theorem s_par3 (g : Gd X C) (ha : SA X C p Γ [ea, eb, ec] (.cons a (.cons b (.cons c .nil))) [.kd (.own m1), .kd (.own m2), .kd (.own m3)] Γ1) (hi : X.N[i]? = some x := by rfl) (hj : X.N[j]? = some y := by rfl) (hl : X.N[l]? = some z := by rfl) (hij : i ≠ j := by decide) (hil : i ≠ l := by decide) (hjl : j ≠ l := by decide)
    (hli : i < Γ1.length := by decide) (hlj : j < Γ1.length := by decide) (hll : l < Γ1.length := by decide) (hMi : C.M.mi.contains i = false := by rfl) (hMj : C.M.mi.contains j = false := by rfl) (hMl : C.M.mi.contains l = false := by rfl)
    (hx : X.env.scope.names.lookup x = some .local := by rfl) (hy : X.env.scope.names.lookup y = some .local := by rfl) (hz : X.env.scope.names.lookup z = some .local := by rfl)
    (hw : swappedStores [.Tuple [.Name x px, .Name y py, .Name z pz] kt pt] (.Tuple [ea, eb, ec] k2 pt2) X.env = pure (some [x, y, z]) := by rfl)
    (hs : swapsWithSole [.Tuple [.Name x px, .Name y py, .Name z pz] kt pt] (.Tuple [ea, eb, ec] k2 pt2) pos.line X.env = pure false := by rfl) :
    SS X C Γ (.Assign [.Tuple [.Name x px, .Name y py, .Name z pz] kt pt] (.Tuple [ea, eb, ec] k2 pt2) pos) (.par [i, j, l] (.cons a (.cons b (.cons c .nil)))) (((Γ1.set i (some m1)).set j (some m2)).set l (some m3)) :=
  PS.imp (ps_par3 g.calm g.nd hi hj hl hij hil hjl hx hy hz ha hw hs) fun E σ H ⟨e, S, R, s, o⟩ => by
    have o : OutS C E H S R (((Γ1.set i (some m1)).set j (some m2)).set l (some m3)) ((evEs C.F (.cons a (.cons b (.cons c .nil))) e).bind fun as e1 => match (dsOf as).bind fun ds => stN [i, j, l] ds e1 with
      | some e2 => .ok .nxt e2
      | none => .bad) := o
    refine (At.start s).evA (f := fun as e1 => .ok as e1) (ok := fun as e1 => OutS C E H S R (((Γ1.set i (some m1)).set j (some m2)).set l (some m3)) (match (dsOf as).bind fun ds => stN [i, j, l] ds e1 with
      | some e2 => .ok .nxt e2
      | none => .bad)) ?_ fun as e2 vs H2 S2 T2 a2 v2 _ nw o2 => ?_
    · have q := o.out (σ := σ)
      cases hq : evEs C.F (.cons a (.cons b (.cons c .nil))) e <;> rw [hq] at q <;> exact q
    cases v2 with
    | @kd _ _ d1 _ v1 _ T1 U1 h1 h2 =>
      cases h2 with
      | @kd _ _ d2 _ v2 _ T3 U3 h3 h4 =>
        cases h4 with
        | @kd _ _ d3 _ v3 _ T5 U5 h5 h6 =>
          cases h6
          rw [List.append_nil] at a2 nw h1 h3 h5
          have perm : (T1 ++ (T3 ++ T5)) ++ R = (T1 ++ T3) ++ (T5 ++ R) := by simp only [List.append_assoc]
          have sta : Sta C.B C.M ((T1 ++ T3) ++ (T5 ++ R)) Γ1 e2 σ H2 S2 := perm ▸ a2.sta
          rw [perm] at h1 h3 h5
          obtain ⟨S', k1, s1⟩ := Sta.bind2 sta (show Ow C.B _ H2 m1 d1 v1 T1 from h1) (show Ow C.B _ H2 m2 d2 v2 T3 from h3) hli hlj hMi hMj
          have f : Fr (S2 ++ ((T1 ++ T3) ++ (T5 ++ R))) (S' ++ (T5 ++ R)) H2 H2 := Fr.sub fun a ha => by
            rcases List.mem_append.mp ha with z | z
            · rcases List.mem_append.mp (k1 a z) with w | w
              · exact memL w
              · exact memR (memL w)
            · exact memR (memR z)
          obtain ⟨S3, k3, s3⟩ := s1.bind (Ow.fr f (show Ow C.B _ H2 m3 d3 v3 T5 from h5) fun _ _ _ z => z) (by simpa using hll) hMl
          refine ⟨v1, v2, v3, rfl, ?_⟩
          refine (show ∀ σ' H' S', Post S H H' → New S H S' → Sta C.B C.M R _ (st (st (st e2 i (some d1)) j (some d2)) l (some d3)) σ' H' S' → E.nx σ' H' from o2) _ H2 S3 a2.po.ite (fun x hx => nw x ?_) s3
          rcases List.mem_append.mp (k3 x hx) with w | w
          · rcases List.mem_append.mp (k1 x w) with u | u
            · exact memL u
            · rcases List.mem_append.mp u with u | u
              · exact memR (memL u)
              · exact memR (memR (memL u))
          · exact memR (memR (memR w))
end
end Mi
namespace Mi
open PySem PySem.Spec PyProof.Rows L2
theorem pmk_own0 {X : Cx} {C : Addr} {bmB : List Value} {B newId initId : String} {x : Str} {p pos : Pos} (F : ExcBaseFacts B newId initId bmB) (q : PySem.W.excIn X.K C bmB newId = true) (gC : X.mg x = some (.ref C)) (kC : PySem.W.keepIn X.K (.ref C) = true) (r : Raises X (.ref C))
    (hg : Gl X x) (hdb : (x == ("__debug__" : Str)) = false := by decide) : PMk X (.Call (.Name x p) [] [] pos) (fun _ H Q => Q (.ref C) none H) := by
  intro pins s σ H Q I h
  refine wpAny_Call_Name_kw (ld_glob I hg gC ?_ hdb)
  refine PySem.W.callWith_K0 (first := []) I.kIn kC ?_
  obtain ⟨bm, N, nm, qn, bs, hdct, sn, sub, ab, col, dd, k0, k1, k2, k3, k5, mN, hC, hN, hni, T⟩ := exc_obj I.kIn q
  exact wpAny_call_exc_subT F T hC hN hni (fun h' e hm => mk_of I hm r h (I.hok.gone hm.new)) (Nat.zero_le _)
section
variable {X : Cx} {C : Cf} {Γ Γ2 Γx : G} {c : Nat} {x : Str} {p pos np pos' : Pos}
theorem s_raise0 (g : Gd X C) (hm : PMk X (.Call (.Name x p) [] [] pos') (fun _ H Q => Q (.ref (C.B.ca c)) none H)) (l : leG Γ C.GX = true := by rfl) : SS X C Γ (.Raise (some (.Call (.Name x p) [] [] pos')) none pos) (.rse c .nil) Γ2 :=
  PS.imp (ps_raise g.calm g.tk hm) fun E σ H ⟨e, S, R, s, o⟩ => by
    have o : ErrS C H S R c [] e := o
    obtain ⟨S', h1, s'⟩ := s.le l
    exact o _ _ σ H S' (Post.refl _ _) (fun a ha => .inl (h1 a ha)) s' ⟨rfl, .inl ⟨rfl, rfl⟩⟩
abbrev tryC (C : Cf) (W : WX) (Γx : G) : Cf := { C with W := W, GX := Γx }
theorem s_try {body suite : List Stmt} {b₀ : Stmt} {mb ms : Sm} {k : Nat} (g : Gd X C) (hc : Names X x (.ref (C.B.ca k))) (hx : ∀ c, PySem.W.exmOne C.B.K (.ref (C.B.ca c)) (.ref (C.B.ca k)) = some (C.sb c k))
    (hb : ∀ (W : WX) (pn : List (Addr × Obj)) (xe : Value → Shared → Prop), Gd (X.tr pn xe) (tryC C W Γx) → SSs (X.tr pn xe) (tryC C W Γx) Γ body mb Γ2)
    (hsu : ∀ (a : Addr) (pn : List (Addr × Obj)), SSs (X.suite a pn) (tryC C (fun _ _ _ _ => False) Γx) Γx (b₀ :: suite) ms Γ2) (l : leG Γx C.GX = true := by rfl)
    (hs : X.stack = X.env :: X.outer := by rfl) (hf : X.env.frame = some X.env.locals := by rfl) :
    SS X C Γ (.Try body [.ExceptHandler (some (.Name x np)) none (b₀ :: suite) pos'] [] [] pos) (.try_ mb (.cons k none ms .nil)) Γ2 :=
  PS.imp (ps_try_only (Wout := C.W) (tb := fun W => tS (tryC C W Γx) Γ mb Γ2) (ts := fun _ _ _ => tS (tryC C (fun _ _ _ _ => False) Γx) Γx ms Γ2) hs hf hc g.tk
    (fun W pn xe tk po => hb W pn xe ⟨g.K, g.calm, g.nd, g.gu, g.un, tk, po⟩) fun a oe cls d pn _ _ => hsu a _) fun E σ H ⟨e, S, R, s, o⟩ => by
    have o : OutS C E H S R Γ2 (match evS C.F C.sb mb e with
      | .err c fs e1 => if C.sb c k then noErr (evS C.F C.sb ms e1) else .err c fs e1
      | r => r) := o
    refine ⟨e, S, R, s, ?_⟩
    show OutS (tryC C _ Γx) E H S R Γ2 (evS C.F C.sb mb e)
    cases hev : evS C.F C.sb mb e with
    | bad => rw [hev] at o; exact o
    | ok fl e1 => rw [hev] at o; cases fl <;> exact o
    | err c fs e1 =>
      rw [hev] at o
      dsimp only at o
      intro cls dx σ' H' S' po nw sta ex
      have sta : Sta C.B C.M R Γx e1 σ' H' S' := sta
      have ex : ExR C.B (S' ++ R) H' c fs cls dx := ex
      obtain ⟨rfl, hex⟩ := ex
      refine ⟨C.sb c k, g.K ▸ hx c, fun hbt a _ => ?_, fun hbf => ?_⟩
      · rw [hbt, if_pos rfl] at o
        refine ⟨e1, S', R, sta, ?_⟩
        have o := OutS.step o po nw
        show OutS (tryC C _ Γx) E H' S' R Γ2 (evS C.F C.sb ms e1)
        cases hev2 : evS C.F C.sb ms e1 with
        | bad => rw [hev2] at o; exact o
        | err _ _ _ => rw [hev2] at o; exact False.elim o
        | ok fl e2 => rw [hev2] at o; cases fl <;> exact o
      · rw [hbf, if_neg Bool.false_ne_true] at o
        obtain ⟨S2, h1, s2⟩ := sta.le l
        refine (show ErrS C H S R c fs e1 from o) _ dx σ' H' S2 po (fun a ha => nw a (h1 a ha)) s2 ⟨rfl, ?_⟩
        rcases hex with h | ⟨d, ns, vs, q1, q2, q3, q4, q5⟩
        · exact .inl h
        · have sub : ∀ a ∈ S2 ++ R, a ∈ S' ++ R := fun a ha => (List.mem_append.mp ha).elim (fun z => memL (h1 a z)) memR
          exact .inr ⟨d, ns, vs, q1, fun z => q2 (sub _ z), q3, q4, q5.fr (Fr.sub sub) fun _ z => nomatch z⟩
end
end Mi
namespace Mi
open PySem PySem.Spec PyProof.Rows L2
mutual
inductive Rdg (h : Heap) : Value → PyData → Prop
  | non : Rdg h .none .none
  | bl (b : Bool) : Rdg h (.bool b) (.bool b)
  | int (i : Int) (t : Tok) : Rdg h (.int i t) (.int i)
  | str (x : Str) (t : Tok) : Rdg h (.str x t) (.str x)
  | lst {a : Addr} {o : Obj} {us : Array Value} {n : Nat} {ds : List PyData} : h.get? a = some o → o.cls = .type "list" → o.data = .seq us n → RdgA h us.toList ds → Rdg h (.ref a) (.list ds)
  | tup {a : Addr} {o : Obj} {us : Array Value} {n : Nat} {ds : List PyData} : h.get? a = some o → o.cls = .type "tuple" → o.data = .seq us n → RdgA h us.toList ds → Rdg h (.ref a) (.tuple ds)
  | dct {a : Addr} {o : Obj} {es : Array DictEntry} {n : Nat} {ds : List (PyData × PyData)} : (a == sysModules) = false → h.get? a = some o → o.cls = .type "dict" → o.data = .dict es n → RdgA h (es.toList.map (·.key)) (ds.map (·.1)) → RdgA h (es.toList.map (·.val)) (ds.map (·.2)) → Rdg h (.ref a) (.dict ds)
inductive RdgA (h : Heap) : List Value → List PyData → Prop
  | nil : RdgA h [] []
  | cons {u : Value} {us : List Value} {d : PyData} {ds : List PyData} : Rdg h u d → RdgA h us ds → RdgA h (u :: us) (d :: ds)
end
mutual
theorem Rdg.reads {h : Heap} : ∀ {u : Value} {d : PyData}, Rdg h u d → ∃ as, Reads h u d as
  | _, _, .non => ⟨_, .none⟩
  | _, _, .bl b => ⟨_, .bool b⟩
  | _, _, .int i t => ⟨_, .int i t⟩
  | _, _, .str x t => ⟨_, .str x t⟩
  | _, _, .lst h1 h2 h3 h4 => let ⟨_, r⟩ := RdgA.reads h4; ⟨_, .list h1 h2 h3 r⟩
  | _, _, .tup h1 h2 h3 h4 => let ⟨_, r⟩ := RdgA.reads h4; ⟨_, .tuple h1 h2 h3 r⟩
  | _, _, .dct _ h1 h2 h3 h4 h5 => let ⟨_, r⟩ := RdgA.reads h4; let ⟨_, q⟩ := RdgA.reads h5; ⟨_, .dict h1 h2 h3 r q⟩
theorem RdgA.reads {h : Heap} : ∀ {us : List Value} {ds : List PyData}, RdgA h us ds → ∃ as, ReadsAll h us ds as
  | _, _, .nil => ⟨_, .nil⟩
  | _, _, .cons h1 h2 => let ⟨_, r⟩ := Rdg.reads h1; let ⟨_, q⟩ := RdgA.reads h2; ⟨_, .cons r q⟩
end
def RK (P : Program) (w : World) (h : Heap) (u : Value) (d : PyData) : Prop := ∃ bs, ReadAtMost h d.depth bs ∧ ReprK P w bs h d.depth u d.shown
def RKA (P : Program) (w : World) (h : Heap) (us : List Value) (ds : List PyData) : Prop := ∃ bs, ReadAtMost h (PyData.depthAll ds) bs ∧ ReprAllK P w bs h (PyData.depthAll ds) us (PyData.shownAll ds)
section
variable {P : Program} {w : World} {h : Heap}
theorem RKA.cons {u : Value} {us : List Value} {d : PyData} {ds : List PyData} (r : RK P w h u d) (q : RKA P w h us ds) : RKA P w h (u :: us) (d :: ds) := by
  obtain ⟨xs, x1, x2⟩ := r
  obtain ⟨ys, y1, y2⟩ := q
  refine ⟨xs ++ ys, ?_, ?_⟩
  · simp only [PyData.depthAll]
    exact (x1.mono (Nat.le_max_left _ _)).append (y1.mono (Nat.le_max_right _ _))
  · simp only [PyData.depthAll, PyData.shownAll]
    exact .cons ((x2.more fun b => List.mem_append_left _).level_le (Nat.le_max_left _ _)) (y2.more_le (fun b => List.mem_append_right _) (Nat.le_max_right _ _))
theorem kv_fit {ds : List (PyData × PyData)} (hz : (dictText (PyData.shownKv ds)).length ≤ sizeLine) : (∀ t ∈ PyData.shownAll (ds.map (·.1)), t.length ≤ sizeLine) ∧ ∀ t ∈ PyData.shownAll (ds.map (·.2)), t.length ≤ sizeLine :=
  ⟨fun t ht => by
    obtain ⟨q, q1, q2⟩ := PyData.shownKv_key_le ds t ht
    exact Nat.le_trans (Nat.le_trans q2 (dictText_mem_le q1)) hz, fun t ht => by
    obtain ⟨q, q1, q2⟩ := PyData.shownKv_val_le ds t ht
    exact Nat.le_trans (Nat.le_trans q2 (dictText_mem_le q1)) hz⟩
theorem kv_entries {es : Array DictEntry} {ds : List (PyData × PyData)} (r1 : RKA P w h (es.toList.map (·.key)) (ds.map (·.1))) (r2 : RKA P w h (es.toList.map (·.val)) (ds.map (·.2))) :
    ∃ bs, ReadAtMost h (PyData.depthKv ds) bs ∧ ReprEntriesK P w bs h (PyData.depthKv ds) es.toList (PyData.shownKv ds) := by
  obtain ⟨xs, x1, x2⟩ := r1
  obtain ⟨ys, y1, y2⟩ := r2
  refine ⟨xs ++ ys, (x1.mono (PyData.depthAll_keys_le ds)).append (y1.mono (PyData.depthAll_vals_le ds)), ?_⟩
  rw [PyData.shownKv_eq]
  exact ReprEntriesK.of_two es.toList _ _ (x2.more_le (fun b => List.mem_append_left _) (PyData.depthAll_keys_le ds)) (y2.more_le (fun b => List.mem_append_right _) (PyData.depthAll_vals_le ds))
mutual
theorem Rdg.rk : ∀ {u : Value} {d : PyData}, Rdg h u d → d.showable = true → d.shown.length ≤ sizeLine → RK P w h u d
  | _, _, .non, _, _ => ⟨[], fun _ q => (nomatch q), by simp only [PyData.shown]; exact ReprK.of_is ReprIs.none _ _ _⟩
  | _, _, .bl b, _, _ => ⟨[], fun _ q => (nomatch q), by simp only [PyData.shown]; exact ReprK.of_is (ReprIs.bool b) _ _ _⟩
  | _, _, .int i t, k, _ => ⟨[], fun _ q => (nomatch q), by simp only [PyData.shown]; exact ReprK.of_is (ReprIs.int t (by simpa [PyData.showable] using k)) _ _ _⟩
  | _, _, .str x t, _, z => ⟨[], fun _ q => (nomatch q), by simp only [PyData.shown]; exact ReprK.of_is (ReprIs.str x t (by simpa only [PyData.shown] using z)) _ _ _⟩
  | _, _, .lst (a := a) (us := us) (ds := ds) h1 h2 h3 h4, k, z => by
    have z' : (listText (PyData.shownAll ds)).length ≤ sizeLine := by simpa only [PyData.shown] using z
    obtain ⟨xs, x1, x2⟩ := RdgA.rk h4 (by simpa [PyData.showable] using k) fun t ht => Nat.le_trans (listText_mem_le ht) z'
    obtain ⟨_, rr⟩ := RdgA.reads h4
    have far : a ∉ xs := not_mem_of_deeper (Reads.list h1 h2 h3 rr) (by simp only [PyData.depth]; exact Nat.lt_succ_self _) x1
    refine ⟨a :: xs, ReadAtMost.cons (Reads.list h1 h2 h3 rr) (by simp only [PyData.depth]; exact Nat.le_succ _) x1, ?_⟩
    simp only [PyData.depth, PyData.shown]
    obtain ⟨l⟩ := us
    match l, ds, h3, h4, x2 with
    | [], ds, h3, h4, _ =>
      have h4 : RdgA h [] ds := h4
      cases h4
      simp only [PyData.shownAll, listText_nil]
      exact ReprK.listEmpty h1 h2 h3
    | u :: l, ds, h3, h4, x2 => exact ReprK.list h1 h2 h3 far (by simpa using x2.length_eq) fun i y e => x2.item i y (by simpa using e)
  | _, _, .tup (a := a) (ds := ds) h1 h2 h3 h4, k, z => by
    have z' : (tupleText (PyData.shownAll ds)).length ≤ sizeLine := by simpa only [PyData.shown] using z
    obtain ⟨xs, x1, x2⟩ := RdgA.rk h4 (by simpa [PyData.showable] using k) fun t ht => Nat.le_trans (tupleText_mem_le ht) z'
    obtain ⟨_, rr⟩ := RdgA.reads h4
    have far : a ∉ xs := not_mem_of_deeper (Reads.tuple h1 h2 h3 rr) (by simp only [PyData.depth]; exact Nat.lt_succ_self _) x1
    refine ⟨a :: xs, ReadAtMost.cons (Reads.tuple h1 h2 h3 rr) (by simp only [PyData.depth]; exact Nat.le_succ _) x1, ?_⟩
    simp only [PyData.depth, PyData.shown]
    exact ReprK.tuple h1 h2 h3 far x2
  | _, _, .dct (a := a) (ds := ds) hs h1 h2 h3 h4 h5, k, z => by
    have z' : (dictText (PyData.shownKv ds)).length ≤ sizeLine := by simpa only [PyData.shown] using z
    obtain ⟨k1, k2⟩ := PyData.showableKv_split ds (by simpa [PyData.showable] using k)
    obtain ⟨f1, f2⟩ := kv_fit z'
    obtain ⟨xs, x1, x2⟩ := kv_entries (RdgA.rk h4 k1 f1) (RdgA.rk h5 k2 f2)
    obtain ⟨_, r1⟩ := RdgA.reads h4
    obtain ⟨_, r2⟩ := RdgA.reads h5
    have far : a ∉ xs := not_mem_of_deeper (Reads.dict h1 h2 h3 r1 r2) (by simp only [PyData.depth]; exact Nat.lt_succ_self _) x1
    refine ⟨a :: xs, ReadAtMost.cons (Reads.dict h1 h2 h3 r1 r2) (by simp only [PyData.depth]; exact Nat.le_succ _) x1, ?_⟩
    simp only [PyData.depth, PyData.shown]
    exact ReprK.dict h1 h2 h3 hs far x2
theorem RdgA.rk : ∀ {us : List Value} {ds : List PyData}, RdgA h us ds → PyData.showableAll ds = true → (∀ t ∈ PyData.shownAll ds, t.length ≤ sizeLine) → RKA P w h us ds
  | _, _, .nil, _, _ => ⟨[], fun _ q => (nomatch q), by simp only [PyData.shownAll]; exact .nil⟩
  | _, _, .cons h1 h2, k, z => by
    have k' := Bool.and_eq_true_iff.mp (show (_ && _) = true by simpa only [PyData.showableAll] using k)
    exact RKA.cons (Rdg.rk h1 k'.1 (z _ (by simp only [PyData.shownAll]; exact List.mem_cons_self ..))) (RdgA.rk h2 k'.2 fun t ht => z t (by simp only [PyData.shownAll]; exact List.mem_cons_of_mem _ ht))
end
theorem call_repr {A : Around} {E : Value → Shared → Prop} {s : Shared} {Q : Value → Shared → Prop} {u : Value} {d : PyData} (r : Rdg s.heap u d) (k : d.showable = true) (z : d.shown.length ≤ sizeLine) (hg : A.guards = some []) (hu : A.units + (d.depth + 1) < cLine)
    (q : ∀ h' t tk, (∀ b o, s.heap.get? b = some o → h'.get? b = some o) → Q (.str d.shown t) { s with heap := h', toks := tk }) : wpAny (model P w) A (call (.builtin "repr") [u]) Q E s := by
  have hu' : A.in1.units + d.depth < cLine := by show A.units + 1 + d.depth < cLine; omega
  have hu1 : A.units + 1 < cLine := by omega
  have hg' : A.in1.guards = some [] := hg
  cases r with
  | non =>
    simp only [PyData.shown] at q
    exact call_repr_gives (typeIs_none s) F.slot_NoneType_repr F.entry_NoneType_repr (F.args_NoneType_repr_1 _) gives_none_repr (q s.heap _ _ fun _ _ e => e) (hx := by decide)
  | bl b =>
    simp only [PyData.shown] at q
    exact PySem.P.repr_of_bool (q s.heap _ _ fun _ _ e => e)
  | int i t =>
    simp only [PyData.shown] at q
    exact PySem.P.repr_of_int (by simpa [PyData.showable] using k) (q s.heap _ _ fun _ _ e => e)
  | str x t =>
    simp only [PyData.shown] at q
    exact PySem.P.repr_of_str (q s.heap _ _ fun _ _ e => e) (hsz := by simpa only [PyData.shown] using z)
  | @lst a o us n ds h1 h2 h3 h4 =>
    have z' : (listText (PyData.shownAll ds)).length ≤ sizeLine := by simpa only [PyData.shown] using z
    obtain ⟨xs, x1, x2⟩ := RdgA.rk (P := P) (w := w) h4 (by simpa [PyData.showable] using k) fun t ht => Nat.le_trans (listText_mem_le ht) z'
    obtain ⟨_, rr⟩ := RdgA.reads h4
    have far : a ∉ xs := not_mem_of_deeper (Reads.list h1 h2 h3 rr) (by simp only [PyData.depth]; exact Nat.lt_succ_self _) x1
    simp only [PyData.depth] at hu'
    simp only [PyData.shown] at q
    refine call_repr_slot hu1 ⟨o, h1, h2⟩ F.slot_list_repr.toG ?_
    obtain ⟨l⟩ := us
    match l, ds, h3, h4, x2 with
    | [], ds, h3, h4, _ =>
      have h4 : RdgA s.heap [] ds := h4
      cases h4
      simp only [PyData.shownAll, listText_nil] at q
      exact call_list_repr_empty ⟨o, h1, h2⟩ h1 h3 ⟨_, _, rfl, q s.heap _ _ fun _ _ e => e⟩
    | u :: l, ds, h3, h4, x2 => exact call_list_reprK h1 h2 h3 far (by simpa using x2.length_eq) (fun i y e => x2.item i y (by simpa using e)) hg' (fun b _ => Clear.nil b) hu' (fun _ _ e => e) (fun h' t tk hk => ⟨_, _, rfl, q h' t tk hk⟩) z'
  | @tup a o us n ds h1 h2 h3 h4 =>
    have z' : (tupleText (PyData.shownAll ds)).length ≤ sizeLine := by simpa only [PyData.shown] using z
    obtain ⟨xs, x1, x2⟩ := RdgA.rk (P := P) (w := w) h4 (by simpa [PyData.showable] using k) fun t ht => Nat.le_trans (tupleText_mem_le ht) z'
    obtain ⟨_, rr⟩ := RdgA.reads h4
    have far : a ∉ xs := not_mem_of_deeper (Reads.tuple h1 h2 h3 rr) (by simp only [PyData.depth]; exact Nat.lt_succ_self _) x1
    simp only [PyData.depth] at hu'
    simp only [PyData.shown] at q
    refine call_repr_slot hu1 ⟨o, h1, h2⟩ F.slot_tuple_repr ?_
    exact call_tuple_reprK h1 h2 h3 far x2 hg' (fun b _ => Clear.nil b) hu' (fun _ _ e => e) (fun h' t tk hk => ⟨_, _, rfl, q h' t tk hk⟩) z'
  | @dct a o es n ds hs h1 h2 h3 h4 h5 =>
    have z' : (dictText (PyData.shownKv ds)).length ≤ sizeLine := by simpa only [PyData.shown] using z
    obtain ⟨k1, k2⟩ := PyData.showableKv_split ds (by simpa [PyData.showable] using k)
    obtain ⟨f1, f2⟩ := kv_fit z'
    obtain ⟨xs, x1, x2⟩ := kv_entries (RdgA.rk (P := P) (w := w) h4 k1 f1) (RdgA.rk (P := P) (w := w) h5 k2 f2)
    obtain ⟨_, r1⟩ := RdgA.reads h4
    obtain ⟨_, r2⟩ := RdgA.reads h5
    have far : a ∉ xs := not_mem_of_deeper (Reads.dict h1 h2 h3 r1 r2) (by simp only [PyData.depth]; exact Nat.lt_succ_self _) x1
    simp only [PyData.depth] at hu'
    simp only [PyData.shown] at q
    refine call_repr_slot hu1 ⟨o, h1, h2⟩ F.slot_dict_repr ?_
    exact call_dict_reprK h1 h2 h3 hs far x2 hg' (fun b _ => Clear.nil b) hu' (fun _ _ e => e) (fun h' t tk hk => ⟨_, _, rfl, q h' t tk hk⟩) z'
end
section
variable {X : Cx} {pins : List (Addr × Obj)} {σ : VS} {H : Hp} {s : Shared} {B : Tb} {O : List Addr}
theorem all_eq {α : Type} {p : α → Bool} {l : List α} (h : l.all p = true) : ∀ x ∈ l, p x = true := List.all_eq_true.mp h
theorem toPDkv_fst : ∀ kvs : List (D × D), (toPDkv kvs).map (·.1) = kvs.map fun kv => toPD kv.1
  | [] => by simp [toPDkv]
  | (k, v) :: r => by simp [toPDkv, toPDkv_fst r]
theorem toPDkv_snd : ∀ kvs : List (D × D), (toPDkv kvs).map (·.2) = kvs.map fun kv => toPD kv.2
  | [] => by simp [toPDkv]
  | (k, v) :: r => by simp [toPDkv, toPDkv_snd r]
theorem OwL.rdg (I : Inv X pins σ H s) {n : Nat} (ih : ∀ (d : D) (m : Md) (v : V) (U : List Addr) (u : Value), noS m = true → Ow B O H m d v U → RelV v u → shw n d = true → Rdg s.heap u (toPD d)) :
    ∀ (ds : List D) (m : Md) (vs : List V) (U : List Addr) (us : List Value), noS m = true → OwL B O H m ds vs U → Vals vs us → ds.all (shw n) = true → RdgA s.heap us (toPDs ds)
  | [], m, vs, U, us, hm, h, r, _ => by
    cases h
    cases r
    simp only [toPDs]
    exact .nil
  | d :: ds, m, vs, U, us, hm, h, r, hs => by
    simp only [List.all_cons, Bool.and_eq_true] at hs
    cases h with
    | cons h1 h2 =>
      cases r with
      | cons r1 r2 =>
        simp only [toPDs]
        exact RdgA.cons (ih d m _ _ _ hm h1 r1 hs.1) (OwL.rdg I ih ds m _ _ _ hm h2 r2 hs.2)
theorem keyD_rdg {k : Key} {u : Value} {h : Heap} (e : keyIs k u = true) : Rdg h u (toPD (keyD k)) := by
  rcases keyIs_shape e with ⟨i, t, e1, e2⟩ | ⟨x, t, e1, e2⟩
  · subst e1; subst e2
    simp only [keyD, toPD]
    exact .int i t
  · subst e1; subst e2
    simp only [keyD, toPD]
    exact .str x t
theorem OwK.rdg (I : Inv X pins σ H s) {n : Nat} (ih : ∀ (d : D) (m : Md) (v : V) (U : List Addr) (u : Value), noS m = true → Ow B O H m d v U → RelV v u → shw n d = true → Rdg s.heap u (toPD d)) :
    ∀ (ds : List (D × D)) (m : Md) (ks : List (Key × V)) (U : List Addr) (vs : List (Key × Value)) (es : List DictEntry), noS m = true → OwK B O H m ds ks U → KV ks vs → Pairs (mixKind X.prog X.w) es vs → (∀ kv ∈ ds, shw n kv.2 = true) →
      RdgA s.heap (es.map (·.key)) (ds.map fun kv => toPD kv.1) ∧ RdgA s.heap (es.map (·.val)) (ds.map fun kv => toPD kv.2)
  | [], m, ks, U, vs, es, hm, h, r, p, _ => by
    cases h
    cases r
    cases p
    exact ⟨.nil, .nil⟩
  | d :: ds, m, ks, U, vs, es, hm, h, r, p, hs => by
    cases h with
    | cons h1 h2 =>
      cases r with
      | cons r1 r2 =>
        cases p with
        | cons p1 p2 p3 =>
          obtain ⟨g1, g2⟩ := OwK.rdg I ih ds m _ _ _ _ hm h2 r2 p3 fun kv hk => hs kv (List.mem_cons_of_mem _ hk)
          have hk := r1.1
          refine ⟨RdgA.cons (keyD_rdg ?_) g1, RdgA.cons (ih _ _ _ _ _ hm h1 ?_ (hs _ (List.mem_cons_self ..))) g2⟩
          · have e1 : keyIs _ _ = true := p1
            rw [← hk] at e1
            exact e1
          · show RelV _ (DictEntry.val _)
            rw [p2]
            exact r1.2
theorem Ow.rdg (hB : B.K = X.K) (I : Inv X pins σ H s) : ∀ (n : Nat) (d : D) (m : Md) (v : V) (U : List Addr) (u : Value), noS m = true → Ow B O H m d v U → RelV v u → shw n d = true → Rdg s.heap u (toPD d) := by
  intro n
  have base : ∀ (n : Nat) (d : D) (m : Md) (v : V) (U : List Addr) (u : Value), Ow B O H m d v U → RelV v u → atom d = true → Rdg s.heap u (toPD d) := by
    intro n d m v U u h r ha
    cases d <;> first | (simp [atom] at ha; done) | skip
    · cases h
      cases (show u = Value.none from r)
      simp only [toPD]
      exact .non
    · cases h
      cases r
      simp only [toPD]
      exact .bl _
    · cases h
      obtain ⟨t, rfl⟩ := r
      simp only [toPD]
      exact .int _ t
    · cases h
      obtain ⟨t, rfl⟩ := r
      simp only [toPD]
      exact .str _ t
  induction n with
  | zero =>
    intro d m v U u hm h r hs
    cases d <;> first | (simp [shw] at hs; done) | exact base 0 _ m v U u h r rfl
  | succ n ih =>
    intro d m v U u hm h r hs
    cases d with
    | lst ds =>
      have key : ∃ a vs m' W, v = .ref a ∧ H a = some (.lst vs) ∧ OwL B O H m' ds vs W ∧ noS m' = true := by
        cases h with
        | lstV h1 h2 => exact ⟨_, _, _, _, rfl, h1.2, h2, rfl⟩
        | lst h1 h2 => exact ⟨_, _, _, _, rfl, h1, h2, hm⟩
        | scr h1 => cases hm
      obtain ⟨a, vs, m', W, rfl, h1, h2, hm'⟩ := key
      cases r
      obtain ⟨z, its, k, rv, hl⟩ := (show ObjOk X.prog X.w H s.heap a (.lst vs) from I.hok a _ h1)
      have q1 := OwL.rdg I ih ds m' vs W its hm' h2 rv (by simpa [shw] using hs)
      simp only [toPD]
      exact .lst hl rfl rfl (by simpa using q1)
    | tup ds =>
      obtain ⟨a, vs, rfl, h1, h2⟩ := h.tup_eq
      cases r
      obtain ⟨z, its, rv, o, ho, hc, k, hd⟩ := (show ObjOk X.prog X.w H s.heap a (.tup vs) from I.hok a _ h1.2)
      have q1 := OwL.rdg I ih ds .v vs [] its rfl h2 rv (by simpa [shw] using hs)
      simp only [toPD]
      exact .tup ho hc hd (by simpa using q1)
    | dct kvs =>
      have hs' : ∀ kv ∈ kvs, (match kv.1 with
        | .int i => decide (i.natAbs.log2 < 1920)
        | .str _ => true
        | _ => false) = true ∧ shw n kv.2 = true := fun kv hk => by
        have := List.all_eq_true.mp (show (kvs.all fun kv => _) = true from hs) kv hk
        exact Bool.and_eq_true_iff.mp this
      have key : ∃ a m', v = .ref a ∧ noS m' = true ∧ ((∃ ks W, H a = some (.dK ks) ∧ OwK B O H m' kvs ks W) ∨ ∃ ks W, H a = some (.dT ks) ∧ OwT B O H m' kvs ks W) := by
        cases h with
        | dKV _ h1 h2 => exact ⟨_, _, rfl, rfl, .inl ⟨_, _, h1, h2⟩⟩
        | dTV _ h1 h2 => exact ⟨_, _, rfl, rfl, .inr ⟨_, _, h1, h2⟩⟩
        | @dK mm _ _ _ _ h1 h2 => exact ⟨_, mm, rfl, hm, .inl ⟨_, _, h1, h2⟩⟩
        | @dT mm _ _ _ _ h1 h2 => exact ⟨_, mm, rfl, hm, .inr ⟨_, _, h1, h2⟩⟩
      obtain ⟨a, m', rfl, hm', ⟨ks, W, h1, h2⟩ | ⟨ks, W, h1, h2⟩⟩ := key
      · cases r
        obtain ⟨z, hsy, vs, rel, o, es, ep, g1, g2, g3, g4, g5, g6⟩ := dk_of I.hok h1
        obtain ⟨q1, q3⟩ := OwK.rdg I ih kvs m' ks W vs es.toList hm' h2 rel g5 fun kv hk => (hs' kv hk).2
        simp only [toPD]
        exact .dct hsy g1 g2.1 g3 (by rw [toPDkv_fst]; exact q1) (by rw [toPDkv_snd]; exact q3)
      · cases r
        obtain ⟨z, hsy, xs, rel, o, es, ep, g1, g2, g3, g4, g5⟩ := (show ObjOk X.prog X.w H s.heap a (.dT ks) from I.hok a _ h1)
        cases h2 with
        | nil =>
          cases rel
          have he : es.toList = [] := g4
          simp only [toPD]
          exact .dct (ds := []) hsy g1 g2.1 g3 (by rw [he]; exact .nil) (by rw [he]; exact .nil)
        | cons h3 h4 =>
          have := (hs' _ (List.mem_cons_self ..)).1
          simp [keyT] at this
    | obj _ _ => simp [shw] at hs
    | exc _ _ => simp [shw] at hs
    | non => exact base (n + 1) _ m v U u h r rfl
    | bl _ => exact base (n + 1) _ m v U u h r rfl
    | int _ => exact base (n + 1) _ m v U u h r rfl
    | str _ => exact base (n + 1) _ m v U u h r rfl
end
theorem shw_depth : ∀ (n : Nat) (d : D), shw n d = true → (toPD d).showable = true ∧ (toPD d).depth ≤ n := by
  intro n
  have lst : ∀ (n : Nat), (∀ d : D, shw n d = true → (toPD d).showable = true ∧ (toPD d).depth ≤ n) → ∀ ds : List D, ds.all (shw n) = true → PyData.showableAll (toPDs ds) = true ∧ PyData.depthAll (toPDs ds) ≤ n := by
    intro n ih ds
    induction ds with
    | nil => intro _; simp [toPDs, PyData.showableAll, PyData.depthAll]
    | cons d ds ihd =>
      intro hs
      simp only [List.all_cons, Bool.and_eq_true] at hs
      obtain ⟨h1, h2⟩ := ih d hs.1
      obtain ⟨h3, h4⟩ := ihd hs.2
      simp only [toPDs, PyData.showableAll, PyData.depthAll, h1, h3, Bool.and_self, true_and]
      omega
  induction n with
  | zero =>
    intro d hs
    cases d <;> first | (simp [shw] at hs; done) | simp_all [toPD, PyData.showable, PyData.depth, shw]
  | succ n ih =>
    intro d hs
    cases d with
    | lst ds =>
      obtain ⟨h1, h2⟩ := lst n ih ds (by simpa [shw] using hs)
      simp only [toPD, PyData.showable, PyData.depth, h1, true_and]
      omega
    | tup ds =>
      obtain ⟨h1, h2⟩ := lst n ih ds (by simpa [shw] using hs)
      simp only [toPD, PyData.showable, PyData.depth, h1, true_and]
      omega
    | dct kvs =>
      have key : ∀ kvs : List (D × D), (∀ kv ∈ kvs, (match kv.1 with
        | .int i => decide (i.natAbs.log2 < 1920)
        | .str _ => true
        | _ => false) = true ∧ shw n kv.2 = true) → PyData.showableKv (toPDkv kvs) = true ∧ PyData.depthKv (toPDkv kvs) ≤ n := by
        intro kvs
        induction kvs with
        | nil => intro _; simp [toPDkv, PyData.showableKv, PyData.depthKv]
        | cons kv kvs ihk =>
          intro h
          obtain ⟨k, v⟩ := kv
          obtain ⟨h1, h2⟩ := h (k, v) (List.mem_cons_self ..)
          obtain ⟨h3, h4⟩ := ihk fun kv hk => h kv (List.mem_cons_of_mem _ hk)
          obtain ⟨h5, h6⟩ := ih v h2
          cases k with
          | int i =>
            have h1 : (toPD (.int i)).showable = true := by simpa only [toPD, PyData.showable] using h1
            simp only [toPD] at h1
            simp only [toPDkv, toPD, PyData.showableKv, PyData.depthKv, PyData.depth, h1, h3, h5, Bool.and_true, true_and]
            omega
          | str x =>
            simp only [toPDkv, toPD, PyData.showableKv, PyData.depthKv, PyData.depth, PyData.showable, h3, h5, Bool.and_true, true_and]
            omega
          | _ => simp at h1
      have hs' : ∀ kv ∈ kvs, (match kv.1 with
        | .int i => decide (i.natAbs.log2 < 1920)
        | .str _ => true
        | _ => false) = true ∧ shw n kv.2 = true := fun kv hk => by
        have := List.all_eq_true.mp (show (kvs.all fun kv => _) = true from hs) kv hk
        exact Bool.and_eq_true_iff.mp this
      obtain ⟨h1, h2⟩ := key kvs hs'
      simp only [toPD, PyData.showable, PyData.depth, h1, true_and]
      omega
    | obj _ _ => simp [shw] at hs
    | exc _ _ => simp [shw] at hs
    | _ => simp_all [toPD, PyData.showable, PyData.depth, shw]
def rRep (X : Cx) : List V → Hp → VK → Prop := fun xs H Q => ∃ x d, xs = [x] ∧ (∀ (pins : List (Addr × Obj)) (σ : VS) (s : Shared) (u : Value), Inv X pins σ H s → RelV x u → Rdg s.heap u d) ∧ d.showable = true ∧ d.shown.length ≤ sizeLine ∧ d.depth ≤ 64 ∧ Q (.str d.shown) H
theorem cr_rep {X : Cx} {C : Cf} (g : Gd X C) : CallR X (.builtin "repr") (rRep X) := fun pins s σ H xs us Q I r ⟨x, d, e, h1, h2, h3, h4, q⟩ => by
  subst e
  obtain ⟨u, rfl, ru⟩ := vals1 r
  refine call_repr (h1 pins σ s u I ru) h2 h3 g.gu (by have := g.un; omega) fun h' t tk hk => ⟨.str d.shown, H, I.kept hk, ⟨t, rfl⟩, q⟩
theorem b_repr {X : Cx} {B : Tb} {m1 m : Md} (hB : B.K = X.K) (hm : noS m1 = true := by rfl) : B1S B (rRep X) biRepr m1 m := b1_atom fun O H x d d' U Q o e q => by
  have e : (if shw SD d ∧ (shown d).length < LIM then some (D.str (shown d)) else none) = some d' := e
  split at e
  · rename_i hz
    cases e
    obtain ⟨h1, h2⟩ := shw_depth SD d hz.1
    exact ⟨x, toPD d, rfl, fun pins σ s u I r => Ow.rdg hB I SD d m1 x U u hm o r hz.1, h1, lim_line hz.2, Nat.le_trans h2 (by decide), q _ .str⟩
  · cases e
end Mi
namespace Mi
open PySem PySem.Spec PyProof.Rows L2
section
variable {X : Cx} {C : Cf} {p : Bool} {Γ Γ1 Γ2 : G} {i : Nat} {x : Str} {pos pp : Pos} {m : Md} {a : Ex} {ea : Expr}
theorem s_stk {s : Stmt} : SS X C Γ s stk Γ2 := ⟨fun _ _ _ _ _ _ ⟨_, _, _, _, o⟩ => False.elim o⟩
theorem ss_stk {s : List Stmt} : SSs X C Γ s stk Γ2 := ⟨fun _ _ _ _ _ _ ⟨_, _, _, _, o⟩ => False.elim o⟩
theorem leG_refl : ∀ Γ : G, leG Γ Γ = true
  | [] => rfl
  | m :: Γ => by cases m <;> simp [leG, leM, leG_refl Γ]
theorem w_mv (hN : X.N[i]? = some x := by rfl) (hm : Γ[i]? = some (some m) := by rfl) (hv : Vis X.env.scope x := by first | exact Or.inl rfl | exact Or.inr (Or.inl rfl) | exact Or.inr (Or.inr rfl))
    (hd : (x == ("__debug__" : Str)) = false := by decide) (hcd : (x == ("__classdict__" : Str)) = false := by decide) : SE X C false Γ (.Name x pos) (.mv i) (.own m) (Γ.set i none) := by
  refine PE.imp (pe_var hN hv hd hcd) fun σ H Q h => ?_
  obtain ⟨e, S, R, s, o⟩ := h
  obtain ⟨d, v, U, S', h1, h2, h3, h4, h5⟩ := s.sl.take1 hm
  obtain ⟨d', e1, q⟩ := Out.ofO (show Out C σ H S R (OkE C σ H S R false (.own m) (Γ.set i none) Q) (ofO (gt e i) (st e i none)) from o)
  rw [h1] at e1
  cases e1
  have pm : (S ++ R).Perm (S' ++ (U ++ R)) := by
    refine (h4.append_right R).trans ?_
    rw [List.append_assoc]
    exact List.perm_append_comm_assoc U S' R
  have mem : ∀ b, b ∈ S' ++ (U ++ R) → b ∈ S ++ R := fun b hb => pm.mem_iff.mpr hb
  refine ⟨v, h2, q v H S' U (Post.refl _ _) (fun z => nomatch z) (fun b hb => .inl ?_) ⟨pm.nodup_iff.mp s.nd, fun b hb => ?_, ?_, s.mp⟩ (Ow.fr (Fr.sub mem) h3 fun _ _ _ z => z)⟩
  · exact h4.mem_iff.mpr ((List.mem_append.mp hb).elim memR memL)
  · exact s.lives b (mem b (memR hb))
  · have sl := h5.fr (Fr.sub mem) fun _ _ _ z => z
    have key : ∀ {Γ : G} {e : Env} {σ : VS} {T : List Addr} {i : Nat} {y : Option D}, Sl C.B (S' ++ (U ++ R)) H (Γ.set i none) e σ T → Sl C.B (S' ++ (U ++ R)) H (Γ.set i none) (st e i y) σ T := by
      intro Γ
      induction Γ with
      | nil => intro e σ T i y h; have h : Sl C.B (S' ++ (U ++ R)) H [] e σ T := h; cases h; exact .nil
      | cons g Γ ih =>
        intro e σ T i y h
        cases i with
        | zero =>
          have h : Sl C.B (S' ++ (U ++ R)) H (none :: Γ) e σ T := h
          cases h with
          | no h => exact .no h
        | succ i =>
          have h : Sl C.B (S' ++ (U ++ R)) H (g :: Γ.set i none) e σ T := h
          cases h with
          | no h => exact .no (ih h)
          | hv h1 h2 => exact .hv h1 (ih h2)
    exact key sl
theorem w_fz (hN : X.N[i]? = some x := by rfl) (hm : Γ[i]? = some (some m) := by rfl) (l : leG Γ (Γ.set i (some .v)) = true := by rfl) (hv : Vis X.env.scope x := by first | exact Or.inl rfl | exact Or.inr (Or.inl rfl) | exact Or.inr (Or.inr rfl))
    (hl : i < Γ.length := by decide) (hd : (x == ("__debug__" : Str)) = false := by decide) (hcd : (x == ("__classdict__" : Str)) = false := by decide) : SE X C false Γ (.Name x pos) (.fz i) (.own .v) (Γ.set i (some .v)) := by
  refine PE.imp (pe_var hN hv hd hcd) fun σ H Q h => ?_
  obtain ⟨e, S, R, s, o⟩ := h
  obtain ⟨S', k1, s'⟩ := s.le l
  obtain ⟨d, v, U, h1, h2, h3, h4⟩ := s'.sl.get (i := i) (m := .v) (by simp [hl])
  obtain ⟨d', e1, q⟩ := Out.ofO (show Out C σ H S R (OkE C σ H S R false (.own .v) (Γ.set i (some .v)) Q) (ofO (gt e i) e) from o)
  rw [h1] at e1
  cases e1
  have z := h4.v_nil
  subst z
  exact ⟨v, h2, q v H S' [] (Post.refl _ _) (fun z => nomatch z) (fun b hb => .inl (k1 b (by simpa using hb))) s' h4⟩
theorem OwL.atoms {B : Tb} {O O' : List Addr} {H H' : Hp} {m : Md} : ∀ {ds : List D} {vs : List V} {U : List Addr}, ds.all atom = true → OwL B O H m ds vs U → OwL B O' H' .v ds vs []
  | [], _, _, _, h => by cases h; exact .nil
  | d :: ds, _, _, ha, h => by
    rw [List.all_cons, Bool.and_eq_true] at ha
    cases h with
    | cons h1 h2 =>
      have r : OwL B O' H' .v ds _ [] := OwL.atoms ha.2 h2
      refine OwL.cons (S := []) (T := []) ?_ r
      cases d <;> first | (cases ha.1; done) | (cases h1; first | exact .non | exact .bl | exact .int | exact .str)
theorem w_lend (hm : Γ[i]? = some (some m)) (l : leG Γ (Γ.set i (some .v)) = true) (h : SE X C true (Γ.set i (some .v)) ea a (.own .v) Γ2) : SE X C true Γ ea (.lend i a) (.own .v) Γ := PE.imp h fun σ H Q ⟨e, S, R, s, o⟩ => by
  obtain ⟨S', k1, s'⟩ := s.le l
  refine ⟨e, S', R, s', ?_⟩
  have o : Out C σ H S R (OkE C σ H S R true (.own .v) Γ Q) (match evE C.F a e with
    | .ok d _ => if lendD d then .ok d e else .bad
    | .err c fs e1 => .err c fs e1
    | .bad => .bad) := o
  cases hev : evE C.F a e with
  | bad => rw [hev] at o; exact o
  | err c fs e1 =>
    rw [hev] at o
    intro cls dx H' S2 hp hn hs hx
    exact (show ErrQ C σ H S R c fs e1 from o) cls dx H' S2 (hp.mono k1) (fun b hb => (hn b hb).imp (k1 b) id) hs hx
  | ok d e1 =>
    rw [hev] at o
    dsimp only at o
    split at o
    case isFalse => exact o.elim
    rename_i ha
    intro v H' S2 T po ps n sta vl
    have po : Post [] H H' := po
    have vl : Ow C.B (S2 ++ (T ++ R)) H' .v d v T := vl
    have zT := vl.v_nil
    subst zT
    have ndR : R.Nodup := (List.nodup_append.mp s.nd).2.1
    have s2 : Sta C.B C.M ([] ++ R) Γ e σ H' S := s.grow po ndR (s.live.post po fun _ _ z => nomatch z) fun b hb => .inl hb
    refine (show OkE C σ H S R true (.own .v) Γ Q d e from o) v H' S [] po (fun _ => rfl) (by simpa using New.refl) s2 ?_
    by_cases ht : ∃ ds, d = .tup ds
    · obtain ⟨ds, rfl⟩ := ht
      have ha : (false || ds.all atom) = true := ha
      rw [Bool.false_or] at ha
      obtain ⟨b, vs, rfl, k2, k3⟩ := vl.tup_eq
      have nb : b ∉ S ++ ([] ++ R) := fun z => by
        obtain ⟨ob, hob, ow⟩ := s2.lives b z
        rw [k2.2] at hob
        cases hob
        cases ow
      exact .tup rfl ⟨nb, k2.2⟩ (OwL.atoms ha k3)
    · cases d <;> first | (exact absurd ⟨_, rfl⟩ ht) | (cases ha; done) | (cases vl; first | exact .non | exact .bl | exact .int | exact .str)
end
theorem GMp_false : ∀ {rf : List Bool} {pm : List Md}, rf.filter id = [] → rf.length = pm.length → GMp rf pm = List.replicate rf.length none
  | [], pm, _, _ => by cases pm <;> rfl
  | true :: rf, pm, h, _ => by simp at h
  | false :: rf, [], _, h => by simp at h
  | false :: rf, m :: pm, h, hl => by
    show none :: GMp rf pm = _
    rw [GMp_false (by simpa using h) (by simpa using hl)]
    rfl
section
variable {X : Cx} {C : Cf} {p : Bool} {Γ Γ1 : G} {ms : Exs} {ks : List AK} {n : Nat} {fs : List D → FR} {rf : List Bool} {pm : List Md} {rm : Md} {x : Str} {pp pos : Pos} {e : Expr} {es : List Expr} {k : Nat} {f : Addr} {fd : FuncData} {ps : List Str}
theorem w_callV (g : Gd X C) (F : FnG X.prog X.w X.K X.mg X.base k f fd ps (spF C.B fs rf pm rm)) (hF : ∀ ds, C.F n ds = fs ds) (hr : Room k X.A) (hm : X.mg x = some (.ref f)) (hk : PySem.W.keepIn X.K (.ref f) = true) (hb : Binds X.K fd ps []) (ha : SA X C p Γ (e :: es) ms ks Γ1)
    (ok : valArgs ks rf pm = true := by rfl) (hpl' : rf.length = pm.length := by rfl) (hx : leG Γ1 C.GX = true := by rfl) (hg : Gl X x := by rfl) (hdb : (x == ("__debug__" : Str)) = false := by decide) (he : starEach (e :: es) X.env = (false, eval e X.env) :: starEach es X.env := by rfl) (hpl : (backTo pos (starEach es X.env)).any (·.1) = false := by rfl) :
    SE X C p Γ (.Call (.Name x pp) (e :: es) [] pos) (.call n ms) (.own rm) Γ1 :=
  PE.imp (peG_call g F hr hm hk hb .nil ha hg hdb he hpl) fun σ H Q h => by
    obtain ⟨e, S, R, s, o⟩ := h
    have o : Out C σ H S R (OkE C σ H S R p (.own rm) Γ1 Q) ((evEs C.F ms e).bind fun as e1 => match arD as e1 with
      | some ds => callR (C.F n ds) as e1
      | none => .bad) := o
    refine (At.start s).evA o fun as e2 vs H2 S2 T2 a2 v2 _ nw o2 => ?_
    obtain ⟨rfl, l1, l2, ds, d1, d2⟩ := vals_in v2 ok
    rw [d1] at o2
    have o2 : Out C σ H S R (OkE C σ H S R p (.own rm) Γ1 Q) (callR (C.F n ds) as e2) := o2
    rw [List.append_nil]
    have put : ∀ os e', putO as os e2 = some e' → os.length = 0 → e' = e2 := by
      have gen : ∀ {O S0 : List Addr} {H : Hp} {ks : List AK} {as : List Ar} {vs : List V} {T : List Addr}, ArR C.B O S0 H σ ks as vs T → ∀ {rf : List Bool} {pm : List Md}, valArgs ks rf pm = true → putO as [] e2 = some e2 := by
        intro O S0 H ks as vs T h
        induction h with
        | nil => intro rf pm _; rfl
        | @kd k ks d as v vs T U h1 _ ih =>
          intro rf pm hk
          cases k with
          | bor _ => cases rf <;> cases pm <;> simp [valArgs] at hk
          | own m =>
            cases rf with
            | nil => simp [valArgs] at hk
            | cons r rf =>
              cases pm with
              | nil => cases r <;> simp [valArgs] at hk
              | cons m' pm =>
                cases r with
                | true => simp [valArgs] at hk
                | false =>
                  simp only [valArgs, Bool.and_eq_true] at hk
                  exact ih hk.2
        | ref _ _ _ => intro rf pm hk; cases rf <;> cases pm <;> simp [valArgs] at hk
      intro os e' h hl
      have z : os = [] := List.eq_nil_of_length_eq_zero hl
      subst z
      rw [gen v2 ok] at h
      cases h
      rfl
    have putN : ∀ os, os.length = 0 → putO as os e2 = some e2 := by
      intro os hl
      have z : os = [] := List.eq_nil_of_length_eq_zero hl
      subst z
      have gen : ∀ {O S0 : List Addr} {H : Hp} {ks : List AK} {as : List Ar} {vs : List V} {T : List Addr}, ArR C.B O S0 H σ ks as vs T → ∀ {rf : List Bool} {pm : List Md}, valArgs ks rf pm = true → putO as [] e2 = some e2 := by
        intro O S0 H ks as vs T h
        induction h with
        | nil => intro rf pm _; rfl
        | @kd k ks d as v vs T U h1 _ ih =>
          intro rf pm hk
          cases k with
          | bor _ => cases rf <;> cases pm <;> simp [valArgs] at hk
          | own m =>
            cases rf with
            | nil => simp [valArgs] at hk
            | cons r rf =>
              cases pm with
              | nil => cases r <;> simp [valArgs] at hk
              | cons m' pm =>
                cases r with
                | true => simp [valArgs] at hk
                | false =>
                  simp only [valArgs, Bool.and_eq_true] at hk
                  exact ih hk.2
        | ref _ _ _ => intro rf pm hk; cases rf <;> cases pm <;> simp [valArgs] at hk
      exact gen v2 ok
    refine ⟨fun cls dx H' => C.W cls dx σ H', fun _ _ _ h => h, by rw [v2.len, l1], ds, [], S2 ++ ([] ++ R), by simpa using a2.sta.nd, a2.sta.lives, by simpa using d2, ?_⟩
    rw [← hF]
    cases hf : C.F n ds with
    | bad => rw [hf] at o2; exact o2.elim
    | ok r os =>
      rw [hf] at o2
      intro v H3 S3 T3 hl po nw3 nd lv sl ow
      rw [l2] at hl
      have zS : S3 = [] := by
        rw [GMp_false l2 hpl'] at sl
        have : ∀ (n : Nat) {e : Env} {τ : VS} {S : List Addr}, Sl C.B (S3 ++ (T3 ++ (S2 ++ ([] ++ R)))) H3 (List.replicate n none) e τ S → S = [] := by
          intro n
          induction n with
          | zero => intro e τ S h; have h : Sl C.B _ H3 [] e τ S := h; cases h; rfl
          | succ n ih => intro e τ S h; have h : Sl C.B _ H3 (none :: List.replicate n none) e τ S := h; cases h with
            | no h => exact ih h
        exact this _ sl
      subst zS
      have o2 : Out C σ H S R (OkE C σ H S R p (.own rm) Γ1 Q) (callR (.ok r os) as e2) := o2
      unfold callR at o2
      dsimp only at o2
      rw [putN os (by simpa using hl)] at o2
      have q : OkE C σ H S R (p && true) (.own rm) Γ1 Q r e2 := by rw [Bool.and_true]; exact o2
      have a2' : At C σ H S R p Γ1 e2 H2 S2 ([] ++ R) := by have := a2; rwa [Bool.true_and] at this
      rw [Bool.and_true] at q
      refine a2'.fin q po (fun b hb => (nw3 b (by simpa using hb)).elim (fun z => nomatch z) id) (List.nodup_append.mp (by simpa using nd)).1 (by simpa using ow)
    | err c es os =>
      rw [hf] at o2
      intro cls dx H3 S3 hl po nw3 nd lv sl ex
      rw [l2] at hl
      have o2 : Out C σ H S R (OkE C σ H S R p (.own rm) Γ1 Q) (callR (.err c es os) as e2) := o2
      unfold callR at o2
      dsimp only at o2
      rw [putN os (by simpa using hl)] at o2
      have zS : S3 = [] := by
        rw [GMp_false l2 hpl'] at sl
        have : ∀ (n : Nat) {e : Env} {τ : VS} {S : List Addr}, Sl C.B (S3 ++ (S2 ++ ([] ++ R))) H3 (List.replicate n none) e τ S → S = [] := by
          intro n
          induction n with
          | zero => intro e τ S h; have h : Sl C.B _ H3 [] e τ S := h; cases h; rfl
          | succ n ih => intro e τ S h; have h : Sl C.B _ H3 (none :: List.replicate n none) e τ S := h; cases h with
            | no h => exact ih h
        exact this _ sl
      subst zS
      have a2' : At C σ H S R p Γ1 e2 H2 S2 ([] ++ R) := by have := a2; rwa [Bool.true_and] at this
      have s3 : Sta C.B C.M ([] ++ R) Γ1 e2 σ H3 S2 := a2'.sta.grow po (List.nodup_append.mp a2'.sta.nd).2.1 (a2'.sta.live.post po fun _ _ z => nomatch z) fun b hb => .inl hb
      obtain ⟨S4, c1, c2⟩ := s3.le hx
      refine (a2'.err o2) cls dx H3 S4 (po.nil _) (fun b hb => .inl (c1 b hb)) c2 (ex.fr (Fr.sub fun b hb => ?_))
      simp only [List.mem_append] at hb ⊢
      exact .inr (hb.imp (c1 b) id)
end
end Mi
namespace Mi
open PySem PySem.Spec PyProof.Rows L2
section
variable {X : Cx} {C : Cf} {p p1 p2 : Bool} {Γ Γ1 Γ2 : G} {pos pp : Pos} {m m1 m2 : Md} {a b : Ex} {ea eb : Expr} {k1 k2 : Kd}
theorem w_dct0 : SE X C true Γ (.Dict [] [] pos) (.dct .nil) (.own (.d m)) Γ := PE.imp pe_dnewK fun σ H Q h => by
  obtain ⟨e, S, R, s, o⟩ := h
  intro q hq
  have a1 : At C σ H S R true Γ e H S R := At.start s
  exact a1.fin (show OkE C σ H S R true (.own (.d m)) Γ Q (.dct []) e from o) (post_upd hq) (T := [q]) (fun z hz => by rw [List.mem_singleton.mp hz]; exact hq) (by simp) (.dK (S := []) upd_same .nil)
theorem rngV {B : Tb} {O : List Addr} {H : Hp} (i j : Int) : OwL B O H .v (rngD i (j - i).toNat) (rgV i j) [] := by
  unfold rngD rgV
  generalize List.range (j - i).toNat = l
  induction l with
  | nil => exact .nil
  | cons n l ih => exact .cons (S := []) (T := []) .int ih
theorem rg_ok {i j : Int} (h : i.natAbs < LIM ∧ j.natAbs < LIM) : RgOk i j := by
  obtain ⟨h1, h2⟩ := h
  simp only [LIM] at h1 h2
  exact ⟨by omega, by omega, by omega, by omega, by omega⟩
theorem w_lrng2 {p3 : Pos} (g : Gd X C) (hm : X.mg "list" = none) (hm2 : X.mg "range" = none) (ha : SE X C p1 Γ ea a k1 Γ1) (hb : SE X C p2 Γ1 eb b k2 Γ2) (hp : k1.isB = true → p2 = true := by first | exact fun _ => rfl | exact fun h => nomatch h) (hg : Gl X "list" := by rfl) (hg2 : Gl X "range" := by rfl)
    (na2 : starEach [ea, eb] X.env = (false, eval ea X.env) :: starEach [eb] X.env := by rfl) (nb2 : starEach [eb] X.env = (false, eval eb X.env) :: starEach [] X.env := by rfl) (pl2 : (backTo p3 (starEach [eb] X.env)).any (·.1) = false := by rfl)
    (na : starEach [.Call (.Name "range" pp) [ea, eb] [] p3] X.env = (false, eval (.Call (.Name "range" pp) [ea, eb] [] p3) X.env) :: starEach [] X.env := by rfl) {p4 : Pos} :
    SE X C (p1 && p2) Γ (.Call (.Name "list" p4) [.Call (.Name "range" pp) [ea, eb] [] p3] [] pos) (.bi .rng2 (.cons a (.cons b .nil))) (.own (.l .v)) Γ2 :=
  PE.imp (pe_listRg g.calm hg hm (prg_2 hg2 hm2 ha hb na2 nb2 pl2) na) fun σ H Q h => by
    obtain ⟨e, S, R, s, o⟩ := h
    have o : Out C σ H S R (OkE C σ H S R (p1 && p2) (.own (.l .v)) Γ2 Q) (((evE C.F a e).bind fun d e1 => ((evE C.F b e1).bind fun d2 e2 => Mi.R.ok [Ar.d d2] e2).bind fun r e2 => .ok (Ar.d d :: r) e2).bind fun as e1 => ofO ((dsOf as).bind fun ds => evBi .rng2 ds) e1) := o
    have o' : Out C σ H S R (OkE C σ H S R (p1 && p2) (.own (.l .v)) Γ2 Q) ((evE C.F a e).bind fun d e1 => (evE C.F b e1).bind fun d2 e2 => ofO (biRng d d2) e2) := by
      cases hq : evE C.F a e with
      | bad => rw [hq] at o; exact o
      | err _ _ _ => rw [hq] at o; exact o
      | ok d e1 =>
        rw [hq] at o
        have o : Out C σ H S R (OkE C σ H S R (p1 && p2) (.own (.l .v)) Γ2 Q) ((((evE C.F b e1).bind fun d2 e2 => Mi.R.ok [Ar.d d2] e2).bind fun r e2 => .ok (Ar.d d :: r) e2).bind fun as e1 => ofO ((dsOf as).bind fun ds => evBi .rng2 ds) e1) := o
        show Out C σ H S R _ ((evE C.F b e1).bind fun d2 e2 => ofO (biRng d d2) e2)
        cases hq2 : evE C.F b e1 <;> rw [hq2] at o <;> exact o
    refine (At.start s).ev o' fun d1 e1 x H1 S1 T1 a1 v1 _ o1 => ?_
    refine a1.ev o1 fun d2 e2 y H2 S2 T2 a2 v2 hold o2 => ?_
    obtain ⟨d, hd, q⟩ := Out.ofO o2
    obtain ⟨U1, u1, ow1⟩ := (hold _ _ _ _ v1 (fun _ => memL) hp).view (fun _ => memL) fun a h => memR (memR (memL h))
    obtain ⟨U2, u2, ow2⟩ := v2.view (fun _ => memL) fun a h => memR (memL h)
    cases d1 <;> first | (cases hd; done) | skip
    cases d2 <;> first | (cases hd; done) | skip
    rename_i i j
    have hd : (if i.natAbs < LIM ∧ j.natAbs < LIM then some (D.lst (rngD i (j - i).toNat)) else none) = some d := hd
    split at hd
    case isFalse => cases hd
    rename_i hz
    cases hd
    exact ⟨i, j, ow1.int_eq, ow2.int_eq, rg_ok hz, fun q' hq => a2.fin q (post_upd hq) (fun z hz => by rw [List.mem_singleton.mp hz]; exact hq) (by simp) (new_lst a2.sta.lives (rngV i j) hq)⟩
theorem w_lrng1 {p3 : Pos} (g : Gd X C) (hm : X.mg "list" = none) (hm2 : X.mg "range" = none) (ha : SE X C p1 Γ ea a k1 Γ1) (hg : Gl X "list" := by rfl) (hg2 : Gl X "range" := by rfl)
    (na2 : starEach [ea] X.env = (false, eval ea X.env) :: starEach [] X.env := by rfl)
    (na : starEach [.Call (.Name "range" pp) [ea] [] p3] X.env = (false, eval (.Call (.Name "range" pp) [ea] [] p3) X.env) :: starEach [] X.env := by rfl) {p4 : Pos} :
    SE X C p1 Γ (.Call (.Name "list" p4) [.Call (.Name "range" pp) [ea] [] p3] [] pos) (.bi .rng1 (.cons a .nil)) (.own (.l .v)) Γ1 :=
  PE.imp (pe_listRg g.calm hg hm (prg_1 hg2 hm2 ha na2) na) fun σ H Q h => by
    obtain ⟨e, S, R, s, o⟩ := h
    have o : Out C σ H S R (OkE C σ H S R p1 (.own (.l .v)) Γ1 Q) (((evE C.F a e).bind fun d e1 => Mi.R.ok [Ar.d d] e1).bind fun as e1 => ofO ((dsOf as).bind fun ds => evBi .rng1 ds) e1) := o
    have o' : Out C σ H S R (OkE C σ H S R p1 (.own (.l .v)) Γ1 Q) ((evE C.F a e).bind fun d e1 => ofO (biRng (.int 0) d) e1) := by
      cases hq : evE C.F a e <;> rw [hq] at o <;> exact o
    refine (At.start s).ev o' fun d1 e1 x H1 S1 T1 a1 v1 _ o1 => ?_
    obtain ⟨d, hd, q⟩ := Out.ofO o1
    obtain ⟨U1, u1, ow1⟩ := v1.view (fun _ => memL) fun a h => memR (memL h)
    cases d1 <;> first | (cases hd; done) | skip
    rename_i j
    have hd : (if (0 : Int).natAbs < LIM ∧ j.natAbs < LIM then some (D.lst (rngD 0 (j - 0).toNat)) else none) = some d := hd
    split at hd
    case isFalse => cases hd
    rename_i hz
    cases hd
    exact ⟨j, ow1.int_eq, rg_ok hz, fun q' hq => a1.fin q (post_upd hq) (fun z hz => by rw [List.mem_singleton.mp hz]; exact hq) (by simp) (new_lst a1.sta.lives (rngV 0 j) hq)⟩
end
section
variable {X : Cx} {C : Cf} {p : Bool} {Γ Γ1 : G} {pos pp : Pos} {m1 m2 : Md} {a b : Ex} {ea eb : Expr}
theorem zip_get : ∀ {xs ys : List D} {i : Nat} {d : D}, ((xs.zip ys).map kvD)[i]? = some d → ∃ x y, xs[i]? = some x ∧ ys[i]? = some y ∧ d = .tup [x, y]
  | [], ys, i, d, h => by simp at h
  | x :: xs, [], i, d, h => by simp at h
  | x :: xs, y :: ys, 0, d, h => by simp [kvD] at h; exact ⟨x, y, rfl, rfl, h.symm⟩
  | x :: xs, y :: ys, i + 1, d, h => by
    obtain ⟨x', y', h1, h2, h3⟩ := zip_get (xs := xs) (ys := ys) (i := i) (by simpa using h)
    exact ⟨x', y', by simpa using h1, by simpa using h2, h3⟩
theorem yld_zip {B : Tb} {H : Hp} {a b : Addr} {vs ws : List V} {xs ys : List D} {S Z : List Addr} (ha : a ∉ S) (h1 : H a = some (.lst vs)) (h2 : OwL B (S ++ Z) H .v xs vs []) (hb : b ∉ S) (h3 : H b = some (.lst ws)) (h4 : OwL B (S ++ Z) H .v ys ws []) :
    Yld B ((xs.zip ys).map kvD) (Itz X.K a b) S Z H := by
  intro O' H' po n lv
  have h1' : H' a = some (.lst vs) := po a _ ha h1
  have h3' : H' b = some (.lst ws) := po b _ hb h3
  have h2' := h2.fr (Fr.of (B := B) (Z := Z) po n) (fun _ z => nomatch z)
  have h4' := h4.fr (Fr.of (B := B) (Z := Z) po n) (fun _ z => nomatch z)
  refine ⟨fun i hi => ⟨vs, ws, .of h1', .of h3', ?_⟩, fun i d hd => ?_⟩
  · rw [← h2.len, ← h4.len]
    simp at hi
    omega
  · obtain ⟨x, y, hx, hy, rfl⟩ := zip_get hd
    obtain ⟨v, U, g1, g2, _⟩ := h2'.get hx
    obtain ⟨w, U', g3, g4, _⟩ := h4'.get hy
    have z := g2.v_nil
    subst z
    have z := g4.v_nil
    subst z
    refine ⟨⟨vs, ws, v, w, .of h1', .of h3', g1, g3⟩, fun q H'' hq => ?_⟩
    obtain ⟨T, x', y', rfl, hT, rfl, e1, e2⟩ := hq
    have e := e1 vs (.of h1')
    rw [g1] at e
    cases e
    have e := e2 ws (.of h3')
    rw [g3] at e
    cases e
    exact ⟨post_upd hT, new_tup lv (OwL.cons (S := []) (T := []) g2 (OwL.cons (S := []) (T := []) g4 .nil)) hT⟩
theorem lst_in {B : Tb} {O S Rr T : List Addr} {H : Hp} {m : Md} {ds : List D} {v : V} (h : Ow B O H m (.lst ds) v T) (hm : m = .v ∨ m = .l .v) (hS : ∀ a, a ∈ S ++ Rr → a ∈ O) (hT : ∀ a ∈ T, a ∉ S ++ Rr) : ∃ a vs, v = .ref a ∧ a ∉ S ++ Rr ∧ H a = some (.lst vs) ∧ OwL B O H .v ds vs [] := by
  rcases hm with rfl | rfl
  · cases h with
    | lstV h1 h2 => exact ⟨_, _, rfl, fun z => h1.1 (hS _ z), h1.2, h2⟩
  · cases h with
    | lst h1 h2 =>
      have z := h2.v_nil
      subst z
      exact ⟨_, _, rfl, hT _ (by simp), h1, h2⟩
theorem i_zip {elts : List Expr} {kk : Nat} {tpos : Pos} (hz : X.mg "zip" = none) (ha : SA X C p Γ [ea, eb] (.cons a (.cons b .nil)) [.kd (.own m1), .kd (.own m2)] Γ1) (h1 : m1 = .v ∨ m1 = .l .v := by first | exact .inl rfl | exact .inr rfl) (h2 : m2 = .v ∨ m2 = .l .v := by first | exact .inl rfl | exact .inr rfl)
    (hg : Gl X "zip" := by rfl) (hs : starEach [ea, eb] X.env = (false, eval ea X.env) :: starEach [eb] X.env := by rfl) (hpl : (backTo pos (starEach [eb] X.env)).any (·.1) = false := by rfl) :
    SI X C p Γ (.Tuple elts kk tpos) (.Call (.Name "zip" pp) [ea, eb] [] pos) (.zp a b) Γ1 :=
  PI.imp (pi_zip hg hz ha hs hpl) fun σ H Q h => by
    obtain ⟨e, S, R, s, o⟩ := h
    have o : Out C σ H S R (OkI C σ H S R p Γ1 Q) ((evE C.F a e).bind fun d e1 => (evE C.F b e1).bind fun d2 e2 => match d, d2 with
      | .lst xs, .lst ys => .ok ((xs.zip ys).map kvD) e2
      | _, _ => .bad) := o
    have o' : Out C σ H S R (OkI C σ H S R p Γ1 Q) ((evEs C.F (.cons a (.cons b .nil)) e).bind fun as e2 => match as with
      | [.d (.lst xs), .d (.lst ys)] => .ok ((xs.zip ys).map kvD) e2
      | _ => .bad) := by
      show Out C σ H S R _ (((evE C.F a e).bind fun d e1 => ((evE C.F b e1).bind fun d2 e2 => Mi.R.ok [Ar.d d2] e2).bind fun r e2 => .ok (Ar.d d :: r) e2).bind _)
      cases hq : evE C.F a e with
      | bad => rw [hq] at o; exact o
      | err _ _ _ => rw [hq] at o; exact o
      | ok d e1 =>
        rw [hq] at o
        have o : Out C σ H S R (OkI C σ H S R p Γ1 Q) ((evE C.F b e1).bind fun d2 e2 => match (generalizing := false) d, d2 with
          | .lst xs, .lst ys => .ok ((xs.zip ys).map kvD) e2
          | _, _ => .bad) := o
        show Out C σ H S R _ ((((evE C.F b e1).bind fun d2 e2 => Mi.R.ok [Ar.d d2] e2).bind fun r e2 => .ok (Ar.d d :: r) e2).bind _)
        cases hq2 : evE C.F b e1 with
        | bad => rw [hq2] at o; exact o
        | err _ _ _ => rw [hq2] at o; exact o
        | ok d2 e2 =>
          rw [hq2] at o
          cases d <;> first | exact False.elim o | skip
          cases d2 <;> first | exact False.elim o | skip
          exact o
    refine (At.start s).evA o' fun as e2 vs H2 S2 T2 a2 v2 _ nw o2 => ?_
    cases v2 with
    | @kd _ _ d _ v _ T U g1 g2 =>
      cases g2 with
      | @kd _ _ d3 _ v3 _ T3 U3 g3 g4 =>
        cases g4
        cases d <;> first | exact False.elim o2 | skip
        cases d3 <;> first | exact False.elim o2 | skip
        rename_i xs ys
        rw [List.append_nil] at g1 g3 a2 nw
        have nd := a2.sta.nd
        have far : ∀ z ∈ T ++ T3, z ∉ S2 ++ R := fun z hz hw => (List.mem_append.mp hw).elim (fun w => disj nd w (memL hz)) fun w => disj (List.nodup_append.mp nd).2.1 hz w
        have sub : ∀ z, z ∈ S2 ++ R → z ∈ S2 ++ ((T ++ T3) ++ R) := fun z hz => (List.mem_append.mp hz).elim memL fun w => memR (memR w)
        obtain ⟨q1, vs1, rfl, k1, k2, k3⟩ := lst_in (show Ow C.B _ H2 m1 (.lst xs) v T from g1) h1 sub fun z hz => far z (memL hz)
        obtain ⟨q2, vs2, rfl, k4, k5, k6⟩ := lst_in (show Ow C.B _ H2 m2 (.lst ys) v3 T3 from g3) h2 sub fun z hz => far z (memR hz)
        refine ⟨q1, q2, vs1, vs2, rfl, .of k2, .of k5, (show OkI C σ H S R p Γ1 Q ((xs.zip ys).map kvD) e2 from o2) _ H2 S2 _ a2.po a2.ps nw a2.sta (yld_zip k1 k2 (k3.fr (Fr.sub fun _ => szt) fun _ z => nomatch z) k4 k5 (k6.fr (Fr.sub fun _ => szt) fun _ z => nomatch z))⟩
end
end Mi
namespace Mi
open PySem PySem.Spec PyProof.Rows L2
section
variable {X : Cx} {C : Cf} {p : Bool} {Γ Γ1 Γ2 : G} {pos px py pt : Pos} {kt : Nat} {m : Md} {a : Ex} {ea : Expr} {i j : Nat} {x y : Str}
theorem s_unp2 (g : Gd X C) (ha : SE X C p Γ ea a (.own (.l m)) Γ1) (hi : X.N[i]? = some x := by rfl) (hj : X.N[j]? = some y := by rfl) (hli : i < Γ1.length := by decide) (hlj : j < Γ1.length := by decide) (hMi : C.M.mi.contains i = false := by rfl) (hMj : C.M.mi.contains j = false := by rfl)
    (hx : Loc X.env.scope x := by first | exact .inl rfl | exact .inr rfl) (hy : Loc X.env.scope y := by first | exact .inl rfl | exact .inr rfl)
    (hfx : X.fn x = true ∨ X.env.scope.names.lookup x = some .local := by first | exact .inl rfl | exact .inr rfl) (hfy : X.fn y = true ∨ X.env.scope.names.lookup y = some .local := by first | exact .inl rfl | exact .inr rfl)
    (hs : swapsWithSole [.Tuple [.Name x px, .Name y py] kt pt] ea pos.line X.env = pure false := by rfl) (hw : swappedStores [.Tuple [.Name x px, .Name y py] kt pt] ea X.env = pure none := by rfl)
    (h1 : (assignEach [.Tuple [.Name x px, .Name y py] kt pt] X.env).map (·.2) = [assign (.Tuple [.Name x px, .Name y py] kt pt) X.env] := by rfl)
    (a1 : (assignEach [.Name x px, .Name y py] X.env).map (·.2) = assign (.Name x px) X.env :: (assignEach [.Name y py] X.env).map (·.2) := by rfl) (a2 : (assignEach [.Name y py] X.env).map (·.2) = assign (.Name y py) X.env :: (assignEach [] X.env).map (·.2) := by rfl)
    (hn : (assignEach [.Name x px, .Name y py] X.env).length = 2 := by rfl) (hst : (assignEach [.Name x px, .Name y py] X.env).findIdx? (·.1) = none := by rfl) :
    SS X C Γ (.Assign [.Tuple [.Name x px, .Name y py] kt pt] ea pos) (.asg (.tl (.cons (.nm i) (.cons (.nm j) .nil))) a) ((Γ1.set i (some m)).set j (some m)) :=
  PS.imp (ps_asg ha (pg_lst g.calm (pgs_cons (pg_name g.nd hi hx hfx) (pgs_cons (pg_name g.nd hj hy hfy) pgs_nil a2) a1) hn hst) hs hw h1) fun E σ H ⟨e, S, R, s, o⟩ => stm1 (f := fun d e1 => match bindT (.tl (.cons (.nm i) (.cons (.nm j) .nil))) d e1 with
    | some e2 => .ok .nxt e2
    | none => .bad) s o fun d e1 v H1 S1 T1 a1 v1 n1 o1 => by
    cases d <;> first | exact False.elim o1 | skip
    rename_i ds
    match ds, v1, o1 with
    | [], v1, o1 => exact False.elim o1
    | [d1], v1, o1 => exact False.elim o1
    | [d1, d2], v1, o1 =>
      have v1 : Ow C.B (S1 ++ (T1 ++ R)) H1 (.l m) (.lst [d1, d2]) v T1 := v1
      obtain ⟨b, vs, T, rfl, hb, hL, rfl⟩ := v1.l_inv
      cases hL with
      | @cons _ _ _ w1 ws Ta Tb k1 k2 =>
        cases k2 with
        | @cons _ _ _ w2 ws' Tc Td k3 k4 =>
          cases k4
          rw [List.append_nil] at a1 k1 k3 n1
          have ndZ : ((Ta ++ Tc) ++ R).Nodup := (List.nodup_cons.mp (List.nodup_append.mp a1.sta.nd).2.1).2
          have s2 : Sta C.B C.M ((Ta ++ Tc) ++ R) Γ1 e1 σ H1 S1 := a1.sta.drop ndZ fun z hz => List.mem_cons_of_mem _ hz
          have f : Fr (S1 ++ (b :: (Ta ++ Tc) ++ R)) (S1 ++ ((Ta ++ Tc) ++ R)) H1 H1 := Fr.sub fun z hz => (List.mem_append.mp hz).elim memL fun w => memR (List.mem_cons_of_mem _ w)
          obtain ⟨S', q1, q2⟩ := s2.bind2 (k1.fr f fun _ _ _ z => z) (k3.fr f fun _ _ _ z => z) hli hlj hMi hMj
          refine ⟨b, [w1, w2], rfl, .of hb, rfl, w1, [w2], rfl, w2, [], rfl, rfl, ?_⟩
          exact (show ∀ σ' H' S', Post S H H' → New S H S' → Sta C.B C.M R _ (st (st e1 i (some d1)) j (some d2)) σ' H' S' → E.nx σ' H' from o1) _ H1 S' a1.po.ite (fun z hz => n1 z ((List.mem_append.mp (q1 z hz)).elim memL fun w => memR (List.mem_cons_of_mem _ w))) q2
    | _ :: _ :: _ :: _, v1, o1 => exact False.elim o1
end
section
variable {X : Cx} {C : Cf} {p : Bool} {Γ Γ1 : G} {pos p2 p3 : Pos} {ms : Exs} {ks : List AK} {es : List Expr}
def noSk : List AK → Bool
  | [] => true
  | .kd k :: r => noS k.md && noSk r
  | .ref _ :: _ => false
theorem ArR.rdg {n : Nat} {B : Tb} {O S : List Addr} {H : Hp} {σ : VS} {as : List Ar} {vs : List V} {T : List Addr} {pins : List (Addr × Obj)} {τ : VS} {s : Shared} {H2 : Hp} (hB : B.K = X.K) (I : Inv X pins τ H2 s) (h : ArR B O S H σ ks as vs T) (hS : ∀ a ∈ S, a ∈ O) (hT : ∀ a ∈ T, a ∈ O) (po : Post [] H H2) (nO : ∀ a o, H a = some o → H2 a = some o) :
    noSk ks = true → ∀ us, Vals vs us → ∃ ds, dsOf as = some ds ∧ (ds.all (shw n) = true → RdgA s.heap us (toPDs ds)) := by
  induction h with
  | nil => intro _ us r; cases r; exact ⟨[], rfl, fun _ => by simp only [toPDs]; exact .nil⟩
  | @kd k ks d as v vs T U h1 h2 ih =>
    intro hk us r
    have hk := Bool.and_eq_true_iff.mp (show (noS k.md && noSk ks) = true from hk)
    cases r with
    | @cons _ u _ us r1 r2 =>
      obtain ⟨ds, e1, e2⟩ := ih (fun a ha => hT a (memR ha)) hk.2 us r2
      obtain ⟨W, w1, ow⟩ := h1.view hS fun a ha => hT a (memL ha)
      refine ⟨d :: ds, by simp [dsOf, e1], fun hs => ?_⟩
      simp only [List.all_cons, Bool.and_eq_true] at hs
      have ow2 : Ow B O H2 k.md d v W := ow.fr ⟨fun a o n e => nO a o e, fun a o n _ => n⟩ fun a _ o e => nO a o e
      simp only [toPDs]
      exact .cons (Ow.rdg hB I n d k.md v W u hk.1 ow2 r1 hs.1) (e2 hs.2)
  | ref _ _ _ => intro hk; cases hk
theorem w_reprL (g : Gd X C) (hm : X.mg "repr" = none) (ha : SA X C p Γ es ms ks Γ1) (hk : noSk ks = true := by rfl) (hl : ks.length < LIM := by decide) (hg : Gl X "repr" := by rfl)
    (hs : starEach [.List es p3] X.env = (false, eval (.List es p3) X.env) :: starEach [] X.env := by rfl) : SE X C p Γ (.Call (.Name "repr" p2) [.List es p3] [] pos) (.bi .repr (.cons (.lst ms) .nil)) (.own .v) Γ1 :=
  PE.imp (pe_callB (cr_rep g) hg hm (by decide +kernel) (pa_cons (pe_lst ha) pa_nil hs) (by decide) (by decide) hs rfl) fun σ H Q h => by
    obtain ⟨e, S, R, s, o⟩ := h
    have o : Out C σ H S R (OkE C σ H S R p (.own .v) Γ1 Q) (((((evEs C.F ms e).bind fun as e1 => ofO ((dsOf as).map .lst) e1).bind fun d e1 => Mi.R.ok [Ar.d d] e1).bind fun as e1 => ofO ((dsOf as).bind fun ds => evBi .repr ds) e1)) := o
    have o' : Out C σ H S R (OkE C σ H S R p (.own .v) Γ1 Q) ((evEs C.F ms e).bind fun as e1 => match (dsOf as) with
      | some ds => ofO (biRepr (.lst ds)) e1
      | none => .bad) := by
      cases hq : evEs C.F ms e with
      | bad => rw [hq] at o; exact o
      | err _ _ _ => rw [hq] at o; exact o
      | ok as e1 =>
        rw [hq] at o
        show Out C σ H S R _ (match (generalizing := false) (dsOf as) with
          | some ds => ofO (biRepr (.lst ds)) e1
          | none => .bad)
        cases hd : dsOf as with
        | none =>
          have o : Out C σ H S R (OkE C σ H S R p (.own .v) Γ1 Q) (((ofO ((dsOf as).map .lst) e1).bind fun d e1 => Mi.R.ok [Ar.d d] e1).bind fun as e1 => ofO ((dsOf as).bind fun ds => evBi .repr ds) e1) := o
          rw [hd] at o
          exact o
        | some ds =>
          have o : Out C σ H S R (OkE C σ H S R p (.own .v) Γ1 Q) (((ofO ((dsOf as).map .lst) e1).bind fun d e1 => Mi.R.ok [Ar.d d] e1).bind fun as e1 => ofO ((dsOf as).bind fun ds => evBi .repr ds) e1) := o
          rw [hd] at o
          exact o
    refine (At.start s).evA o' fun as e2 vs H2 S2 T2 a2 v2 _ nw o2 => ?_
    have hlen : vs.length ≤ sizeLine := by rw [v2.len]; exact lim_line hl
    refine ⟨hlen, fun q hq => ?_⟩
    cases hd : dsOf as with
    | none => rw [hd] at o2; exact o2.elim
    | some ds =>
      rw [hd] at o2
      obtain ⟨d', hr, ok⟩ := Out.ofO o2
      have hr : (if shw SD (.lst ds) ∧ (shown (.lst ds)).length < LIM then some (D.str (shown (.lst ds))) else none) = some d' := hr
      split at hr
      case isFalse => cases hr
      rename_i hz
      cases hr
      obtain ⟨g1, g2⟩ := shw_depth SD _ hz.1
      have nO : ∀ a o, H2 a = some o → (upd H2 q (.lst vs)) a = some o := fun a o e => post_upd hq a o (fun z => nomatch z) e
      refine ⟨.ref q, toPD (.lst ds), rfl, fun pins τ s' u I ru => ?_, g1, lim_line hz.2, Nat.le_trans g2 (by decide), ?_⟩
      · cases ru
        obtain ⟨z, its, k, rv, hlx⟩ := (show ObjOk X.prog X.w (upd H2 q (.lst vs)) s'.heap q (.lst vs) from I.hok q _ upd_same)
        obtain ⟨ds', e1, e3⟩ := v2.rdg (n := 39) (X := X) g.K.symm I (fun _ => memL) (fun a ha => memR (memL ha)) (post_upd hq) nO hk its rv
        rw [hd] at e1
        cases e1
        simp only [toPD]
        exact .lst hlx rfl rfl (by simpa using e3 (show (ds.all (shw 39)) = true from hz.1))
      · exact a2.fin ok (post_upd hq) (T := []) (fun _ h => absurd h List.not_mem_nil) List.nodup_nil .str
end
end Mi
namespace Mi
open PySem PySem.Spec PyProof.Rows L2 PySem.W
section
variable {α : Type} {le : α → α → Bool}
theorem insG_perm (x : α) : ∀ l : List α, (insG le x l).Perm (x :: l)
  | [] => .refl _
  | y :: ys => by
    unfold insG
    split
    · exact .refl _
    · exact ((insG_perm x ys).cons y).trans (.swap x y ys)
theorem sortG_perm : ∀ l : List α, (sortG le l).Perm l
  | [] => .refl _
  | x :: xs => (insG_perm x _).trans ((sortG_perm xs).cons x)
theorem insG_pw (T : TotalLe le) (x : α) : ∀ l : List α, l.Pairwise (fun a b => le a b = true) → (insG le x l).Pairwise (fun a b => le a b = true)
  | [], _ => List.pairwise_singleton _ _
  | y :: ys, h => by
    obtain ⟨h1, h2⟩ := List.pairwise_cons.mp h
    unfold insG
    split
    · rename_i hx
      refine List.pairwise_cons.mpr ⟨fun z hz => ?_, h⟩
      rcases List.mem_cons.mp hz with rfl | hz
      · exact hx
      · exact T.trans _ _ _ hx (h1 z hz)
    · rename_i hx
      refine List.pairwise_cons.mpr ⟨fun z hz => ?_, insG_pw T x ys h2⟩
      rcases List.mem_cons.mp ((insG_perm x ys).mem_iff.mp hz) with rfl | hz
      · exact (T.total z y).resolve_left hx
      · exact h1 z hz
theorem sortG_pw (T : TotalLe le) : ∀ l : List α, (sortG le l).Pairwise (fun a b => le a b = true)
  | [] => .nil
  | x :: xs => insG_pw T x _ (sortG_pw T xs)
theorem insG_rank (T : TotalLe le) (c x : α) : ∀ l : List α, (insG le x l).filter (sameRank le c) = (x :: l).filter (sameRank le c)
  | [] => rfl
  | y :: ys => by
    unfold insG
    split
    · rfl
    · rename_i hx
      have ih := insG_rank T c x ys
      rw [List.filter_cons, ih]
      by_cases h1 : sameRank le c x = true
      · have h2 : ¬ sameRank le c y = true := by
          intro h2
          unfold sameRank at h1 h2
          rw [Bool.and_eq_true] at h1 h2
          exact hx (T.trans _ _ _ h1.2 h2.1)
        simp only [List.filter_cons, if_neg h2, if_pos h1]
      · simp only [List.filter_cons, if_neg h1]
theorem sortG_rank (T : TotalLe le) (c : α) : ∀ l : List α, (sortG le l).filter (sameRank le c) = l.filter (sameRank le c)
  | [] => rfl
  | x :: xs => by
    show (insG le x (sortG le xs)).filter _ = _
    rw [insG_rank T, List.filter_cons, List.filter_cons, sortG_rank T c xs]
theorem sortG_eq (T : TotalLe le) (l : List α) : sortG le l = l.mergeSort le := sort_unique T (sortG_pw T l) fun c => sortG_rank T c l
theorem insG_map {β : Type} {s : β → β → Bool} (f : α → β) (h : ∀ a b, le a b = s (f a) (f b)) (x : α) : ∀ l : List α, (insG le x l).map f = insG s (f x) (l.map f)
  | [] => rfl
  | y :: ys => by
    unfold insG
    rw [h x y]
    show _ = (if s (f x) (f y) = true then f x :: f y :: ys.map f else f y :: insG s (f x) (ys.map f))
    split
    · rfl
    · rw [List.map_cons, insG_map f h x ys]
theorem sortG_map {β : Type} {s : β → β → Bool} (f : α → β) (h : ∀ a b, le a b = s (f a) (f b)) : ∀ l : List α, (sortG le l).map f = sortG s (l.map f)
  | [] => rfl
  | x :: xs => by
    show (insG le x (sortG le xs)).map f = insG s (f x) (sortG s (xs.map f))
    rw [insG_map f h, sortG_map f h]
end
def rSortD (K : PySem.W.Frag) : List V → Hp → VK → Prop := fun vs H Q => ∃ (a : Addr) (ps : List (V × D)), vs = [V.ref a] ∧ SqL K H a (ps.map (·.1)) ∧ (∀ p ∈ ps, Dp K H p.1 (toPD p.2)) ∧ AllAlike (ps.map fun p => toPD p.2) ∧ Sortable (ps.map fun p => toPD p.2) ∧ (∀ p ∈ ps, (toPD p.2).depth ≤ 60) ∧
  ∀ p, H p = none → Q (.ref p) (upd H p (.lst ((sortG (fun x y => leD x.2 y.2) ps).map (·.1))))
theorem each_vals {ps : List (V × D)} {its : List Value} (rv : Vals (ps.map (·.1)) its) : EachIs (fun v p => RelV p.1 v ∧ p ∈ ps) its ps := by
  induction ps generalizing its with
  | nil => cases rv; exact .nil
  | cons p ps ih =>
    cases rv with
    | cons h1 h2 => exact .cons ⟨h1, List.mem_cons_self ..⟩ ((ih h2).mono fun _ _ h => ⟨h.1, List.mem_cons_of_mem _ h.2⟩)
theorem vals_each {ps : List (V × D)} {its : List Value} {M : List (V × D)} (h : EachIs (fun v p => RelV p.1 v ∧ p ∈ M) its ps) : Vals (ps.map (·.1)) its := by
  induction h with
  | nil => exact .nil
  | cons h1 _ ih => exact .cons h1.1 ih
section
variable {X : Cx}
theorem cr_sortD (hu : X.A.units + 70 < cLine) : CallR X (.builtin "sorted") (rSortD X.K) := by
  intro pins s σ H vs us Q I r h
  obtain ⟨a, ps, rfl, hs, hd, hal, hso, hdep, q⟩ := h
  obtain ⟨its, rv, hl, hz⟩ := I.list hs
  rw [Vals.ref1 r]
  have e := each_vals rv
  have rd : ∀ h' : Heap, (∀ b o, s.heap.get? b = some o → h'.get? b = some o) → EachIs (fun v p => (∃ as, Reads h' v (toPD p.2) as) ∧ RelV p.1 v ∧ p ∈ ps) its ps := fun h' k => e.mono fun v p hp => by
    obtain ⟨as, r⟩ := Dp.reads I (toPD p.2) p.1 v (hd p hp.2) hp.1
    exact ⟨⟨as, Reads.keeps k r⟩, hp⟩
  have e2 : ∀ h' : Heap, (∀ b o, s.heap.get? b = some o → h'.get? b = some o) → EachIs (fun v d => ∃ as, Reads h' v d as) its (ps.map fun p => toPD p.2) := fun h' k => by
    have := rd h' k
    revert this
    generalize its = its
    intro this
    clear rv hl hz e
    have key : ∀ (its : List Value) (qs : List (V × D)), EachIs (fun v p => (∃ as, Reads h' v (toPD p.2) as) ∧ RelV p.1 v ∧ p ∈ ps) its qs → EachIs (fun v d => ∃ as, Reads h' v d as) its (qs.map fun p => toPD p.2) := by
      intro its qs h
      induction h with
      | nil => exact .nil
      | cons h1 _ ih => exact .cons h1.1 ih
    exact key _ _ this
  have k0 : ∀ b o, s.heap.get? b = some o → (sortingHeap (copyHeap s.heap its) (s.heap.objs.size + 1) its).get? b = some o := fun b o q => sorting_copy_old q
  have S := SortsAt.data (prog := X.prog) (w := X.w) (A := X.A.in1.in1) (s := { s with heap := sortingHeap (copyHeap s.heap its) (s.heap.objs.size + 1) its }) (e2 _ k0) hal hso (fun d hd => by
    obtain ⟨p, hp, rfl⟩ := List.mem_map.mp hd
    have := hdep p hp
    show X.A.units + 1 + 1 + _ < cLine
    omega)
  have hz' : its.length ≤ sizeLine := by rw [← rv.length]; exact hz
  refine sorted_vals hl.isList S hz' ?_
  generalize hh : ({ s with heap := sortingHeap (copyHeap s.heap its) (s.heap.objs.size + 1) its } : Shared).heap = hp'
  have rk : EachIs (fun v p => (dataKind hp' (ps.map fun p => toPD p.2)).keyOf v = some (keyToks (toPD p.2))) its ps := (rd hp' (by rw [← hh]; exact k0)).mono fun v p hp => by
    obtain ⟨⟨as, r⟩, _, hm⟩ := hp
    exact dataKind_some hal (List.mem_map_of_mem (f := fun p : V × D => toPD p.2) hm) r
  have ev := sortVals_each (rev := false) (κ := dataKind hp' (ps.map fun p => toPD p.2)) (fun p : V × D => keyToks (toPD p.2)) e rk
  have es : ps.mergeSort (sortLe (dataKind hp' (ps.map fun p => toPD p.2)).toKeyOrd false (fun p : V × D => keyToks (toPD p.2))) = sortG (fun x y => leD x.2 y.2) ps := by
    exact (sortG_eq (sortLe_total (listOrd itemOrd) false (fun p : V × D => keyToks (toPD p.2))) ps).symm
  rw [es] at ev
  have hv := vals_each ev
  generalize sortVals (dataKind hp' (ps.map fun p => toPD p.2)) false its its = out at ev hv
  obtain ⟨ep, he'⟩ := PyProof.Rows.sortedAll_at s.heap its out.toArray
  refine ⟨.ref _, upd H (s.heap.objs.size + 1) (.lst ((sortG (fun x y => leD x.2 y.2) ps).map (·.1))), I.laid (t' := s.toks) (fun _ _ => PyProof.Rows.sortedAll_old) (Nat.le_succ _) ⟨?_, out, ep, hv, he'⟩, rfl, q _ (I.hok.fresh (Nat.le_succ _))⟩
  rw [List.length_map, (sortG_perm ps).length_eq]
  rw [List.length_map] at hz
  exact hz
end
theorem alike_of {ds : List D} (h : alikeD ds = true) : AllAlike (ds.map toPD) := by
  intro d hd d' hd'
  obtain ⟨a, ha, rfl⟩ := List.mem_map.mp hd
  obtain ⟨b, hb, rfl⟩ := List.mem_map.mp hd'
  unfold alikeD at h
  rw [List.all_eq_true] at h
  have := h a ha
  rw [List.all_eq_true] at this
  exact this b hb
theorem sortable_of {ds : List D} (hs : ds.all (shp 39) = true) (h : sortable? ds = true) : Sortable (ds.map toPD) := by
  unfold sortable? at h
  rw [Bool.or_eq_true, List.all_eq_true, List.all_eq_true] at h
  rw [List.all_eq_true] at hs
  rcases h with h | h
  · refine .inl fun d hd => ?_
    obtain ⟨a, ha, rfl⟩ := List.mem_map.mp hd
    have := h a ha
    cases a with
    | tup xs =>
      cases xs with
      | nil => cases this
      | cons x r => exact ⟨toPD x, toPDs r, rfl⟩
    | _ => cases this
  · refine .inr fun d hd => ?_
    obtain ⟨a, ha, rfl⟩ := List.mem_map.mp hd
    have h1 := h a ha
    have h2 := hs a ha
    cases a with
    | dct => cases h2
    | obj => cases h2
    | exc => cases h2
    | tup => cases h1
    | non => cases h1
    | _ => exact ⟨(by intro z; cases z), (by intro xs z; cases z)⟩
section
variable {B : Tb} {m1 : Md}
theorem OwL.zipped {O : List Addr} {H : Hp} : ∀ {ds : List D} {vs : List V}, OwL B O H .v ds vs [] → (vs.zip ds).map (·.1) = vs ∧ (vs.zip ds).map (·.2) = ds ∧ ∀ p ∈ vs.zip ds, Ow B O H .v p.2 p.1 [] := by
  intro ds
  induction ds with
  | nil => intro vs h; cases h; exact ⟨rfl, rfl, fun p hp => by cases hp⟩
  | cons d ds ih =>
    intro vs h
    generalize hU : ([] : List Addr) = U at h
    cases h with
    | cons h1 h2 =>
      rename_i v vs S T
      obtain ⟨rfl, rfl⟩ := List.append_eq_nil_iff.mp hU.symm
      obtain ⟨e1, e2, e3⟩ := ih h2
      refine ⟨?_, ?_, ?_⟩
      · show v :: (vs.zip ds).map (·.1) = _; rw [e1]
      · show d :: (vs.zip ds).map (·.2) = _; rw [e2]
      · intro p hp
        rcases List.mem_cons.mp hp with rfl | hp
        · exact h1
        · exact e3 p hp
theorem OwL.of_each {O : List Addr} {H : Hp} : ∀ {ps : List (V × D)}, (∀ p ∈ ps, Ow B O H .v p.2 p.1 []) → OwL B O H .v (ps.map (·.2)) (ps.map (·.1)) []
  | [], _ => .nil
  | p :: ps, h => OwL.cons (S := []) (T := []) (h p (List.mem_cons_self ..)) (OwL.of_each fun q hq => h q (List.mem_cons_of_mem _ hq))
theorem b_sortD (hm : m1 = .v ∨ m1 = .l .v ∨ m1 = .s := by first | exact .inl rfl | exact .inr (.inl rfl) | exact .inr (.inr rfl)) : B1S B (rSortD B.K) srtD m1 (.l .v) := fun O H x d d' U Q hl u o e q => by
  cases d <;> first | (cases e; done) | skip
  rename_i ds
  have e : (if ds.all (shp 39) && sortable? ds && alikeD ds then some (D.lst (sortG leD ds)) else none) = some d' := e
  split at e
  · rename_i hc
    cases e
    rw [Bool.and_eq_true, Bool.and_eq_true] at hc
    obtain ⟨⟨c1, c2⟩, c3⟩ := hc
    obtain ⟨a, vs, rfl, g1, g2⟩ := o.lst_v hm
    obtain ⟨e1, e2, e3⟩ := g2.zipped
    have em : (vs.zip ds).map (fun p => toPD p.2) = ds.map toPD := by
      rw [show (fun p : V × D => toPD p.2) = toPD ∘ (·.2) from rfl, ← List.map_map, e2]
    have hs : ∀ p ∈ vs.zip ds, shp 39 p.2 = true := fun p hp => List.all_eq_true.mp c1 p.2 (List.of_mem_zip hp).2
    refine ⟨a, vs.zip ds, rfl, by rw [e1]; exact g1, fun p hp => Ow.dp 39 _ _ _ _ (e3 p hp) (hs p hp), by rw [em]; exact alike_of c3, by rw [em]; exact sortable_of c1 c2, fun p hp => Nat.le_trans (shp_lay 39 _ (hs p hp)).2 (by decide), fun p hp => ?_⟩
    refine q _ _ [p] (post_upd hp) (fun z hz => by rw [List.mem_singleton.mp hz]; exact hp) (by simp) ?_
    have e4 : sortG leD ds = (sortG (fun x y : V × D => leD x.2 y.2) (vs.zip ds)).map (·.2) := by
      rw [sortG_map (s := leD) (fun x : V × D => x.2) (fun _ _ => rfl), e2]
    rw [e4]
    exact new_lst hl (OwL.of_each fun p hp => e3 p ((sortG_perm _).mem_iff.mp hp)) hp
  · cases e
end
end Mi
set_option maxHeartbeats 2000000
namespace Mi
open PySem PySem.Spec PyProof.Rows L2 PySem.W
open Sem (wp)
theorem enum1_meets {u : Value} {ob : Obj} {P : Heap → Prop} (B : Begins u ob P) : Meets (Builtin.«enumerate.__new__» ⟨[.type "enumerate", u], []⟩) (fun _ R s => P s.heap ∧
    R (.ok (.ret (.ref (s.heap.push ob).objs.size))) { s with heap := (s.heap.push ob).push { cls := .type "enumerate", data := .fields #[.none, .bool false, .ref s.heap.objs.size, rawInt 0, .none, .none] } }) := .of_wp fun prog w A R s q => by
  obtain ⟨hp, g, d, tk, os⟩ := s
  obtain ⟨q0, q⟩ := q
  have sub1 := sub_enumerate
  have go : ∀ {A' : Around} {E' : Value → Shared → Prop} {Q' : Value → Shared → Prop}, Q' (.ref hp.objs.size) ⟨hp.push ob, g, d, tk, os⟩ → wpAny (model prog w) A' (pyIter u) Q' E' ⟨hp, g, d, tk, os⟩ := fun z => B.iter prog w _ _ ⟨hp, g, d, tk, os⟩ _ q0 z
  wp_walk using go
  refine wpAny_stack_any fun _ => wpAny_pure ?_
  split
  · rename_i cc _ _ _ _ _
    cases (cc == Value.type "enumerate") <;> (wp_walk using go) <;> exact ⟨_, rfl, q⟩
  · wp_walk using go
    exact ⟨_, rfl, q⟩
theorem enum1_call {prog : Program} {w : World} {A : Around} {E : Value → Shared → Prop} {s : Shared} {u : Value} {ob : Obj} {P : Heap → Prop} {Q : Value → Shared → Prop} (B : Begins u ob P) (q0 : P s.heap)
    (q : ∀ h', IsEnum h' (s.heap.objs.size + 1) s.heap.objs.size 0 .none → h'.get? s.heap.objs.size = some ob → h'.objs.size = s.heap.objs.size + 2 → (∀ b x, s.heap.get? b = some x → h'.get? b = some x) → Q (.ref (s.heap.objs.size + 1)) { s with heap := h' }) :
    wpAny (model prog w) A (call (.type "enumerate") [u]) Q E s := by
  refine callType_new F.called_enumerate (by decide) (F.typeCall_enumerate_1 _) (F.newCall_enumerate_1 _) (fun y => F.args_object_init_2 y _) F.entry_enumerate_new (enum1_meets B) ⟨q0, ?_⟩
  have z1 : (s.heap.push ob).objs.size = s.heap.objs.size + 1 := Heap.size_push ..
  show _ ∧ _
  rw [z1]
  have en : IsEnum ((s.heap.push ob).push { cls := .type "enumerate", data := .fields #[.none, .bool false, .ref s.heap.objs.size, rawInt 0, .none, .none] }) (s.heap.objs.size + 1) s.heap.objs.size 0 .none := by
    have t := Heap.get?_push_size (s.heap.push ob) (o := { cls := .type "enumerate", data := .fields #[.none, .bool false, .ref s.heap.objs.size, rawInt 0, .none, .none] }) rfl
    rw [z1] at t
    exact t
  exact ⟨⟨_, en, rfl⟩, q _ en (Heap.get?_push_of_some _ (Heap.get?_push_size _ B.free)) (by rw [Heap.size_push, z1]) fun b x y => Heap.get?_push_of_some _ (Heap.get?_push_of_some _ y)⟩
def IteT (K : PySem.W.Frag) (a : Addr) : L2.It :=
  ⟨fun i H => ∃ (xs : List V) (x : V), SqT K H a xs ∧ xs[i]? = some x, fun i H v H' => ∃ T x, v = .ref T ∧ H T = none ∧ H' = upd H T (.tup [.int (i : Nat), x]) ∧ ∀ xs, SqT K H a xs → xs[i]? = some x, fun i H => ∃ xs : List V, SqT K H a xs ∧ xs.length ≤ i⟩
theorem enum_endT {prog : Program} {w : World} {A : Around} {E : Value → Shared → Prop} {s : Shared} {e it a : Addr} {i : Nat} {k : Int} {vs : Array Value} {old : Value} {Q : Option Value → Shared → Prop} (h0 : A.handled = none) (he : IsEnum s.heap e it k old) (hi : s.heap.IsTupleIter it a i) (ht : s.heap.IsTuple a vs) (hn : vs[i]? = none)
    (q : ∀ h', Heap.ExtBut it s.heap h' → Q none { s with heap := h' }) : wpAny (model prog w) A (pyNext (.ref e)) Q E s := by
  have tT : s.TypeIs (.ref e) "enumerate" := ⟨_, he, rfl⟩
  unfold pyNext
  refine wpAny_bind (wpAny_attempt (wpAny_callSpecial?_slot (name := Str.ofString "__next__") tT F.slot_enumerate_next (wpAny_call_entry F.slot_enumerate_next tT F.entry_enumerate_next ?_ (F.args_enumerate_next_1 _))))
  show wpAny _ _ (field (.ref e) 2 >>= _) _ _ _; refine wpAny_bind (wpAny_field he rfl (x := .ref it) rfl ?_)
  refine wpAny_bind (RZ.nextOf_tuple_end (show A.in1.handled = none from h0) hi ht hn fun h' x e1 ⟨o, ho, hc⟩ => wpAny_bind (wpAny_isInstance (T := "StopIteration") (b := true) ⟨o, ho, hc⟩ isSubtype_stop (wpAny_pure (q _ e1))))
theorem turn_enumT {P : Program} {w : World} {K : PySem.W.Frag} {elts : List Expr} {kk : Nat} {tpos : Pos} (a e it : Addr) : Turn P w K (.Tuple elts kk tpos) (IteT K a) [e, it] e (fun i h => (∃ old, IsEnum h e it ((i : Nat) : Int) old) ∧ h.IsTupleIter it a i ∧ e ≠ it) where
  mem := by simp
  obj := fun i h st b hb => by
    obtain ⟨⟨old, he⟩, ⟨o, ho, hc, hd⟩, _⟩ := st
    rcases (show b = e ∨ b = it by simpa using hb) with z | z
    · subst z; exact ⟨_, he, fun v q => nomatch q⟩
    · subst z; exact ⟨o, ho, fun v q => by rw [hd] at q; cases q⟩
  keep := fun i h h' st k => let ⟨⟨old, he⟩, hi, hne⟩ := st; ⟨⟨old, k e (by simp) _ he⟩, hi.at fun o q => k it (by simp) o q, hne⟩
  item := by
    intro X hP hw hK hc i pins s σ H E I hf st hg
    subst hP hw hK
    obtain ⟨⟨old, he⟩, hit, hne⟩ := st
    obtain ⟨xs, x, hq, hx⟩ := hg
    obtain ⟨its, rv, p, hz⟩ := I.tuple hq
    obtain ⟨u, hu, ru⟩ := rv.get hx
    have le1 : e < s.heap.objs.size := Heap.lt_size he
    have le2 : it < s.heap.objs.size := by obtain ⟨_, q, _⟩ := hit; exact Heap.lt_size q
    have hat : ∃ oa, s.heap.get? a = some oa ∧ oa.cls = .type "tuple" := by obtain ⟨oa, h1, h2, _⟩ := p; exact ⟨oa, h1, h2⟩
    have nea : a ≠ it := by
      rintro rfl
      obtain ⟨oa, h1, h2⟩ := hat
      obtain ⟨ob, h3, h4, _⟩ := hit
      rw [h1] at h3; cases h3; rw [h2] at h4; exact absurd (Value.type.inj h4) (by decide)
    have nee : a ≠ e := by
      rintro rfl
      obtain ⟨oa, h1, h2⟩ := hat
      have h3 := h1.symm.trans he
      cases h3
      exact absurd (Value.type.inj h2) (by decide)
    refine wpAny_pyNext_enum_itemD (Draws.tuple (A := X.A.in1) (show X.A.in1.handled = none from I.ok.hd hc) it a nea its.toArray) he ⟨hit, p⟩ (by
      have h3 := (List.getElem?_eq_some_iff.mp hu).1
      simpa using h3) hne (by simp only [List.mem_cons, List.not_mem_nil, or_false, not_or]; exact ⟨hne, Ne.symm nee⟩) fun x' h' tk hx' ho hit' hT hsz hk => ?_
    obtain rfl : x' = u := by
      have h3 : its.toArray[i]? = some x' := hx'
      rw [List.getElem?_toArray, hu] at h3
      exact (Option.some.inj h3).symm
    refine ⟨_, rfl, wpAny_letOwnedTupleGo_enum (s := { s with heap := h', toks := tk + 1 }) ho fun h'' he' sb => ?_⟩
    have hT2 : h''.get? s.heap.objs.size = some { cls := .type "tuple", data := .seq #[.int i tk, x'] } := (sb.2 _ (Nat.ne_of_gt le1)).trans hT
    have new : ObjOk X.prog X.w (upd H s.heap.objs.size (.tup [.int (i : Nat), x])) h'' s.heap.objs.size (.tup [.int (i : Nat), x]) := ⟨by show 2 ≤ sizeLine; decide, [.int i tk, x'], .cons ⟨_, rfl⟩ (.cons ru .nil), ⟨_, hT2, rfl, _, rfl⟩⟩
    have I1 : Inv X pins σ (upd H s.heap.objs.size (.tup [.int (i : Nat), x])) { s with heap := h'', toks := tk + 1 } :=
      I.turnedNew (ch := [e, it]) (fun b ob hb q => (sb.2 b (fun z => hb (by simp [z]))).trans (hk b ob (fun z => hb (by simp [z])) (fun z => hb (by simp [z])) q)) hf (Nat.le_refl _) new
    refine ⟨.ref s.heap.objs.size, _, I1, rfl, ⟨_, x, rfl, I.hok.fresh (Nat.le_refl _), rfl, fun ys hy => by
      obtain ⟨its2, rv2, p2, _⟩ := I.tuple hy
      rw [I.tuple_inj hy hq]; exact hx⟩, ⟨⟨x', by rw [show ((i + 1 : Nat) : Int) = (i : Int) + 1 by omega]; exact he'⟩, hit'.1.at fun o q => (sb.2 it (Ne.symm hne)).trans q, hne⟩, fun b hb => ?_⟩
    have lb : b < s.heap.objs.size := by
      rcases (show b = e ∨ b = it by simpa using hb) with z | z
      · rw [z]; exact le1
      · rw [z]; exact le2
    rw [upd_ne (Nat.ne_of_lt lb)]
    exact (hf b hb).1
  done := by
    intro X hP hw hK hc i pins s σ H E I hf st hg
    subst hP hw hK
    obtain ⟨⟨old, he⟩, hit, hne⟩ := st
    obtain ⟨xs, hq, hx⟩ := hg
    obtain ⟨its, rv, p, hz⟩ := I.tuple hq
    obtain ⟨f0, f1, f2, f3, f4, f5⟩ := hf it (by simp)
    have hl := rv.length
    exact enum_endT (I.ok.hd hc) he hit p (by simp; omega) fun h' eb => ⟨rfl, I.turned (t' := s.toks) (fun b o hb q => eb b o hb q) f0 f1 f3 f4 f5⟩
  self := fun A i s Q E st h => let ⟨⟨_, he⟩, _⟩ := st; wpAny_pyIter_enum he h
def iEnumT (K : PySem.W.Frag) (ta : TA) : TI := fun σ H R => ta σ H fun vs H1 => ∃ a xs, vs = [.ref a] ∧ SqT K H1 a xs ∧ R (IteT K a) H1
theorem pi_enumT {X : Cx} {e : Expr} {ta : TA} {p pos tpos : Pos} {elts : List Expr} {kk : Nat} (hg : Gl X "enumerate") (hm : X.mg "enumerate" = none) (ha : PA X [e] ta) (hs : starEach [e] X.env = [(false, eval e X.env)] := by rfl) : PI X (.Tuple elts kk tpos) (.Call (.Name "enumerate" p) [e] [] pos) (iEnumT X.K ta) := by
  refine ⟨fun pins s σ H R I h => ?_⟩
  refine Call_ (ld_blt I hg hm boot_enumerate (PyProof.Rows.callWith_type1 (thn (ha.run pos pins s σ H _ I h) fun us s1 ⟨vs, H1, I1, r1, q1⟩ => ?_) hs rfl))
  obtain ⟨a, xs, ex, hq, q⟩ := q1
  subst ex
  rw [Vals.ref1 r1]
  obtain ⟨its, rv, p', hz⟩ := I1.tuple hq
  refine enum1_call (begins_tuple a its.toArray) p' fun h' he ho hsz hk => wpAny_pyIter_enum he ?_
  have I2 : Inv X pins σ H1 { s1 with heap := h' } := I1.kept (t' := s1.toks) hk
  refine ⟨s1.heap.objs.size + 1, [s1.heap.objs.size + 1, s1.heap.objs.size], _, _, H1, rfl, I2, turn_enumT a (s1.heap.objs.size + 1) s1.heap.objs.size, ⟨⟨.none, he⟩, ⟨_, ho, rfl, rfl⟩, Nat.succ_ne_self _⟩, fun b hb => ?_, q⟩
  have hle : s1.heap.objs.size ≤ b := by
    rcases (show b = s1.heap.objs.size + 1 ∨ b = s1.heap.objs.size by simpa using hb) with z | z
    · rw [z]; exact Nat.le_add_right _ _
    · rw [z]; exact Nat.le_refl _
  exact I1.fpOk hle (I1.hok.fresh hle)
section
variable {X : Cx} {C : Cf} {p : Bool} {Γ Γ1 : G} {pos pp : Pos} {a : Ex} {ea : Expr} {H : Hp}
theorem yld_enumT {B : Tb} {b : Addr} {vs : List V} {ds : List D} {S Z : List Addr} (hb : b ∉ S) (h1 : H b = some (.tup vs)) (h2 : OwL B (S ++ Z) H .v ds vs []) : Yld B (enumD 0 ds) (IteT X.K b) S Z H := by
  intro O' H' po n lv
  have h1' : H' b = some (.tup vs) := po b _ hb h1
  have h2' := h2.fr (Fr.of (B := B) (Z := Z) po n) (fun _ z => nomatch z)
  refine ⟨fun i hi => ⟨vs, .of h1', by rw [← h2.len, ← enumD_len (n := 0)]; exact hi⟩, fun i d hd => ?_⟩
  obtain ⟨x, hx, rfl⟩ := enumD_get hd
  obtain ⟨v, U, g1, g2, g3⟩ := h2'.get hx
  refine ⟨⟨vs, v, .of h1', g1⟩, fun y H'' hy => ?_⟩
  obtain ⟨T, x', rfl, hT, rfl, hx'⟩ := hy
  have e := hx' vs (.of h1')
  rw [g1] at e
  cases e
  have z := g2.v_nil
  subst z
  refine ⟨post_upd hT, ?_⟩
  simpa using new_tup lv (OwL.cons (S := []) (T := []) (.int (i := (i : Int))) (OwL.cons (S := []) (T := []) g2 .nil)) hT
theorem i_enT {elts : List Expr} {kk : Nat} {tpos : Pos} (g : Gd X C) (hg' : X.mg "enumerate" = none) (ha : SE X C p Γ ea a (.own .v) Γ1) (hg : Gl X "enumerate" := by rfl) (hs : starEach [ea] X.env = [(false, eval ea X.env)] := by rfl) :
    SI X C p Γ (.Tuple elts kk tpos) (.Call (.Name "enumerate" pp) [ea] [] pos) (.enT a) Γ1 :=
  PI.imp (pi_enumT hg hg' (pa_cons ha pa_nil hs) hs) fun σ H Q ⟨e, S, R, s, o⟩ => At.evI (f := fun (d : D) e1 => match d with
    | .tup ds => .ok (enumD 0 ds) e1
    | _ => .bad) s o fun d e1 v H1 S1 T1 a1 v1 n1 o1 => by
    cases d <;> first | exact False.elim o1 | skip
    rename_i ds
    obtain ⟨b, vs, rfl, k1, k2⟩ := Ow.tup_eq v1
    exact ⟨b, vs, rfl, .of k1.2, (show OkI C σ H S R p Γ1 Q (enumD 0 ds) e1 from o1) _ H1 S1 T1 a1.po a1.ps n1 a1.sta (yld_enumT (fun z => k1.1 (szt (memL z))) k1.2 (k2.fr (Fr.sub fun _ => szt) fun _ z => nomatch z))⟩
end
end Mi
namespace Mi
open PySem PySem.Spec PyProof.Rows L2 PySem.W
def rLenSet (K : PySem.W.Frag) : List V → Hp → VK → Prop := fun xs H Q => ∃ (l : Addr) (ks : List (Addr × List Int)), xs = [V.ref l] ∧ SqL K H l (ks.map fun p => V.ref p.1) ∧ (∀ p ∈ ks, SqT K H p.1 (p.2.map V.int)) ∧ ks.length < 64 ∧ (ks.map (·.2)).Nodup ∧ Q (.int ks.length) H
theorem pe_lenSetT {X : Cx} {a : Expr} {ta : TE} {p p2 q pos : Pos} (hc : X.calm = true) (hu : X.A.units + 64 < cLine) (hg : Gl X "len") (hm : X.mg "len" = none) (hg2 : Gl X "set") (hm2 : X.mg "set" = none) (ha : PE X a ta) (na : starEach [a] X.env = (false, eval a X.env) :: starEach [] X.env := by rfl) :
    PE X (.Call (.Name "len" p) [.Call (.Name "set" p2) [a] [] q] [] pos) (fun σ H Q => ta σ H fun x H1 => rLenSet X.K [x] H1 Q) := by
  refine ⟨fun pins s σ H Q I h => ?_⟩
  refine Call_ (ld_blt I hg hm PySem.boot_len (PyProof.Rows.callWith_builtin1 (PyProof.Rows.args_cons ?_ rfl) rfl rfl))
  refine Call_ (ld_blt I hg2 hm2 PyProof.Rows.boot_set (PyProof.Rows.callWith_type1 (PyProof.Rows.args_cons (thn (ha.run pins s σ H _ I h) fun v s1 ⟨x, H1, I1, r1, q1⟩ => PyProof.Rows.args_nil ?_) na) na rfl))
  obtain ⟨l, ks, ex, hq, hk, h64, hnd, q2⟩ := q1
  obtain rfl : x = V.ref l := by injection ex
  obtain rfl : v = Value.ref l := r1
  obtain ⟨its, rv, pl, hz⟩ := I1.list hq
  refine call_set_tups (P := X.prog) (w := X.w) ks (I1.ok.hd hc) pl.isList (by simpa using refs_of_vals rv) (fun p hp => I1.isT (hk p hp)) h64 (by omega) fun h' tk L es ep t R g kp => PyProof.Rows.args_nil ?_
  obtain ⟨o, ho, hex, hd⟩ := R.ob
  have hL : L.length = ks.length := by
    have h1 : (L.map (·.2)).Perm (ks.map (·.2)) := by
      refine (List.perm_ext_iff_of_nodup R.nd hnd).mpr fun z => ⟨fun hz => ?_, fun hz => ?_⟩
      · obtain ⟨p, hp, rfl⟩ := List.mem_map.mp hz
        exact List.mem_map_of_mem (List.mem_of_mem_take (g.sub p hp))
      · obtain ⟨p, hp, rfl⟩ := List.mem_map.mp hz
        exact g.all p (by rw [List.take_length]; exact hp)
    have := h1.length_eq
    rw [List.length_map, List.length_map] at this
    exact this
  have I2 : Inv X pins σ H1 { s1 with heap := h', toks := tk } := I1.kept kp
  refine call_len_set ho hex hd (R.fits (s := { s1 with heap := h', toks := tk })) (by rw [R.size (s := { s1 with heap := h', toks := tk })]; omega) ⟨.int ks.length, H1, I2.tok _, ⟨_, by rw [R.size (s := { s1 with heap := h', toks := tk }), hL]⟩, q2⟩
section
variable {X : Cx} {C : Cf} {p : Bool} {Γ Γ1 : G} {pos pos' pp pp2 p1 p2 p3 : Pos} {a : Ex} {ea : Expr} {k : Kd} {m : Md} {σ : VS} {H : Hp} {Q : VK}
theorem c_one {r : List V → Hp → VK → Prop} {m' : Ex} {f : D → Option D} (he : ∀ e, evE C.F m' e = (evE C.F a e).bind fun d e1 => ofO (f d) e1) (hs : B1S C.B r f k.md m) (h : tE C p Γ m' (.own m) Γ1 σ H Q) : tE C p Γ a k Γ1 σ H (fun x H1 => r [x] H1 Q) := by
  obtain ⟨e, S, R, s, o⟩ := h
  have o : Out C σ H S R (OkE C σ H S R p (.own m) Γ1 Q) ((evE C.F a e).bind fun d e1 => ofO (f d) e1) := by rw [← he]; exact o
  refine (At.start s).ev o fun d e1 x H1 S1 T1 a1 v1 _ o1 => ?_
  obtain ⟨d', hd, q⟩ := Out.ofO o1
  obtain ⟨U, u, ow⟩ := v1.view (fun _ => memL) fun a h => memR (memL h)
  exact hs _ H1 x d d' U Q a1.sta.lives u ow hd fun v H' T po nT ndT ow => a1.fin q po nT ndT ow
def revD : D → Option D
  | .lst ds => some (.lst ds.reverse)
  | _ => none
theorem OwL.rev {B : Tb} {O : List Addr} {H : Hp} {ds : List D} {vs : List V} (h : OwL B O H .v ds vs []) : OwL B O H .v ds.reverse vs.reverse [] := by
  obtain ⟨e1, e2, e3⟩ := h.zipped
  have h2 := OwL.of_each (ps := (vs.zip ds).reverse) fun q hq => e3 q (List.mem_reverse.mp hq)
  rw [List.map_reverse, List.map_reverse, e1, e2] at h2
  exact h2
def rRev (K : PySem.W.Frag) : List V → Hp → VK → Prop := fun vs H Q => match vs with
  | [x] => ∃ a xs, x = V.ref a ∧ SqL K H a xs ∧ ∀ p, H p = none → Q (.ref p) (upd H p (.lst xs.reverse))
  | _ => False
theorem b_rev {B : Tb} {m1 : Md} (hm : m1 = .v ∨ m1 = .l .v ∨ m1 = .s) : B1S B (rRev B.K) revD m1 (.l .v) := fun O H x d d' U Q hl u o e q => by
  cases d <;> first | (cases e; done) | skip
  rename_i ds
  cases e
  obtain ⟨a, vs, rfl, g1, g2⟩ := o.lst_v hm
  refine ⟨a, vs, rfl, g1, fun p hp => ?_⟩
  exact q _ _ [p] (post_upd hp) (fun z hz => by rw [List.mem_singleton.mp hz]; exact hp) (by simp) (new_lst hl g2.rev hp)
theorem w_rev (g : Gd X C) (ha : SE X C p Γ ea a k Γ1) {kk : Nat} (hm : k.md = .v ∨ k.md = .l .v ∨ k.md = .s := by first | exact .inl rfl | exact .inr (.inl rfl) | exact .inr (.inr rfl)) :
    SE X C p Γ (.Subscript ea (.Slice none none (some (.UnaryOp .USub (.Constant (.int 1) kk p1) p2)) p3) pos) (.rev a) (.own (.l .v)) Γ1 :=
  PE.imp (pe_revL ha) fun σ H Q h => by
    have h := c_one (r := rRev C.B.K) (m' := .rev a) (f := revD) (fun e => by
      show (evE C.F a e).bind _ = _
      congr 1; funext d e1; cases d <;> rfl) (b_rev hm) h
    show tE C p Γ a k Γ1 σ H (fun x H1 => ∃ b xs, x = V.ref b ∧ SqL X.K H1 b xs ∧ ∀ p, H1 p = none → Q (.ref p) (upd H1 p (.lst xs.reverse)))
    rw [g.K]
    exact h
theorem tups_own {B : Tb} {O : List Addr} {H : Hp} : ∀ {ds : List D} {vs : List V} {ks : List (List Int)}, OwL B O H .v ds vs [] → tups? ds = some ks → ∃ ps : List (Addr × List Int), vs = ps.map (fun p => V.ref p.1) ∧ ps.map (·.2) = ks ∧ ∀ p ∈ ps, SqT B.K H p.1 (p.2.map V.int) := by
  intro ds
  induction ds with
  | nil =>
    intro vs ks h e
    cases h
    cases e
    exact ⟨[], rfl, rfl, fun p hp => by cases hp⟩
  | cons d ds ih =>
    intro vs ks h e
    generalize hU : ([] : List Addr) = U at h
    cases h with
    | cons h1 h2 =>
      rename_i v vs S T
      obtain ⟨rfl, rfl⟩ := List.append_eq_nil_iff.mp hU.symm
      cases d <;> first | (cases e; done) | skip
      rename_i xs
      have e : ((ints? xs).bind fun k => (tups? ds).map (k :: ·)) = some ks := e
      obtain ⟨k, e1, e⟩ := Option.bind_eq_some_iff.mp e
      obtain ⟨ks', e2, rfl⟩ := Option.map_eq_some_iff.mp e
      obtain ⟨ps, q1, q2, q3⟩ := ih h2 e2
      obtain ⟨t, us, rfl, g1, g2⟩ := h1.tup_eq
      obtain rfl := ints_map e1
      have g3 : us = k.map V.int := g2.ints_eq
      subst g3
      refine ⟨(t, k) :: ps, by rw [q1]; rfl, by rw [← q2]; rfl, fun p hp => ?_⟩
      rcases List.mem_cons.mp hp with rfl | hp
      · exact .of g1.2
      · exact q3 p hp
theorem b_lenSet {B : Tb} {m1 m : Md} (hm : m1 = .v ∨ m1 = .l .v ∨ m1 = .s) : B1S B (rLenSet B.K) biLenSet m1 m := b1_atom fun O H x d d' U Q o e q => by
  cases d <;> first | (cases e; done) | skip
  rename_i ds
  have e : ((tups? ds).bind fun ks => if decide (ks.length < 64) && decide ks.Nodup then some (D.int ks.length) else none) = some d' := e
  obtain ⟨ks, e1, e⟩ := Option.bind_eq_some_iff.mp e
  split at e
  · rename_i hc
    cases e
    rw [Bool.and_eq_true, decide_eq_true_eq, decide_eq_true_eq] at hc
    obtain ⟨a, vs, rfl, g1, g2⟩ := o.lst_v hm
    obtain ⟨ps, q1, q2, q3⟩ := tups_own g2 e1
    have hl : ps.length = ks.length := by rw [← q2, List.length_map]
    refine ⟨a, ps, rfl, by rw [← q1]; exact g1, q3, by rw [hl]; exact hc.1, by rw [q2]; exact hc.2, ?_⟩
    rw [hl]
    exact q _ .int
  · cases e
theorem w_lenSet (g : Gd X C) (h1 : X.mg "len" = none) (h2 : X.mg "set" = none) (ha : SE X C p Γ ea a k Γ1) (hm : k.md = .v ∨ k.md = .l .v ∨ k.md = .s := by first | exact .inl rfl | exact .inr (.inl rfl) | exact .inr (.inr rfl)) (hg : Gl X "len" := by rfl) (hg2 : Gl X "set" := by rfl)
    (na : starEach [ea] X.env = (false, eval ea X.env) :: starEach [] X.env := by rfl) : SE X C p Γ (.Call (.Name "len" pp) [.Call (.Name "set" pp2) [ea] [] pos'] [] pos) (.bi .lenSet (.cons a .nil)) (.own m) Γ1 :=
  PE.imp (pe_lenSetT g.calm (by have := g.un; omega) hg h1 hg2 h2 ha na) fun σ H Q h => by
    have h := c_one (r := rLenSet C.B.K) (m' := .bi .lenSet (.cons a .nil)) (f := biLenSet) (fun e => by
      show (evEs C.F (.cons a .nil) e).bind _ = _
      show ((evE C.F a e).bind _).bind _ = _
      cases evE C.F a e <;> rfl) (b_lenSet hm) h
    rw [g.K]
    exact h
theorem w_sorted (g : Gd X C) (h1 : X.mg "sorted" = none) (ha : SE X C p Γ ea a k Γ1) (hm : k.md = .v ∨ k.md = .l .v ∨ k.md = .s := by first | exact .inl rfl | exact .inr (.inl rfl) | exact .inr (.inr rfl)) (hg : Gl X "sorted" := by rfl) (he : starEach [ea] X.env = (false, eval ea X.env) :: starEach [] X.env := by rfl) :
    SE X C (p && true) Γ (.Call (.Name "sorted" pp) [ea] [] pos) (.bi .sorted (.cons a .nil)) (.own (.l .v)) Γ1 :=
  w_b1 (cr_sortD (by have := g.un; omega)) (fun _ => rfl) (by rw [g.K]; exact b_sortD hm) h1 (wa_cons ha wa_nil (fun _ => rfl) he) hg (by decide +kernel) (by decide) (by decide) he
end
theorem exm_own {K : PySem.W.Frag} {S : Addr} (h1 : PySem.W.subIn K (.ref S) (.type "BaseException") = some true) (h2 : PySem.W.isClsIn K S = true) (h3 : PySem.W.typeIn K (.ref S) = some (.type "type")) (h4 : PySem.W.subIn K (.ref S) (.ref S) = some true) : PySem.W.exmOne K (.ref S) (.ref S) = some true := by
  have a1 : (PySem.W.subIn K (.ref S) (.type "BaseException") == some true) = true := by rw [h1] <;> rfl
  have a2 : ((PySem.W.clsIn K S).isSome && PySem.W.typeIn K (.ref S) == some (.type "type")) = true := by rw [show (PySem.W.clsIn K S).isSome = true from h2, h3] <;> rfl
  show (if (PySem.W.subIn K (.ref S) (.type "BaseException") == some true) = true then (if ((PySem.W.clsIn K S).isSome && PySem.W.typeIn K (.ref S) == some (.type "type")) = true then PySem.W.subIn K (.ref S) (.ref S) else none) else none) = some true
  rw [if_pos a1, if_pos a2, h4]
end Mi
namespace Mi
open PySem PySem.Spec PyProof.Rows L2
section
variable {X : Cx} {C : Cf} {p p1 p2 p3 : Bool} {Γ Γ1 Γ2 : G} {pos pp : Pos} {m m1 m2 : Md} {a b c : Ex} {ea eb ec : Expr} {k k1 k2 k3 : Kd} {o o1 o2 : Op2} {op : Operator} {cp cp1 cp2 : CmpOp}
theorem w_vv {i : Nat} {x : Str} (hN : X.N[i]? = some x := by rfl) (hm : Γ[i]? = some (some .v) := by rfl) (hv : Vis X.env.scope x := by first | exact Or.inl rfl | exact Or.inr (Or.inl rfl) | exact Or.inr (Or.inr rfl))
    (hd : (x == ("__debug__" : Str)) = false := by decide) (hcd : (x == ("__classdict__" : Str)) = false := by decide) : SE X C true Γ (.Name x pos) (.var i) (.own .v) Γ := w_var hN hm hv hd hcd
theorem w_vs {i : Nat} {x : Str} (hN : X.N[i]? = some x := by rfl) (hm : Γ[i]? = some (some .s) := by rfl) (hv : Vis X.env.scope x := by first | exact Or.inl rfl | exact Or.inr (Or.inl rfl) | exact Or.inr (Or.inr rfl))
    (hd : (x == ("__debug__" : Str)) = false := by decide) (hcd : (x == ("__classdict__" : Str)) = false := by decide) : SE X C true Γ (.Name x pos) (.var i) (.own .s) Γ := w_var hN hm hv hd hcd
theorem w_vl {i : Nat} {x : Str} {m : Md} (hN : X.N[i]? = some x := by rfl) (hm : Γ[i]? = some (some (.l m)) := by rfl) (hv : Vis X.env.scope x := by first | exact Or.inl rfl | exact Or.inr (Or.inl rfl) | exact Or.inr (Or.inr rfl))
    (hd : (x == ("__debug__" : Str)) = false := by decide) (hcd : (x == ("__classdict__" : Str)) = false := by decide) : SE X C true Γ (.Name x pos) (.var i) (.bor (.l m)) Γ := w_var hN hm hv hd hcd
theorem w_vd {i : Nat} {x : Str} {m : Md} (hN : X.N[i]? = some x := by rfl) (hm : Γ[i]? = some (some (.d m)) := by rfl) (hv : Vis X.env.scope x := by first | exact Or.inl rfl | exact Or.inr (Or.inl rfl) | exact Or.inr (Or.inr rfl))
    (hd : (x == ("__debug__" : Str)) = false := by decide) (hcd : (x == ("__classdict__" : Str)) = false := by decide) : SE X C true Γ (.Name x pos) (.var i) (.bor (.d m)) Γ := w_var hN hm hv hd hcd
def BinP (X : Cx) (C : Cf) (o : Op2) (op : Operator) (m1 m2 m : Md) : Prop := ∃ r, OpR X (binaryOp op) r ∧ OpS C.B r (evOp2 o) m1 m2 m
def CmpP (X : Cx) (C : Cf) (o : Op2) (op : CmpOp) (m1 m2 m : Md) : Prop := ∃ r, OpR X (compareOp op) r ∧ OpS C.B r (evOp2 o) m1 m2 m
theorem w_vt {i : Nat} {x : Str} {m : Md} (hN : X.N[i]? = some x := by rfl) (hm : Γ[i]? = some (some (.t m)) := by rfl) (hv : Vis X.env.scope x := by first | exact Or.inl rfl | exact Or.inr (Or.inl rfl) | exact Or.inr (Or.inr rfl))
    (hd : (x == ("__debug__" : Str)) = false := by decide) (hcd : (x == ("__classdict__" : Str)) = false := by decide) : SE X C true Γ (.Name x pos) (.var i) (.bor (.t m)) Γ := w_var hN hm hv hd hcd
theorem w_b (ha : SE X C p1 Γ ea a k1 Γ1) (hb : SE X C p2 Γ1 eb b k2 Γ2) (P : BinP X C o op k1.md k2.md m) (hp : k1.isB = true → p2 = true := by first | exact fun _ => rfl | exact fun h => nomatch h) : SE X C (p1 && p2) Γ (.BinOp ea op eb pos) (.op o a b) (.own m) Γ2 :=
  let ⟨_, h1, h2⟩ := P
  w_bin h1 h2 ha hb hp
theorem w_c (ha : SE X C p1 Γ ea a k1 Γ1) (hb : SE X C p2 Γ1 eb b k2 Γ2) (P : CmpP X C o cp k1.md k2.md .v) (hp : k1.isB = true → p2 = true := by first | exact fun _ => rfl | exact fun h => nomatch h) (hm : behindInMarks cp eb = false := by first | rfl | with_unfolding_all rfl) : SE X C (p1 && p2) Γ (.Compare ea [cp] [eb] pos) (.op o a b) (.own .v) Γ2 :=
  let ⟨_, h1, h2⟩ := P
  w_cmp h1 h2 ha hb hp hm
theorem t_c (ha : SE X C p1 Γ ea a k1 Γ1) (hb : SE X C p2 Γ1 eb b k2 Γ2) (P : CmpP X C o cp k1.md k2.md .v) (hp : k1.isB = true → p2 = true := by first | exact fun _ => rfl | exact fun h => nomatch h) (hm : behindInMarks cp eb = false := by first | rfl | with_unfolding_all rfl) : ST X C (p1 && p2) Γ (.Compare ea [cp] [eb] pos) (.op o a b) Γ2 :=
  let ⟨_, h1, h2⟩ := P
  t_cmp h1 h2 ha hb hp hm
theorem b_add (h1 : m1 = .v ∨ m1 = .l .v := by first | exact .inl rfl | exact .inr rfl) (h2 : m2 = .v ∨ m2 = .l .v := by first | exact .inl rfl | exact .inr rfl) (g : Gd X C) : BinP X C .addG .Add m1 m2 (.l .v) := ⟨_, op_addG, by rw [g.K]; exact s_addG h1 h2⟩
theorem b_mul (h1 : m1 = .v ∨ m1 = .l .v := by first | exact .inl rfl | exact .inr rfl) : BinP X C .mulG .Mult m1 m2 (.l .v) := ⟨_, op_mulG, s_mulG h1⟩
theorem b_sub : BinP X C .sub .Sub m1 m2 m := ⟨_, op_sub, s_sub⟩
theorem b_mod : BinP X C .mod .Mod m1 m2 m := ⟨_, op_mod, s_int (c := fun _ j => decide (0 < j)) fun i j h => of_decide_eq_true h⟩
theorem b_fdiv : BinP X C .fdiv .FloorDiv m1 m2 m := ⟨_, op_fdivW, s_int (c := fun _ j => divOk j) fun i j h => by
  unfold divOk at h
  simp only [Bool.and_eq_true, decide_eq_true_eq] at h
  exact h⟩
theorem b_pow : BinP X C .pow .Pow m1 m2 m := ⟨_, op_pow, s_int (c := powOk) (f := fun i j => i ^ j.toNat) fun i j h => by
  unfold powOk at h
  simp only [Bool.and_eq_true, decide_eq_true_eq] at h
  exact ⟨h.1.1, by omega, h.2⟩⟩
theorem p_lt : CmpP X C .lt .Lt m1 m2 m := ⟨_, op_lt, s_cmp (f := fun i j => decide (i < j))⟩
theorem p_le : CmpP X C .le .LtE m1 m2 m := ⟨_, op_le, s_cmp (f := fun i j => decide (i ≤ j))⟩
theorem p_gt : CmpP X C .gt .Gt m1 m2 m := ⟨_, op_gt, s_cmp (f := fun i j => decide (j < i))⟩
theorem p_ge : CmpP X C .ge .GtE m1 m2 m := ⟨_, op_ge, s_cmp (f := fun i j => decide (j ≤ i))⟩
theorem p_eq (g : Gd X C) : CmpP X C .eq .Eq m1 m2 m := ⟨_, op_eqD (by have := g.un; omega), by rw [g.K]; exact s_eq⟩
theorem p_ne (g : Gd X C) : CmpP X C .ne .NotEq m1 m2 m := ⟨_, op_neD (by have := g.un; omega), by rw [g.K]; exact s_ne⟩
theorem p_eqA : CmpP X C .eqA .Eq m1 m2 m := ⟨_, op_eq, s_eqA⟩
theorem p_neA : CmpP X C .neA .NotEq m1 m2 m := ⟨_, op_ne, s_neA⟩
theorem p_in (g : Gd X C) : CmpP X C .inn .In m1 m2 m := ⟨_, op_inG g, by rw [g.K]; exact s_inn⟩
theorem p_nin (g : Gd X C) : CmpP X C .nin .NotIn m1 m2 m := ⟨_, op_ninG g, by rw [g.K]; exact s_nin⟩
theorem p_is : CmpP X C .isB .Is m1 m2 m := ⟨_, op_isBl, s_isB⟩
theorem p_nis : CmpP X C .isnB .IsNot m1 m2 m := ⟨_, op_notBl, s_isnB⟩
def AP (X : Cx) (C : Cf) (o : Op2) (op : CmpOp) (m1 m2 : Md) : Prop := ∃ r, OpR X (compareOp op) r ∧ OpA C.B r (evOp2 o) m1 m2
theorem a_lt : AP X C .lt .Lt m1 m2 := ⟨_, op_lt, a_cmp (f := fun i j => decide (i < j))⟩
theorem a_le : AP X C .le .LtE m1 m2 := ⟨_, op_le, a_cmp (f := fun i j => decide (i ≤ j))⟩
theorem a_gt : AP X C .gt .Gt m1 m2 := ⟨_, op_gt, a_cmp (f := fun i j => decide (j < i))⟩
theorem a_ge : AP X C .ge .GtE m1 m2 := ⟨_, op_ge, a_cmp (f := fun i j => decide (j ≤ i))⟩
theorem w_cc (ha : SE X C p1 Γ ea a k1 Γ1) (hb : SE X C p2 Γ1 eb b k2 Γ2) (hc : SE X C p3 Γ2 ec c k3 Γ2) (P1 : AP X C o1 cp1 k1.md k2.md) (P2 : AP X C o2 cp2 k2.md k3.md) (hp1 : k1.isB = true → p2 = true := by first | exact fun _ => rfl | exact fun h => nomatch h) (hp2 : k2.isB = true → p3 = true := by first | exact fun _ => rfl | exact fun h => nomatch h)
    (hm : lastMarks [cp1, cp2] [eb, ec] = false := by with_unfolding_all rfl) : SE X C (p1 && p2 && p3) Γ (.Compare ea [cp1, cp2] [eb, ec] pos) (.ch o1 o2 a b c) (.own .v) Γ2 :=
  let ⟨_, h1, h2⟩ := P1
  let ⟨_, h3, h4⟩ := P2
  w_ch h1 h3 h2 h4 ha hb hc hp1 hp2 hm
theorem t_cc (ha : SE X C p1 Γ ea a k1 Γ1) (hb : SE X C p2 Γ1 eb b k2 Γ2) (hc : SE X C p3 Γ2 ec c k3 Γ2) (P1 : AP X C o1 cp1 k1.md k2.md) (P2 : AP X C o2 cp2 k2.md k3.md) (hp1 : k1.isB = true → p2 = true := by first | exact fun _ => rfl | exact fun h => nomatch h) (hp2 : k2.isB = true → p3 = true := by first | exact fun _ => rfl | exact fun h => nomatch h)
    (hm : lastMarks [cp1, cp2] [eb, ec] = false := by with_unfolding_all rfl) : ST X C (p1 && p2 && p3) Γ (.Compare ea [cp1, cp2] [eb, ec] pos) (.ch o1 o2 a b c) Γ2 :=
  let ⟨_, h1, h2⟩ := P1
  let ⟨_, h3, h4⟩ := P2
  t_ch h1 h3 h2 h4 ha hb hc hp1 hp2 hm
structure Zz (mg : Str → Option Value) : Prop where
  len : mg "len" = none
  abs : mg "abs" = none
  int : mg "int" = none
  str : mg "str" = none
  repr : mg "repr" = none
  sum : mg "sum" = none
  max : mg "max" = none
  min : mg "min" = none
  list : mg "list" = none
  tuple : mg "tuple" = none
  isi : mg "isinstance" = none
  range : mg "range" = none
  enum : mg "enumerate" = none
  zip : mg "zip" = none
  sorted : mg "sorted" = none
  set : mg "set" = none
  dict : mg "dict" = none
  bool : mg "bool" = none
  all : mg "all" = none
theorem w_len (g : Gd X C) (Z : Zz X.mg) (ha : SE X C p Γ ea a k Γ1) (hg : Gl X "len" := by rfl) (he : starEach [ea] X.env = (false, eval ea X.env) :: starEach [] X.env := by rfl) : SE X C (p && true) Γ (.Call (.Name "len" pp) [ea] [] pos) (.bi .len (.cons a .nil)) (.own .v) Γ1 :=
  w_b1 cr_len (fun _ => rfl) (by rw [g.K]; exact b_len) Z.len (wa_cons ha wa_nil (fun _ => rfl) he) hg (by decide +kernel) (by decide) (by decide) he
theorem w_abs (g : Gd X C) (Z : Zz X.mg) (ha : SE X C p Γ ea a k Γ1) (hg : Gl X "abs" := by rfl) (he : starEach [ea] X.env = (false, eval ea X.env) :: starEach [] X.env := by rfl) : SE X C (p && true) Γ (.Call (.Name "abs" pp) [ea] [] pos) (.bi .abs (.cons a .nil)) (.own .v) Γ1 :=
  w_b1 cr_abs (fun _ => rfl) b_abs Z.abs (wa_cons ha wa_nil (fun _ => rfl) he) hg (by decide +kernel) (by decide) (by decide) he
theorem w_repr (g : Gd X C) (Z : Zz X.mg) (ha : SE X C p Γ ea a k Γ1) (hn : noS k.md = true := by rfl) (hg : Gl X "repr" := by rfl) (he : starEach [ea] X.env = (false, eval ea X.env) :: starEach [] X.env := by rfl) : SE X C (p && true) Γ (.Call (.Name "repr" pp) [ea] [] pos) (.bi .repr (.cons a .nil)) (.own .v) Γ1 :=
  w_b1 (cr_rep g) (fun _ => rfl) (b_repr g.K.symm hn) Z.repr (wa_cons ha wa_nil (fun _ => rfl) he) hg (by decide +kernel) (by decide) (by decide) he
theorem w_sum (g : Gd X C) (Z : Zz X.mg) (ha : SE X C p Γ ea a k Γ1) (hg : Gl X "sum" := by rfl) (he : starEach [ea] X.env = (false, eval ea X.env) :: starEach [] X.env := by rfl) : SE X C (p && true) Γ (.Call (.Name "sum" pp) [ea] [] pos) (.bi .sum (.cons a .nil)) (.own .v) Γ1 :=
  w_b1 (cr_sum g.calm) (fun _ => rfl) (by rw [g.K]; exact b_sum) Z.sum (wa_cons ha wa_nil (fun _ => rfl) he) hg (by decide +kernel) (by decide) (by decide) he
theorem w_maxL (g : Gd X C) (Z : Zz X.mg) (ha : SE X C p Γ ea a k Γ1) (hg : Gl X "max" := by rfl) (he : starEach [ea] X.env = (false, eval ea X.env) :: starEach [] X.env := by rfl) : SE X C (p && true) Γ (.Call (.Name "max" pp) [ea] [] pos) (.bi .maxL (.cons a .nil)) (.own .v) Γ1 :=
  w_b1 (cr_max g.calm) (fun _ => rfl) (by rw [g.K]; exact b_maxL) Z.max (wa_cons ha wa_nil (fun _ => rfl) he) hg (by decide +kernel) (by decide) (by decide) he
theorem w_minL (g : Gd X C) (Z : Zz X.mg) (ha : SE X C p Γ ea a k Γ1) (hg : Gl X "min" := by rfl) (he : starEach [ea] X.env = (false, eval ea X.env) :: starEach [] X.env := by rfl) : SE X C (p && true) Γ (.Call (.Name "min" pp) [ea] [] pos) (.bi .minL (.cons a .nil)) (.own .v) Γ1 :=
  w_b1 (cr_min g.calm) (fun _ => rfl) (by rw [g.K]; exact b_minL) Z.min (wa_cons ha wa_nil (fun _ => rfl) he) hg (by decide +kernel) (by decide) (by decide) he
theorem w_int1 (g : Gd X C) (Z : Zz X.mg) (ha : SE X C p Γ ea a k Γ1) (hg : Gl X "int" := by rfl) (he : starEach [ea] X.env = (false, eval ea X.env) :: starEach [] X.env := by rfl) : SE X C (p && true) Γ (.Call (.Name "int" pp) [ea] [] pos) (.bi .toInt (.cons a .nil)) (.own .v) Γ1 :=
  w_t1 cr_int (fun _ => rfl) b_int Z.int (wa_cons ha wa_nil (fun _ => rfl) he) hg (by decide +kernel) (by decide) (by decide) he
theorem w_str1 (g : Gd X C) (Z : Zz X.mg) (ha : SE X C p Γ ea a k Γ1) (hg : Gl X "str" := by rfl) (he : starEach [ea] X.env = (false, eval ea X.env) :: starEach [] X.env := by rfl) : SE X C (p && true) Γ (.Call (.Name "str" pp) [ea] [] pos) (.bi .toStr (.cons a .nil)) (.own .v) Γ1 :=
  w_t1 cr_str (fun _ => rfl) b_str Z.str (wa_cons ha wa_nil (fun _ => rfl) he) hg (by decide +kernel) (by decide) (by decide) he
theorem w_list1 (g : Gd X C) (Z : Zz X.mg) (ha : SE X C p Γ ea a k Γ1) (hm : k.md = .v ∨ k.md = .l .v ∨ k.md = .s ∨ k.md = .d .v := by first | exact .inl rfl | exact .inr (.inl rfl) | exact .inr (.inr (.inl rfl)) | exact .inr (.inr (.inr rfl))) (hg : Gl X "list" := by rfl) (he : starEach [ea] X.env = (false, eval ea X.env) :: starEach [] X.env := by rfl) :
    SE X C (p && true) Γ (.Call (.Name "list" pp) [ea] [] pos) (.bi .toList (.cons a .nil)) (.own (.l .v)) Γ1 :=
  w_t1 (cr_list g.calm) (fun _ => rfl) (by rw [g.K]; exact b_list hm) Z.list (wa_cons ha wa_nil (fun _ => rfl) he) hg (by decide +kernel) (by decide) (by decide) he
theorem w_tup1 (g : Gd X C) (Z : Zz X.mg) (ha : SE X C p Γ ea a k Γ1) (hm : k.md = .v ∨ k.md = .l .v ∨ k.md = .s := by first | exact .inl rfl | exact .inr (.inl rfl) | exact .inr (.inr rfl)) (hg : Gl X "tuple" := by rfl) (he : starEach [ea] X.env = (false, eval ea X.env) :: starEach [] X.env := by rfl) :
    SE X C (p && true) Γ (.Call (.Name "tuple" pp) [ea] [] pos) (.bi .toTuple (.cons a .nil)) (.own .v) Γ1 :=
  w_t1 cr_tup (fun _ => rfl) (by rw [g.K]; exact b_tup hm) Z.tuple (wa_cons ha wa_nil (fun _ => rfl) he) hg (by decide +kernel) (by decide) (by decide) he
theorem w_max2 (g : Gd X C) (Z : Zz X.mg) (ha : SE X C p1 Γ ea a k1 Γ1) (hb : SE X C p2 Γ1 eb b k2 Γ2) (hp : k1.isB = true → (p2 && true) = true := by first | exact fun _ => rfl | exact fun h => nomatch h) (hg : Gl X "max" := by rfl) (he : starEach [ea, eb] X.env = (false, eval ea X.env) :: starEach [eb] X.env := by rfl) (he2 : starEach [eb] X.env = (false, eval eb X.env) :: starEach [] X.env := by rfl) (hpl : (backTo pos (starEach [eb] X.env)).any (·.1) = false := by rfl) :
    SE X C (p1 && (p2 && true)) Γ (.Call (.Name "max" pp) [ea, eb] [] pos) (.bi .max2 (.cons a (.cons b .nil))) (.own .v) Γ2 :=
  w_b2 (cr_mx g.calm) (fun _ _ => rfl) b_max2 Z.max (wa_cons ha (wa_cons hb wa_nil (fun _ => rfl) he2) hp he) hg (by decide +kernel) (by decide) (by decide) he hpl
theorem w_min2 (g : Gd X C) (Z : Zz X.mg) (ha : SE X C p1 Γ ea a k1 Γ1) (hb : SE X C p2 Γ1 eb b k2 Γ2) (hp : k1.isB = true → (p2 && true) = true := by first | exact fun _ => rfl | exact fun h => nomatch h) (hg : Gl X "min" := by rfl) (he : starEach [ea, eb] X.env = (false, eval ea X.env) :: starEach [eb] X.env := by rfl) (he2 : starEach [eb] X.env = (false, eval eb X.env) :: starEach [] X.env := by rfl) (hpl : (backTo pos (starEach [eb] X.env)).any (·.1) = false := by rfl) :
    SE X C (p1 && (p2 && true)) Γ (.Call (.Name "min" pp) [ea, eb] [] pos) (.bi .min2 (.cons a (.cons b .nil))) (.own .v) Γ2 :=
  w_b2 (cr_mn g.calm) (fun _ _ => rfl) b_min2 Z.min (wa_cons ha (wa_cons hb wa_nil (fun _ => rfl) he2) hp he) hg (by decide +kernel) (by decide) (by decide) he hpl
end
section
variable {X : Cx} {C : Cf} {p p1 p2 p3 : Bool} {Γ Γ1 Γ2 Γ3 : G} {pos pp pos' apos : Pos} {m m0 m1 m2 : Md} {a b c : Ex} {ea eb ec : Expr} {k k1 k2 k3 : Kd} {i : Nat} {x : Str} {el eh : Option Expr} {l h : Op} {ms : Exs} {es : List Expr} {ks : List AK}
theorem w_slice (g : Gd X C) (ha : SE X C p1 Γ ea a k1 Γ1) (hl : SP X C p2 Γ1 el l Γ2) (hh : SP X C p3 Γ2 eh h Γ3) (hm : k1.md = .v ∨ k1.md = .l .v ∨ k1.md = .s := by first | exact .inl rfl | exact .inr (.inl rfl) | exact .inr (.inr rfl))
    (hp2 : k1.isB = true → p2 = true := by first | exact fun _ => rfl | exact fun h => nomatch h) (hp3 : k1.isB = true → p3 = true := by first | exact fun _ => rfl | exact fun h => nomatch h) : SE X C (p1 && p2 && p3) Γ (.Subscript ea (.Slice el eh none pp) pos) (.sl a l h) (.own (.l .v)) Γ3 :=
  w_sl sl_gen (by rw [g.K]; exact s_sl hm) ha hl hh hp2 hp3
theorem m_append (g : Gd X C) (ha : SE X C p Γ ea a (.own m) Γ1)
    (hN : X.N[i]? = some x := by rfl) (hm0 : Γ[i]? = some (some m0) := by rfl) (hm1 : Γ1[i]? = some (some (.l m)) := by rfl) (hv : Vis X.env.scope x := by first | exact Or.inl rfl | exact Or.inr (Or.inl rfl) | exact Or.inr (Or.inr rfl))
    (hd : (x == ("__debug__" : Str)) = false := by decide) (hcd : (x == ("__classdict__" : Str)) = false := by decide)
    (hbase : attributeBase (.Name x pos') "append" X.env (eval (.Name x pos') X.env) = eval (.Name x pos') X.env := by rfl)
    (hfew : ((backTo pos (starEach (ea :: []) X.env)).all (fun x => !x.1) && (backToKw pos (keywordEach [] X.env)).all (fun x => x.1.isSome)
      && decide ((ea :: []).length + ([] : List Keyword).length + (if ([] : List Keyword).isEmpty then 0 else 1) < 30)) = true := by rfl)
    (hline : (apos.endLine == pos.line) = true := by rfl) (hs1 : starEach [ea] X.env = (false, eval ea X.env) :: starEach [] X.env := by rfl) :
    SE X C false Γ (.Call (.Attribute (.Name x pos') "append" apos) [ea] [] pos) (.mut .append (.sl i) (.cons a .nil)) (.own .v) Γ1 :=
  w_mut PySem.F.plainAttrs_list PySem.F.slot_list_append PySem.F.type_list_append mt_append mu_append g (fun _ _ _ _ _ ow h => ty_lst ow h) (wa_cons ha wa_nil (fun _ => rfl) hs1) hN hm0 hm1 hv hd hcd hbase hfew hline hs1 rfl
theorem m_popAt (g : Gd X C) (ha : SE X C p Γ ea a (.own .v) Γ1)
    (hN : X.N[i]? = some x := by rfl) (hm0 : Γ[i]? = some (some m0) := by rfl) (hm1 : Γ1[i]? = some (some (.l .v)) := by rfl) (hv : Vis X.env.scope x := by first | exact Or.inl rfl | exact Or.inr (Or.inl rfl) | exact Or.inr (Or.inr rfl))
    (hd : (x == ("__debug__" : Str)) = false := by decide) (hcd : (x == ("__classdict__" : Str)) = false := by decide)
    (hbase : attributeBase (.Name x pos') "pop" X.env (eval (.Name x pos') X.env) = eval (.Name x pos') X.env := by rfl)
    (hfew : ((backTo pos (starEach (ea :: []) X.env)).all (fun x => !x.1) && (backToKw pos (keywordEach [] X.env)).all (fun x => x.1.isSome)
      && decide ((ea :: []).length + ([] : List Keyword).length + (if ([] : List Keyword).isEmpty then 0 else 1) < 30)) = true := by rfl)
    (hline : (apos.endLine == pos.line) = true := by rfl) (hs1 : starEach [ea] X.env = (false, eval ea X.env) :: starEach [] X.env := by rfl) :
    SE X C false Γ (.Call (.Attribute (.Name x pos') "pop" apos) [ea] [] pos) (.mut .popAt (.sl i) (.cons a .nil)) (.own .v) Γ1 :=
  w_mut PySem.F.plainAttrs_list PySem.F.slot_list_pop PySem.F.type_list_pop mt_popAt mu_popAt g (fun _ _ _ _ _ ow h => ty_lst ow h) (wa_cons ha wa_nil (fun _ => rfl) hs1) hN hm0 hm1 hv hd hcd hbase hfew hline hs1 rfl
theorem m_pop (g : Gd X C) (hN : X.N[i]? = some x := by rfl) (hm0 : Γ[i]? = some (some (.l .v)) := by rfl) (hv : Vis X.env.scope x := by first | exact Or.inl rfl | exact Or.inr (Or.inl rfl) | exact Or.inr (Or.inr rfl))
    (hd : (x == ("__debug__" : Str)) = false := by decide) (hcd : (x == ("__classdict__" : Str)) = false := by decide)
    (hbase : attributeBase (.Name x pos') "pop" X.env (eval (.Name x pos') X.env) = eval (.Name x pos') X.env := by rfl) (hline : (apos.endLine == pos.line) = true := by rfl) :
    SE X C false Γ (.Call (.Attribute (.Name x pos') "pop" apos) [] [] pos) (.mut .pop (.sl i) .nil) (.own .v) Γ :=
  w_mut0 PySem.F.plainAttrs_list PySem.F.slot_list_pop PySem.F.type_list_pop mt_pop mu_pop g (fun _ _ _ _ _ ow h => ty_lst ow h) hN hm0 hv hd hcd hbase hline
end
end Mi
namespace Mi
open PySem PySem.Spec PyProof.Rows L2 PySem.W
section
variable {X : Cx} {f : Addr} {fd : FuncData} {q x : Str} {st : Stmt} {k2 : Nat} {p1 p2 p3 p4 p5 p6 : Pos}
theorem reads_ints {h : Heap} : ∀ {k : List Int} {us : List Value}, Vals (k.map V.int) us → ReadsAll h us (k.map .int) []
  | [], _, .nil => .nil
  | n :: k, _, .cons r t => by
    obtain ⟨tk, rfl⟩ := r
    exact ReadsAll.cons (as := []) (bs := []) (.int n tk) (reads_ints t)
theorem look_one {Y : Cx} {H : Hp} {s : Shared} {a : Addr} {E : Value → Shared → Prop} {Q : Value → Shared → Prop} {pos : Pos} (J : Inv Y [] (L2.start [x] [V.ref a]) H s) (hN : Y.N = [x]) (hx : Y.env.scope.names.lookup x = some .local) (hdx : (x == ("__debug__" : Str)) = false) (hQ : Q (.ref a) s) :
    wpAny (model Y.prog Y.w) Y.A (eval (.Name x pos) Y.env) Q E s := by
  obtain ⟨m, hn, hl⟩ := J.loc
  obtain ⟨u, r, l⟩ := hl 0 x (.ref a) (by rw [hN]; rfl) rfl (.inl hx)
  cases r
  rcases l with ⟨hk, hm⟩ | ⟨hk, c, hc, hcell⟩
  · exact wpAny_Name (wpAny_loadName_local J.ok.kind hk hn hm hQ) hdx
  · rcases hk with hk | hk
    · exact absurd (hk.symm.trans hx) (by simp)
    · exact absurd (hk.symm.trans hx) (by simp)
theorem key_len {pins : List (Addr × Obj)} {σ : VS} {H : Hp} {s : Shared} {a : Addr} {k : List Int} {h : Heap} {tk : Nat} (Fu : Fun X.K q q st f fd) (Sc : FnScope [x] [x] (defScope st)) (hb : Binds X.K fd [x] []) (hl : X.mg "len" = none)
    (hB : defBody st = [.Return (some (.Tuple [.Call (.Name "len" p1) [.Name x p2] [] p3, .Name x p4] k2 p5)) p6])
    (hx : (defScope st).names.lookup x = some .local) (hdx : (x == ("__debug__" : Str)) = false)
    (hgl : ∀ (c : Addr) (cd : Value), ∀ Y : Cx, Y.env = envOfC q (defScope st) c f cd → Gl Y "len")
    (hr : Room 3 X.A) (I : Inv X pins σ H s) (hk : ∀ b o, s.heap.get? b = some o → h.get? b = some o) (ht : SqT X.K H a (k.map V.int)) :
    wpAny (model X.prog X.w) X.A.in1.in1 (call (.ref f) [.ref a]) (KeyPure (keyPD k) { s with heap := h, toks := tk }) (fun _ _ => False) { s with heap := h, toks := tk } := by
  have I1 : Inv X pins σ H { s with heap := h, toks := tk } := I.kept hk
  have e0 := (I1.env0.in1).in1
  obtain ⟨its, rv, tp, hz⟩ := I1.tuple ht
  have hr2 : Room 1 X.A.in1.in1 := hr.in1.in1
  obtain ⟨oc, od, kV, doc, pm, an, cd, ct, osl, rfl, lk, hcd⟩ := Fu.ex
  have inK := I1.kIn
  have lim := I1.nolimit
  refine wpAny_call ?_
  refine codeAny_call_function hr2.depth (inK _ _ lk) rfl Sc.co Sc.gen rfl (PySem.W.codeRec_of inK hcd) ?_
  refine hb _ [.ref a] inK rfl _ _ _ _ ?_
  refine wpAny_newFunctionEnv_cells Sc.kind (fun y hy => .inl ?_) ?_
  · have : y = (x, Value.ref a) := by simpa using hy
    subst this
    exact hx
  intro env he s1 x1
  subst he
  refine ⟨lim.keeps x1.toInCall.keep, codeAny_func ?_⟩
  rw [hB]
  have r1 : Vals [V.ref a] [Value.ref a] := .cons rfl .nil
  have J := inv_start (CX := L2.CX X.prog X.w) (E := fun _ _ _ => False) (N := [x]) Sc hr2.hd e0 rfl r1 x1
  obtain ⟨h1, t1, rfl, kp1⟩ := x1.done
  have hn63 : (its.toArray.size : Int) < 2 ^ 63 := by
    have := line63
    rw [List.size_toArray, ← rv.length]
    omega
  refine wpAny_execs_cons (wpAny_Return_some (Tuple_ (args_cons ?_ rfl)))
  refine Call_ (ld_blt J (hgl _ _ _ rfl) hl PySem.boot_len (callWith_builtin1 (args_cons (look_one J rfl hx hdx (args_nil ?_)) rfl) rfl rfl))
  refine len_tuple (tp.keeps kp1) hn63 ?_
  have J2 := J.kept (h' := h1) (t' := t1 + 1 + 1) fun b o e => e
  refine args_cons (look_one J2 rfl hx hdx (args_nil ?_)) rfl
  refine wpAny_newObj_type ?_ (by show 2 ≤ sizeLine; decide)
  refine ⟨_, _, rfl, fun b o e => Heap.get?_push_of_some _ (kp1 b o e), ?_⟩
  have hlen : its.toArray.size = k.length := by
    rw [List.size_toArray, ← rv.length, List.length_map]
  obtain ⟨o, g1, g2, n, g3⟩ := (tp.keeps kp1)
  refine Reads.tuple (vs := #[.int its.toArray.size (t1 + 1), .ref a]) (Heap.get?_push_size _ rfl) rfl rfl ?_
  refine ReadsAll.cons (as := []) (bs := []) (by rw [hlen]; exact .int _ _) (ReadsAll.cons (as := []) (bs := []) (.tuple (Heap.get?_push_of_some _ g1) g2 g3 ?_) .nil)
  exact reads_ints rv
def rSortLen (K : PySem.W.Frag) (f : Addr) : List V → List V → Hp → VK → Prop := fun vs zs H Q => ∃ (a : Addr) (ps : List (Addr × List Int)), vs = [V.ref a] ∧ zs = [V.ref f] ∧ SqL K H a (ps.map fun p => V.ref p.1) ∧ (∀ p ∈ ps, SqT K H p.1 (p.2.map V.int)) ∧
  ∀ p, H p = none → Q (.ref p) (upd H p (.lst ((sortG (fun x y => leKey x.2 y.2) ps).map fun q => V.ref q.1)))
theorem refs_each {ps : List (Addr × List Int)} {its : List Value} (rv : Vals (ps.map fun p => V.ref p.1) its) : EachIs (fun v p => v = Value.ref p.1) its ps := by
  induction ps generalizing its with
  | nil => cases rv; exact .nil
  | cons p ps ih =>
    cases rv with
    | cons h1 h2 => exact .cons h1 (ih h2)
theorem each_refs {ps : List (Addr × List Int)} {its : List Value} (h : EachIs (fun v p => v = Value.ref p.1) its ps) : Vals (ps.map fun p => V.ref p.1) its := by
  induction h with
  | nil => exact .nil
  | cons h1 _ ih => exact .cons h1 ih
theorem key_alike (k k' : List Int) : PySem.W.alike (keyPD k) (keyPD k') = true := by
  unfold keyPD
  simp [PySem.W.alike, PySem.W.alikeAll, alike_ints]
theorem key_depth (k : List Int) : (keyPD k).depth ≤ 5 := by
  unfold keyPD
  simp [PyData.depth, PyData.depthAll, depth_ints]
theorem cr_sortLen (Fu : Fun X.K q q st f fd) (Sc : FnScope [x] [x] (defScope st)) (hb : Binds X.K fd [x] []) (hl : X.mg "len" = none)
    (hB : defBody st = [.Return (some (.Tuple [.Call (.Name "len" p1) [.Name x p2] [] p3, .Name x p4] k2 p5)) p6])
    (hx : (defScope st).names.lookup x = some .local) (hdx : (x == ("__debug__" : Str)) = false)
    (hgl : ∀ (c : Addr) (cd : Value), ∀ Y : Cx, Y.env = envOfC q (defScope st) c f cd → Gl Y "len") (hr : Room 3 X.A) : CallRK X (.builtin "sorted") [Str.ofString "key"] (rSortLen X.K f) := by
  intro pins s σ H vs zs us ws Q I r rz h
  obtain ⟨a, ps, rfl, rfl, hs, hk, qq⟩ := h
  obtain ⟨its, rv, hl2, hz⟩ := I.list hs
  obtain rfl := Vals.ref1 r
  obtain rfl := Vals.ref1 rz
  rw [List.length_map] at hz
  refine sorted_key_data (R := fun v p => v = Value.ref p.1) (bs := ps) (b := false) (fun p => keyPD p.2) hl2.isList (refs_each rv) (AllAlike.of fun _ _ => key_alike _ _) (Sortable.tuples fun _ => ⟨_, _, rfl⟩) hz (fun x _ => ?_) (ksk_s1 _ _) (fun _ => ksk_l1 _ _) (fun _ => ksk_t1 _ _) (fun v p hv hp h tk kp => ?_) fun out c h' tk kp fresh hD hlen he => ?_
  · have := key_depth x.2
    have := hr.un
    show X.A.units + 2 + (keyPD x.2).depth < cLine
    omega
  · subst hv
    exact key_len Fu Sc hb hl hB hx hdx hgl hr I kp (hk p hp)
  · have es : ps.mergeSort (dataLe false fun p => keyPD p.2) = sortG (fun x y => leKey x.2 y.2) ps :=
      (sortG_eq (sortLe_total (PyProof.Rows.listOrd itemOrd) false (fun p : Addr × List Int => keyToks (keyPD p.2))) ps).symm
    rw [es] at he
    have hv := each_refs he
    refine ⟨.ref _, upd H (s.heap.objs.size + 1) (.lst ((sortG (fun x y => leKey x.2 y.2) ps).map fun q => V.ref q.1)), I.laid (t' := tk) kp (Nat.le_succ _) ⟨?_, out, c, hv, hD⟩, rfl, qq _ (I.hok.fresh (Nat.le_succ _))⟩
    rw [List.length_map, (sortG_perm ps).length_eq]
    exact hz
end
section
variable {X : Cx} {C : Cf} {p : Bool} {Γ Γ1 : G} {pos pp p7 : Pos} {a : Ex} {ea : Expr} {k : Kd} {σ : VS} {H : Hp} {f : Addr} {fd : FuncData} {q x : Str} {st : Stmt} {k2 : Nat} {p1 p2 p3 p4 p5 p6 : Pos}
theorem tups_all {B : Tb} {O : List Addr} {H : Hp} : ∀ {ps : List (Addr × List Int)}, (∀ p ∈ ps, Ow B O H .v (tupI p.2) (.ref p.1) []) → OwL B O H .v (ps.map fun p => tupI p.2) (ps.map fun p => V.ref p.1) []
  | [], _ => .nil
  | p :: ps, h => OwL.cons (S := []) (T := []) (h p (List.mem_cons_self ..)) (tups_all fun q hq => h q (List.mem_cons_of_mem _ hq))
theorem tups_owd {B : Tb} {O : List Addr} {H : Hp} : ∀ {ds : List D} {vs : List V} {ks : List (List Int)}, OwL B O H .v ds vs [] → tups? ds = some ks → ∃ ps : List (Addr × List Int), vs = ps.map (fun p => V.ref p.1) ∧ ps.map (·.2) = ks ∧ ∀ p ∈ ps, SqT B.K H p.1 (p.2.map V.int) ∧ Ow B O H .v (tupI p.2) (.ref p.1) [] := by
  intro ds
  induction ds with
  | nil =>
    intro vs ks h e
    cases h
    cases e
    exact ⟨[], rfl, rfl, fun p hp => by cases hp⟩
  | cons d ds ih =>
    intro vs ks h e
    generalize hU : ([] : List Addr) = U at h
    cases h with
    | cons h1 h2 =>
      rename_i v vs S T
      obtain ⟨rfl, rfl⟩ := List.append_eq_nil_iff.mp hU.symm
      cases d <;> first | (cases e; done) | skip
      rename_i xs
      have e : ((ints? xs).bind fun k => (tups? ds).map (k :: ·)) = some ks := e
      obtain ⟨k, e1, e⟩ := Option.bind_eq_some_iff.mp e
      obtain ⟨ks', e2, rfl⟩ := Option.map_eq_some_iff.mp e
      obtain ⟨ps, q1, q2, q3⟩ := ih h2 e2
      obtain rfl := ints_map e1
      have h1' := h1
      obtain ⟨t, us, rfl, g1, g2⟩ := h1.tup_eq
      have g3 : us = k.map V.int := g2.ints_eq
      subst g3
      refine ⟨(t, k) :: ps, by rw [q1]; rfl, by rw [← q2]; rfl, fun p hp => ?_⟩
      rcases List.mem_cons.mp hp with rfl | hp
      · exact ⟨.of g1.2, h1'⟩
      · exact q3 p hp
theorem b_sortLen {B : Tb} {m1 : Md} (hm : m1 = .v ∨ m1 = .l .v ∨ m1 = .s) : B1S B (fun vs H Q => rSortLen B.K f vs [.ref f] H Q) biSortLen m1 (.l .v) := fun O H x d d' U Q hl u o e q => by
  cases d <;> first | (cases e; done) | skip
  rename_i ds
  have e : ((tups? ds).bind fun ks => if decide (ks.length < LIM) then some (D.lst ((sortG leKey ks).map tupI)) else none) = some d' := e
  obtain ⟨ks, e1, e⟩ := Option.bind_eq_some_iff.mp e
  split at e
  · cases e
    obtain ⟨a, vs, rfl, g1, g2⟩ := o.lst_v hm
    obtain ⟨ps, q1, q2, q3⟩ := tups_owd g2 e1
    refine ⟨a, ps, rfl, rfl, by rw [← q1]; exact g1, fun p hp => (q3 p hp).1, fun p hp => ?_⟩
    refine q _ _ [p] (post_upd hp) (fun z hz => by rw [List.mem_singleton.mp hz]; exact hp) (by simp) ?_
    have e4 : (sortG leKey ks).map tupI = (sortG (fun x y : Addr × List Int => leKey x.2 y.2) ps).map fun p => tupI p.2 := by
      rw [← q2, ← sortG_map (s := leKey) (fun x : Addr × List Int => x.2) (fun _ _ => rfl), List.map_map]
      rfl
    rw [e4]
    exact new_lst hl (tups_all fun p hp => (q3 p ((sortG_perm _).mem_iff.mp hp)).2) hp
  · cases e
def LenBody (x : Str) (st : Stmt) : Prop := ∃ (k2 : Nat) (p1 p2 p3 p4 p5 p6 : Pos), defBody st = [.Return (some (.Tuple [.Call (.Name "len" p1) [.Name x p2] [] p3, .Name x p4] k2 p5)) p6]
theorem w_sortLen (g : Gd X C) (h1 : X.mg "sorted" = none) (hmf : X.mg q = some (.ref f)) (Fu : Fun X.K q q st f fd) (hb : Binds X.K fd [x] []) (hr : Room 3 X.A) (hl : X.mg "len" = none) (Sc : FnScope [x] [x] (defScope st))
    (hB : LenBody x st)
    (hgl : ∀ (c : Addr) (cd : Value), ∀ Y : Cx, Y.env = envOfC q (defScope st) c f cd → Gl Y "len")
    (ha : SE X C p Γ ea a k Γ1) (hx : (defScope st).names.lookup x = some .local := by rfl) (hdx : (x == ("__debug__" : Str)) = false := by decide)
    (hm : k.md = .v ∨ k.md = .l .v ∨ k.md = .s := by first | exact .inl rfl | exact .inr (.inl rfl) | exact .inr (.inr rfl)) (hg : Gl X "sorted" := by rfl) (hgf : Gl X q := by rfl) (hdq : (q == ("__debug__" : Str)) = false := by decide)
    (he : starEach [ea] X.env = (false, eval ea X.env) :: starEach [] X.env := by rfl)
    (he2 : backTo pos (starEach [ea] X.env) = (false, eval ea X.env) :: backTo pos (starEach [] X.env) := by rfl) (hpl : (backTo pos (starEach [ea] X.env)).any (·.1) = false := by rfl)
    (hall : (backToKw pos (keywordEach [⟨some "key", .Name q p7, pp⟩] X.env)).all (·.1.isSome) = true := by rfl) (hnone : (backToKw pos (keywordEach [⟨some "key", .Name q p7, pp⟩] X.env)).any (·.1.isNone) = false := by rfl) (hks : (backToKw pos (keywordEach [⟨some "key", .Name q p7, pp⟩] X.env)).filterMap (·.1) = [Str.ofString "key"] := by rfl) :
    SE X C p Γ (.Call (.Name "sorted" p1) [ea] [⟨some "key", .Name q p7, pp⟩] pos) (.bi .sortLen (.cons a .nil)) (.own (.l .v)) Γ1 := by
  obtain ⟨k2, q1, q2, q3, q4, q5, q6, hB⟩ := hB
  exact PE.imp (pe_callBK (cr_sortLen Fu Sc hb hl hB hx hdx hgl hr) hg h1 (by decide +kernel) (pa_cons ha pa_nil he) (pk_cons (pe_glob (v := .ref f) hgf hmf rfl hdq) pk_nil) (by decide) (by decide) he2 hpl hall hnone hks) fun σ H Q h => by
    have h := c_one (r := fun vs H Q => rSortLen C.B.K f vs [.ref f] H Q) (m' := .bi .sortLen (.cons a .nil)) (f := biSortLen) (fun e => by
      show (evEs C.F (.cons a .nil) e).bind _ = _
      show ((evE C.F a e).bind _).bind _ = _
      cases evE C.F a e <;> rfl) (b_sortLen hm) h
    rw [g.K]
    exact h
end
end Mi
namespace Mi
open PySem PySem.Spec PyProof.Rows L2 PySem.W
theorem mu_ext {B : Tb} : MuS B rExtend .ext (.l .v) [.kd (.own (.l .v))] := fun O S σ H x d res d' as ds vs U T W Q nd lv ow ar hd he q => by
  cases ar with
  | @kd _ _ d1 _ v1 _ T1 U1 h1 h2 =>
    cases h2
    cases hd
    cases d <;> first | cases he | skip
    rename_i xs
    cases d1 <;> first | cases he | skip
    rename_i ys
    have h1 : Ow B _ H (.l .v) (.lst ys) v1 T1 := h1
    obtain ⟨b, ws, Tb, rfl, hb, hL, rfl⟩ := ow.l_inv
    obtain ⟨c, zs, Tc, rfl, hc, hM, rfl⟩ := h1.l_inv
    have z := hL.v_nil
    subst z
    have z := hM.v_nil
    subst z
    have he : (if xs.length + ys.length < LIM then some (D.non, D.lst (xs ++ ys)) else none) = some (res, d') := he
    split at he
    · rename_i hz
      cases he
      have hz' : ws.length + zs.length ≤ sizeLine := by
        rw [← hL.len, ← hM.len, sizeLine_eq]
        simp only [LIM] at hz
        omega
      have f : Fr ([b] ++ (([c] ++ []) ++ W)) ([b] ++ W) H (upd H b (.lst (ws ++ zs))) := fr_write (by simp) fun a ha => by
        simp only [List.mem_cons, List.mem_append, List.not_mem_nil, or_false] at ha ⊢
        exact ha.elim .inl fun z => .inr (.inr z)
      exact ⟨b, c, ws, zs, rfl, rfl, hb, hc, hz', q .non _ [b] (post_write hb (by simp)) (fun a ha => .inl ha) (by simp) (.lst (S := []) upd_same (OwL.appS (hL.fr f fun _ z => nomatch z) (hM.fr f fun _ z => nomatch z))) .non⟩
    · cases he
theorem set_same {σ : VS} {i : Nat} {v : V} (h : σ[i]? = some (some v)) : σ.set i (some v) = σ := by
  refine List.ext_getElem? fun j => ?_
  by_cases e : i = j
  · subst e
    rw [h, List.getElem?_set_self (List.getElem?_eq_some_iff.mp h).1]
  · rw [List.getElem?_set_ne e]
section
variable {X : Cx} {C : Cf} {p : Bool} {Γ Γ1 : G} {pos pos' : Pos} {a : Ex} {ea : Expr} {k : Kd} {σ : VS} {H : Hp} {i : Nat} {x : Str}
theorem c_args1 {Q : List V → Hp → Prop} (h : tA C p Γ (.cons a .nil) [.kd k] Γ1 σ H Q) : tE C p Γ a k Γ1 σ H fun v H1 => Q [v] H1 := by
  obtain ⟨e, S, R, s, o⟩ := h
  have o : Out C σ H S R (OkA C σ H S R p [.kd k] Γ1 Q) ((evE C.F a e).bind fun d e1 => .ok [Ar.d d] e1) := o
  refine (At.start s).evN o fun d e1 v H1 S1 T1 a1 v1 _ n1 o1 => ?_
  exact (show OkA C σ H S R p [.kd k] Γ1 Q [Ar.d d] e1 from o1) [v] H1 S1 T1 a1.po a1.ps n1 a1.sta (by simpa using ArR.kd v1 .nil)
theorem s_augL (g : Gd X C) (ha : SE X C p Γ ea a (.own (.l .v)) Γ1) (hN : X.N[i]? = some x := by rfl) (hm0 : Γ[i]? = some (some (.l .v)) := by rfl) (hm1 : Γ1[i]? = some (some (.l .v)) := by rfl)
    (hx : Loc X.env.scope x := by first | exact .inl rfl | exact .inr rfl) (hf : X.fn x = true ∨ X.env.scope.names.lookup x = some .local := by first | exact .inl rfl | exact .inr rfl) :
    SS X C Γ (.AugAssign (.Name x pos') .Add ea pos) (.ex (.mut .ext (.sl i) (.cons a .nil))) Γ1 :=
  PS.imp (ps_aug g.nd hN hx ha (ti := rExt2) (fun pins s σ H x y v u Q I rx ry h => iop_ext pins s σ H x y v u Q I rx ry h) hf) fun E σ H ⟨e, S, R, s, o⟩ => by
    have h : tE C false Γ (.mut .ext (.sl i) (.cons a .nil)) (.own .v) Γ1 σ H fun v H1 => E.nx σ H1 := stm1 (f := fun _ e1 => .ok .nxt e1) s o fun d e1 v H1 S1 T1 a1 v1 n1 o1 =>
      (show ∀ σ' H' S', Post S H H' → New S H S' → Sta C.B C.M R Γ1 e1 σ' H' S' → E.nx σ' H' from o1) σ H1 S1 a1.po.ite a1.n a1.staR
    obtain ⟨v, h1, h2, h3⟩ := c_mut (p := p) (T := "list") mu_ext hm0 hm1 (fun _ _ _ _ _ ow h => ty_lst ow h) h
    refine ⟨v, h1, ?_⟩
    have h4 := c_args1 h3
    obtain ⟨e2, S2, R2, s2, o2⟩ := h4
    refine ⟨e2, S2, R2, s2, ?_⟩
    revert o2
    cases evE C.F a e2 with
    | bad => exact id
    | err c fs e' => exact id
    | ok d e' =>
      intro o2 v2 H' S' T po ps n s3 w3
      obtain ⟨l, b, xs, zs, q1, q2, q3, q4, q5, q6⟩ := o2 v2 H' S' T po ps n s3 w3
      subst q1
      cases q2
      exact ⟨l, b, xs, zs, rfl, rfl, q3, q4, q5, by show E.nx (σ.set i (some (.ref l))) _; rw [set_same h1]; exact q6⟩
end
theorem pair_inj {k l : List Int} (h : pair64 k = true) (g : pair64 l = true) (e : cd64 k = cd64 l) : k = l := by
  match k, l, h, g, e with
  | [x, y], [x', y'], h, g, e =>
    simp only [pair64, Bool.and_eq_true, decide_eq_true_eq] at h g
    have e : x * 64 + y = x' * 64 + y' := e
    have : x = x' := by omega
    have : y = y' := by omega
    subst x'
    subst y'
    rfl
theorem ext_sorted (c : List Int → Int) : ∀ l1 l2 : List (List Int), l1.Pairwise (fun a b => c a < c b) → l2.Pairwise (fun a b => c a < c b) → (∀ x, x ∈ l1 ↔ x ∈ l2) → l1 = l2 := by
  intro l1
  induction l1 with
  | nil =>
    intro l2 _ _ h
    cases l2 with
    | nil => rfl
    | cons b l2 => exact absurd ((h b).mpr (List.mem_cons_self ..)) (by simp)
  | cons a l1 ih =>
    intro l2 h1 h2 h
    cases l2 with
    | nil => exact absurd ((h a).mp (List.mem_cons_self ..)) (by simp)
    | cons b l2 =>
      obtain ⟨p1, p2⟩ := List.pairwise_cons.mp h1
      obtain ⟨q1, q2⟩ := List.pairwise_cons.mp h2
      have e : a = b := by
        rcases List.mem_cons.mp ((h a).mp (List.mem_cons_self ..)) with e | e
        · exact e
        · rcases List.mem_cons.mp ((h b).mpr (List.mem_cons_self ..)) with f | f
          · exact f.symm
          · have := q1 a e
            have := p1 b f
            omega
      subst e
      rw [ih l2 p2 q2 fun x => ⟨fun hx => ?_, fun hx => ?_⟩]
      · rcases List.mem_cons.mp ((h x).mp (List.mem_cons_of_mem _ hx)) with e | e
        · have := p1 x hx
          rw [e] at this
          omega
        · exact e
      · rcases List.mem_cons.mp ((h x).mpr (List.mem_cons_of_mem _ hx)) with e | e
        · have := q1 x hx
          rw [e] at this
          omega
        · exact e
theorem mem_ddup {x : List Int} : ∀ {l : List (List Int)}, x ∈ ddup l ↔ x ∈ l
  | [] => Iff.rfl
  | y :: l => by
    unfold ddup
    split
    · rename_i h
      have h := of_decide_eq_true h
      rw [mem_ddup]
      exact ⟨fun z => List.mem_cons_of_mem _ z, fun z => (List.mem_cons.mp z).elim (fun e => e ▸ h) id⟩
    · rw [List.mem_cons, List.mem_cons, mem_ddup]
theorem nodup_ddup : ∀ l : List (List Int), (ddup l).Nodup
  | [] => List.nodup_nil
  | y :: l => by
    unfold ddup
    split
    · exact nodup_ddup l
    · rename_i h
      exact List.nodup_cons.mpr ⟨fun z => h (decide_eq_true (mem_ddup.mp z)), nodup_ddup l⟩
theorem cd_total : TotalLe fun x y : List Int => decide (cd64 x ≤ cd64 y) where
  trans a b c h1 h2 := by
    simp only [decide_eq_true_eq] at h1 h2 ⊢
    omega
  total a b := by
    simp only [decide_eq_true_eq]
    omega
def setS (ks : List (List Int)) : List (List Int) := sortG (fun x y => decide (cd64 x ≤ cd64 y)) (ddup ks)
theorem lt_of_le {M : List (List Int)} (hp : ∀ k ∈ M, pair64 k = true) (nd : M.Nodup) (h : M.Pairwise fun a b => cd64 a ≤ cd64 b) : M.Pairwise fun a b => cd64 a < cd64 b := by
  refine (List.Pairwise.and h nd).imp_of_mem fun {a b} ha hb ⟨h1, h2⟩ => ?_
  have : cd64 a ≠ cd64 b := fun e => h2 (pair_inj (hp a ha) (hp b hb) e)
  omega
theorem setS_eq {ks M : List (List Int)} (hk : ks.all pair64 = true) (nd : M.Nodup) (h : M.Pairwise fun a b => cd64 a ≤ cd64 b) (hm : ∀ x, x ∈ M ↔ x ∈ ks) : setS ks = M := by
  have hp : ∀ k ∈ ks, pair64 k = true := List.all_eq_true.mp hk
  have mm : ∀ x, x ∈ setS ks ↔ x ∈ ks := fun x => ((sortG_perm (ddup ks)).mem_iff).trans mem_ddup
  refine ext_sorted cd64 _ _ (lt_of_le (fun k hk => hp k ((mm k).mp hk)) ((sortG_perm _).nodup_iff.mpr (nodup_ddup ks)) ?_) (lt_of_le (fun k hk => hp k ((hm k).mp hk)) nd h) fun x => (mm x).trans (hm x).symm
  exact (sortG_pw cd_total (ddup ks)).imp fun h => of_decide_eq_true h
def rSetSort (K : PySem.W.Frag) (P : Program) (w : World) : List V → Hp → VK → Prop := fun xs H Q => rSetOfT K P w xs H fun s H2 => rSortedT K P w [s] H2 Q
theorem sq_of {B : Tb} {O : List Addr} {H : Hp} {k : List Int} {t : Addr} (h : Ow B O H .v (tupI k) (.ref t) []) : SqT B.K H t (k.map V.int) := by
  obtain ⟨t', us, e, g1, g2⟩ := h.tup_eq
  cases e
  have g3 : us = k.map V.int := g2.ints_eq
  subst g3
  exact .of g1.2
theorem fr_new {O : List Addr} {H : Hp} {s : Addr} {o : HO} (h : H s = none) : Fr O O H (upd H s o) :=
  ⟨fun a u _ e => by rw [upd_ne fun z => by rw [z, h] at e; cases e]; exact e, fun a _ n _ z => n z⟩
theorem b_setSort {B : Tb} {P : Program} {w : World} {m1 : Md} (hm : m1 = .v ∨ m1 = .l .v ∨ m1 = .s) : B1S B (rSetSort B.K P w) biSetSort m1 (.l .v) := fun O H x d d' U Q hl u o e q => by
  cases d <;> first | (cases e; done) | skip
  rename_i ds
  have e : ((tups? ds).bind fun ks => if decide (ks.length < 64) && ks.all pair64 then some (D.lst ((setS ks).map tupI)) else none) = some d' := e
  obtain ⟨ks, e1, e⟩ := Option.bind_eq_some_iff.mp e
  split at e
  · rename_i hc
    cases e
    rw [Bool.and_eq_true, decide_eq_true_eq] at hc
    obtain ⟨a, vs, rfl, g1, g2⟩ := o.lst_v hm
    obtain ⟨ps, q1, q2, q3⟩ := tups_owd g2 e1
    have hlen : ps.length = ks.length := by rw [← q2, List.length_map]
    have hpr : ∀ p ∈ ps, pair64 p.2 = true := fun p hp => List.all_eq_true.mp hc.2 p.2 (by rw [← q2]; exact List.mem_map_of_mem hp)
    refine ⟨a, ps, rfl, by rw [← q1]; exact g1, fun p hp => (q3 p hp).1, by rw [hlen]; exact hc.1, fun s L hs hsub hall => ?_⟩
    have q4 : ∀ p ∈ ps, Ow B O (upd H s (SetTO P w s L)) .v (tupI p.2) (.ref p.1) [] := fun p hp => (q3 p hp).2.fr (fr_new hs) fun _ z => nomatch z
    refine ⟨s, L, 2, 64, rfl, upd_same, fun p hp => sq_of (q4 p (hsub p hp)), by decide, fun p hp => ?_, fun L' p pm nd few pw hp => ?_⟩
    · have := hpr p (hsub p hp)
      obtain ⟨pa, k⟩ := p
      match k, this with
      | [x, y], h =>
        simp only [pair64, Bool.and_eq_true, decide_eq_true_eq] at h
        refine ⟨rfl, fun m hm => ?_⟩
        simp only [List.mem_cons, List.not_mem_nil, or_false] at hm
        rcases hm with rfl | rfl <;> omega
    · have hps : H p = none := by
        by_cases z : p = s
        · rw [z]; exact hs
        · rw [upd_ne z] at hp; exact hp
      have hl2 : Live O (upd H s (SetTO P w s L)) := fun a ha => by
        obtain ⟨o, e, k⟩ := hl a ha
        exact ⟨o, by rw [upd_ne fun z => by rw [z, hs] at e; cases e]; exact e, k⟩
      have sub : ∀ r ∈ L', r ∈ ps := fun r hr => hsub r (pm.mem_iff.mp hr)
      have es : setS ks = L'.map (·.2) := by
        refine setS_eq hc.2 nd (List.pairwise_map.mpr (pw.imp_of_mem fun {a b} ha hb h => ?_)) fun x => ⟨fun hx => ?_, fun hx => ?_⟩
        · have h1 := hpr a (sub a ha)
          have h2 := hpr b (sub b hb)
          revert h h1 h2
          generalize a.2 = k
          generalize b.2 = l
          intro h h1 h2
          match k, l, h1, h2, h with
          | [x, y], [x', y'], _, _, h =>
            rw [code_pair, code_pair] at h
            exact h
        · obtain ⟨r, hr, rfl⟩ := List.mem_map.mp hx
          rw [← q2]
          exact List.mem_map_of_mem (sub r hr)
        · rw [← q2] at hx
          obtain ⟨r, hr, rfl⟩ := List.mem_map.mp hx
          obtain ⟨r', hr', e⟩ := List.mem_map.mp (hall r hr)
          exact List.mem_map.mpr ⟨r', pm.mem_iff.mpr hr', e⟩
      refine q _ _ [p] (fun a o hn e => ?_) (fun z hz => by rw [List.mem_singleton.mp hz]; exact hps) (by simp) ?_
      · have h1 : a ≠ s := fun z => by rw [z, hs] at e; cases e
        have h2 : a ≠ p := fun z => by rw [z, hps] at e; cases e
        rw [upd_ne h2, upd_ne h1]
        exact e
      · rw [es, List.map_map]
        exact new_lst hl2 (tups_all fun r hr => q4 r (sub r hr)) hp
  · cases e
section
variable {X : Cx} {C : Cf} {p : Bool} {Γ Γ1 Γ2 : G} {pos pos1 pos2 pos3 pos4 pos5 pp pp2 : Pos} {a : Ex} {ea : Expr} {k : Kd} {σ : VS} {H : Hp}
theorem w_setSort (g : Gd X C) (h1 : X.mg "sorted" = none) (h2 : X.mg "set" = none) (ha : SE X C p Γ ea a k Γ1) (hm : k.md = .v ∨ k.md = .l .v ∨ k.md = .s := by first | exact .inl rfl | exact .inr (.inl rfl) | exact .inr (.inr rfl)) (hg : Gl X "sorted" := by rfl) (hg2 : Gl X "set" := by rfl)
    (na : starEach [ea] X.env = (false, eval ea X.env) :: starEach [] X.env := by rfl) (nb : starEach [.Call (.Name "set" pp2) [ea] [] pos1] X.env = (false, eval (.Call (.Name "set" pp2) [ea] [] pos1) X.env) :: starEach [] X.env := by rfl) :
    SE X C p Γ (.Call (.Name "sorted" pp) [.Call (.Name "set" pp2) [ea] [] pos1] [] pos) (.bi .setSort (.cons a .nil)) (.own (.l .v)) Γ1 :=
  PE.imp (pe_callB (cr_sortedT g.calm) hg h1 (by decide +kernel) (pa_cons (pe_callTy (cr_setOfT g.calm (by have := g.un; omega)) hg2 h2 (by decide +kernel) (pa_cons ha pa_nil na) (by decide) (by decide) na rfl) pa_nil nb) (by decide) (by decide) nb rfl) fun σ H Q h => by
    have h := c_one (r := rSetSort C.B.K X.prog X.w) (m' := .bi .setSort (.cons a .nil)) (f := biSetSort) (fun e => by
      show (evEs C.F (.cons a .nil) e).bind _ = _
      show ((evE C.F a e).bind _).bind _ = _
      cases evE C.F a e <;> rfl) (b_setSort hm) h
    rw [← g.K] at h
    exact h
end
end Mi
namespace Mi
open PySem PySem.Spec PyProof.Rows L2 PySem.W
section
variable {X : Cx} {C : Cf} {p : Bool} {Γ Γ1 Γ2 : G} {pos pos1 pos2 pos3 pos4 pos5 pp pp1 pp2 pp3 pp4 pp5 : Pos} {a : Ex} {ea : Expr} {k : Kd} {σ : VS} {H : Hp} {i j : Nat} {x y ff : Str} {n kk : Nat} {f : Addr} {fd : FuncData} {ps : List Str} {fs : List D → FR} {rf : List Bool} {pm : List Md}
theorem c_oneL {m : Md} {r : List V → Hp → VK → Prop} {m' : Ex} {fn : D → Option D} {m0 : Md} (hj : Γ1[j]? = some (some m0)) (he : ∀ e, evE C.F m' e = (evE C.F a e).bind fun d e1 => ofO (fn d) e1) (hs : B1S C.B r fn k.md m) {Q : VK} (h : tE C p Γ m' (.own m) Γ1 σ H Q) :
    tE C p Γ a k Γ1 σ H (fun x H1 => (∃ v, σ[j]? = some (some v)) ∧ r [x] H1 Q) := by
  obtain ⟨e, S, R, s, o⟩ := h
  have o : Out C σ H S R (OkE C σ H S R p (.own m) Γ1 Q) ((evE C.F a e).bind fun d e1 => ofO (fn d) e1) := by rw [← he]; exact o
  refine (At.start s).ev o fun d e1 x H1 S1 T1 a1 v1 _ o1 => ?_
  obtain ⟨d', hd, q⟩ := Out.ofO o1
  obtain ⟨U, u, ow⟩ := v1.view (fun _ => memL) fun a h => memR (memL h)
  obtain ⟨_, vj, _, _, gj, _, _⟩ := a1.sta.sl.get hj
  exact ⟨⟨vj, gj⟩, hs _ H1 x d d' U Q a1.sta.lives u ow hd fun v H' T po nT ndT ow => a1.fin q po nT ndT ow⟩
theorem c_shr {m : Md} {Q : VK} (hn : noS m = true) (h : tE C p Γ a (.own .v) Γ1 σ H Q) : tE C p Γ a (.own m) Γ1 σ H Q := by
  obtain ⟨e, S, R, s, o⟩ := h
  refine ⟨e, S, R, s, ?_⟩
  revert o
  cases evE C.F a e with
  | bad => exact id
  | err c fs e' => exact id
  | ok d e' =>
    intro q v H' S' T po ps n s vl
    have sub : ∀ a ∈ S' ++ ([] ++ R), a ∈ S' ++ (T ++ R) := fun a ha => (List.mem_append.mp ha).elim memL fun z => memR (memR z)
    refine q v H' S' [] po ps (by simpa using n.left) s.dropL (Ow.frz (Fr.sub sub) vl hn fun a ha hb => ?_)
    have nd := s.nd
    rcases List.mem_append.mp hb with z | z
    · exact disj nd z (memL ha)
    · exact disj (List.nodup_append.mp nd).2.1 ha z
theorem c_vars2 {Q : List V → Hp → Prop} (hi : Γ[i]? = some (some .v)) (hj : Γ[j]? = some (some .v)) (h : tA C true Γ (.cons (.var j) (.cons (.var i) .nil)) [.kd (.own .v), .kd (.own .v)] Γ σ H Q) :
    ∃ v w, σ[j]? = some (some v) ∧ σ[i]? = some (some w) ∧ Q [v, w] H := by
  obtain ⟨e, S, R, s, o⟩ := h
  obtain ⟨d1, v1, U1, g1, g2, g3, g4⟩ := s.sl.get hi
  obtain ⟨d2, v2, U2, k1, k2, k3, k4⟩ := s.sl.get hj
  have z := g4.v_nil
  subst z
  have z := k4.v_nil
  subst z
  refine ⟨v2, v1, k2, g2, ?_⟩
  have o : Out C σ H S R (OkA C σ H S R true [.kd (.own .v), .kd (.own .v)] Γ Q) ((evE C.F (.var j) e).bind fun d e1 => ((evE C.F (.var i) e1).bind fun d' e2 => Mi.R.ok [Ar.d d'] e2).bind fun r e2 => .ok (Ar.d d :: r) e2) := o
  have h1 : evE C.F (.var j) e = .ok d2 e := by
    show (match gt e j with | some d => Mi.R.ok d e | none => Mi.R.bad) = _
    rw [k1]
  have h2 : evE C.F (.var i) e = .ok d1 e := by
    show (match gt e i with | some d => Mi.R.ok d e | none => Mi.R.bad) = _
    rw [g1]
  rw [h1] at o
  simp only [Mi.R.bind] at o
  rw [h2] at o
  have s' : Sta C.B C.M ([] ++ R) Γ e σ H S := s
  have a0 : ArR C.B (S ++ ([] ++ R)) S H σ [.kd (.own .v), .kd (.own .v)] [Ar.d d2, Ar.d d1] [v2, v1] ([] ++ ([] ++ [])) := .kd k4 (.kd g4 .nil)
  exact (show OkA C σ H S R true [.kd (.own .v), .kd (.own .v)] Γ Q [Ar.d d2, Ar.d d1] e from o) [v2, v1] H S [] (Post.refl _ _) (fun _ => rfl) (by simpa using New.refl) s' a0
theorem c_retcall {E : Ends} {vy w : V} (hF : ∀ ds, C.F n ds = fs ds) (ok : okArgs Γ [.kd (.own .v), .kd (.own .v)] rf pm = true) (hx : leG Γ C.GX = true) (lR : leG Γ C.GR = true) (hi : Γ[i]? = some (some .v)) (hj : Γ[j]? = some (some .v)) (hvy : σ[j]? = some (some vy)) (hw : σ[i]? = some (some w))
    (h : tS C Γ (.ret (.call n (.cons (.var j) (.cons (.var i) .nil)))) Γ2 E σ H) : ∃ E' : XK, (∀ cls d H', E' cls d H' → C.W cls d σ H') ∧ spF C.B fs rf pm C.RM [vy, w] H E.rt E' := by
  obtain ⟨e3, S3, R3, s4, o3⟩ := h
  have t3 : tE C false Γ (.call n (.cons (.var j) (.cons (.var i) .nil))) (.own C.RM) Γ σ H E.rt :=
    stm1 (f := fun d e1 => .ok (.ret d) e1) s4 o3 fun d e1 v H1 S1 T1 a1 v1 n1 o1 => by
      obtain ⟨S2, h1, s2⟩ := a1.sta.le lR
      refine o1 v _ H1 S2 T1 a1.po.ite (fun x hx => n1 x ?_) s2 (Ow.fr (Fr.sub fun x hx => ?_) v1 fun _ _ _ z => z)
      · rcases List.mem_append.mp hx with z | z
        · exact memL (h1 x z)
        · exact memR z
      · rcases List.mem_append.mp hx with z | z
        · exact memL (h1 x z)
        · exact memR z
  obtain ⟨e4, S4, R4, s5, o4⟩ := t3
  have t4 : tA C true Γ (.cons (.var j) (.cons (.var i) .nil)) [.kd (.own .v), .kd (.own .v)] Γ σ H fun vs H2 => tCallG σ C (spF C.B fs rf pm C.RM) (vs ++ []) H2 E.rt := by
    have o4 : Out C σ H S4 R4 (OkE C σ H S4 R4 false (.own C.RM) Γ E.rt) ((evEs C.F (.cons (.var j) (.cons (.var i) .nil)) e4).bind fun as e1 => match arD as e1 with
      | some ds => callR (C.F n ds) as e1
      | none => .bad) := o4
    refine (At.start s5).evA o4 fun as e2 vs H2 S2 T2 a2 v2 _ nw o2 => ?_
    rw [List.append_nil]
    refine c_call0 a2 v2 ok (v2.len.trans (okArgs.len ok)) hx fun ds hd => ?_
    rw [hd] at o2
    rw [← hF]
    exact o2
  obtain ⟨v', w', g1, g2, E', g3, g4⟩ := c_vars2 hi hj t4
  rw [hvy] at g1
  cases g1
  rw [hw] at g2
  cases g2
  exact ⟨E', g3, g4⟩
theorem s_setCall (g : Gd X C) (h1 : X.mg "sorted" = none) (h2 : X.mg "set" = none) (F : FnG X.prog X.w X.K X.mg X.base kk f fd ps (spF C.B fs rf pm C.RM)) (hF : ∀ ds, C.F n ds = fs ds) (hr : Room kk X.A) (hm : X.mg ff = some (.ref f)) (hk : PySem.W.keepIn X.K (.ref f) = true) (hb : Binds X.K fd ps [])
    (ha : SE X C p Γ ea a k Γ1) (hW : ∀ cls d σ σ' H, C.W cls d σ H → C.W cls d σ' H) (hkm : k.md = .v ∨ k.md = .l .v ∨ k.md = .s := by first | exact .inl rfl | exact .inr (.inl rfl) | exact .inr (.inr rfl))
    (hi : X.N[i]? = some x := by rfl) (hj : X.N[j]? = some y := by rfl) (hij : j ≠ i := by decide) (hl : i < Γ1.length := by decide) (hM : C.M.mi.contains i = false := by rfl) (hGj : Γ1[j]? = some (some .v) := by rfl)
    (ok : okArgs (Γ1.set i (some .v)) [.kd (.own .v), .kd (.own .v)] rf pm = true := by rfl) (hx : leG (Γ1.set i (some .v)) C.GX = true := by rfl) (lR : leG (Γ1.set i (some .v)) C.GR = true := by rfl)
    (lx : Loc X.env.scope x := by first | exact .inl rfl | exact .inr rfl) (fx : X.fn x = true ∨ X.env.scope.names.lookup x = some .local := by first | exact .inl rfl | exact .inr rfl)
    (vx : Vis X.env.scope x := by first | exact Or.inl rfl | exact Or.inr (Or.inl rfl) | exact Or.inr (Or.inr rfl)) (vy : Vis X.env.scope y := by first | exact Or.inl rfl | exact Or.inr (Or.inl rfl) | exact Or.inr (Or.inr rfl))
    (hdx : (x == ("__debug__" : Str)) = false := by decide) (hcx : (x == ("__classdict__" : Str)) = false := by decide) (hdy : (y == ("__debug__" : Str)) = false := by decide) (hcy : (y == ("__classdict__" : Str)) = false := by decide)
    (hg1 : Gl X "sorted" := by rfl) (hg2 : Gl X "set" := by rfl) (hg : Gl X ff := by rfl) (hdb : (ff == ("__debug__" : Str)) = false := by decide)
    (hs : swapsWith (.Call (.Name "set" pp) [ea] [] pos) (some (.Name x pp1)) pos1.line X.env = pure false := by rfl)
    (na : starEach [ea] X.env = (false, eval ea X.env) :: starEach [] X.env := by rfl)
    (nx : starEach [.Name x pp4] X.env = (false, eval (.Name x pp4) X.env) :: starEach [] X.env := by rfl)
    (ny : starEach [.Name y pp3, .Call (.Name "sorted" pp5) [.Name x pp4] [] pos2] X.env = (false, eval (.Name y pp3) X.env) :: starEach [.Call (.Name "sorted" pp5) [.Name x pp4] [] pos2] X.env := by rfl)
    (nz : starEach [.Call (.Name "sorted" pp5) [.Name x pp4] [] pos2] X.env = (false, eval (.Call (.Name "sorted" pp5) [.Name x pp4] [] pos2) X.env) :: starEach [] X.env := by rfl)
    (hpl : (backTo pos3 (starEach [.Call (.Name "sorted" pp5) [.Name x pp4] [] pos2] X.env)).any (·.1) = false := by rfl) :
    SSs X C Γ [.Assign [.Name x pp1] (.Call (.Name "set" pp) [ea] [] pos) pos1, .Return (some (.Call (.Name ff pp2) [.Name y pp3, .Call (.Name "sorted" pp5) [.Name x pp4] [] pos2] [] pos3)) pos4]
      (.seq (.asg (.nm i) (.bi .setSort (.cons a .nil))) (.ret (.call n (.cons (.var j) (.cons (.var i) .nil))))) Γ2 :=
  PSs.imp (pss_cons (ps_set g.nd hi lx (pe_callTy (cr_setOfT g.calm (by have := g.un; omega)) hg2 h2 (by decide +kernel) (pa_cons ha pa_nil na) (by decide) (by decide) na rfl) hs fx)
    (pss_one (ps_ret (peG_call g F hr hm hk hb .nil (pa_cons (pe_var hj vy hdy hcy) (pa_cons (pe_callB (cr_sortedT g.calm) hg1 h1 (by decide +kernel) (pa_cons (pe_var hi vx hdx hcx) pa_nil nx) (by decide) (by decide) nx rfl) pa_nil nz) ny) hg hdb ny hpl)))) fun E σ H h => by
    have h := c_seq (Γ1 := Γ1.set i (some .v)) h
    obtain ⟨e, S, R, s, o⟩ := h
    have t1 : tE C p Γ (.bi .setSort (.cons a .nil)) (.own .v) Γ1 σ H fun v H1 => tS C (Γ1.set i (some .v)) (.ret (.call n (.cons (.var j) (.cons (.var i) .nil)))) Γ2 E (σ.set i (some v)) H1 :=
      stm1 (f := fun d e1 => .ok .nxt (st e1 i (some d))) s o fun d e1 v H1 S1 T1 a1 v1 n1 o1 => by
        obtain ⟨S', h1, h2⟩ := a1.sta.bind v1 hl hM
        exact o1 _ H1 S' a1.po.ite (fun x hx => n1 x (h1 x hx)) h2
    have t2 := c_oneL (r := rSetSort C.B.K X.prog X.w) (m := .l .v) (fn := biSetSort) hGj (fun e => by
      show (evEs C.F (.cons a .nil) e).bind _ = _
      show ((evE C.F a e).bind _).bind _ = _
      cases evE C.F a e <;> rfl) (b_setSort hkm) (c_shr (m := .l .v) rfl t1)
    rw [← g.K] at t2
    refine (show tE C p Γ a k Γ1 σ H _ from ?_)
    obtain ⟨e2, S2, R2, s2, o2⟩ := t2
    refine ⟨e2, S2, R2, s2, ?_⟩
    revert o2
    cases evE C.F a e2 with
    | bad => exact id
    | err c fs e' => exact id
    | ok d e' =>
      intro o2 v2 H' S' T po ps nn s3 w3
      obtain ⟨⟨vy, hvy⟩, l, ks, q1, q2, q3, q4, q5⟩ := o2 v2 H' S' T po ps nn s3 w3
      cases q1
      refine ⟨l, ks, rfl, q2, q3, q4, fun s0 L hs0 hsub hall => ?_⟩
      have r1 := q5 s0 L hs0 hsub hall
      obtain ⟨s1, L1, d1, B1, z1, r2, r3, r4, r5, r6⟩ := r1
      cases z1
      have il : i < σ.length := by
        rw [s3.sl.len]
        exact hl
      refine ⟨vy, by rw [List.getElem?_set_ne (Ne.symm hij)]; exact hvy, .ref s0, List.getElem?_set_self il, ?_⟩
      refine ⟨s0, L1, d1, B1, rfl, r2, r3, r4, r5, fun L' p0 c1 c2 c3 c4 c5 => ?_⟩
      obtain ⟨E', g3, g4⟩ := c_retcall (vy := vy) (w := .ref p0) hF ok hx lR (by rw [List.getElem?_set_self hl]) (by rw [List.getElem?_set_ne (Ne.symm hij)]; exact hGj) (by rw [List.getElem?_set_ne (Ne.symm hij)]; exact hvy) (List.getElem?_set_self il) (r6 L' p0 c1 c2 c3 c4 c5)
      exact ⟨E', fun cls d H' q => hW _ _ _ _ _ (g3 cls d H' q), g4⟩
end
end Mi
namespace Mi
open PySem PySem.Spec PyProof.Rows L2 PySem.W
theorem nerr_var (F : FS) (i : Nat) (e : Env) (c : Nat) (fs : List D) (e' : Env) : evE F (.var i) e ≠ .err c fs e' := by
  show (match gt e i with | some d => Mi.R.ok d e | none => Mi.R.bad) ≠ _
  cases gt e i <;> exact fun h => by cases h
theorem nerr_cst (F : FS) (d : D) (e : Env) (c : Nat) (fs : List D) (e' : Env) : evE F (.cst d) e ≠ .err c fs e' := fun h => by
  have h : Mi.R.ok d e = .err c fs e' := h
  cases h
theorem findD_at (a : D) : ∀ (ds : List D) (n k : Nat), findD a n ds = some k → ∃ j z, k = n + j ∧ ds[j]? = some z ∧ eqD z a = true ∧ ∀ (m : Nat) (z' : D), m < j → ds[m]? = some z' → eqD z' a = false
  | [], n, k, h => by cases h
  | d :: ds, n, k, h => by
    have h : (if eqD d a then some n else findD a (n + 1) ds) = some k := h
    split at h
    · rename_i hd
      cases h
      exact ⟨0, d, rfl, rfl, hd, fun m z' hm => absurd hm (by omega)⟩
    · rename_i hd
      obtain ⟨j, z, h1, h2, h3, h4⟩ := findD_at a ds (n + 1) k h
      refine ⟨j + 1, z, by omega, by simpa using h2, h3, fun m z' hm hz => ?_⟩
      cases m with
      | zero =>
        have hz : d = z' := by simpa using hz
        subst hz
        simpa using hd
      | succ m => exact h4 m z' (by omega) (by simpa using hz)
theorem toPDs_get : ∀ (ds : List D) (j : Nat), (toPDs ds)[j]? = (ds[j]?).map toPD
  | [], j => by simp [toPDs]
  | d :: ds, 0 => rfl
  | d :: ds, j + 1 => by
    show (toPDs ds)[j]? = _
    rw [toPDs_get ds j]
    simp
theorem b_index {B : Tb} {m1 m2 m : Md} (hm : m1 = .v ∨ m1 = .l .v ∨ m1 = .s) : B2S B (fun vs H Q => ∃ x y, vs = [x, y] ∧ rIndexD B.K x [y] H Q) biIndex m1 m2 m := fun O H x y d1 d2 d' U W Q hl u w o1 o2 e q => by
  cases d1 <;> first | (cases e; done) | skip
  rename_i ds
  have e : (if shp SD d2 ∧ ds.all (shp SD) then (findD d2 0 ds).map fun (n : Nat) => D.int (n : Int) else none) = some d' := e
  split at e
  · rename_i h
    obtain ⟨n, h1, rfl⟩ := Option.map_eq_some_iff.mp e
    obtain ⟨j, z, rfl, h2, h3, h4⟩ := findD_at d2 ds 0 n h1
    have hs : shp (SD + 1) (.lst ds) = true := h.2
    have hall := List.all_eq_true.mp h.2
    refine ⟨x, y, rfl, ?_⟩
    have dx := o1.dp (SD + 1) _ _ _ _ hs
    obtain ⟨a, vs, rfl, g1, g2⟩ := o1.lst_v hm
    refine ⟨a, y, toPD d2, toPDs ds, j, toPD z, rfl, rfl, dx, o2.dp SD _ _ _ _ h.1, shp_shaped (n := SD + 1) (d := .lst ds) (by decide) hs, shp_shaped (by decide) h.1, by rw [toPDs_get, h2]; rfl, ?_, fun m z' hm hz => ?_, ?_⟩
    · rw [eqD_eqv SD _ _ (hall z (List.mem_of_getElem? h2)) h.1]
      exact h3
    · rw [toPDs_get] at hz
      obtain ⟨z2, k1, rfl⟩ := Option.map_eq_some_iff.mp hz
      rw [eqD_eqv SD _ _ (hall z2 (List.mem_of_getElem? k1)) h.1]
      exact h4 m z2 hm k1
    · rw [Nat.zero_add] at q
      exact q _ _ [] (Post.refl _ _) (by simp) List.nodup_nil .int
  · cases e
section
variable {X : Cx} {C : Cf} {p p2 : Bool} {Γ Γ1 Γ2 : G} {pos apos : Pos} {a b : Ex} {ea eb : Expr} {k k2 : Kd} {σ : VS} {H : Hp}
theorem c_index {Q : VK} (hk : k.md = .v ∨ k.md = .l .v ∨ k.md = .s) (hp : k.isB = true → p2 = true) (hb : ∀ e c fs e', evE C.F b e ≠ .err c fs e') (h : tE C (p && p2) Γ (.bi .index (.cons a (.cons b .nil))) (.own .v) Γ2 σ H Q) :
    tE C p Γ a k Γ1 σ H fun x H1 => tyV C.B.K "list" x H1 ∧ tE C p2 Γ1 b k2 Γ2 σ H1 fun y H2 => rIndexD C.B.K x [y] H2 Q := by
  obtain ⟨e, S, R, s, o⟩ := h
  have he : evE C.F (.bi .index (.cons a (.cons b .nil))) e = (evE C.F a e).bind fun d1 e1 => (evE C.F b e1).bind fun d2 e2 => ofO (biIndex d1 d2) e2 := by
    show (evEs C.F (.cons a (.cons b .nil)) e).bind _ = _
    show ((evE C.F a e).bind _).bind _ = _
    cases evE C.F a e with
    | bad => rfl
    | err => rfl
    | ok d1 e1 =>
      show (((evE C.F b e1).bind _).bind _).bind _ = (evE C.F b e1).bind _
      cases evE C.F b e1 <;> rfl
  have o : Out C σ H S R (OkE C σ H S R (p && p2) (.own .v) Γ2 Q) ((evE C.F a e).bind fun d1 e1 => (evE C.F b e1).bind fun d2 e2 => ofO (biIndex d1 d2) e2) := he ▸ o
  refine (At.start s).evN o fun d e1 x H1 S1 T1 a1 v1 _ n1 o1 => ⟨?_, ?_⟩
  · obtain ⟨U, u, ow⟩ := v1.view (fun _ => memL) fun a h => memR (memL h)
    by_cases hd : isTy .list d = true
    · exact ty_lst ow hd
    · exfalso
      revert o1
      cases h1 : evE C.F b e1 with
      | bad => exact id
      | err c fs e' => exact fun _ => hb _ _ _ _ h1
      | ok d2 e2 =>
        cases d <;> first | exact id | exact absurd rfl hd
  · refine a1.ev o1 fun d2 e2 y H2 S2 T2 a2 v2 hold o2 => ?_
    obtain ⟨d', hd, q⟩ := Out.ofO o2
    have w1 := hold _ _ _ _ v1 (fun _ => memL) hp
    obtain ⟨U1, u1, ow1⟩ := w1.view (fun _ => memL) fun a h => memR (memR (memL h))
    obtain ⟨U2, u2, ow2⟩ := v2.view (fun _ => memL) fun a h => memR (memL h)
    obtain ⟨x', y', e1, r⟩ := b_index (m := .v) hk _ H2 x y d d2 d' U1 U2 Q a2.sta.lives u1 u2 ow1 ow2 hd fun v H' T po nT ndT ow => a2.fin q po nT ndT ow
    cases e1
    exact r
theorem w_index (g : Gd X C) (ha : SE X C p Γ ea a k Γ1) (hb : SE X C p2 Γ1 eb b k2 Γ2) (hn : ∀ e c fs e', evE C.F b e ≠ .err c fs e') (hm : k.md = .v ∨ k.md = .l .v ∨ k.md = .s := by first | exact .inl rfl | exact .inr (.inl rfl) | exact .inr (.inr rfl)) (hp : k.isB = true → p2 = true := by first | exact fun _ => rfl | exact fun h => nomatch h)
    (hbase : attributeBase ea "index" X.env (eval ea X.env) = eval ea X.env := by rfl)
    (hfew : ((backTo pos (starEach [eb] X.env)).all (fun x => !x.1) && (backToKw pos (keywordEach [] X.env)).all (fun x => x.1.isSome)
      && decide ([eb].length + ([] : List Keyword).length + (if ([] : List Keyword).isEmpty then 0 else 1) < 30)) = true := by rfl)
    (hline : (apos.endLine == pos.line) = true := by rfl) (hs : starEach [eb] X.env = (false, eval eb X.env) :: starEach [] X.env := by rfl) :
    SE X C (p && p2) Γ (.Call (.Attribute ea "index" apos) [eb] [] pos) (.bi .index (.cons a (.cons b .nil))) (.own .v) Γ2 :=
  PE.imp (pe_bm PySem.F.plainAttrs_list PySem.F.slot_list_index PySem.F.type_list_index (mt_indexD (by have := g.un; omega)) ha (pa_cons hb pa_nil hs) hbase hfew hline hs rfl) fun σ H Q h => by
    have h := c_index (k2 := k2) (Γ1 := Γ1) hm hp hn h
    rw [g.K]
    exact h
variable {x : Str} {i : Nat} {pos' : Pos}
theorem m_clear (g : Gd X C) (hN : X.N[i]? = some x := by rfl) (hm0 : Γ[i]? = some (some (.l .v)) := by rfl) (hv : Vis X.env.scope x := by first | exact Or.inl rfl | exact Or.inr (Or.inl rfl) | exact Or.inr (Or.inr rfl))
    (hd : (x == ("__debug__" : Str)) = false := by decide) (hcd : (x == ("__classdict__" : Str)) = false := by decide)
    (hbase : attributeBase (.Name x pos') "clear" X.env (eval (.Name x pos') X.env) = eval (.Name x pos') X.env := by rfl) (hline : (apos.endLine == pos.line) = true := by rfl) :
    SE X C false Γ (.Call (.Attribute (.Name x pos') "clear" apos) [] [] pos) (.mut .clear (.sl i) .nil) (.own .v) Γ :=
  w_mut0 PySem.F.plainAttrs_list PySem.F.slot_list_clear PySem.F.type_list_clear mt_clear mu_clear g (fun _ _ _ _ _ ow h => ty_lst ow h) hN hm0 hv hd hcd hbase hline
end
end Mi
namespace Mi
open PySem PySem.Spec PyProof.Rows L2
section
variable {X : Cx} {C : Cf} {p : Bool} {Γ Γ1 Γ2 Γ3 Γ' : G} {pos : Pos}
theorem s_for1 {tg it : Expr} {t : Tg} {i : Mi.It} {body : List Stmt} {b : Sm} (g : Gd X C) (hi : SI X C p Γ tg it i Γ1) (l1 : leG Γ1 Γ2 = true) (hg : SG X C Γ2 tg t Γ') (hb : SSs X C Γ' body b Γ3) (ne : ∀ e ds e1, evIt C.F i e = .ok ds e1 → 0 < ds.length) (l2 : leG Γ2 Γ2 = true := by rfl) (l3 : leG Γ3 Γ2 = true := by rfl)
    (hs : ∀ x, foldedSetIterable it X.env x = pure x := by intro _; rfl) : SS X C Γ (.For tg it body [] pos) (.forr t i b) Γ3 :=
  PS.imp (ps_for g.own g.calm hi hg hb hs) fun E σ H ⟨e, S, R, s, o⟩ => by
    have o : OutS C E H S R Γ3 ((evIt C.F i e).bind fun xs e1 => forL (bindT t) (fun e => evS C.F C.sb b e) xs e1) := o
    refine ⟨e, S, R, s, ?_⟩
    have ne := ne e
    revert ne
    revert o
    cases evIt C.F i e with
    | bad => exact fun o => o.elim
    | err c fs e' => exact fun o _ => (o.out (σ := σ))
    | ok ds e1 =>
    intro o1 ne
    have ne := ne ds e1 rfl
    have o1 : OutS C E H S R Γ3 (forL (bindT t) (fun e => evS C.F C.sb b e) ds e1) := o1
    intro j H1 S1 T1 po ps n1 s1 y1
    have po := po.ite
    obtain ⟨S2, k1, s2⟩ := s1.le l1
    have y2 : Yld C.B ds j S2 (T1 ++ R) H1 := fun O' H' po n lv => y1 O' H' (po.mono fun a ha => memL (k1 a ha)) (fun a ha => (n a ha).imp (fun z => (List.mem_append.mp z).elim (fun w => memL (memL (k1 a w))) fun w => (List.mem_append.mp w).elim memR fun w => memL (memR w)) id) lv
    have n2 : New S H S2 := fun a ha => n1 a (memL (k1 a ha))
    refine ⟨fun i m σ' H' => i + m = ds.length ∧ ∃ e' S', Post S2 H1 H' ∧ New S2 H1 S' ∧ Sta C.B C.M (T1 ++ R) (if i = 0 then Γ2 else Γ3) e' σ' H' S' ∧ OutS C E H' S' R Γ3 (forL (bindT t) (fun e => evS C.F C.sb b e) (ds.drop i) e'),
      ⟨ds.length, by simp, e1, S2, Post.refl _ _, New.refl, by rw [if_pos rfl]; exact s2, by simpa using OutS.step o1 po n2⟩, ?_⟩
    rintro i m σ3 H3 ⟨him, e3, S3, po3, n3, s3, o3⟩
    have s3b := s3
    have o3b := o3
    obtain ⟨st, go⟩ := y2 (S3 ++ (T1 ++ R)) H3 po3 (fun a ha => (List.mem_append.mp ha).elim (fun z => (n3 a z).imp memL id) fun z => .inl (memR z)) s3.lives
    by_cases hi : i < ds.length
    · obtain ⟨S3', k3, s3'⟩ := s3.le (Γ' := Γ2) (by split <;> assumption)
      have o3 := OutS.step o3 (Post.refl S3 H3) (fun a ha => .inl (k3 a ha) : New S3 H3 S3')
      have n3 : New S2 H1 S3' := fun a ha => n3 a (k3 a ha)
      clear s3 s3b o3b
      have s3 := s3'
      have hd : ds[i]? = some ds[i] := List.getElem?_eq_getElem hi
      obtain ⟨g1, g2⟩ := go i _ hd
      refine .inr ⟨g1, fun σ' H' => ∃ e' S', Post S2 H1 H' ∧ New S2 H1 S' ∧ Sta C.B C.M (T1 ++ R) Γ3 e' σ' H' S' ∧ OutS C E H' S' R Γ3 (forL (bindT t) (fun e => evS C.F C.sb b e) (ds.drop (i + 1)) e'), fun σ' H' hN => ⟨m - 1, by omega, by omega, by rw [if_neg (Nat.succ_ne_zero i)]; exact hN⟩, fun x H4 hy => ?_⟩
      obtain ⟨q1, q2⟩ := g2 x H4 hy
      rw [List.drop_eq_getElem_cons hi] at o3
      have o3 : OutS C E H3 S3' R Γ3 (match bindT t ds[i] e3 with
        | none => .bad
        | some e1 => match evS C.F C.sb b e1 with
          | .ok .nxt e2 => forL (bindT t) (fun e => evS C.F C.sb b e) (ds.drop (i + 1)) e2
          | r => r) := o3
      cases hbt : bindT t ds[i] e3 with
      | none => rw [hbt] at o3; exact o3.elim
      | some e4 =>
        rw [hbt] at o3
        dsimp only at o3
        have s4 : Sta C.B C.M (T1 ++ R) Γ2 e3 σ3 H4 S3' := s3.grow q1 (List.nodup_append.mp s3.nd).2.1 (s3.live.post q1 fun _ _ z => nomatch z) fun _ h => .inl h
        refine ⟨ds[i], e3, S3', T1 ++ R, s4, Ow.fr (Fr.sub fun a ha => (List.mem_append.mp ha).elim (fun z => memL (k3 a z)) memR) q2 fun _ _ _ z => z, e4, hbt, fun σ5 S5 _ k5 s5 => ⟨e4, S5, T1 ++ R, s5, ?_⟩⟩
        have p34 : Post S3' H3 H4 := q1.nil _
        have n35 : New S3' H3 S5 := fun a ha => .inl (k5 a ha)
        cases hev : evS C.F C.sb b e4 with
        | bad => rw [hev] at o3; exact o3
        | err c fs e' =>
          rw [hev] at o3
          intro cls dx σ' H' S' hp hn hs hx
          exact (show ErrS C H3 S3' R c fs e' from o3) cls dx σ' H' S' (p34.trans n35 hp) (n35.trans p34 hn) hs.dropL (hx.fr (Fr.sub fun a ha => (List.mem_append.mp ha).elim memL fun z => memR (memR z)))
        | ok fl e5 =>
          rw [hev] at o3
          cases fl with
          | nxt =>
            intro σ' H' S' hp hn hs
            refine ⟨e5, S', po3.trans n3 (p34.trans n35 hp), n3.trans po3 (n35.trans p34 hn), hs, OutS.step o3 (p34.trans n35 hp) (n35.trans p34 hn)⟩
          | ret d =>
            intro v σ' H' S' T hp hn hs ow
            have nd := List.nodup_append.mp (List.nodup_append.mp hs.nd).2.1
            have hndR : R.Nodup := (List.nodup_append.mp s.nd).2.1
            have sub : ∀ a ∈ T ++ R, a ∈ T ++ (T1 ++ R) := fun a ha => (List.mem_append.mp ha).elim memL fun z => memR (memR z)
            have ndTR : (T ++ R).Nodup := List.nodup_append.mpr ⟨nd.1, hndR, fun x hx y hy z => nd.2.2 x hx y (memR hy) z⟩
            exact (show ∀ v σ' H' S' T, Post S3' H3 H' → New S3' H3 (S' ++ T) → Sta C.B C.M (T ++ R) C.GR e5 σ' H' S' → Ow C.B (S' ++ (T ++ R)) H' C.RM d v T → E.rt v H' from o3) v σ' H' S' T (p34.trans n35 hp) (n35.trans p34 hn) (hs.drop ndTR sub)
              (Ow.fr (Fr.sub fun a ha => (List.mem_append.mp ha).elim memL fun z => memR (sub a z)) ow fun _ _ _ z => z)
    · have hz : ds.drop i = [] := List.drop_eq_nil_of_le (by omega)
      rw [hz] at o3
      rw [if_neg (by omega)] at s3
      exact .inl ⟨st i (by omega), (show ∀ σ' H' S', Post S3 H3 H' → New S3 H3 S' → Sta C.B C.M R Γ3 e3 σ' H' S' → E.nx σ' H' from o3) σ3 H3 S3 (Post.refl _ _) New.refl s3.dropL⟩
theorem ne_rng (F : FS) {k : Int} (hk : 0 < k) (e : Env) (ds : List D) (e1 : Env) (h : evIt F (.rng (.cons (.cst (.int k)) .nil)) e = .ok ds e1) : 0 < ds.length := by
  have h : (if k.natAbs < LIM then Mi.R.ok (rngD 0 k.toNat) e else Mi.R.bad) = .ok ds e1 := h
  split at h
  · cases h
    unfold rngD
    rw [List.length_map, List.length_range]
    omega
  · cases h
end
end Mi
set_option maxRecDepth 100000
namespace Mi
open PySem PySem.Spec PyProof.Rows L2 PySem.W
section
variable {prog : Program} {w : World} {A : Around} {E : Value → Shared → Prop} {s : Shared}
theorem sl_back {sl : Addr} {vl vu vs : Value} {n : Nat} {Q : Int × Int × Nat → Shared → Prop} (hs : s.heap.IsSliceOf sl vl vu vs) (pl : IsPart vl none) (pu : IsPart vu none) (ps : IsPart vs (some (-1))) (h : Q ((n : Int) - 1, -1, n) s) :
    wpAny (model prog w) A (Builtin.Slice.sliceApplied (.ref sl) (pure (n : Int))) Q E s := by
  obtain ⟨o, ho, _, hd⟩ := id hs
  unfold Builtin.Slice.sliceApplied Builtin.Slice.sliceFields
  refine wpAny_bind (wpAny_bind (wpAny_field ho hd (x := vl) rfl (wpAny_bind (wpAny_field ho hd (x := vu) rfl (wpAny_bind (wpAny_field ho hd (x := vs) rfl (wpAny_pure ?_)))))))
  refine wpAny_bind (HT.slicePart_ ps ?_)
  show wpAny _ _ (if ((-1 : Int) == 0) = true then _ else _) _ _ s
  rw [if_neg (by decide)]
  refine wpAny_bind (HT.slicePart_ pl (wpAny_bind (HT.slicePart_ pu (wpAny_bind (wpAny_pure ?_)))))
  have e2 : Builtin.Slice.slicePlaces ((n : Int) - 1) (-1) (-1) = n := by
    unfold Builtin.Slice.slicePlaces
    rw [if_neg (by decide)]
    by_cases hn : n = 0
    · subst hn; decide
    · rw [if_pos (by omega)]
      have : ((n : Int) - 1 - -1 - 1) / (- -1) = (n : Int) - 1 := by
        rw [show (- -1 : Int) = 1 by decide, Int.ediv_one]; omega
      rw [this]; omega
  show wpAny _ _ (pure ((n : Int) - 1, (-1 : Int), Builtin.Slice.slicePlaces ((n : Int) - 1) (-1) (-1))) _ _ s
  rw [e2]
  exact wpAny_pure h
theorem pick_back (xs : Array Value) : ((List.range xs.size).filterMap fun (m : Nat) => xs[((xs.size : Int) - 1 + (m : Int) * (-1)).toNat]?).toArray = xs.toList.reverse.toArray := by
  congr 1
  have e : (List.range xs.size).filterMap (fun (m : Nat) => xs[((xs.size : Int) - 1 + (m : Int) * (-1)).toNat]?) = ((List.range xs.size).map fun k => xs.size - 1 - k).filterMap (xs[·]?) := by
    rw [List.filterMap_map]
    congr 1
    funext m
    have : ((xs.size : Int) - 1 + (m : Int) * (-1)).toNat = xs.size - 1 - m := by omega
    rw [this]
    rfl
  rw [e, krv_range, List.filterMap_reverse, krv_all]
theorem tup_back {t sl : Addr} {items : Array Value} {vl vu vs : Value} {Q : Value → Shared → Prop} (ht : IsTup s.heap t items) (hs : s.heap.IsSliceOf sl vl vu vs) (pl : IsPart vl none) (pu : IsPart vu none) (ps : IsPart vs (some (-1)))
    (h : Q (.ref s.heap.objs.size) { s with heap := s.heap.push { cls := .type "tuple", data := .seq items.toList.reverse.toArray } }) (hz : items.size ≤ sizeLine) : wpAny (model prog w) A (getItem (.ref t) (.ref sl)) Q E s := by
  obtain ⟨o, ho, hc, _⟩ := id hs
  have ts : s.TypeIs (.ref sl) "slice" := ⟨o, ho, hc⟩
  have fit : sizeOk (.seq items.toList.reverse.toArray) := by
    show items.toList.reverse.toArray.size ≤ sizeLine
    rw [List.size_toArray, List.length_reverse, Array.length_toList]; exact hz
  unfold getItem
  try with_reducible refine wpAny_holding ?_
  first | refine wpAny_bind (wpAny_pure ?_) | skip
  refine wpAny_bind (wpAny_sequenceKey ht.typeIs (by decide) (wpAny_bind (wpAny_callSpecial?_slot (name := Str.ofString "__getitem__") ht.typeIs PyProof.Rows.slot_tuple_getitem
    (wpAny_call_entry PyProof.Rows.slot_tuple_getitem ht.typeIs PyProof.Rows.entry_tuple_getitem ?_ (PyProof.Rows.args_tuple_getitem _ _)))))
  show wpAny _ _ (Builtin.Tuple.tupleItemsOf (.ref t) >>= _) _ _ s
  refine wpAny_bind (PyProof.Rows.tupleItemsOf_ ht (wpAny_bind (wpAny_typeOf ts ?_)))
  rw [if_pos (by decide)]
  refine wpAny_bind (sl_back hs pl pu ps ?_)
  have no : ¬ (((items.size : Int) - 1 == 0 && (-1 : Int) == 1 && items.size == items.size) = true) := by
    intro q
    rw [Bool.and_eq_true, Bool.and_eq_true] at q
    exact absurd q.1.2 (by decide)
  show wpAny _ _ (if ((items.size : Int) - 1 == 0 && (-1 : Int) == 1 && items.size == items.size) = true then _ else _) _ _ s
  rw [if_neg no, pick_back]
  first
    | exact wpAny_bind (m := Builtin.Tuple.tupleExact _) (wpAny_newObj_type (wpAny_pure ⟨_, rfl, wpAny_pure h⟩) fit)
    | exact wpAny_bind (m := Builtin.Tuple.tupleExact _) (wpAny_newObj_type (wpAny_bind (wpAny_pure (wpAny_pure ⟨_, rfl, wpAny_pure h⟩))) fit)
    | exact wpAny_bind (wpAny_bind (m := Builtin.Tuple.tupleExact _) (wpAny_newObj_type (wpAny_pure (wpAny_pure ⟨_, rfl, wpAny_pure h⟩)) fit))
end
theorem pe_revT {X : Cx} {e : Expr} {te : TE} {k : Nat} {p1 p2 p3 pos : Pos} (he : PE X e te) : PE X (.Subscript e (.Slice none none (some (.UnaryOp .USub (.Constant (.int 1) k p1) p2)) p3) pos) (fun σ H Q => te σ H fun x H1 => ∃ a xs, x = .ref a ∧ SqT X.K H1 a xs ∧ ∀ p, H1 p = none → Q (.ref p) (upd H1 p (.tup xs.reverse))) := by
  constructor
  intro pins s σ H Q I h
  refine Subscript_ (thn (he.run pins s σ H _ I h) fun v s1 ⟨x, H1, I1, r1, a, xs, ex, hx, q⟩ => ?_)
  subst ex
  cases r1
  have step : PO X (some (.UnaryOp .USub (.Constant (.int 1) k p1) p2)) (tPart (tUn (rU fun i => .int (-i)) (tC (.int 1)))) := po_some (pe_un un_neg pe_int)
  refine wpAny_Slice (thn (po_none.run pins s1 σ H1 (fun o H2 => o = none ∧ H2 = H1) I1 ⟨rfl, rfl⟩) fun vl s2 ⟨l, H2, I2, pl, el, e2⟩ => ?_)
  subst el e2
  refine thn (po_none.run pins s2 σ H2 (fun o G => o = none ∧ G = H2) I2 ⟨rfl, rfl⟩) fun vu s3 ⟨u, H3, I3, pu, eu, e3⟩ => ?_
  subst eu e3
  refine thn (step.run pins s3 σ H3 (fun o G => o = some (-1) ∧ G = H3) I3 ⟨1, rfl, -1, rfl, rfl, rfl⟩) fun vs s4 ⟨o, H4, I4, ps, eo, e4⟩ => ?_
  subst eo e4
  have I5 : Inv X pins σ H4 { s4 with heap := s4.heap.push { cls := .type "slice", data := .fields #[vl, vu, vs] } } := I4.kept (t' := s4.toks) fun _ _ z => Heap.get?_push_of_some _ z
  obtain ⟨its, r, ht, hz⟩ := I5.tuple hx
  have hlen := r.length
  show wpAny (model X.prog X.w) X.A (subscriptTail e (.Slice none none (some (.UnaryOp .USub (.Constant (.int 1) k p1) p2)) p3) (.ref a) (.ref s4.heap.objs.size)) _ _ { s4 with heap := s4.heap.push { cls := .type "slice", data := .fields #[vl, vu, vs] } }
  refine tail_any (ops := [.ref a, .ref s4.heap.objs.size]) ht.typeIs PyProof.Rows.slot_tuple_getitem.lookup ?_ (by with_unfolding_all rfl)
  refine tup_back ht (Heap.IsSliceOf.new _ vl vu vs) pl pu ps ?_ (by rw [List.size_toArray]; omega)
  refine ⟨.ref _, _, I5.laid (t' := s4.toks) (o := .tup xs.reverse) (fun _ _ z => Heap.get?_push_of_some _ z) (Nat.le_refl _) ?_, rfl, q _ (I5.hok.fresh (Nat.le_refl _))⟩
  exact ⟨by rw [List.length_reverse]; exact hz, _, r.reverse, _, Heap.get?_push_size _ rfl, rfl, 0, rfl⟩
def rRevT (K : PySem.W.Frag) : List V → Hp → VK → Prop := fun vs H Q => match vs with
  | [x] => ∃ a xs, x = V.ref a ∧ SqT K H a xs ∧ ∀ p, H p = none → Q (.ref p) (upd H p (.tup xs.reverse))
  | _ => False
section
variable {X : Cx} {C : Cf} {p : Bool} {Γ Γ1 : G} {pos p1 p2 p3 : Pos} {a : Ex} {ea : Expr} {k : Kd} {m1 m2 m : Md}
theorem b_revT {B : Tb} : B1S B (rRevT B.K) revTD m1 .v := fun O H x d d' U Q hl u o e q => by
  cases d <;> first | (cases e; done) | skip
  rename_i ds
  cases e
  obtain ⟨a, vs, rfl, g1, g2⟩ := o.tup_eq
  refine ⟨a, vs, rfl, .of g1.2, fun p hp => ?_⟩
  exact q _ _ [] (post_upd hp) (fun _ z => nomatch z) List.nodup_nil (new_tup hl g2.rev hp)
theorem w_revT (g : Gd X C) (ha : SE X C p Γ ea a k Γ1) {kk : Nat} :
    SE X C p Γ (.Subscript ea (.Slice none none (some (.UnaryOp .USub (.Constant (.int 1) kk p1) p2)) p3) pos) (.bi .revT (.cons a .nil)) (.own .v) Γ1 :=
  PE.imp (pe_revT ha) fun σ H Q h => by
    have h := c_one (k := k) (r := rRevT C.B.K) (m' := .bi .revT (.cons a .nil)) (f := revTD) (fun e => by
      show ((evE C.F a e).bind _).bind _ = (evE C.F a e).bind _
      cases evE C.F a e <;> rfl) b_revT h
    show tE C p Γ a k Γ1 σ H (fun x H1 => ∃ b xs, x = V.ref b ∧ SqT X.K H1 b xs ∧ ∀ p, H1 p = none → Q (.ref p) (upd H1 p (.tup xs.reverse)))
    rw [g.K]
    exact h
def rNeE (K : PySem.W.Frag) : R2 := fun x y H Q => ∃ a b xs, x = .ref a ∧ y = .ref b ∧ SqL K H a xs ∧ SqL K H b [] ∧ Q (.bl (!xs.isEmpty)) H
theorem op_neE (hu : X.A.units + 64 < cLine) : OpR X (compareOp .NotEq) (rNeE X.K) := by
  intro pins s σ H x y v u Q I rx ry ⟨a, b, xs, ex, ey, h1, h2, q⟩
  cases xs with
  | nil => exact op_neD hu pins s σ H x y v u Q I rx ry ⟨.list [], .list [], ex ▸ .lst h1 .nil, ey ▸ .lst h2 .nil, rfl, rfl, q⟩
  | cons z zs =>
    subst ex ey
    cases rx
    cases ry
    obtain ⟨i1, r1, l1, _⟩ := I.list h1
    obtain ⟨i2, r2, l2, _⟩ := I.list h2
    have n1 := r1.length
    have n2 := r2.length
    exact SeqAt.RcNeAt.lists_lengths l1.isList l2.isList (by rw [List.size_toArray, List.size_toArray, ← n1, ← n2]; simp) (by omega) X.prog X.w _ _ ⟨.bl true, H, I, rfl, q⟩
theorem s_neE {B : Tb} : OpS B (rNeE B.K) (evOp2 .neE) m1 m2 m := opS_atom fun O H x y d1 d2 d U1 U2 Q o1 o2 e q => by
  cases d1 <;> cases d2 <;> first | (cases e; done) | skip
  rename_i xs ys
  cases ys with
  | cons => cases e
  | nil =>
    cases e
    obtain ⟨a, vs, m', U, rfl, h1, h2, _⟩ := o1.lst_sq
    obtain ⟨b, ws, m'', U', rfl, h3, h4, _⟩ := o2.lst_sq
    cases h4
    refine ⟨a, b, vs, rfl, rfl, h1, h3, ?_⟩
    have : vs.isEmpty = xs.isEmpty := by cases h2 <;> rfl
    rw [this]
    exact q _ .bl
theorem p_neE (g : Gd X C) : CmpP X C .neE .NotEq m1 m2 m := ⟨_, op_neE (by have := g.un; omega), by rw [g.K]; exact s_neE⟩
end
end Mi
set_option maxRecDepth 10000
namespace Mi
open PySem PySem.Spec PyProof.Rows L2 PySem.W
theorem eqD_keyD (a b : Key) : eqD (keyD a) (keyD b) = decide (a = b) := by
  cases a <;> cases b <;> simp [keyD, eqD]
theorem eqDs_keys : ∀ a b : List Key, eqDs (a.map keyD) (b.map keyD) = decide (a = b)
  | [], [] => rfl
  | [], _ :: _ => rfl
  | _ :: _, [] => rfl
  | x :: a, y :: b => by
    show (eqD (keyD x) (keyD y) && eqDs (a.map keyD) (b.map keyD)) = _
    rw [eqDs_keys a b, eqD_keyD]
    by_cases h : x = y <;> by_cases g : a = b <;> simp [h, g]
theorem eqD_keyT (a b : List Key) : eqD (keyT a) (keyT b) = decide (a = b) := eqDs_keys a b
theorem keys_of : ∀ {ds : List D}, isKey (.tup ds) = true → ∃ k : List Key, D.tup ds = keyT k
  | [], _ => ⟨[], rfl⟩
  | d :: ds, h => by
    unfold isKey at h
    dsimp only at h
    rw [List.all_cons, Bool.and_eq_true] at h
    obtain ⟨h1, h2⟩ := h
    obtain ⟨k, e⟩ := keys_of (ds := ds) h2
    injection e with e
    cases d <;> first | (cases h1; done) | skip
    · exact ⟨.inl _ :: k, by rw [e]; rfl⟩
    · exact ⟨.inr _ :: k, by rw [e]; rfl⟩
section
variable {B : Tb} {O : List Addr} {H : Hp} {m : Md}
theorem OwL.keys : ∀ {k : List Key} {vs : List V} {U : List Addr}, OwL B O H m (k.map keyD) vs U → vs = k.map kV
  | [], _, _, h => by cases h; rfl
  | x :: k, _, _, h => by
    have h : OwL B O H m (keyD x :: k.map keyD) _ _ := h
    cases h with
    | cons h1 h2 =>
      rw [OwL.keys h2]
      cases x with
      | inl i => cases h1; rfl
      | inr x => cases h1; rfl
theorem Ow.key {k : List Key} {v : V} {U : List Addr} (h : Ow B O H m (keyT k) v U) : ∃ b, v = .ref b ∧ H b = some (.tup (k.map kV)) := by
  obtain ⟨a, vs, rfl, h1, h2⟩ := (show Ow B O H m (.tup (k.map keyD)) v U from h).tup_eq
  exact ⟨a, rfl, by rw [← h2.keys]; exact h1.2⟩
theorem OwT.get : ∀ {kvs : List (D × D)} {ks : List (List Key × V)} {U : List Addr} (k : List Key), OwT B O H m kvs ks U →
    (∀ d, getK kvs (keyT k) = some d → ∃ v W, valV ks k = some v ∧ Ow B O H m d v W ∧ ∀ a ∈ W, a ∈ U) ∧ (kvs.any fun kv => eqD kv.1 (keyT k)) = (valV ks k).isSome
  | [], _, _, k, h => by
    cases h
    exact ⟨fun d e => (by cases e), rfl⟩
  | kv :: kvs, _, _, k, h => by
    cases h with
    | @cons _ d ds v vs S T k' h1 h2 =>
      obtain ⟨g1, g2⟩ := OwT.get k h2
      refine ⟨fun d' e => ?_, ?_⟩
      · have e : (if eqD (keyT k') (keyT k) = true then some d else getK kvs (keyT k)) = some d' := e
        rw [eqD_keyT] at e
        by_cases hk : k' = k
        · rw [if_pos (decide_eq_true hk)] at e
          cases e
          exact ⟨v, S, valV_pos hk, h1, fun a => memL⟩
        · rw [if_neg (by simpa using hk)] at e
          obtain ⟨v', W, q1, q2, q3⟩ := g1 d' e
          exact ⟨v', W, by rw [valV_neg hk]; exact q1, q2, fun a z => memR (q3 a z)⟩
      · show (eqD (keyT k') (keyT k) || kvs.any fun kv => eqD kv.1 (keyT k)) = _
        rw [eqD_keyT, g2]
        by_cases hk : k' = k
        · rw [decide_eq_true hk, valV_pos hk]; rfl
        · rw [decide_eq_false hk, valV_neg hk]; rfl
theorem OwT.snoc : ∀ {kvs : List (D × D)} {ks : List (List Key × V)} {k : List Key} {d : D} {v : V}, OwT B O H .v kvs ks [] → Ow B O H .v d v [] → OwT B O H .v (kvs ++ [(keyT k, d)]) (ks ++ [(k, v)]) []
  | [], _, k, d, v, h, hv => by cases h; exact OwT.cons (S := []) (T := []) hv .nil
  | kv :: kvs, _, k, d, v, h, hv => by
    generalize hU : ([] : List Addr) = U at h
    cases h with
    | @cons _ d1 ds v1 vs S T k' h1 h2 =>
      obtain ⟨rfl, rfl⟩ := List.append_eq_nil_iff.mp hU.symm
      exact OwT.cons (S := []) (T := []) h1 (OwT.snoc h2 hv)
theorem OwT.repl : ∀ {kvs : List (D × D)} {ks : List (List Key × V)} {k : List Key} {d : D} {v : V}, OwT B O H .v kvs ks [] → Ow B O H .v d v [] → OwT B O H .v (kvs.map fun kv => if eqD kv.1 (keyT k) = true then (kv.1, d) else kv) (ks.map fun kv => if kv.1 = k then (kv.1, v) else kv) []
  | [], _, k, d, v, h, hv => by cases h; exact .nil
  | kv :: kvs, _, k, d, v, h, hv => by
    generalize hU : ([] : List Addr) = U at h
    cases h with
    | @cons _ d1 ds v1 vs S T k' h1 h2 =>
      obtain ⟨rfl, rfl⟩ := List.append_eq_nil_iff.mp hU.symm
      rw [List.map_cons, List.map_cons]
      have r := OwT.repl (k := k) h2 hv
      show OwT B O H .v ((if eqD (keyT k') (keyT k) = true then (keyT k', d) else (keyT k', d1)) :: _) ((if k' = k then (k', v) else (k', v1)) :: _) []
      rw [eqD_keyT]
      by_cases hk : k' = k
      · rw [if_pos (decide_eq_true hk), if_pos hk]
        exact OwT.cons (S := []) (T := []) hv r
      · rw [if_neg (by simpa using hk), if_neg hk]
        exact OwT.cons (S := []) (T := []) h1 r
theorem OwT.put {kvs : List (D × D)} {ks : List (List Key × V)} {k : List Key} {d : D} {v : V} (h : OwT B O H .v kvs ks []) (hv : Ow B O H .v d v []) : OwT B O H .v (Mi.putK kvs (keyT k) d) (L2.putK ks k v) [] := by
  unfold Mi.putK L2.putK
  rw [(h.get k).2, valV_any]
  split
  · exact h.repl hv
  · exact h.snoc hv
theorem OwT.tups : ∀ {kvs : List (D × D)} {ks : List (List Key × V)} {U : List Addr}, OwT B O H m kvs ks U → kvs.all (fun kv => isTupD kv.1) = true
  | [], _, _, _ => rfl
  | kv :: kvs, _, _, h => by
    cases h with
    | cons h1 h2 =>
      rw [List.all_cons, OwT.tups h2]
      rfl
theorem OwK.tups {kv : D × D} {kvs : List (D × D)} {ks : List (Key × V)} {U : List Addr} (h : OwK B O H m (kv :: kvs) ks U) : isTupD kv.1 = false := by
  cases h with
  | @cons _ d ds v vs S T k h1 h2 => cases k <;> rfl
end
section
variable {X : Cx} {C : Cf} {p p1 p2 : Bool} {Γ Γ1 Γ2 : G} {pos pos' spos : Pos} {m m1 m2 : Md} {a b ai : Ex} {ea eb ei : Expr} {k1 k2 : Kd}
theorem w_cast {o : Bi} {f : D → Option D} (hf : ∀ d, evBi o [d] = f d) (hi : ∀ d d', f d = some d' → d' = d) (h : SE X C p Γ ea a (.own .v) Γ1) : SE X C p Γ ea (.bi o (.cons a .nil)) (.own .v) Γ1 :=
  PE.imp h fun σ H Q ⟨e, S, R, s, q⟩ => ⟨e, S, R, s, by
    have q : Out C σ H S R (OkE C σ H S R p (.own .v) Γ1 Q) (((evE C.F a e).bind fun d e1 => Mi.R.ok [Ar.d d] e1).bind fun as e1 => ofO ((dsOf as).bind fun ds => evBi o ds) e1) := q
    revert q
    cases evE C.F a e with
    | bad => exact id
    | err c fs e' => exact id
    | ok d e1 =>
      intro q
      have q : Out C σ H S R (OkE C σ H S R p (.own .v) Γ1 Q) (ofO (evBi o [d]) e1) := q
      rw [hf] at q
      obtain ⟨d', h1, h2⟩ := Out.ofO q
      rw [hi d d' h1] at h2
      exact h2⟩
theorem w_tupK (h : SE X C p Γ ea a (.own .v) Γ1) : SE X C p Γ ea (.bi .tupK (.cons a .nil)) (.own .v) Γ1 := w_cast (f := tupKD) (fun _ => rfl) (fun d d' e => by
  cases d <;> first | (cases e; done) | skip
  rename_i ds
  have e : (if isKey (.tup ds) then some (D.tup ds) else none) = some d' := e
  split at e
  · cases e; rfl
  · cases e) h
theorem w_castL (h : SE X C p Γ ea a (.own .v) Γ1) : SE X C p Γ ea (.bi .castL (.cons a .nil)) (.own (.l .v)) Γ1 :=
  PE.imp h fun σ H Q ⟨e, S, R, s, q⟩ => ⟨e, S, R, s, by
    have q : Out C σ H S R (OkE C σ H S R p (.own (.l .v)) Γ1 Q) (((evE C.F a e).bind fun d e1 => Mi.R.ok [Ar.d d] e1).bind fun as e1 => ofO ((dsOf as).bind fun ds => evBi .castL ds) e1) := q
    revert q
    cases evE C.F a e with
    | bad => exact id
    | err c fs e' => exact id
    | ok d e1 =>
      intro q
      have q : Out C σ H S R (OkE C σ H S R p (.own (.l .v)) Γ1 Q) (ofO (castLD d) e1) := q
      obtain ⟨d', h1, h2⟩ := Out.ofO q
      have hd : d' = d ∧ (∀ ds, d ≠ .lst ds) ∧ (∀ ds, d ≠ .dct ds) ∧ ∀ c ds, d ≠ .obj c ds := by
        cases d <;> first | (cases h1; done) | (cases h1; exact ⟨rfl, fun _ => nofun, fun _ => nofun, fun _ _ => nofun⟩)
      obtain ⟨rfl, n1, n2, n3⟩ := hd
      intro v H' S' T po ps n st vl
      have z := Ow.v_nil vl
      subst z
      exact h2 v H' S' [] po ps n st (Ow.toLv vl n1 n2 n3)⟩
theorem w_dctT : SE X C true Γ (.Dict [] [] pos) (.dct .nil) (.own (.t m)) Γ := PE.imp pe_dnewT fun σ H Q h => by
  obtain ⟨e, S, R, s, o⟩ := h
  intro q hq
  have a1 : At C σ H S R true Γ e H S R := At.start s
  exact a1.fin (show OkE C σ H S R true (.own (.t m)) Γ Q (.dct []) e from o) (post_upd hq) (T := [q]) (fun z hz => by rw [List.mem_singleton.mp hz]; exact hq) (by simp) (.dT (S := []) upd_same .nil)
def rDIn (g : Bool → Bool) : R2 := fun y x H Q => ∃ a o, x = .ref a ∧ DGet H a y o ∧ Q (.bl (g o.isSome)) H
theorem op_dIn (hu : X.A.units + 1 < cLine) : OpR X (compareOp .In) (rDIn id) := by
  intro pins s σ H x y v u Q I rx ry ⟨a, o, ey, g, q⟩
  subst ey
  cases ry
  exact d_in hu I g rx fun s3 I3 => ⟨.bl o.isSome, H, I3, rfl, q⟩
theorem op_dNin (hu : X.A.units + 1 < cLine) : OpR X (compareOp .NotIn) (rDIn not) := by
  intro pins s σ H x y v u Q I rx ry ⟨a, o, ey, g, q⟩
  subst ey
  cases ry
  exact d_notIn hu I g rx fun s3 I3 => ⟨.bl (!o.isSome), H, I3, rfl, q⟩
theorem dget_of {B : Tb} {O : List Addr} {H : Hp} {d1 : D} {kvs : List (D × D)} {x y : V} {U1 U2 : List Addr} {c : Bool} (o1 : Ow B O H m1 d1 x U1) (o2 : Ow B O H m2 (.dct kvs) y U2) (h : inD d1 (.dct kvs) = some c) : ∃ a o, y = .ref a ∧ DGet H a x o ∧ o.isSome = c := by
  have h : (if isTupD d1 && isKey d1 && !kvs.isEmpty && kvs.all (fun kv => isTupD kv.1 == isTupD d1) then some (kvs.any fun kv => eqD kv.1 d1) else none) = some c := h
  split at h
  · rename_i hc
    rw [Bool.and_eq_true, Bool.and_eq_true, Bool.and_eq_true] at hc
    obtain ⟨⟨⟨ht, hk⟩, hne⟩, hall⟩ := hc
    cases d1 <;> first | (cases ht; done) | skip
    rename_i ds
    obtain ⟨k, ek⟩ := keys_of hk
    rw [ek] at o1 h
    obtain ⟨b, rfl, hb⟩ := o1.key
    obtain ⟨a, m', W, rfl, _, ⟨ks, g1, g2⟩ | ⟨ks, g1, g2⟩⟩ := o2.dct_eq
    · cases kvs with
      | nil => cases hne
      | cons kv kvs =>
        have t := g2.tups
        rw [List.all_cons, Bool.and_eq_true, t] at hall
        exact absurd hall.1 (by show ¬ (false == true) = true; decide)
    · refine ⟨a, _, rfl, DGet.t g1 hb, ?_⟩
      rw [← (g2.get k).2]
      exact Option.some.inj h
  · cases h
theorem s_dIn {B : Tb} : OpS B (rDIn id) (evOp2 .innD) m1 m2 m := opS_atom fun O H x y d1 d2 d U1 U2 Q o1 o2 e q => by
  obtain ⟨c, hc, rfl⟩ := Option.map_eq_some_iff.mp (show (inD d1 d2).map D.bl = some d from e)
  cases d2 <;> first | (cases hc; done) | skip
  obtain ⟨a, o, rfl, g, e2⟩ := dget_of o1 o2 hc
  exact ⟨a, o, rfl, g, by rw [e2]; exact q _ .bl⟩
theorem s_dNin {B : Tb} : OpS B (rDIn not) (evOp2 .ninD) m1 m2 m := opS_atom fun O H x y d1 d2 d U1 U2 Q o1 o2 e q => by
  obtain ⟨c, hc, rfl⟩ := Option.map_eq_some_iff.mp (show (inD d1 d2).map (fun c => D.bl (!c)) = some d from e)
  cases d2 <;> first | (cases hc; done) | skip
  obtain ⟨a, o, rfl, g, e2⟩ := dget_of o1 o2 hc
  exact ⟨a, o, rfl, g, by rw [e2]; exact q _ .bl⟩
theorem p_dIn (g : Gd X C) : CmpP X C .innD .In m1 m2 m := ⟨_, op_dIn (by have := g.un; omega), s_dIn⟩
theorem p_dNin (g : Gd X C) : CmpP X C .ninD .NotIn m1 m2 m := ⟨_, op_dNin (by have := g.un; omega), s_dNin⟩
def dcM : Md → Md
  | .d m => m
  | .t m => m
  | _ => .v
def rDGet : R2 := fun x y H Q => ∃ a v, x = .ref a ∧ DGet H a y (some v) ∧ Q v H
theorem noK {B : Tb} {O : List Addr} {H : Hp} {k : List Key} {d : D} {m' : Md} : ∀ {kvs : List (D × D)} {ks : List (Key × V)} {W : List Addr}, getK kvs (keyT k) = some d → ¬ OwK B O H m' kvs ks W
  | [], _, _, e, _ => by cases e
  | kv :: kvs, _, _, e, h => by
    cases h with
    | @cons _ d1 ds1 v1 vs1 S1 T1 k1 h1 h2 =>
      have e : (if eqD (keyD k1) (keyT k) = true then some d1 else getK kvs (keyT k)) = some d := e
      have z : eqD (keyD k1) (keyT k) = false := by cases k1 <;> rfl
      rw [z, if_neg (by decide)] at e
      exact noK e h2
theorem s_idxD {B : Tb} {O : List Addr} {H : Hp} {d1 d2 d : D} {x y : V} {U1 U2 : List Addr} {Q : VK} (o1 : Ow B O H m1 d1 x U1) (o2 : Ow B O H m2 d2 y U2) (e : Mi.idxD d1 d2 = some d) (q : ∀ v W, Ow B O H (dcM m1) d v W → (∀ a ∈ W, a ∈ U1) → Q v H) : rDGet x y H Q := by
  cases d1 <;> first | (cases e; done) | skip
  rename_i kvs
  have e : (if isTupD d2 && isKey d2 then getK kvs d2 else none) = some d := e
  split at e
  · rename_i hk
    rw [Bool.and_eq_true] at hk
    obtain ⟨ht, hk⟩ := hk
    cases d2 <;> first | (cases ht; done) | skip
    rename_i ds
    obtain ⟨k, ek⟩ := keys_of hk
    rw [ek] at o2 e
    obtain ⟨b, rfl, hb⟩ := o2.key
    cases o1 with
    | dKV n h1 h2 => exact absurd h2 (noK e)
    | dK h1 h2 => exact absurd h2 (noK e)
    | dTV n h1 h2 =>
      obtain ⟨v, W, g1, g2, g3⟩ := (h2.get k).1 d e
      exact ⟨_, v, rfl, g1 ▸ DGet.t h1 hb, q v W g2 g3⟩
    | dT h1 h2 =>
      obtain ⟨v, W, g1, g2, g3⟩ := (h2.get k).1 d e
      exact ⟨_, v, rfl, g1 ▸ DGet.t h1 hb, q v W g2 fun a z => List.mem_cons_of_mem _ (g3 a z)⟩
  · cases e
theorem w_idxD (g : Gd X C) (ha : SE X C p1 Γ ea a k1 Γ1) (hb : SE X C p2 Γ1 eb b k2 Γ2) (hm : dcM k1.md = .v := by rfl) (hp : k1.isB = true → p2 = true := by first | exact fun _ => rfl | exact fun h => nomatch h)
    (hs : NoSl eb := by exact fun _ _ => rfl) : SE X C (p1 && p2) Γ (.Subscript ea eb pos) (.idxD a b) (.own .v) Γ2 :=
  PE.imp (pe_dget (by have := g.un; omega) ha hb hs) fun _ _ _ h => c_idx (r := rDGet) (g := Mi.idxD) (fun _ => rfl) hp (fun O H x y d1 d2 d U1 U2 Q o1 o2 e q => s_idxD o1 o2 e fun v W ow hW => q v W (hm ▸ ow) hW) (.inr rfl) h
end
end Mi
namespace Mi
open PySem PySem.Spec PyProof.Rows L2 PySem.W
theorem lim_line' {n : Nat} (h : n < LIM) : n < sizeLine := by
  rw [sizeLine_eq]
  have : n < 1000000 := h
  omega
theorem OwT.v_nil {B : Tb} {O : List Addr} {H : Hp} : ∀ {kvs : List (D × D)} {ks : List (List Key × V)} {S : List Addr}, OwT B O H .v kvs ks S → S = []
  | [], _, _, h => by cases h; rfl
  | kv :: kvs, _, _, h => by
    cases h with
    | cons h1 h2 => rw [h1.v_nil, OwT.v_nil h2]; rfl
section
variable {X : Cx} {C : Cf} {p p2 : Bool} {Γ Γ1 Γ2 : G} {pos pos' spos : Pos} {m : Md} {a ai : Ex} {ea ei : Expr} {k2 : Kd} {i : Nat} {x : Str}
theorem s_isetT (g : Gd X C) (ha : SE X C p Γ ea a (.own .v) Γ1) (hi2 : SE X C p2 Γ1 ei ai k2 Γ2) (hN : X.N[i]? = some x := by rfl) (hm1 : Γ1[i]? = some (some m) := by rfl) (hm2 : Γ2[i]? = some (some (.t .v)) := by rfl)
    (hv : Vis X.env.scope x := by first | exact Or.inl rfl | exact Or.inr (Or.inl rfl) | exact Or.inr (Or.inr rfl)) (hd : (x == ("__debug__" : Str)) = false := by decide) (hcd : (x == ("__classdict__" : Str)) = false := by decide)
    (hs : swapsWith ea (some (.Subscript (.Name x pos') ei spos)) pos.line X.env = pure false := by rfl) : SS X C Γ (.Assign [.Subscript (.Name x pos') ei spos] ea pos) (.iset (.sl i) ai a) Γ2 :=
  PS.imp (ps_dput (by have := g.un; omega) (pe_var hN hv hd hcd) hi2 ha hs) fun E σ H ⟨e, S, R, s, o'⟩ => by
    have o' : OutS C E H S R Γ2 ((evE C.F a e).bind fun d e1 => (evE C.F ai e1).bind fun k e3 => match gt e3 i with
      | some d0 => match setI d0 k d with
        | some o' => .ok .nxt (st e3 i (some o'))
        | none => .bad
      | none => .bad) := o'
    refine (At.start s).evN (f := fun d e1 => (evE C.F ai e1).bind fun k e3 => .ok (d, k) e3) (ok := fun (dk : D × D) e3 => OutS C E H S R Γ2 (match gt e3 i with
      | some d0 => match setI d0 dk.2 dk.1 with
        | some o' => .ok .nxt (st e3 i (some o'))
        | none => .bad
      | none => .bad)) ?_ fun d e1 w H1 S1 T1 a1 v1 _ n1 o1 => ?_
    · have q := o'.out (σ := σ)
      cases hq : evE C.F a e with
      | bad => rw [hq] at q; exact q
      | err _ _ _ => rw [hq] at q; exact q
      | ok d e1 =>
        rw [hq] at q
        have q : OutS C E H S R Γ2 ((evE C.F ai e1).bind _) := q
        have q := q.out (σ := σ)
        show Out C σ H S R _ ((evE C.F ai e1).bind _)
        cases hq2 : evE C.F ai e1 with
        | bad => rw [hq2] at q; exact q
        | err _ _ _ => rw [hq2] at q; exact q
        | ok _ _ => rw [hq2] at q; exact q
    have z := Ow.v_nil v1
    subst z
    obtain ⟨d0, v0, U0, g1, g2, g3, g4⟩ := a1.sta.sl.get hm1
    refine ⟨v0, g2, a1.evN (f := fun k e3 => .ok (d, k) e3) o1 fun kd e3 y H3 S3 T3 a3 v3 hold n3 o3 => ?_⟩
    have w1 := hold _ _ _ _ v1 (fun _ z => nomatch z) (fun z => nomatch z)
    have sR : Sta C.B C.M ([] ++ R) Γ2 e3 σ H3 S3 := a3.staR
    obtain ⟨dd, vv, U, Z, h1, h2, h3, h4, back⟩ := sR.upd hm2
    rw [g2] at h2
    cases h2
    have o3 : OutS C E H S R Γ2 (match gt e3 i with
      | some d0 => match setI d0 kd d with
        | some o' => .ok .nxt (st e3 i (some o'))
        | none => .bad
      | none => .bad) := o3
    rw [h1] at o3
    dsimp only at o3
    cases hset : setI dd kd d with
    | none => rw [hset] at o3; exact o3.elim
    | some dn =>
      rw [hset] at o3
      have key : ∃ kvs k, dd = .dct kvs ∧ kd = keyT k ∧ kvs.length < LIM ∧ dn = .dct (Mi.putK kvs (keyT k) d) := by
        unfold setI evMu at hset
        cases dd with
        | lst xs => cases h3
        | dct kvs =>
          have hset : ((if kvs.length < LIM ∧ isKey kd = true ∧ isTupD kd = true then some (D.non, D.dct (Mi.putK kvs kd d)) else none).map (·.2)) = some dn := hset
          split at hset
          · rename_i hc
            cases hset
            cases kd <;> first | (cases hc.2.2; done) | skip
            obtain ⟨k, ek⟩ := keys_of hc.2.1
            rw [ek]
            exact ⟨kvs, k, rfl, rfl, hc.1, rfl⟩
          · cases hset
        | _ => simp at hset
      obtain ⟨kvs, k, rfl, rfl, hlen, rfl⟩ := key
      obtain ⟨b, ks, T, rfl, hb, hT, rfl⟩ : ∃ b ks T, v0 = .ref b ∧ H3 b = some (.dT ks) ∧ OwT C.B (S3 ++ ([] ++ R)) H3 .v kvs ks T ∧ U = b :: T := by
        cases h3 with
        | dT h1 h2 => exact ⟨_, _, _, rfl, h1, h2, rfl⟩
      have zT : T = [] := OwT.v_nil hT
      subst zT
      obtain ⟨U2, _, ow2⟩ := v3.view (fun _ => memL) fun a h => memR (memL h)
      have hbn : b ∉ Z ++ R := by
        have nd := sR.nd
        have : ([b] ++ (Z ++ R)).Nodup := by
          rw [← List.append_assoc]
          exact (h4.append_right R).nodup_iff.mp (by simpa using nd)
        simp at this
        simpa using this.1
      obtain ⟨kb, rfl, hkb⟩ := ow2.key
      refine ⟨b, _, rfl, DPut.t hb hkb (by rw [← OwT.len hT]; exact lim_line' hlen), ?_⟩
      have po : Post [b] H3 (upd H3 b (.dT (L2.putK ks k w))) := post_write hb (by simp)
      have f : Fr (S3 ++ ([] ++ R)) ([b] ++ (Z ++ R)) H3 (upd H3 b (.dT (L2.putK ks k w))) := ⟨fun x ob hn he => po x ob (fun z => hn (memL (h4.mem_iff.mpr (memL z)))) he, fun x ob hn he z => by
        rcases List.mem_append.mp z with z | z
        · exact hn (memL (h4.mem_iff.mpr (memL z)))
        · rcases List.mem_append.mp z with z | z
          · exact hn (memL (h4.mem_iff.mpr (memR z)))
          · exact hn (memR (memR z))⟩
      have f0 : Fr (S3 ++ (T3 ++ ([] ++ R))) ([b] ++ (Z ++ R)) H3 (upd H3 b (.dT (L2.putK ks k w))) := ⟨fun x ob hn he => f.keep x ob (fun z => hn ((List.mem_append.mp z).elim memL fun q => memR (memR q))) he, fun x ob hn he => f.out x ob (fun z => hn ((List.mem_append.mp z).elim memL fun q => memR (memR q))) he⟩
      obtain ⟨S', p1, p2⟩ := back _ (.dct (Mi.putK kvs (keyT k) d)) [b] po (fun x hx => .inl hx) (by simp) (.dT (S := []) upd_same ((OwT.fr f hT (fun _ z => nomatch z)).put (Ow.fr f0 w1 (fun _ z => nomatch z))))
      exact o3 σ _ S' (a3.po.ite.trans a3.n (po.mono fun x hx => h4.mem_iff.mpr (memL hx))) (fun x hx => a3.n x (h4.mem_iff.mpr (p1.mem_iff.mp hx))) p2
def tDT1 (tk tv : TE) : TE := fun σ H Q => ∀ p, H p = none → tk σ (upd H p (.dT [])) fun y H1 => tv σ H1 fun u H2 => H2 p = some (.dT []) ∧ ∃ ks b, y = .ref b ∧ H2 b = some (.tup (ks.map kV)) ∧ Q (.ref p) (upd H2 p (.dT [(ks, u)]))
theorem pe_dT1 (hu : X.A.units + 1 < cLine) {k v : Expr} {tk tv : TE} (hk : PE X k tk) (hv : PE X v tv) : PE X (.Dict [some k] [v] pos) (tDT1 tk tv) := by
  constructor
  intro pins s σ H Q I q
  have hn := I.hok.fresh (Nat.le_refl s.heap.objs.size)
  have I1 := I.laid (a := s.heap.objs.size) (o := .dT []) (h' := s.heap.push { cls := .type "dict", data := .dict #[] }) (t' := s.toks) (fun _ _ z => Heap.get?_push_of_some _ z) (Nat.le_refl _) (dt_empty s.heap I.big)
  rw [arm_eval_Dict, zip_pairTrees [some k] [v] X.env pos rfl rfl, dictDisplay_pairs (pairTrees [some k] [v] X.env pos) (by simp [pairTrees]) (by simp [pairTrees])]
  refine wpAny_bind (wpAny_standAt (wpAny_bind (wpAny_subDictH (knd := tupleKind (mixKind X.prog X.w)) (Q := fun d s' => wpAny (model X.prog X.w) X.A (pure (Value.ref d)) (EP X pins σ Q) X.xe s') (show X.A.units < cLine by omega) (by simp [pairTrees]) ?_)))
  refine pairTrees_cons_walk (thn (hk.run pins _ σ _ _ I1 (q _ hn)) fun kv s1 ⟨y, H1, I2, ry, q1⟩ => thn (hv.run pins s1 σ H1 _ I2 q1) fun w s2 ⟨u, H2, I3, ru, e, ks, b, ey, hb, q2⟩ => ?_)
  subst ey
  cases (show kv = Value.ref b from ry)
  refine pairTrees_nil_walk ⟨[(ks, b, w)], ⟨rfl, rfl, key_of I3.hok hb, trivial⟩, ?_, fun h' tk dd hs => wpAny_pure ?_⟩
  · obtain ⟨_, _, xs, rel, dd⟩ := dt_of I3.hok e
    cases rel
    exact dd
  · obtain ⟨z, hd, _⟩ := dt_of I3.hok e
    obtain ⟨o, es, ep, ho, h2, h3, h4, _, h5⟩ := dd
    have nb : b ≠ s.heap.objs.size := fun z => by rw [z, e] at hb; cases hb
    refine ⟨.ref s.heap.objs.size, _, d_write I3 (ob := .dT [(ks, u)]) (by rw [e]; exact True.intro) hs ⟨o, ho⟩ ⟨by show 1 ≤ sizeLine; rw [sizeLine_eq]; decide, hd, [(ks, b, w)], .cons ⟨rfl, ?_, ru⟩ .nil, o, es, ep, ho, h2, h3, h4, h5⟩, rfl, q2⟩
    rw [upd_ne nb]
    exact hb
theorem tupK_of {F : FS} {e e' : Env} {d : D} (h : evE F (.bi .tupK (.cons (.var i) .nil)) e = .ok d e') : e' = e ∧ gt e i = some d ∧ ∃ k, d = keyT k := by
  have h1 : ((ofO (gt e i) e).bind fun d e1 => Mi.R.ok [Ar.d d] e1).bind (fun as e1 => ofO ((dsOf as).bind fun ds => evBi .tupK ds) e1) = .ok d e' := h
  clear h
  cases hg : gt e i with
  | none => rw [hg] at h1; cases h1
  | some d0 =>
    rw [hg] at h1
    have h2 : ofO (tupKD d0) e = .ok d e' := h1
    clear h1
    cases d0 <;> first | (cases h2; done) | skip
    rename_i ds
    have h3 : ofO (if isKey (.tup ds) then some (D.tup ds) else none) e = .ok d e' := h2
    clear h2
    split at h3
    · rename_i hk
      cases h3
      obtain ⟨k, ek⟩ := keys_of hk
      exact ⟨rfl, rfl, k, ek⟩
    · cases h3
theorem w_dctT1 (g : Gd X C) {y : Str} {c : D} {ev : Expr} {ai : Ex} (hN : X.N[i]? = some y := by rfl) (hm : Γ[i]? = some (some .v) := by rfl) (hv : Vis X.env.scope y := by first | exact Or.inl rfl | exact Or.inr (Or.inl rfl) | exact Or.inr (Or.inr rfl)) {q : Pos}
    (hd : (y == ("__debug__" : Str)) = false := by decide) (hcd : (y == ("__classdict__" : Str)) = false := by decide) {tv : TE} (hval : PE X ev tv) (hai : ∀ e, evE C.F ai e = .ok c e)
    (ht : ∀ (σ : L2.St) (H : Hp) (Q : VK), (∀ (u : V) (H2 : Hp) (T : List Addr), Post [] H H2 → (∀ a ∈ T, H a = none) → (∀ (O : List Addr), Live O H → (∀ a ∈ T, a ∉ O) → Ow C.B O H2 .v c u []) → Q u H2) → tv σ H Q) :
    SE X C true Γ (.Dict [some (.Name y q)] [ev] pos) (.dct (.cons (.bi .tupK (.cons (.var i) .nil)) (.cons ai .nil))) (.own (.t .v)) Γ :=
  PE.imp (pe_dT1 (by have := g.un; omega) (pe_var hN hv hd hcd) hval) fun σ H Q ⟨e, S, R, s, o⟩ => by
    intro p hp
    obtain ⟨d, v, U, h1, h2, h3, h4⟩ := s.sl.get hm
    have o : Out C σ H S R (OkE C σ H S R true (.own (.t .v)) Γ Q) (((evE C.F (.bi .tupK (.cons (.var i) .nil)) e).bind fun d e1 => ((evE C.F ai e1).bind fun d2 e2 => Mi.R.ok [Ar.d d2] e2).bind fun r e2 => .ok (Ar.d d :: r) e2).bind fun as e1 => ofO ((dsOf as).bind fun ds => (dispK ds []).map .dct) e1) := o
    cases hq : evE C.F (.bi .tupK (.cons (.var i) .nil)) e with
    | bad => rw [hq] at o; exact o.elim
    | err c' fs e' =>
      exfalso
      have h : ((ofO (gt e i) e).bind fun d e1 => Mi.R.ok [Ar.d d] e1).bind (fun as e1 => ofO ((dsOf as).bind fun ds => evBi .tupK ds) e1) = .err c' fs e' := hq
      rw [h1] at h
      have h : ofO (tupKD d) e = .err c' fs e' := h
      cases ht : tupKD d with
      | none => rw [ht] at h; cases h
      | some z => rw [ht] at h; cases h
    | ok d0 e0 =>
      obtain ⟨rfl, h5, k, rfl⟩ := tupK_of hq
      rw [h1] at h5
      cases h5
      rw [hq] at o
      have o : Out C σ H S R (OkE C σ H S R true (.own (.t .v)) Γ Q) ((((evE C.F ai e0).bind fun d2 e2 => Mi.R.ok [Ar.d d2] e2).bind fun r e2 => .ok (Ar.d (keyT k) :: r) e2).bind fun as e1 => ofO ((dsOf as).bind fun ds => (dispK ds []).map .dct) e1) := o
      rw [hai] at o
      have o : OkE C σ H S R true (.own (.t .v)) Γ Q (.dct [(keyT k, c)]) e0 := o
      obtain ⟨b, rfl, hb⟩ := h4.key
      have nbp : b ≠ p := fun z => by rw [z, hp] at hb; cases hb
      refine ⟨.ref b, h2, ht _ _ _ fun u H2 T po nT ow => ?_⟩
      have po1 : Post [] H (upd H p (.dT [])) := post_upd hp
      have pT : p ∉ T := fun z => by
        have := nT p z
        rw [upd_same] at this
        cases this
      have hb2 : H2 b = some (.tup (k.map kV)) := po _ _ (fun z => nomatch z) (po1 _ _ (fun z => nomatch z) hb)
      have hp2 : H2 p = some (.dT []) := po _ _ (fun z => nomatch z) upd_same
      refine ⟨hp2, k, b, rfl, hb2, ?_⟩
      have a1 : At C σ H S R true Γ e0 H S R := At.start s
      have po2 : Post [] H (upd H2 p (.dT [(k, u)])) := fun a ob hn he => by
        have ne : a ≠ p := fun z => by rw [z, hp] at he; cases he
        rw [upd_ne ne]
        exact po _ _ hn (po1 _ _ hn he)
      refine a1.fin o po2 (T := [p]) (fun z hz => by rw [List.mem_singleton.mp hz]; exact hp) (by simp) ?_
      have pO : p ∉ S ++ R := notLive s.lives hp
      have liv : Live ([p] ++ (S ++ R)) (upd H p (.dT [])) := (Live.cons upd_same (s.lives.post po1 fun _ _ z => nomatch z) : Live (p :: (S ++ R)) _)
      have nTO : ∀ a ∈ T, a ∉ [p] ++ (S ++ R) := fun a ha z => by
        obtain ⟨ob, hob, _⟩ := liv a z
        rw [nT a ha] at hob
        cases hob
      have ow2 := ow ([p] ++ (S ++ R)) liv nTO
      have ow3 : Ow C.B ([p] ++ (S ++ R)) (upd H2 p (.dT [(k, u)])) .v c u [] := ow2.fr ⟨fun a ob hn he => by
        have ne : a ≠ p := fun z => hn (z ▸ memL (List.mem_singleton.mpr rfl))
        rw [upd_ne ne]
        exact he, fun a ob hn he => hn⟩ fun _ z => nomatch z
      exact .dT (S := []) upd_same (OwT.cons (S := []) (T := []) ow3 .nil)
theorem w_dctT1i (g : Gd X C) {y : Str} {n : Int} {j : Nat} {q q2 : Pos} (hN : X.N[i]? = some y := by rfl) (hm : Γ[i]? = some (some .v) := by rfl) (hv : Vis X.env.scope y := by first | exact Or.inl rfl | exact Or.inr (Or.inl rfl) | exact Or.inr (Or.inr rfl))
    (hd : (y == ("__debug__" : Str)) = false := by decide) (hcd : (y == ("__classdict__" : Str)) = false := by decide) :
    SE X C true Γ (.Dict [some (.Name y q)] [.Constant (.int n) j q2] pos) (.dct (.cons (.bi .tupK (.cons (.var i) .nil)) (.cons (.cst (.int n)) .nil))) (.own (.t .v)) Γ :=
  w_dctT1 g hN hm hv hd hcd pe_int (fun _ => rfl) fun σ H Q h => h (.int n) H [] (Post.refl _ _) (fun _ z => nomatch z) fun _ _ _ => .int
theorem w_dctT1l (g : Gd X C) {y : Str} {q q2 : Pos} (hN : X.N[i]? = some y := by rfl) (hm : Γ[i]? = some (some .v) := by rfl) (hv : Vis X.env.scope y := by first | exact Or.inl rfl | exact Or.inr (Or.inl rfl) | exact Or.inr (Or.inr rfl))
    (hd : (y == ("__debug__" : Str)) = false := by decide) (hcd : (y == ("__classdict__" : Str)) = false := by decide) :
    SE X C true Γ (.Dict [some (.Name y q)] [.List [] q2] pos) (.dct (.cons (.bi .tupK (.cons (.var i) .nil)) (.cons (.lst .nil) .nil))) (.own (.t .v)) Γ :=
  w_dctT1 g (c := .lst []) hN hm hv hd hcd (pe_lst pa_nil) (fun _ => rfl) fun σ H Q h => ⟨by show 0 ≤ sizeLine; exact Nat.zero_le _, fun p hp => h (.ref p) _ [p] (post_upd hp) (fun a ha => by rw [List.mem_singleton.mp ha]; exact hp) fun O lv nO => .lstV ⟨nO p (List.mem_singleton.mpr rfl), upd_same⟩ .nil⟩
end
end Mi
namespace Mi
open PySem PySem.Spec PyProof.Rows L2 PySem.W
section
variable {B : Tb} {O : List Addr} {H : Hp} {m : Md}
theorem OwT.snocU : ∀ {kvs : List (D × D)} {ks : List (List Key × V)} {U W : List Addr} {k : List Key} {d : D} {v : V}, OwT B O H m kvs ks U → Ow B O H m d v W → OwT B O H m (kvs ++ [(keyT k, d)]) (ks ++ [(k, v)]) (U ++ W)
  | [], _, _, W, k, d, v, h, hv => by
    cases h
    have r : OwT B O H m [(keyT k, d)] [(k, v)] (W ++ []) := OwT.cons hv .nil
    rw [List.append_nil] at r
    exact r
  | kv :: kvs, _, _, W, k, d, v, h, hv => by
    cases h with
    | @cons _ d1 ds v1 vs S T k' h1 h2 =>
      have r : OwT B O H m ((keyT k', d1) :: (kvs ++ [(keyT k, d)])) ((k', v1) :: (vs ++ [(k, v)])) (S ++ (T ++ W)) := OwT.cons h1 (OwT.snocU h2 hv)
      rw [← List.append_assoc] at r
      exact r
theorem OwT.sub : ∀ {kvs : List (D × D)} {ks : List (List Key × V)} {U : List Addr} (k : List Key), OwT B O H m kvs ks U → ∀ d, getK kvs (keyT k) = some d → ∃ v W, valV ks k = some v ∧ Ow B O H m d v W ∧ W.Sublist U
  | [], _, _, k, h, d, e => by cases e
  | kv :: kvs, _, _, k, h, d', e => by
    cases h with
    | @cons _ d ds v vs S T k' h1 h2 =>
      have e : (if eqD (keyT k') (keyT k) = true then some d else getK kvs (keyT k)) = some d' := e
      rw [eqD_keyT] at e
      by_cases hk : k' = k
      · rw [if_pos (decide_eq_true hk)] at e
        cases e
        exact ⟨v, S, valV_pos hk, h1, List.sublist_append_left _ _⟩
      · rw [if_neg (by simpa using hk)] at e
        obtain ⟨v', W, q1, q2, q3⟩ := OwT.sub k h2 d' e
        exact ⟨v', W, by rw [valV_neg hk]; exact q1, q2, q3.trans (List.sublist_append_right _ _)⟩
end
def rPutN : V → List V → Hp → VK → Prop := fun x vs H Q => ∃ a v y H4, x = .ref a ∧ vs = [v, y] ∧ DPut H a y v H4 ∧ Q .non H4
theorem mu_putN {B : Tb} {m : Md} : MuS B rPutN .putN (.t m) [.kd (.own m), .kd (.own .v)] := fun O S σ H x d res d' as ds vs U T W Q nd lv ow ar hd he q => by
  cases ar with
  | @kd _ _ d1 _ v1 _ T1 U1 h1 h2 =>
    cases h2 with
    | @kd _ _ d2 _ v2 _ T2 U2 h3 h4 =>
      cases h4
      cases hd
      cases d <;> first | cases he | skip
      rename_i kvs
      have h1 : Ow B _ H m d1 v1 T1 := h1
      have z2 : T2 = [] := Ow.v_nil h3
      subst z2
      have h3 : Ow B _ H .v d2 v2 [] := h3
      have he : (if kvs.length < LIM ∧ isKey d2 = true ∧ isTupD d2 = true ∧ (kvs.any fun kv => eqD kv.1 d2) = false then some (D.non, D.dct (kvs ++ [(d2, d1)])) else none) = some (res, d') := he
      split at he
      case isFalse => cases he
      rename_i hc
      cases he
      cases d2 <;> first | (cases hc.2.2.1; done) | skip
      rename_i kd
      obtain ⟨k, ek⟩ := keys_of hc.2.1
      injection ek with ek
      subst ek
      obtain ⟨kb, rfl, hkb⟩ := (show Ow B _ H .v (keyT k) v2 [] from h3).key
      cases ow with
      | @dT _ _ b ks Tb hb hT =>
        have nw : valV ks k = none := by
          have := (hT.get k).2
          rw [show (kvs.any fun kv => eqD kv.1 (keyT k)) = false from hc.2.2.2] at this
          cases hv : valV ks k with
          | none => rfl
          | some z => rw [hv] at this; cases this
        have nd : ((b :: Tb) ++ (T1 ++ W)).Nodup := by simpa using nd
        have nd1 := List.nodup_append.mp nd
        have ndT := List.nodup_append.mp nd1.2.1
        have bT : b ∉ Tb := (List.nodup_cons.mp nd1.1).1
        have bT1 : b ∉ T1 := fun z => nd1.2.2 b (by simp) b (memL z) rfl
        have f : Fr ((b :: Tb) ++ ((T1 ++ ([] ++ [])) ++ W)) ((b :: (Tb ++ T1)) ++ W) H (upd H b (.dT (ks ++ [(k, v1)]))) := fr_write (by simp) fun a ha => by
          simp only [List.cons_append, List.mem_cons, List.mem_append, List.append_nil] at ha ⊢
          rcases ha with h | (h | h) | h
          · exact .inl h
          · exact .inr (.inl h)
          · exact .inr (.inr (.inl h))
          · exact .inr (.inr (.inr h))
        refine ⟨b, v1, .ref kb, _, rfl, rfl, DPut.t hb hkb (by rw [← OwT.len hT]; exact lim_line' hc.1), ?_⟩
        rw [putK_new v1 nw]
        refine q .non _ (b :: (Tb ++ T1)) (post_write hb (by simp)) (fun a ha => ?_) ?_ (.dT upd_same ?_) .non
        · simp only [List.mem_cons, List.mem_append, List.append_nil] at ha ⊢
          rcases ha with h | h | h
          · exact .inl (.inl h)
          · exact .inl (.inr h)
          · exact .inr (.inl h)
        · refine List.nodup_cons.mpr ⟨fun z => (List.mem_append.mp z).elim bT bT1, ?_⟩
          exact List.nodup_append.mpr ⟨(List.nodup_cons.mp nd1.1).2, ndT.1, fun x hx y hy z => nd1.2.2 x (List.mem_cons_of_mem _ hx) y (memL hy) z⟩
        · have g1 := OwT.fr f hT fun a ha o e => by rw [upd_ne fun z => bT (by rw [← z]; exact ha)]; exact e
          have g2 := h1.fr f fun a ha o e => by rw [upd_ne fun z => bT1 (by rw [← z]; exact ha)]; exact e
          exact g1.snocU g2
section
variable {X : Cx} {C : Cf} {p p1 p2 : Bool} {Γ Γ1 Γ2 : G} {pos pos' spos : Pos} {m m0 : Md} {a b ai : Ex} {ea eb ei : Expr} {k k1 k2 : Kd} {ks : List AK} {ms : Exs} {σ : VS} {H : Hp} {i : Nat} {x : Str}
theorem tE_mono {Q Q' : VK} (h : tE C p Γ a k Γ1 σ H Q) (i : ∀ v H', Q v H' → Q' v H') : tE C p Γ a k Γ1 σ H Q' := by
  obtain ⟨e, S, R, s, o⟩ := h
  refine ⟨e, S, R, s, ?_⟩
  revert o
  cases evE C.F a e with
  | bad => exact id
  | err c fs e' => exact id
  | ok d e' => exact fun o v H' S' T po ps n st vl => i _ _ (o v H' S' T po ps n st vl)
theorem c_acons (hp : k1.isB = true → p2 = true) {Q : List V → Hp → Prop} (h : tA C (p1 && p2) Γ (.cons a ms) (.kd k1 :: ks) Γ2 σ H Q) : tE C p1 Γ a k1 Γ1 σ H fun v H1 => tA C p2 Γ1 ms ks Γ2 σ H1 fun vs H2 => Q (v :: vs) H2 := by
  obtain ⟨e, S, R, s, o⟩ := h
  have o : Out C σ H S R (OkA C σ H S R (p1 && p2) (.kd k1 :: ks) Γ2 Q) ((evE C.F a e).bind fun d e1 => (evEs C.F ms e1).bind fun r e2 => .ok (Ar.d d :: r) e2) := o
  refine (At.start s).evN o fun d e1 z H1 S1 T1 a1 v1 _ n1 o1 => a1.evA o1 fun as e2 vs H2 S2 T2 a2 v2 hold nw o2 => ?_
  have w1 := hold _ _ _ _ v1 (fun _ => memL) hp
  have perm : ((T1 ++ T2) ++ R).Perm (T2 ++ (T1 ++ R)) := by
    rw [← List.append_assoc]
    exact List.perm_append_comm.append_right R
  have ndZ : ((T1 ++ T2) ++ R).Nodup := perm.nodup_iff.mpr (List.nodup_append.mp a2.sta.nd).2.1
  have mem : ∀ z, z ∈ (T1 ++ T2) ++ R ↔ z ∈ T2 ++ (T1 ++ R) := fun z => perm.mem_iff
  have f : Fr (S2 ++ (T2 ++ (T1 ++ R))) (S2 ++ ((T1 ++ T2) ++ R)) H2 H2 := Fr.sub fun z hz => (List.mem_append.mp hz).elim memL fun q => memR ((mem z).mp q)
  have g : ∀ k d v T', Vl C.B (S2 ++ (T2 ++ (T1 ++ R))) S2 H2 k d v T' → Vl C.B (S2 ++ ((T1 ++ T2) ++ R)) S2 H2 k d v T' := fun k d v T' h => by
    cases k with
    | own m => exact Ow.fr f h fun _ _ _ z => z
    | bor m =>
      obtain ⟨h0, U, h1, h2⟩ := h
      exact ⟨h0, U, h1, Ow.fr f h2 fun _ _ _ z => z⟩
  refine (show OkA C σ H S R (p1 && p2) (.kd k1 :: ks) Γ2 Q (Ar.d d :: as) e2 from o2) (z :: vs) H2 S2 (T1 ++ T2) a2.po a2.ps (a2.n.app fun y hy => ?_) (a2.sta.drop ndZ fun y hy => (mem y).mp hy) (.kd (g _ _ _ _ w1) (v2.fr fun k d v T' h _ => g k d v T' h))
  rcases List.mem_append.mp hy with q | q
  · exact n1.right y q
  · exact (n1.left.trans a1.po.ite nw.right) y q
theorem s_putN (g : Gd X C) (ha : SE X C p Γ ea a (.own m) Γ1) (hb : SE X C p2 Γ1 ei ai (.own .v) Γ2) (hN : X.N[i]? = some x := by rfl) (hm0 : Γ[i]? = some (some (.t m)) := by rfl) (hm2 : Γ2[i]? = some (some (.t m)) := by rfl)
    (hv : Vis X.env.scope x := by first | exact Or.inl rfl | exact Or.inr (Or.inl rfl) | exact Or.inr (Or.inr rfl)) (hd : (x == ("__debug__" : Str)) = false := by decide) (hcd : (x == ("__classdict__" : Str)) = false := by decide)
    (hs : swapsWith ea (some (.Subscript (.Name x pos') ei spos)) pos.line X.env = pure false := by rfl) : SS X C Γ (.Assign [.Subscript (.Name x pos') ei spos] ea pos) (.ex (.mut .putN (.sl i) (.cons a (.cons ai .nil)))) Γ2 :=
  PS.imp (ps_dput (by have := g.un; omega) (pe_var hN hv hd hcd) hb ha hs) fun E σ H ⟨e, S, R, s, o⟩ => by
    have h : tE C false Γ (.mut .putN (.sl i) (.cons a (.cons ai .nil))) (.own .v) Γ2 σ H fun v H1 => E.nx σ H1 := stm1 (f := fun _ e1 => .ok .nxt e1) s o fun d e1 v H1 S1 T1 a1 v1 n1 o1 =>
      (show ∀ σ' H' S', Post S H H' → New S H S' → Sta C.B C.M R Γ2 e1 σ' H' S' → E.nx σ' H' from o1) σ H1 S1 a1.po.ite a1.n a1.staR
    obtain ⟨v, h1, h2, h3⟩ := c_mut (p := p && p2) (T := "dict") mu_putN hm0 hm2 (fun _ _ _ _ _ ow h => ty_dct ow h) h
    refine tE_mono (c_acons (Γ1 := Γ1) (k1 := .own m) (fun z => nomatch z) h3) fun w H1 h4 => ?_
    refine ⟨v, h1, tE_mono (c_args1 h4) fun y H2 h5 => ?_⟩
    obtain ⟨b, w', y', H4, e1, e2, h6, h7⟩ := h5
    injection e2 with e3 e4
    injection e4 with e5 _
    subst e3 e5
    exact ⟨b, H4, e1, h6, h7⟩
end
end Mi
namespace Mi
open PySem PySem.Spec PyProof.Rows L2 PySem.W
section
variable {X : Cx} {C : Cf} {p p1 p2 : Bool} {Γ Γ1 Γ2 : G} {pos : Pos} {m m1 : Md} {a b : Ex} {ea eb : Expr} {k2 : Kd} {σ : VS} {H : Hp} {i : Nat}
theorem w_idxDb (g : Gd X C) (ha : SE X C p1 Γ ea a (.bor m1) Γ1) (hb : SE X C p2 Γ1 eb b k2 Γ2) (hp : p2 = true := by rfl) (hs : NoSl eb := by exact fun _ _ => rfl) : SE X C (p1 && p2) Γ (.Subscript ea eb pos) (.idxD a b) (.bor (dcM m1)) Γ2 :=
  PE.imp (pe_dget (by have := g.un; omega) ha hb hs) fun _ _ _ h => c_idx (k1 := .bor m1) (kr := .bor (dcM m1)) (r := rDGet) (g := Mi.idxD) (fun _ => rfl) (fun _ => hp) (fun O H x y d1 d2 d U1 U2 Q o1 o2 e q => s_idxD o1 o2 e q) (.inl ⟨rfl, _, rfl⟩) h
theorem c_idxDo {Q : VK} (h : tE C (p1 && p2) Γ (.idxD a b) (.own m) Γ2 σ H Q) : tOp rDGet (tE C p1 Γ a (.own (.t m)) Γ1) (tE C p2 Γ1 b (.own .v) Γ2) σ H Q := by
  obtain ⟨e, S, R, s, o⟩ := h
  have o : Out C σ H S R (OkE C σ H S R (p1 && p2) (.own m) Γ2 Q) ((evE C.F a e).bind fun x e1 => (evE C.F b e1).bind fun y e2 => ofO (Mi.idxD x y) e2) := o
  refine (At.start s).evN (f := fun x e1 => (evE C.F b e1).bind fun y e2 => ofO (Mi.idxD x y) e2) o fun d1 e1 x H1 S1 T1 a1 v1 _ n1 o1 => ?_
  refine a1.ev (f := fun y e2 => ofO (Mi.idxD d1 y) e2) o1 fun d2 e2 y H2 S2 T2 a2 v2 hold o2 => ?_
  obtain ⟨d, hd, q⟩ := Out.ofO o2
  have w1 : Ow C.B _ H2 (.t m) d1 x T1 := hold _ _ _ _ v1 (fun _ => memL) (fun z => nomatch z)
  have v2 : Ow C.B _ H2 .v d2 y T2 := v2
  have z2 := v2.v_nil
  subst z2
  cases d1 <;> first | (cases hd; done) | skip
  rename_i kvs
  have e : (if isTupD d2 && isKey d2 then getK kvs d2 else none) = some d := hd
  split at e
  case isFalse => cases e
  rename_i hk
  rw [Bool.and_eq_true] at hk
  cases d2 <;> first | (cases hk.1; done) | skip
  rename_i ds
  obtain ⟨k, ek⟩ := keys_of hk.2
  injection ek with ek
  subst ek
  obtain ⟨kb, rfl, hkb⟩ := (show Ow C.B _ H2 .v (keyT k) y [] from v2).key
  cases w1 with
  | @dT _ _ b0 ks U hb hT =>
    obtain ⟨v, W, g1, g2, g3⟩ := hT.sub k d e
    refine ⟨b0, v, rfl, g1 ▸ DGet.t hb hkb, ?_⟩
    have nd1 : ((b0 :: U) ++ R).Nodup := by
      have := (List.nodup_append.mp a2.sta.nd).2.1
      simpa using this
    have sub : W.Sublist (b0 :: U) := g3.trans (List.sublist_cons_self _ _)
    exact a2.pass (k := .own m) q (T := W) g2 (fun z hz => memR (memL (sub.subset hz))) ((List.Sublist.append_right sub R).nodup nd1) fun z hz => n1 z (memR (sub.subset hz))
theorem w_idxDo (g : Gd X C) (ha : SE X C p1 Γ ea a (.own (.t m)) Γ1) (hb : SE X C p2 Γ1 eb b (.own .v) Γ2) (hs : NoSl eb := by exact fun _ _ => rfl) : SE X C (p1 && p2) Γ (.Subscript ea eb pos) (.idxD a b) (.own m) Γ2 :=
  PE.imp (pe_dget (by have := g.un; omega) ha hb hs) fun _ _ _ h => c_idxDo h
theorem w_dctT1o (g : Gd X C) {y : Str} {q q2 : Pos} (hN : X.N[i]? = some y := by rfl) (hm : Γ[i]? = some (some .v) := by rfl) (hv : Vis X.env.scope y := by first | exact Or.inl rfl | exact Or.inr (Or.inl rfl) | exact Or.inr (Or.inr rfl))
    (hd : (y == ("__debug__" : Str)) = false := by decide) (hcd : (y == ("__classdict__" : Str)) = false := by decide) :
    SE X C true Γ (.Dict [some (.Name y q)] [.List [] q2] pos) (.dct (.cons (.bi .tupK (.cons (.var i) .nil)) (.cons (.lst .nil) .nil))) (.own (.t (.l m))) Γ :=
  PE.imp (pe_dT1 (by have := g.un; omega) (pe_var hN hv hd hcd) (pe_lst pa_nil)) fun σ H Q ⟨e, S, R, s, o⟩ => by
    intro p hp
    obtain ⟨d, v, U, h1, h2, h3, h4⟩ := s.sl.get hm
    have o : Out C σ H S R (OkE C σ H S R true (.own (.t (.l m))) Γ Q) (((evE C.F (.bi .tupK (.cons (.var i) .nil)) e).bind fun d e1 => .ok [Ar.d d, Ar.d (.lst [])] e1).bind fun as e1 => ofO ((dsOf as).bind fun ds => (dispK ds []).map .dct) e1) := by
      have o' : Out C σ H S R (OkE C σ H S R true (.own (.t (.l m))) Γ Q) (((evE C.F (.bi .tupK (.cons (.var i) .nil)) e).bind fun d e1 => ((evE C.F (.lst .nil) e1).bind fun d2 e2 => Mi.R.ok [Ar.d d2] e2).bind fun r e2 => .ok (Ar.d d :: r) e2).bind fun as e1 => ofO ((dsOf as).bind fun ds => (dispK ds []).map .dct) e1) := o
      exact o'
    cases hq : evE C.F (.bi .tupK (.cons (.var i) .nil)) e with
    | bad => rw [hq] at o; exact o.elim
    | err c' fs e' =>
      exfalso
      have h : ((ofO (gt e i) e).bind fun d e1 => Mi.R.ok [Ar.d d] e1).bind (fun as e1 => ofO ((dsOf as).bind fun ds => evBi .tupK ds) e1) = .err c' fs e' := hq
      rw [h1] at h
      have h : ofO (tupKD d) e = .err c' fs e' := h
      cases ht : tupKD d with
      | none => rw [ht] at h; cases h
      | some z => rw [ht] at h; cases h
    | ok d0 e0 =>
      obtain ⟨rfl, h5, k, rfl⟩ := tupK_of hq
      rw [h1] at h5
      cases h5
      rw [hq] at o
      have o : OkE C σ H S R true (.own (.t (.l m))) Γ Q (.dct [(keyT k, .lst [])]) e0 := o
      obtain ⟨b, rfl, hb⟩ := h4.key
      have nbp : b ≠ p := fun z => by rw [z, hp] at hb; cases hb
      refine ⟨.ref b, h2, by show 0 ≤ sizeLine; exact Nat.zero_le _, fun r hr => ?_⟩
      have nrp : r ≠ p := fun z => by rw [z, upd_same] at hr; cases hr
      have hr0 : H r = none := by rw [upd_ne nrp] at hr; exact hr
      have nbr : b ≠ r := fun z => by rw [z, hr0] at hb; cases hb
      refine ⟨by rw [upd_ne (Ne.symm nrp), upd_same], k, b, rfl, by rw [upd_ne nbr, upd_ne nbp]; exact hb, ?_⟩
      have a1 : At C σ H S R true Γ e0 H S R := At.start s
      refine a1.fin o (fun a ob hn he => ?_) (T := [p, r]) (fun z hz => ?_) ?_ ?_
      · have n1 : a ≠ p := fun z => by rw [z, hp] at he; cases he
        have n2 : a ≠ r := fun z => by rw [z, hr0] at he; cases he
        rw [upd_ne n1, upd_ne n2, upd_ne n1]
        exact he
      · simp only [List.mem_cons, List.not_mem_nil, or_false] at hz
        rcases hz with rfl | rfl
        · exact hp
        · exact hr0
      · simp only [List.nodup_cons, List.mem_singleton, List.not_mem_nil, not_false_eq_true, List.nodup_nil, and_true]
        exact Ne.symm nrp
      · refine .dT (S := [r] ++ []) upd_same (OwT.cons (S := [r]) (T := []) ?_ .nil)
        exact .lst (S := []) (by rw [upd_ne nrp, upd_same]) .nil
end
end Mi
namespace Mi
open PySem PySem.Spec PyProof.Rows L2
def OkQ (C : Cf) (σ : VS) (H : Hp) (S R : List Addr) (k : Kd) (Γ' : G) (Q : VK) (d : D) (e' : Env) : Prop :=
  ∀ v H' S' T, Post [] H H' → New S H (S' ++ T) → Sta C.B C.M (T ++ R) Γ' e' σ H' S' → Vl C.B (S' ++ (T ++ R)) S' H' k d v T → Q v H'
def tQ (C : Cf) (Γ : G) (m : Ex) (k : Kd) (Γ' : G) : TE := fun σ H Q => ∃ e S R, Sta C.B C.M R Γ e σ H S ∧ Out C σ H S R (OkQ C σ H S R k Γ' Q) (evE C.F m e)
section
variable {X : Cx} {C : Cf} {Γ Γ1 Γc Γd Γe : G} {it : Mi.It} {t : Tg} {c f : Ex} {own : List Nat} {me : Md}
theorem c_lcQ (hg : leG Γe (wipeG own Γ1) = true) (hd : leG Γd (wipeG own Γ1) = true) (hc : Γc.length = (wipeG own Γ1).length) (ht : ∀ i ∈ tgS t, i ∈ own) (hown : ownOk own Γ1 = true) {σ : VS} {H : Hp} {Q : VK}
    (h : tQ C Γ (.lc own f t it c) (.own (.l me)) Γ1 σ H Q) : tLc (tI C true Γ it Γ1) (tG (blkC C) (wipeG own Γ1) t Γc) (tT (blkC C) true Γc c Γd) (tE (blkC C) true Γd f (.own me) Γe) own σ H Q := by
  obtain ⟨e, S, R, s, o⟩ := h
  have o : Out C σ H S R (OkQ C σ H S R (.own (.l me)) Γ1 Q) ((evIt C.F it e).bind fun xs e1 => noErr ((lcLoop (bindT t) (fun e => evE C.F c e) (fun e => (evE C.F f e).bind fun d e1 => .ok [d] e1) xs (wipeE own e1)).bind fun ds e2 =>
    if ds.length < LIM then .ok (.lst ds) (backE own e1 e2) else .bad)) := o
  refine ⟨e, S, R, s, ?_⟩
  cases hi : evIt C.F it e with
  | bad => rw [hi] at o; exact o
  | err k fs e' => rw [hi] at o; exact o
  | ok xs e1 =>
    rw [hi] at o
    obtain ⟨rr, ee, o1, o2⟩ := noErr_ok o
    obtain ⟨ds, e2, o3, o4⟩ := bind_ok o1
    split at o4
    case isFalse => cases o4
    rename_i hlim
    cases o4
    intro J H1 S1 T1 po ps n1 s1 y1
    have poQ : Post [] H H1 := po
    have po := po.ite
    intro Da hD
    let stp : List Mi.D → Env → Mi.R (List Mi.D) := lcLoop (bindT t) (fun e => evE C.F c e) (fun e => (evE C.F f e).bind fun d e1 => .ok [d] e1)
    have nDS : Da ∉ S1 ++ (T1 ++ R) := notLive s1.lives hD
    have slW := Sl.wipe (own := own) s1.sl fun i hi' m hm => ownOk_get hown hi' hm
    refine ⟨fun i m H' => i + m = xs.length ∧ ∃ dn vs T e' S' r', (LcS C σ own Γ1 S1 (T1 ++ R) H1 me Da dn vs T e' S' H' ∧ Post [] H1 H') ∧ stp (xs.drop i) e' = .ok r' e2 ∧ dn ++ r' = ds, ⟨xs.length, by simp, [], [], [], wipeE own e1, S1, ds, ⟨⟨?_, ?_, upd_same, .nil, ?_⟩, post_upd hD⟩, by simpa using o3, rfl⟩, ?_⟩
    · exact (post_upd hD).nil _
    · intro a ha
      rcases List.mem_append.mp ha with z | z
      · exact .inl z
      · rw [List.mem_singleton.mp z]; exact .inr hD
    · have nd := s1.nd
      have s1' : Sta C.B ⟨[], []⟩ (T1 ++ R) (wipeG own Γ1) (wipeE own e1) (L2.wipe σ own) H1 S1 := ⟨nd, s1.live, slW, fun i hi => nomatch hi⟩
      refine s1'.grow (post_upd hD) (List.nodup_cons.mpr ⟨fun z => nDS (memR z), (List.nodup_append.mp nd).2.1⟩) (Live.cons upd_same (s1.live.post (post_upd hD) fun _ _ z => nomatch z)) fun a ha => ?_
      rcases List.mem_cons.mp ha with z | z
      · rw [z]; exact .inr hD
      · exact .inl z
    · rintro i m H' ⟨him, dn, vs, T, e', S', r', ⟨L, LQ⟩, o5, o6⟩
      have Oe : S' ++ (Da :: (T ++ (T1 ++ R))) = S' ++ (Da :: (T ++ (T1 ++ R))) := rfl
      obtain ⟨ys, yg⟩ := y1 (S' ++ (Da :: (T ++ (T1 ++ R)))) H' (L.po.mono fun _ => memL) (fun a ha => by
        have ha' : a ∈ S' ++ (Da :: T) ∨ a ∈ T1 ++ R := by simpa [or_assoc] using ha
        rcases ha' with z | z
        · exact (L.nw a z).imp (fun w => memL (memL w)) id
        · refine .inl ?_
          simp only [List.mem_append] at z ⊢
          exact z.elim .inr fun w => .inl (.inr w)) L.st.lives
      by_cases hlt : i < xs.length
      · have hx : xs[i]? = some xs[i] := List.getElem?_eq_getElem hlt
        obtain ⟨g1, g2⟩ := yg i _ hx
        rw [List.drop_eq_getElem_cons hlt] at o5
        obtain ⟨e3, b, e4, b1, b2, b3⟩ := lcLoop_cons o5
        refine .inr ⟨g1, fun H'' => ∃ dn vs T e' S' r', (LcS C σ own Γ1 S1 (T1 ++ R) H1 me Da dn vs T e' S' H'' ∧ Post [] H1 H'') ∧ stp (xs.drop (i + 1)) e' = .ok r' e2 ∧ dn ++ r' = ds, fun H'' q => ⟨m - 1, by omega, by omega, q⟩, fun x H4 hy => ?_⟩
        obtain ⟨q1, q2⟩ := g2 x H4 hy
        have L4 : LcS C σ own Γ1 S1 (T1 ++ R) H1 me Da dn vs T e' S' H4 := L.none (q1.nil _) New.refl (L.st.grow q1 (List.nodup_append.mp L.st.nd).2.1 (L.st.live.post q1 fun _ _ z => nomatch z) fun _ h => .inl h)
        refine ⟨xs[i], e', S', Da :: (T ++ (T1 ++ R)), L4.st, q2, e3, b1, fun σ5 S5 oth k5 s5 => ?_⟩
        have hl5 : σ5.length = σ.length := by
          rw [s5.sl.len, hc, ← L4.st.sl.len, wipe_length]
        have hw : L2.wipe σ5 own = L2.wipe σ own := wipe_eq oth hl5 ht
        refine ⟨hw, e3, S5, _, s5, Out.of_ok b2 ⟨b, rfl, fun H5 S6 po6 ps6 n6 s6 => ?_⟩⟩
        have n5 : New S' H4 S5 := fun a ha => .inl (k5 a ha)
        have p45 : Post S' H4 H5 := (Post.refl S' H4).trans n5 po6.ite
        have n46 : New S' H4 S6 := n5.trans (Post.refl _ _) n6
        cases b with
        | false =>
          rw [if_neg Bool.false_ne_true] at b3
          dsimp only
          rw [if_neg Bool.false_ne_true]
          obtain ⟨S8, k8, s8⟩ := Sta.toW s6 hd hw
          have q15 : Post [] H1 H5 := fun a ob hn he => po6 a ob hn (q1 a ob hn (LQ a ob hn he))
          exact ⟨dn, vs, T, e4, S8, r', ⟨L4.none p45 (fun a ha => n46 a (k8 a ha)) s8, q15⟩, b3, o6⟩
        | true =>
          rw [if_pos rfl] at b3
          dsimp only
          rw [if_pos rfl]
          obtain ⟨d1, e6, r2, b4, b5, b6⟩ := b3
          obtain ⟨d0, e7, b7, b8⟩ := bind_ok b4
          cases b8
          refine ⟨e4, S6, _, s6, Out.of_ok b7 fun v H7 S7 T7 po7 ps7 n7 s7 vl7 => ?_⟩
          have ow : Ow C.B (S7 ++ (T7 ++ (Da :: (T ++ (T1 ++ R))))) H7 me d0 v T7 := vl7
          obtain ⟨S8, k8, s8⟩ := Sta.toW s7 hg hw
          have p47 : Post S' H4 H7 := p45.trans n46 po7.ite
          have n47 : New S' H4 (S7 ++ T7) := n46.trans p45 n7
          have n48 : New S' H4 (S8 ++ T7) := fun a ha => n47 a ((List.mem_append.mp ha).elim (fun z => memL (k8 a z)) memR)
          have L7 := L4.item (d := d0) (v := v) p47 n48 s8 (ow.fr (Fr.sub fun a ha => (List.mem_append.mp ha).elim (fun z => memL (k8 a z)) memR) fun _ _ _ z => z)
          have hD7 : H7 Da = some (.lst vs) := p47 Da _ (fun z => disj L4.st.nd z (List.mem_cons_self ..)) L4.hD
          have q17 : Post [] H1 (L2.upd H7 Da (.lst (vs ++ [v]))) := fun a ob hn he => by
            have ne : a ≠ Da := fun z => by rw [z, hD] at he; cases he
            rw [upd_ne ne]
            exact po7 a ob hn (po6 a ob hn (q1 a ob hn (LQ a ob hn he)))
          refine ⟨vs, hD7, ?_, dn ++ [d0], vs ++ [v], T ++ T7, e6, S8, r2, ⟨L7, q17⟩, b5, by rw [List.append_assoc, ← b6]; exact o6⟩
          rw [← L4.ol.len]
          have : dn.length + 1 ≤ ds.length := by rw [← o6, b6]; simp
          exact lim_line (by omega)
      · have hz : xs.drop i = [] := List.drop_eq_nil_of_le (by omega)
        rw [hz] at o5
        cases o5
        refine .inl ⟨ys i (by omega), ?_⟩
        have o6 : dn = ds := by simpa using o6
        subst o6
        have nd := L.st.nd
        have n0 : New S H (S' ++ (Da :: T)) := n1.left.trans po L.nw
        have p0 : Post [] H H' := fun a ob hn he => LQ a ob hn (poQ a ob hn he)
        have ndZ : ((Da :: T) ++ R).Nodup := by
          have h := (List.nodup_append.mp nd).2.1
          have sub : ((Da :: T) ++ R).Sublist (Da :: (T ++ (T1 ++ R))) := by
            refine List.Sublist.cons₂ Da ?_
            exact List.Sublist.append_left (List.sublist_append_right _ _) T
          exact sub.nodup h
        have mem : ∀ a ∈ (Da :: T) ++ R, a ∈ Da :: (T ++ (T1 ++ R)) := fun a ha => by
          simp only [List.cons_append, List.mem_cons, List.mem_append] at ha ⊢
          rcases ha with h | h | h
          · exact .inl h
          · exact .inr (.inl h)
          · exact .inr (.inr (.inr h))
        have sD := L.st.drop ndZ mem
        have f1 : Fr (S1 ++ (T1 ++ R)) (S' ++ ((Da :: T) ++ R)) H1 H' := by
          refine ⟨fun a ob n e => L.po a ob (fun z => n (memL z)) e, fun a ob n e z => ?_⟩
          have z' : a ∈ S' ++ (Da :: T) ∨ a ∈ R := by simpa [or_assoc] using z
          rcases z' with z' | z'
          · rcases L.nw a z' with w | w
            · exact n (memL w)
            · rw [e] at w; cases w
          · exact n (memR (memR z'))
        refine o2 (.ref Da) H' S' (Da :: T) p0 n0 ⟨sD.nd, sD.live, Sl.back sD.sl fun i hi' m hm => ?_, s1.mp⟩ (.lst L.hD (L.ol.fr (Fr.sub fun a ha => (List.mem_append.mp ha).elim memL fun z => memR (mem a z)) fun _ _ _ z => z))
        have z := ownOk_get hown hi' hm
        subst z
        obtain ⟨d, v, U, h1, h2, h3, h4⟩ := s1.sl.get hm
        have zU := h4.v_nil
        subst zU
        exact ⟨rfl, d, v, h1, h2, h4.fr f1 fun _ z => nomatch z⟩
end
section
variable {X : Cx} {C : Cf} {Γ Γ1 Γ2 Γc Γd Γe : G} {it : Mi.It} {t : Tg} {c f a : Ex} {me : Md} {i : Nat} {m : Md} {ea : Expr}
theorem w_lcQ {elt tg iter : Expr} {ifs : List Expr} {scope : Scope} {ow : List (Str × Nat)} {pos : Pos} (g : Gd X C) (hi : SI X C true Γ tg iter it Γ1) (ok : BlkOk X.N X.env.scope scope ow)
    (hg : ∀ (s : Shared) (H : Hp) (L : Addr) (cl : List (Str × Addr)) (fp : List Addr), Gd (X.blk s H scope (compEnvC scope cl L X.env) fp) (blkC C) → SG (X.blk s H scope (compEnvC scope cl L X.env) fp) (blkC C) (wipeG (ow.map (·.2)) Γ1) tg t Γc)
    (ht : ∀ (s : Shared) (H : Hp) (L : Addr) (cl : List (Str × Addr)) (fp : List Addr), Gd (X.blk s H scope (compEnvC scope cl L X.env) fp) (blkC C) → STs (X.blk s H scope (compEnvC scope cl L X.env) fp) (blkC C) true Γc ifs c Γd)
    (he : ∀ (s : Shared) (H : Hp) (L : Addr) (cl : List (Str × Addr)) (fp : List Addr), Gd (X.blk s H scope (compEnvC scope cl L X.env) fp) (blkC C) → SE (X.blk s H scope (compEnvC scope cl L X.env) fp) (blkC C) true Γd elt f (.own me) Γe)
    (l1 : leG Γe (wipeG (ow.map (·.2)) Γ1) = true := by rfl) (l2 : leG Γd (wipeG (ow.map (·.2)) Γ1) = true := by rfl) (l3 : Γc.length = (wipeG (ow.map (·.2)) Γ1).length := by rfl) (l4 : ∀ i ∈ tgS t, i ∈ ow.map (·.2) := by decide) (l5 : ownOk (ow.map (·.2)) Γ1 = true := by rfl)
    (hs : ∀ x, foldedSetIterable iter X.env x = pure x := by intro _; rfl) : PE X (.ListComp elt [⟨tg, iter, ifs, 0⟩] scope pos) (tQ C Γ (.lc (ow.map (·.2)) f t it c) (.own (.l me)) Γ1) :=
  PE.imp (pe_lc g.calm g.nd hi ok (fun s H L cl fp => hg s H L cl fp g.blk) (fun s H L cl fp => ht s H L cl fp g.blk) (fun s H L cl fp => he s H L cl fp g.blk) hs) fun σ H Q h => c_lcQ l1 l2 l3 l4 l5 h
theorem w_neQ {q2 pos : Pos} (g : Gd X C) (ha : PE X ea (tQ C Γ a (.own (.l me)) Γ1)) : PE X (.Compare ea [.NotEq] [.List [] q2] pos) (tQ C Γ (.op .neE a (.lst .nil)) (.own .v) Γ1) :=
  PE.imp (pe_cmpR (op_neE (by have := g.un; omega)) ha (pe_lst pa_nil) (by first | rfl | with_unfolding_all rfl)) fun σ H Q ⟨e, S, R, s, o⟩ => by
    have o : Out C σ H S R (OkQ C σ H S R (.own .v) Γ1 Q) ((evE C.F a e).bind fun x e1 => ofO (neE x (.lst [])) e1) := o
    refine ⟨e, S, R, s, ?_⟩
    revert o
    cases evE C.F a e with
    | bad => exact id
    | err c fs e' => exact id
    | ok d e1 =>
      intro o v H1 S1 T1 po n sta vl
      refine ⟨by show 0 ≤ sizeLine; exact Nat.zero_le _, fun p hp => ?_⟩
      obtain ⟨d', hd, q⟩ := Out.ofO (show Out C σ H S R (OkQ C σ H S R (.own .v) Γ1 Q) (ofO (neE d (.lst [])) e1) from o)
      cases d <;> first | (cases hd; done) | skip
      rename_i ds
      cases hd
      have vl : Ow C.B _ H1 (.l me) (.lst ds) v T1 := vl
      obtain ⟨b, vs, Tb, rfl, hb, hL, rfl⟩ := vl.l_inv
      have nbp : b ≠ p := fun z => by rw [z, hp] at hb; cases hb
      have e5 : vs.isEmpty = ds.isEmpty := by cases hL <;> rfl
      refine ⟨b, p, vs, rfl, rfl, .of (by rw [upd_ne nbp]; exact hb), .of upd_same, ?_⟩
      rw [e5]
      have po2 : Post [] H1 (upd H1 p (.lst [])) := post_upd hp
      have ndR : R.Nodup := (List.nodup_append.mp s.nd).2.1
      have sd : Sta C.B C.M R Γ1 e1 σ H1 S1 := sta.drop ndR fun z hz => memR hz
      have sg : Sta C.B C.M R Γ1 e1 σ (upd H1 p (.lst [])) S1 := sd.grow po2 ndR (sd.live.post po2 fun _ _ z => nomatch z) fun z hz => .inl hz
      exact q (.bl _) _ S1 [] (fun z ob hn he => po2 z ob hn (po z ob hn he)) (by simpa using n.left) sg .bl
theorem c_lendQ {σ : VS} {H : Hp} {Q : VK} (hm : Γ[i]? = some (some m)) (l : leG Γ (Γ.set i (some .v)) = true) (h : tE C true Γ (.lend i a) (.own .v) Γ σ H Q) : tQ C (Γ.set i (some .v)) a (.own .v) Γ2 σ H Q := by
  obtain ⟨e, S, R, s, o⟩ := h
  obtain ⟨S', k1, s'⟩ := s.le l
  refine ⟨e, S', R, s', ?_⟩
  have o : Out C σ H S R (OkE C σ H S R true (.own .v) Γ Q) (match evE C.F a e with
    | .ok d _ => if lendD d then .ok d e else .bad
    | .err c fs e1 => .err c fs e1
    | .bad => .bad) := o
  cases hev : evE C.F a e with
  | bad => rw [hev] at o; exact o
  | err c fs e1 =>
    rw [hev] at o
    intro cls dx H' S2 hp hn hs hx
    exact (show ErrQ C σ H S R c fs e1 from o) cls dx H' S2 (hp.mono k1) (fun b hb => (hn b hb).imp (k1 b) id) hs hx
  | ok d e1 =>
    rw [hev] at o
    dsimp only at o
    split at o
    case isFalse => exact o.elim
    rename_i ha
    intro v H' S2 T po n sta vl
    have vl : Ow C.B (S2 ++ (T ++ R)) H' .v d v T := vl
    have zT := vl.v_nil
    subst zT
    have ndR : R.Nodup := (List.nodup_append.mp s.nd).2.1
    have s2 : Sta C.B C.M ([] ++ R) Γ e σ H' S := s.grow po ndR (s.live.post po fun _ _ z => nomatch z) fun b hb => .inl hb
    refine (show OkE C σ H S R true (.own .v) Γ Q d e from o) v H' S [] po (fun _ => rfl) (by simpa using New.refl) s2 ?_
    by_cases ht : ∃ ds, d = .tup ds
    · obtain ⟨ds, rfl⟩ := ht
      have ha : (false || ds.all atom) = true := ha
      rw [Bool.false_or] at ha
      obtain ⟨b, vs, rfl, k2, k3⟩ := vl.tup_eq
      have nb : b ∉ S ++ ([] ++ R) := fun z => by
        obtain ⟨ob, hob, ow⟩ := s2.lives b z
        rw [k2.2] at hob
        cases hob
        cases ow
      exact .tup rfl ⟨nb, k2.2⟩ (OwL.atoms ha k3)
    · cases d <;> first | (exact absurd ⟨_, rfl⟩ ht) | (cases ha; done) | (cases vl; first | exact .non | exact .bl | exact .int | exact .str)
theorem w_lendQ (hm : Γ[i]? = some (some m)) (l : leG Γ (Γ.set i (some .v)) = true) (h : PE X ea (tQ C (Γ.set i (some .v)) a (.own .v) Γ2)) : SE X C true Γ ea (.lend i a) (.own .v) Γ := PE.imp h fun σ H Q h => c_lendQ hm l h
theorem t_lendQ {q2 pos : Pos} (g : Gd X C) (hm : Γ[i]? = some (some m)) (l : leG Γ (Γ.set i (some .v)) = true) (ha : PE X ea (tQ C (Γ.set i (some .v)) a (.own (.l me)) Γ1)) : ST X C true Γ (.Compare ea [.NotEq] [.List [] q2] pos) (.lend i (.op .neE a (.lst .nil))) Γ :=
  PT.imp (pt_cmpR (op_neE (by have := g.un; omega)) ha (pe_lst pa_nil) (by first | rfl | with_unfolding_all rfl)) fun σ H Q0 h0 => by
    obtain ⟨e, S, R, s, o⟩ := c_lendQ (Γ2 := Γ1) hm l (tT_val h0)
    generalize hQ : (fun (x : _) (H1 : Hp) => ∃ k, x = V.bl k ∧ Q0 k H1) = Q at o
    show tOp _ _ _ σ H _
    rw [hQ]
    have o : Out C σ H S R (OkQ C σ H S R (.own .v) Γ1 Q) ((evE C.F a e).bind fun x e1 => ofO (neE x (.lst [])) e1) := o
    refine ⟨e, S, R, s, ?_⟩
    revert o
    cases evE C.F a e with
    | bad => exact id
    | err c fs e' => exact id
    | ok d e1 =>
      intro o v H1 S1 T1 po n sta vl
      refine ⟨by show 0 ≤ sizeLine; exact Nat.zero_le _, fun p hp => ?_⟩
      obtain ⟨d', hd, q⟩ := Out.ofO (show Out C σ H S R (OkQ C σ H S R (.own .v) Γ1 Q) (ofO (neE d (.lst [])) e1) from o)
      cases d <;> first | (cases hd; done) | skip
      rename_i ds
      cases hd
      have vl : Ow C.B _ H1 (.l me) (.lst ds) v T1 := vl
      obtain ⟨b, vs, Tb, rfl, hb, hL, rfl⟩ := vl.l_inv
      have nbp : b ≠ p := fun z => by rw [z, hp] at hb; cases hb
      have e5 : vs.isEmpty = ds.isEmpty := by cases hL <;> rfl
      refine ⟨b, p, vs, rfl, rfl, .of (by rw [upd_ne nbp]; exact hb), .of upd_same, ?_⟩
      rw [e5]
      have po2 : Post [] H1 (upd H1 p (.lst [])) := post_upd hp
      have ndR : R.Nodup := (List.nodup_append.mp s.nd).2.1
      have sd : Sta C.B C.M R Γ1 e1 σ H1 S1 := sta.drop ndR fun z hz => memR hz
      have sg : Sta C.B C.M R Γ1 e1 σ (upd H1 p (.lst [])) S1 := sd.grow po2 ndR (sd.live.post po2 fun _ _ z => nomatch z) fun z hz => .inl hz
      exact q (.bl _) _ S1 [] (fun z ob hn he => po2 z ob hn (po z ob hn he)) (by simpa using n.left) sg .bl
end
end Mi
namespace Mi
open PySem
theorem evE_var (F : FS) {i} {e} : evE F (.var i) e = (ofO (gt e i) e) := rfl
theorem evE_mv (F : FS) {i} {e} : evE F (.mv i) e = (ofO (gt e i) (st e i none)) := rfl
theorem evE_fz (F : FS) {i} {e} : evE F (.fz i) e = (ofO (gt e i) e) := rfl
theorem evE_cst (F : FS) {d} {e} : evE F (.cst d) e = (.ok d e) := rfl
theorem evE_glb (F : FS) {u0} {d} {e} : evE F (.glb u0 d) e = (.ok d e) := rfl
theorem evE_neg (F : FS) {a} {e} : evE F (.neg a) e = ((evE F a e).bind fun d e1 => match d with
    | .int i => .ok (.int (-i)) e1
    | _ => .bad) := rfl
theorem evE_not (F : FS) {a} {e} : evE F (.not a) e = ((evE F a e).bind fun d e1 => match d with
    | .bl b => .ok (.bl (!b)) e1
    | _ => .bad) := rfl
theorem evE_op (F : FS) {o} {a} {b} {e} : evE F (.op o a b) e = ((evE F a e).bind fun x e1 => (evE F b e1).bind fun y e2 => ofO (evOp2 o x y) e2) := rfl
theorem evE_ch (F : FS) {o} {p} {a} {b} {c} {e} : evE F (.ch o p a b c) e = ((evE F a e).bind fun x e1 => (evE F b e1).bind fun y e2 => match evOp2 o x y with
    | some (.bl true) => (evE F c e2).bind fun z e3 => ofO (evOp2 p y z) e3
    | some (.bl false) => .ok (.bl false) e2
    | _ => .bad) := rfl
theorem evE_ch3 (F : FS) {o} {p} {q} {a} {b} {c} {d} {e} : evE F (.ch3 o p q a b c d) e = ((evE F a e).bind fun x e1 => (evE F b e1).bind fun y e2 => match evOp2 o x y with
    | some (.bl true) => (evE F c e2).bind fun z e3 => match evOp2 p y z with
      | some (.bl true) => (evE F d e3).bind fun w e4 => ofO (evOp2 q z w) e4
      | some (.bl false) => .ok (.bl false) e3
      | _ => .bad
    | some (.bl false) => .ok (.bl false) e2
    | _ => .bad) := rfl
theorem evE_and (F : FS) {a} {b} {e} : evE F (.and a b) e = ((evE F a e).bind fun x e1 => match x with
    | .bl true => evE F b e1
    | .bl false => .ok (.bl false) e1
    | _ => .bad) := rfl
theorem evE_or (F : FS) {a} {b} {e} : evE F (.or a b) e = ((evE F a e).bind fun x e1 => match x with
    | .bl true => .ok (.bl true) e1
    | .bl false => evE F b e1
    | _ => .bad) := rfl
theorem evE_ite (F : FS) {c} {a} {b} {e} : evE F (.ite c a b) e = ((evE F c e).bind fun x e1 => match x with
    | .bl true => evE F a e1
    | .bl false => evE F b e1
    | _ => .bad) := rfl
theorem evE_isN (F : FS) {g} {a} {e} : evE F (.isN g a) e = ((evE F a e).bind fun x e1 => .ok (.bl (match x with
    | .non => !g
    | _ => g)) e1) := rfl
theorem evE_idx (F : FS) {a} {i} {e} : evE F (.idx a i) e = ((evE F a e).bind fun x e1 => (evE F i e1).bind fun y e2 => ofO (idxS x y) e2) := rfl
theorem evE_idxD (F : FS) {a} {i} {e} : evE F (.idxD a i) e = ((evE F a e).bind fun x e1 => (evE F i e1).bind fun y e2 => ofO (idxD x y) e2) := rfl
theorem evE_sl (F : FS) {a} {l} {h} {e} : evE F (.sl a l h) e = ((evE F a e).bind fun x e1 => (evOp F l e1).bind fun y e2 => (evOp F h e2).bind fun z e3 => ofO (slOp x y z) e3) := rfl
theorem evE_rev (F : FS) {a} {e} : evE F (.rev a) e = ((evE F a e).bind fun x e1 => match x with
    | .lst ds => .ok (.lst ds.reverse) e1
    | _ => .bad) := rfl
theorem evE_fld (F : FS) {a} {n} {e} : evE F (.fld a n) e = ((evE F a e).bind fun x e1 => ofO (fldOp x n) e1) := rfl
theorem evE_tup (F : FS) {es} {e} : evE F (.tup es) e = ((evEs F es e).bind fun as e1 => ofO ((dsOf as).map .tup) e1) := rfl
theorem evE_lst (F : FS) {es} {e} : evE F (.lst es) e = ((evEs F es e).bind fun as e1 => ofO ((dsOf as).map .lst) e1) := rfl
theorem evE_dct (F : FS) {es} {e} : evE F (.dct es) e = ((evEs F es e).bind fun as e1 => ofO ((dsOf as).bind fun ds => (dispK ds []).map .dct) e1) := rfl
theorem evE_call (F : FS) {f} {es} {e} : evE F (.call f es) e = ((evEs F es e).bind fun as e1 => match arD as e1 with
    | some ds => callR (F f ds) as e1
    | none => .bad) := rfl
theorem evE_mV (F : FS) {c} {f} {a} {es} {e} : evE F (.mV c f a es) e = ((evE F a e).bind fun d e1 => if isTy (.cls c) d then (evEs F es e1).bind fun as e2 => (match arD as e2 with
      | some ds => callR (F f (d :: ds)) (.d d :: as) e2
      | none => .bad) else .bad) := rfl
theorem evE_mR (F : FS) {c} {f} {i} {es} {e} : evE F (.mR c f i es) e = (match gt e i with
    | some d => if isTy (.cls c) d then (evEs F es e).bind fun as e2 => (match arD (.s i :: as) e2 with
      | some ds => callR (F f ds) (.s i :: as) e2
      | none => .bad) else .bad
    | none => .bad) := rfl
theorem evE_mk (F : FS) {c} {f} {es} {e} : evE F (.mk c f es) e = ((evEs F es e).bind fun as e1 => match arD as e1 with
    | some ds => match F f (.obj c [] :: ds) with
      | .ok .non [o] => .ok o e1
      | .err c fs [_] => .err c fs e1
      | _ => .bad
    | none => .bad) := rfl
theorem evE_bi (F : FS) {o} {es} {e} : evE F (.bi o es) e = ((evEs F es e).bind fun as e1 => ofO ((dsOf as).bind fun ds => evBi o ds) e1) := rfl
theorem evE_mut (F : FS) {m} {p} {es} {e} : evE F (.mut m p es) e = ((evPl F p e).bind fun sp e1 => if atPl (muTy m) (gt e1 sp.1) sp.2 then (evEs F es e1).bind fun as e2 => (match dsOf as with
      | some ds => doMu m ds sp e2
      | none => .bad) else .bad) := rfl
theorem evE_lc (F : FS) {own} {f} {tg} {it} {c} {e} : evE F (.lc own f tg it c) e = ((evIt F it e).bind fun xs e1 => noErr ((lcLoop (bindT tg) (fun e => evE F c e) (fun e => (evE F f e).bind fun d e1 => .ok [d] e1) xs (wipeE own e1)).bind fun ds e2 =>
    if ds.length < LIM then .ok (.lst ds) (backE own e1 e2) else .bad)) := rfl
theorem evE_lc2 (F : FS) {own} {own2} {f} {tg} {it} {c} {tg2} {it2} {c2} {e} : evE F (.lc2 own own2 f tg it c tg2 it2 c2) e = ((evIt F it e).bind fun xs e1 => noErr ((lcLoop (bindT tg) (fun e => evE F c e) (fun e => (evIt F it2 e).bind fun ys e1 =>
      lcLoop (bindT tg2) (fun e => evE F c2 e) (fun e => (evE F f e).bind fun d e1 => .ok [d] e1) ys e1) xs (wipeE own e1)).bind fun ds e2 =>
    if ds.length < LIM then .ok (.lst ds) (backE own e1 e2) else .bad)) := rfl
theorem evE_dc (F : FS) {own} {k} {v} {tg} {it} {c} {e} : evE F (.dc own k v tg it c) e = ((evIt F it e).bind fun xs e1 => noErr ((lcLoop (bindT tg) (fun e => evE F c e) (fun e => (evE F k e).bind fun a e1 => (evE F v e1).bind fun b e2 => .ok [.tup [a, b]] e2) xs (wipeE own e1)).bind fun ds e2 =>
    if ds.length < LIM then ofO ((pairs? ds []).map .dct) (backE own e1 e2) else .bad)) := rfl
theorem evE_lend (F : FS) {u0} {a} {e} : evE F (.lend u0 a) e = (match evE F a e with
    | .ok d _ => if lendD d then .ok d e else .bad
    | .err c fs e1 => .err c fs e1
    | .bad => .bad) := rfl
theorem evE_fs (F : FS) {es} {e} : evE F (.fs es) e = ((evEs F es e).bind fun as e1 => ofO ((dsOf as).bind fun ds => (fstrs ds).bind fun x => if x.length < LIM then some (.str x) else none) e1) := rfl
theorem evEs_nil (F : FS) {e} : evEs F (.nil) e = (.ok [] e) := rfl
theorem evEs_cons (F : FS) {a} {es} {e} : evEs F (.cons a es) e = ((evE F a e).bind fun d e1 => (evEs F es e1).bind fun r e2 => .ok (.d d :: r) e2) := rfl
theorem evEs_ref (F : FS) {i} {es} {e} : evEs F (.ref i es) e = ((evEs F es e).bind fun r e1 => .ok (.s i :: r) e1) := rfl
theorem evOp_no (F : FS) {e} : evOp F (.no) e = (.ok none e) := rfl
theorem evOp_ex (F : FS) {a} {e} : evOp F (.ex a) e = ((evE F a e).bind fun d e1 => match d with
    | .int i => .ok (some i) e1
    | _ => .bad) := rfl
theorem evPl_sl (F : FS) {i} {e} : evPl F (.sl i) e = (.ok (i, []) e) := rfl
theorem evPl_fl (F : FS) {p} {n} {e} : evPl F (.fl p n) e = ((evPl F p e).bind fun sp e1 => .ok (sp.1, sp.2 ++ [.f n]) e1) := rfl
theorem evPl_ix (F : FS) {p} {a} {e} : evPl F (.ix p a) e = ((evPl F p e).bind fun sp e1 => (evE F a e1).bind fun d e2 => .ok (sp.1, sp.2 ++ [.i d]) e2) := rfl
theorem evIt_lst (F : FS) {a} {e} : evIt F (.lst a) e = ((evE F a e).bind fun d e1 => match d with
    | .lst ds => .ok ds e1
    | _ => .bad) := rfl
theorem evIt_scr (F : FS) {a} {e} : evIt F (.scr a) e = ((evE F a e).bind fun d e1 => match d with
    | .lst ds => .ok ds e1
    | _ => .bad) := rfl
theorem evIt_tup (F : FS) {a} {e} : evIt F (.tup a) e = ((evE F a e).bind fun d e1 => match d with
    | .tup ds => .ok ds e1
    | _ => .bad) := rfl
theorem evIt_keys (F : FS) {a} {e} : evIt F (.keys a) e = ((evE F a e).bind fun d e1 => match d with
    | .dct kvs => .ok (kvs.map (·.1)) e1
    | _ => .bad) := rfl
theorem evIt_rng (F : FS) {es} {e} : evIt F (.rng es) e = ((evEs F es e).bind fun as e1 => match dsOf as with
    | some [.int j] => if j.natAbs < LIM then .ok (rngD 0 j.toNat) e1 else .bad
    | some [.int i, .int j] => if i.natAbs < LIM ∧ j.natAbs < LIM then .ok (rngD i (j - i).toNat) e1 else .bad
    | _ => .bad) := rfl
theorem evIt_en (F : FS) {a} {e} : evIt F (.en a) e = ((evE F a e).bind fun d e1 => match d with
    | .lst ds => .ok (enumD 0 ds) e1
    | _ => .bad) := rfl
theorem evIt_enT (F : FS) {a} {e} : evIt F (.enT a) e = ((evE F a e).bind fun d e1 => match d with
    | .tup ds => .ok (enumD 0 ds) e1
    | _ => .bad) := rfl
theorem evIt_sq (F : FS) {a} {e} : evIt F (.sq a) e = ((evE F a e).bind fun d e1 => match d with
    | .lst ds => .ok ds e1
    | .tup ds => .ok ds e1
    | _ => .bad) := rfl
theorem evIt_zp (F : FS) {a} {b} {e} : evIt F (.zp a b) e = ((evE F a e).bind fun d e1 => (evE F b e1).bind fun d2 e2 => match d, d2 with
    | .lst xs, .lst ys => .ok ((xs.zip ys).map kvD) e2
    | _, _ => .bad) := rfl
theorem evIt_its (F : FS) {a} {e} : evIt F (.its a) e = ((evE F a e).bind fun d e1 => match d with
    | .dct kvs => .ok (kvs.map kvD) e1
    | _ => .bad) := rfl
theorem evIt_vls (F : FS) {a} {e} : evIt F (.vls a) e = ((evE F a e).bind fun d e1 => match d with
    | .dct kvs => .ok (kvs.map (·.2)) e1
    | _ => .bad) := rfl
theorem evS_skip (F : FS) (sub : Sub) {e} : evS F sub (.skip) e = (.ok .nxt e) := rfl
theorem evS_seq (F : FS) (sub : Sub) {a} {b} {e} : evS F sub (.seq a b) e = (match evS F sub a e with
    | .ok .nxt e1 => evS F sub b e1
    | r => r) := rfl
theorem evS_ex (F : FS) (sub : Sub) {a} {e} : evS F sub (.ex a) e = ((evE F a e).bind fun _ e1 => .ok .nxt e1) := rfl
theorem evS_asg (F : FS) (sub : Sub) {t} {a} {e} : evS F sub (.asg t a) e = ((evE F a e).bind fun d e1 => match bindT t d e1 with
    | some e2 => .ok .nxt e2
    | none => .bad) := rfl
theorem evS_fset (F : FS) (sub : Sub) {p} {n} {a} {e} : evS F sub (.fset p n a) e = ((evE F a e).bind fun d e1 => (evPl F p e1).bind fun sp e2 => match gt e2 sp.1 with
    | some d0 => match getP d0 sp.2 with
      | some o => match setF o n d with
        | some o' => match setP d0 sp.2 o' with
          | some d1 => .ok .nxt (st e2 sp.1 (some d1))
          | none => .bad
        | none => .bad
      | none => .bad
    | none => .bad) := rfl
theorem evS_iset (F : FS) (sub : Sub) {p} {i} {a} {e} : evS F sub (.iset p i a) e = ((evE F a e).bind fun d e1 => (evPl F p e1).bind fun sp e2 => (evE F i e2).bind fun k e3 => match gt e3 sp.1 with
    | some d0 => match getP d0 sp.2 with
      | some o => match setI o k d with
        | some o' => match setP d0 sp.2 o' with
          | some d1 => .ok .nxt (st e3 sp.1 (some d1))
          | none => .bad
        | none => .bad
      | none => .bad
    | none => .bad) := rfl
theorem evS_aug (F : FS) (sub : Sub) {i} {o} {a} {e} : evS F sub (.aug i o a) e = ((evE F a e).bind fun y e1 => match gt e1 i with
    | some x => (match evOp2 o x y with
      | some z => .ok .nxt (st e1 i (some z))
      | none => .bad)
    | none => .bad) := rfl
theorem evS_par (F : FS) (sub : Sub) {is} {es} {e} : evS F sub (.par is es) e = ((evEs F es e).bind fun as e1 => match (dsOf as).bind fun ds => stN is ds e1 with
    | some e2 => .ok .nxt e2
    | none => .bad) := rfl
theorem evS_ret (F : FS) (sub : Sub) {a} {e} : evS F sub (.ret a) e = ((evE F a e).bind fun d e1 => .ok (.ret d) e1) := rfl
theorem evS_ife (F : FS) (sub : Sub) {c} {a} {b} {e} : evS F sub (.ife c a b) e = ((evE F c e).bind fun x e1 => match x with
    | .bl true => evS F sub a e1
    | .bl false => evS F sub b e1
    | _ => .bad) := rfl
theorem evS_forr (F : FS) (sub : Sub) {t} {it} {b} {e} : evS F sub (.forr t it b) e = ((evIt F it e).bind fun xs e1 => forL (bindT t) (fun e => evS F sub b e) xs e1) := rfl
theorem evS_rse (F : FS) (sub : Sub) {c} {es} {e} : evS F sub (.rse c es) e = ((evEs F es e).bind fun as e1 => match dsOf as with
    | some ds => .err c ds e1
    | none => .bad) := rfl
theorem evS_try_ (F : FS) (sub : Sub) {b} {hs} {e} : evS F sub (.try_ b hs) e = (match evS F sub b e with
    | .err c fs e1 => evHs F sub hs c fs e1
    | r => r) := rfl
theorem evHs_nil (F : FS) (sub : Sub) {c} {fs} {e} : evHs F sub (.nil) c fs e = (.err c fs e) := rfl
theorem evHs_cons (F : FS) (sub : Sub) {k} {i} {b} {hs} {c} {fs} {e} : evHs F sub (.cons k i b hs) c fs e = (if sub c k then (match i with
      | none => noErr (evS F sub b e)
      | some i => match evS F sub b (st e i (some (.exc c fs))) with
        | .ok r e1 => .ok r (st e1 i none)
        | .err _ _ _ => .bad
        | .bad => .bad)
    else evHs F sub hs c fs e) := rfl
theorem bind_okk {α β : Type} (a : α) (e : Env) (f : α → Env → R β) : (R.ok a e).bind f = f a e := rfl
theorem bindT_nm (i : Nat) (d : D) (e : Env) : bindT (.nm i) d e = some (st e i (some d)) := rfl
theorem bindT_tp (ts : Tgs) (ds : List D) (e : Env) : bindT (.tp ts) (.tup ds) e = bindTs ts ds e := rfl
theorem bindT_tl (ts : Tgs) (ds : List D) (e : Env) : bindT (.tl ts) (.lst ds) e = bindTs ts ds e := rfl
theorem bindTs_cons (t : Tg) (ts : Tgs) (d : D) (ds : List D) (e : Env) : bindTs (.cons t ts) (d :: ds) e = (bindT t d e).bind fun e1 => bindTs ts ds e1 := rfl
theorem bindTs_nil (e : Env) : bindTs .nil [] e = some e := rfl
theorem forL_nil (b : D → Env → Option Env) (f : Env → R Fl) (e : Env) : forL b f [] e = .ok .nxt e := rfl
theorem forL_cons (bn : D → Env → Option Env) (f : Env → R Fl) (x : D) (xs : List D) (e : Env) : forL bn f (x :: xs) e = (match bn x e with
    | none => .bad
    | some e1 => match f e1 with
      | .ok .nxt e2 => forL bn f xs e2
      | r => r) := rfl
theorem forL_inv {bn : D → Env → Option Env} {b : Env → R Fl} (I : List D → Env → Prop) : ∀ (xs : List D) (e : Env), I xs e → (∀ x r e, I (x :: r) e → ∃ e1 e2, bn x e = some e1 ∧ b e1 = .ok .nxt e2 ∧ I r e2) → ∃ e', forL bn b xs e = .ok .nxt e' ∧ I [] e' := by
  intro xs
  induction xs with
  | nil => intro e h _; exact ⟨e, rfl, h⟩
  | cons x r ih =>
    intro e h hs
    obtain ⟨e1, e2, h1, h2, h3⟩ := hs x r e h
    obtain ⟨e', h4, h5⟩ := ih e2 h3 hs
    exact ⟨e', by rw [forL_cons, h1]; dsimp only; rw [h2]; exact h4, h5⟩
theorem lcLoop_nil (bn : D → Env → Option Env) (c : Env → R D) (f : Env → R (List D)) (e : Env) : lcLoop bn c f [] e = .ok [] e := rfl
theorem lcLoop_inv {bn : D → Env → Option Env} {c : Env → R D} {f : Env → R (List D)} (I : List D → Env → Prop) (g : D → List D) : ∀ (xs : List D) (e : Env), I xs e →
    (∀ x r e, I (x :: r) e → ∃ e1 b e2, bn x e = some e1 ∧ c e1 = .ok (.bl b) e2 ∧ if b = true then ∃ e3, f e2 = .ok (g x) e3 ∧ I r e3 else g x = [] ∧ I r e2) → ∃ e', lcLoop bn c f xs e = .ok (xs.flatMap g) e' ∧ I [] e' := by
  intro xs
  induction xs with
  | nil => intro e h _; exact ⟨e, rfl, h⟩
  | cons x r ih =>
    intro e h hs
    obtain ⟨e1, b, e2, h1, h2, h3⟩ := hs x r e h
    have un : lcLoop bn c f (x :: r) e = (match bn x e with
      | none => .bad
      | some e1 => (c e1).bind fun b e2 => match b with
        | .bl true => (f e2).bind fun ds e3 => (lcLoop bn c f r e3).bind fun r e4 => .ok (ds ++ r) e4
        | .bl false => lcLoop bn c f r e2
        | _ => .bad) := rfl
    rw [un, h1]
    dsimp only
    rw [h2]
    cases b with
    | true =>
      rw [if_pos rfl] at h3
      obtain ⟨e3, h4, h5⟩ := h3
      obtain ⟨e', h6, h7⟩ := ih e3 h5 hs
      refine ⟨e', ?_, h7⟩
      show (f e2).bind _ = _
      rw [h4]
      show (lcLoop bn c f r e3).bind _ = _
      rw [h6]
      rfl
    | false =>
      rw [if_neg Bool.false_ne_true] at h3
      obtain ⟨e', h6, h7⟩ := ih e2 h3.2 hs
      refine ⟨e', ?_, h7⟩
      show lcLoop bn c f r e2 = _
      rw [h6, List.flatMap_cons, h3.1]
      rfl
theorem evE_lc_ok {F : FS} {own : List Nat} {f : Ex} {tg : Tg} {it : It} {c : Ex} {e e1 e2 : Env} {xs ds : List D} (h1 : evIt F it e = .ok xs e1) (h2 : lcLoop (bindT tg) (fun e => evE F c e) (fun e => (evE F f e).bind fun d e1 => .ok [d] e1) xs (wipeE own e1) = .ok ds e2)
    (h3 : ds.length < LIM) : evE F (.lc own f tg it c) e = .ok (.lst ds) (backE own e1 e2) := by
  rw [evE_lc, h1]
  show noErr ((lcLoop (bindT tg) (fun e => evE F c e) (fun e => (evE F f e).bind fun d e1 => .ok [d] e1) xs (wipeE own e1)).bind _) = _
  rw [h2]
  show noErr (if ds.length < LIM then _ else _) = _
  rw [if_pos h3]
  rfl
theorem evS_forr_ok {F : FS} {sub : Sub} {t : Tg} {it : It} {b : Sm} {e e1 : Env} {xs : List D} {r : R Fl} (h1 : evIt F it e = .ok xs e1) (h2 : forL (bindT t) (fun e => evS F sub b e) xs e1 = r) : evS F sub (.forr t it b) e = r := by
  rw [evS_forr, h1]
  exact h2
end Mi
namespace Mi
open PySem PySem.Spec PyProof.Rows L2 PySem.W
def tMk1 (C : Addr) (f : Str) (ta : TA) : L2.St → Hp → XK → Prop := fun σ H Q => ta σ H fun vs H1 => ∃ v, vs = [v] ∧ ∀ d, H1 d = none → Q (.ref C) (some d) (upd H1 d (.xd [(f, v)]))
def tBy1 (C : Addr) (f : Str) (a : Addr) (cls : Value) (d : Option Addr) (te : TE) : TE := fun σ H Q => te σ H fun x H1 => x = .ref a ∧ cls = .ref C ∧ ∃ (dd : Addr) (fl : List (Str × V)) (v : V), d = some dd ∧ H1 dd = some (.xd fl) ∧ fl.lookup f = some v ∧ Q v H1
section
variable {X : Cx} {C : Cf} {p : Bool} {Γ Γ1 Γ2 Γx : G} {pos pos' pp np : Pos} {a : Ex} {ea : Expr} {c : Nat} {x : Str}
theorem s_raise1 (g : Gd X C) (hm : PMk X (.Call (.Name x pp) [ea] [] pos') (tMk1 (C.B.ca c) (C.B.fn c) (tCons (tE C p Γ a (.own .v) Γ1) tNil))) (l : leG Γ1 C.GX = true := by rfl) : SS X C Γ (.Raise (some (.Call (.Name x pp) [ea] [] pos')) none pos) (.rse c (.cons a .nil)) Γ2 :=
  PS.imp (ps_raise g.calm g.tk hm) fun E σ H ⟨e, S, R, s, o⟩ => by
    have o : OutS C E H S R Γ2 ((evE C.F a e).bind fun d e1 => .err c [d] e1) := by
      have o' : OutS C E H S R Γ2 (((evE C.F a e).bind fun d e1 => (Mi.R.ok [Ar.d d] e1)).bind fun as e1 => match dsOf as with
        | some ds => .err c ds e1
        | none => .bad) := o
      revert o'
      cases evE C.F a e <;> exact fun h => h
    show tE C p Γ a (.own .v) Γ1 σ H _
    refine stm1 (f := fun d e1 => .err c [d] e1) s o fun d e1 v H1 S1 T1 a1 v1 n1 o1 => ?_
    refine ⟨v, rfl, fun dd hdd => ?_⟩
    have v1 : Ow C.B (S1 ++ (T1 ++ R)) H1 .v d v T1 := v1
    have z := v1.v_nil
    subst z
    obtain ⟨S2, h1, s2⟩ := a1.sta.le l
    have s2 : Sta C.B C.M R C.GX e1 σ H1 S2 := s2
    have po : Post [] H1 (upd H1 dd (.xd [(C.B.fn c, v)])) := post_upd hdd
    have s3 : Sta C.B C.M R C.GX e1 σ (upd H1 dd (.xd [(C.B.fn c, v)])) S2 := s2.grow po (List.nodup_append.mp s2.nd).2.1 (fun b hb => by
      obtain ⟨o, ho⟩ := s2.live b hb
      exact ⟨o, po b o (fun z => nomatch z) ho.1, ho.2⟩) fun b hb => .inl hb
    have sub : ∀ b ∈ S2 ++ R, b ∈ S1 ++ ([] ++ R) := fun b hb => (List.mem_append.mp hb).elim (fun z => memL (h1 b z)) memR
    have ow : Ow C.B (S2 ++ R) (upd H1 dd (.xd [(C.B.fn c, v)])) .v d v [] := (Ow.fr (Fr.sub sub) v1 fun _ z => nomatch z).fr (Fr.grow po fun b hb => .inl hb) fun _ z => nomatch z
    refine (show ErrS C H S R c [d] e1 from o1) _ _ σ _ S2 (a1.po.ite.trans a1.n (po.nil _)) (fun b hb => a1.n b (h1 b hb)) s3 ⟨rfl, .inr ⟨dd, [C.B.fn c], [v], rfl, notLive s2.lives hdd, upd_same, rfl, OwL.cons (S := []) (T := []) ow .nil⟩⟩
def tSuA (C : Addr) (f K : Str) (j : Nat) (a : Addr) (cls : Value) (d : Option Addr) : TS := fun E σ H => cls = .ref C ∧ ∃ dd fl v, d = some dd ∧ H dd = some (.xd fl) ∧ fl.lookup f = some v ∧ ∀ q, H q = none → E.nx (σ.set j (some (.ref q))) (upd H q (.lst [.str K, v]))
theorem gt_st_same : ∀ {e : Env} {i : Nat} {d : Option D}, i < e.length → gt (st e i d) i = d
  | _ :: _, 0, _, _ => rfl
  | _ :: r, i + 1, _, h => gt_st_same (e := r) (i := i) (by simpa using h)
theorem Sl.lenE {B : Tb} {O : List Addr} {H : Hp} {Γ : G} {e : Env} {σ : VS} {S : List Addr} (h : Sl B O H Γ e σ S) : e.length = Γ.length := by
  induction h with
  | nil => rfl
  | no _ ih => simp [ih]
  | hv _ _ ih => simp [ih]
theorem Sl.hole {B : Tb} {O : List Addr} {H : Hp} {Γ : G} {e : Env} {σ : VS} {S : List Addr} (h : Sl B O H Γ e σ S) (x : Option D) (y : Option V) : ∀ {i : Nat}, Γ[i]? = some none → Sl B O H Γ (st e i x) (σ.set i y) S := by
  induction h with
  | nil => intro i h; simp at h
  | no h1 ih =>
    intro i h
    cases i with
    | zero => exact .no h1
    | succ i => exact .no (ih (by simpa using h))
  | hv h1 h2 ih =>
    intro i h
    cases i with
    | zero => simp at h
    | succ i => exact .hv h1 (ih (by simpa using h))
theorem Sta.hole {B : Tb} {M : MP} {R : List Addr} {Γ : G} {e : Env} {σ : VS} {H : Hp} {S : List Addr} (s : Sta B M R Γ e σ H S) {i : Nat} (hG : Γ[i]? = some none) (hM : M.mi.contains i = false) (x : Option D) (y : Option V) : Sta B M R Γ (st e i x) (σ.set i y) H S :=
  ⟨s.nd, s.live, s.sl.hole x y hG, fun j hj => by
    rw [← s.mp j hj]
    have : j ≠ i := fun z => by
      subst z
      rw [List.contains_iff_mem.mpr hj] at hM
      cases hM
    rw [List.getElem?_set_ne (Ne.symm this)]⟩
theorem evS_by {C : Cf} {e : Env} {i j : Nat} {K : Str} {fs : List D} {c : Nat} (hi : i < e.length) : evS C.F C.sb (.asg (.nm j) (.lst (.cons (.cst (.str K)) (.cons (.fld (.var i) 0) .nil)))) (st e i (some (.exc c fs))) = (match fs with
      | d0 :: _ => .ok .nxt (st (st e i (some (.exc c fs))) j (some (.lst [.str K, d0])))
      | [] => .bad) := by
  rw [evS_asg, evE_lst, evEs_cons, evE_cst, bind_okk, evEs_cons, evE_fld, evE_var, gt_st_same hi]
  cases fs <;> rfl
theorem evS_by0 {C : Cf} {e : Env} {i j : Nat} {fs : List D} {c : Nat} (hi : i < e.length) : evS C.F C.sb (.asg (.nm j) (.fld (.var i) 0)) (st e i (some (.exc c fs))) = (match fs with
      | d0 :: _ => .ok .nxt (st (st e i (some (.exc c fs))) j (some d0))
      | [] => .bad) := by
  rw [evS_asg, evE_fld, evE_var, gt_st_same hi]
  cases fs <;> rfl
theorem s_tryAs {body suite : List Stmt} {b₀ : Stmt} {mb : Sm} {k i j : Nat} {K n : Str} (g : Gd X C) (hc : Names X x (.ref (C.B.ca k))) (hx : ∀ c, PySem.W.exmOne C.B.K (.ref (C.B.ca c)) (.ref (C.B.ca k)) = some (C.sb c k)) (h1 : ∀ c, C.sb c k = true → C.B.ca c = C.B.ca k ∧ C.B.fn c = C.B.fn k)
    (hb : ∀ (W : WX) (pn : List (Addr × Obj)) (xe : Value → Shared → Prop), Gd (X.tr pn xe) (tryC C W Γx) → SSs (X.tr pn xe) (tryC C W Γx) Γ body mb Γ2)
    (hsu : ∀ (a : Addr) (oe : Obj) (cls : Value) (d : Option Addr) (pn : List (Addr × Obj)), Zc cls d oe → (∃ vs, oe.data = .fields vs) → PSs (X.suite a ((a, oe) :: pn)) (b₀ :: suite) (fun E σ H => σ[i]? = some (some (.ref a)) ∧ tSuA (C.B.ca k) (C.B.fn k) K j a cls d E σ H))
    (hi : X.N[i]? = some n := by rfl) (hln : X.env.kindOf n = some .local := by rfl) (hij : i ≠ j := by decide) (hiG : i < Γx.length := by decide) (hjG : j < Γx.length := by decide) (hMi : C.M.mi.contains i = false := by rfl) (hMj : C.M.mi.contains j = false := by rfl) (lT : leG ((Γx.set j (some .v)).set i none) Γ2 = true := by rfl) (l : leG Γx C.GX = true := by rfl)
    (hs : X.stack = X.env :: X.outer := by rfl) (hf : X.env.frame = some X.env.locals := by rfl) :
    SS X C Γ (.Try body [.ExceptHandler (some (.Name x np)) (some n) (b₀ :: suite) pos'] [] [] pos) (.try_ mb (.cons k (some i) (.asg (.nm j) (.lst (.cons (.cst (.str K)) (.cons (.fld (.var i) 0) .nil)))) .nil)) Γ2 :=
  PS.imp (ps_try_as (i := i) (Wout := C.W) (tb := fun W => tS (tryC C W Γx) Γ mb Γ2) (ts := fun a cls d E σ H => σ[i]? = some (some (.ref a)) ∧ tSuA (C.B.ca k) (C.B.fn k) K j a cls d E σ H) hs hf g.nd hi hln hc g.tk
    (fun W pn xe tk po => hb W pn xe ⟨g.K, g.calm, g.nd, g.gu, g.un, tk, po⟩) hsu) fun E σ H ⟨e, S, R, s, o⟩ => by
    have o : OutS C E H S R Γ2 (match evS C.F C.sb mb e with
      | .err c fs e1 => if C.sb c k then (match evS C.F C.sb (.asg (.nm j) (.lst (.cons (.cst (.str K)) (.cons (.fld (.var i) 0) .nil)))) (st e1 i (some (.exc c fs))) with
        | .ok r e2 => .ok r (st e2 i none)
        | .err _ _ _ => .bad
        | .bad => .bad) else .err c fs e1
      | r => r) := o
    refine ⟨e, S, R, s, ?_⟩
    show OutS (tryC C _ Γx) E H S R Γ2 (evS C.F C.sb mb e)
    cases hev : evS C.F C.sb mb e with
    | bad => rw [hev] at o; exact o
    | ok fl e1 => rw [hev] at o; cases fl <;> exact o
    | err c fs e1 =>
      rw [hev] at o
      dsimp only at o
      intro cls dx σ' H' S' po0 nw sta ex
      have sta : Sta C.B C.M R Γx e1 σ' H' S' := sta
      have ex : ExR C.B (S' ++ R) H' c fs cls dx := ex
      obtain ⟨rfl, hex⟩ := ex
      refine ⟨C.sb c k, g.K ▸ hx c, fun hbt a ha => ?_, fun hbf => ?_⟩
      · rw [hbt, if_pos rfl, evS_by (by rw [sta.sl.lenE]; exact hiG)] at o
        rcases hex with ⟨rfl, _⟩ | ⟨dd, ns, vs, rfl, hn, hd, hns, how⟩
        · exact o.elim
        cases fs with
        | nil => exact o.elim
        | cons d0 r =>
          have o : ∀ σ'' H'' S'', Post S H H'' → New S H S'' → Sta C.B C.M R Γ2 (st (st (st e1 i (some (.exc c (d0 :: r)))) j (some (.lst [.str K, d0]))) i none) σ'' H'' S'' → E.nx σ'' H'' := o
          obtain ⟨k1, k2⟩ := h1 c hbt
          generalize hU : ([] : List Addr) = U at how
          cases how with
          | cons ow1 ow2 =>
            rename_i v vs S1 T1
            obtain ⟨rfl, rfl⟩ := List.append_eq_nil_iff.mp hU.symm
            have hlen : i < σ'.length := by rw [sta.sl.len]; exact hiG
            refine ⟨by rw [List.getElem?_set_self hlen], congrArg Value.ref k1, dd, ns.zip (v :: vs), v, rfl, hd, ?_, fun q hq => ?_⟩
            · rw [hns, List.length_cons, List.range_succ_eq_map, List.map_cons, List.zip_cons_cons, List.lookup_cons]
              rw [show (C.B.fn k == C.B.fn (c + 0)) = true by rw [Nat.add_zero, k2]; exact beq_self_eq_true _]
            · obtain ⟨Sa, a1, sa⟩ := sta.le (leG_none Γx i)
              have gi : (Γx.set i none)[i]? = some none := List.getElem?_set_self hiG
              have sb := sa.hole gi hMi (some (.exc c (d0 :: r))) (some (.ref a))
              have po : Post [] H' (upd H' q (.lst [.str K, v])) := post_upd hq
              have sc := sb.grow po (List.nodup_append.mp sb.nd).2.1 (fun b hb => by
                obtain ⟨ob, hob⟩ := sb.live b hb
                exact ⟨ob, po b ob (fun z => nomatch z) hob.1, hob.2⟩) fun b hb => .inl hb
              have sub : ∀ b ∈ Sa ++ R, b ∈ S' ++ R := fun b hb => (List.mem_append.mp hb).elim (fun z => memL (a1 b z)) memR
              have ow3 : Ow C.B (Sa ++ R) (upd H' q (.lst [.str K, v])) .v d0 v [] := (Ow.fr (Fr.sub sub) ow1 fun _ z => nomatch z).fr (Fr.grow po fun b hb => .inl hb) fun _ z => nomatch z
              have ow4 : Ow C.B (Sa ++ ([] ++ R)) (upd H' q (.lst [.str K, v])) .v (.lst [.str K, d0]) (.ref q) [] := .lstV ⟨notLive sb.lives hq, upd_same⟩ (OwL.cons (S := []) (T := []) .str (OwL.cons (S := []) (T := []) ow3 .nil))
              obtain ⟨Sc, c1, sd⟩ := Sta.bind (T := []) (i := j) sc ow4 (by rw [List.length_set]; exact hjG) hMj
              have gi2 : ((Γx.set i none).set j (some .v))[i]? = some none := by rw [List.getElem?_set_ne (Ne.symm hij)]; exact gi
              have se := sd.hole gi2 hMi none none
              rw [List.set_comm _ _ hij] at se
              obtain ⟨Sf, f1, sf⟩ := se.le lT
              have c2 : ∀ b ∈ Sf, b ∈ S' := fun b hb => a1 b ((List.mem_append.mp (c1 b (f1 b hb))).elim id fun z => nomatch z)
              exact o _ _ Sf (po0.trans nw (po.nil _)) (fun b hb => nw b (c2 b hb)) sf
      · rw [hbf, if_neg Bool.false_ne_true] at o
        obtain ⟨S2, g1, s2⟩ := sta.le l
        refine (show ErrS C H S R c fs e1 from o) _ dx σ' H' S2 po0 (fun a ha => nw a (g1 a ha)) s2 ⟨rfl, ?_⟩
        rcases hex with h | ⟨d, ns, vs, q1, q2, q3, q4, q5⟩
        · exact .inl h
        · have sub : ∀ a ∈ S2 ++ R, a ∈ S' ++ R := fun a ha => (List.mem_append.mp ha).elim (fun z => memL (g1 a z)) memR
          exact .inr ⟨d, ns, vs, q1, fun z => q2 (sub _ z), q3, q4, q5.fr (Fr.sub sub) fun _ z => nomatch z⟩
theorem suite_as {C : Addr} {f K : Str} {i j : Nat} {a : Addr} {cls : Value} {d : Option Addr} {at1 : Expr} {y : Str} {q1 q2 q3 : Pos} {k : Nat} (hp : PE X at1 (tBy1 C f a cls d (tVar i))) (nd : X.N.Nodup) (hj : X.N[j]? = some y := by rfl) (hx : Loc X.env.scope y := by first | exact .inl rfl | exact .inr rfl)
    (hs : swapsWith (.List [.Constant (.str K) k q1, at1] q2) (some (.Name y q3)) pos.line X.env = pure false := by rfl) (he1 : starEach [.Constant (.str K) k q1, at1] X.env = (false, eval (.Constant (.str K) k q1) X.env) :: starEach [at1] X.env := by rfl) (he2 : starEach [at1] X.env = (false, eval at1 X.env) :: starEach [] X.env := by rfl)
    (hf : X.fn y = true ∨ X.env.scope.names.lookup y = some .local := by first | exact .inl rfl | exact .inr rfl) : PSs X [.Assign [.Name y q3] (.List [.Constant (.str K) k q1, at1] q2) pos] (fun E σ H => σ[i]? = some (some (.ref a)) ∧ tSuA C f K j a cls d E σ H) :=
  PSs.imp (pss_one (ps_set nd hj hx (pe_lst (pa_cons pe_str (pa_cons hp pa_nil he2) he1)) hs hf)) fun E σ H h => by
    obtain ⟨hi, hcl, dd, fl, v, hd, hH, hl, kk⟩ := h
    exact ⟨.ref a, hi, rfl, hcl, dd, fl, v, hd, hH, hl, by show 2 ≤ sizeLine; decide, fun p hp => kk p hp⟩
theorem pi_sq {X : Cx} {tg l : Expr} {tl : TE} (hl : PE X l tl) : PI X tg l (fun σ H R => tl σ H fun x H1 => ∃ a, x = .ref a ∧ ((∃ xs, SqL X.K H1 a xs ∧ R (Itl X.K a) H1) ∨ ∃ xs, SqT X.K H1 a xs ∧ R (Itt X.K a) H1)) := by
  refine ⟨fun pins s0 σ H R I0 h0 => thn (hl.run pins s0 σ H _ I0 h0) fun v s1 ⟨x, H1, J, rx, a, ex, q⟩ => ?_⟩
  subst ex
  obtain rfl : v = Value.ref a := rx
  have fr : ∀ b ∈ [s1.heap.objs.size], FpOk X pins H1 b := fun b hb => by
    obtain rfl := List.mem_singleton.mp hb
    exact J.fpOk (Nat.le_refl _) (J.hok.fresh (Nat.le_refl _))
  rcases q with ⟨xs, hq, q⟩ | ⟨xs, hq, q⟩
  · obtain ⟨its, rv, pl, hz⟩ := J.list hq
    exact wpAny_pyIter_list pl.isList ⟨s1.heap.objs.size, [s1.heap.objs.size], _, _, H1, rfl, J.kept (t' := s1.toks) fun b o e => Heap.get?_push_of_some _ e, turn_list a _, ⟨_, Heap.get?_push_size _ rfl, rfl, rfl⟩, fr, q⟩
  · obtain ⟨its, rv, pl, hz⟩ := J.tuple hq
    exact wpAny_pyIter_tuple (show s1.heap.IsTuple a its.toArray from pl) ⟨s1.heap.objs.size, [s1.heap.objs.size], _, _, H1, rfl, J.kept (t' := s1.toks) fun b o e => Heap.get?_push_of_some _ e, turn_tuple a _, ⟨_, Heap.get?_push_size _ rfl, rfl, rfl⟩, fr, q⟩
theorem i_sq {tg : Expr} {m : Md} (ha : SE X C p Γ ea a (.own m) Γ1) (hm : m = .v ∨ m = .l .v := by first | exact .inl rfl | exact .inr rfl) : SI X C p Γ tg ea (.sq a) Γ1 :=
  PI.imp (pi_sq ha) fun σ H Q ⟨e, S, R, s, o⟩ => At.evI (f := fun (d : D) e1 => match d with
    | .lst ds => .ok ds e1
    | .tup ds => .ok ds e1
    | _ => .bad) s o fun d e1 v H1 S1 T1 a1 v1 n1 o1 => by
    cases d <;> first | exact False.elim o1 | skip
    · rename_i ds
      have v2 : Ow C.B (S1 ++ (T1 ++ R)) H1 m (.tup ds) v T1 := v1
      have z : T1 = [] := by cases v2; rfl
      subst z
      obtain ⟨b, vs, rfl, k1, k2⟩ := Ow.tup_eq v2
      exact ⟨b, rfl, .inr ⟨vs, .of k1.2, (show OkI C σ H S R p Γ1 Q ds e1 from o1) _ H1 S1 [] a1.po a1.ps n1 a1.sta (yld_tup (fun z => k1.1 (szt (memL z))) k1.2 (k2.fr (Fr.sub fun _ => szt) fun _ z => nomatch z))⟩⟩
    · rename_i ds
      obtain ⟨b, vs, rfl, k1, k2, k3⟩ := v1.lstv hm a1.sta.nd
      exact ⟨b, rfl, .inl ⟨vs, .of k2, (show OkI C σ H S R p Γ1 Q ds e1 from o1) _ H1 S1 T1 a1.po a1.ps n1 a1.sta (yld_list k1 k2 k3)⟩⟩
end
end Mi
namespace Mi
open PySem PySem.Spec PyProof.Rows L2 PySem.W
abbrev Cl := Value × Option Nat × (Addr → Value → Option Addr → TS)
def endN (D : Ends) : Option Nat → Ends
  | none => D
  | some i => ⟨fun x => D.nx (x.set i none), D.rt, fun x => D.bk (x.set i none), fun x => D.ct (x.set i none)⟩
def putN (σ : L2.St) (a : Addr) : Option Nat → L2.St
  | none => σ
  | some i => σ.set i (some (.ref a))
def wCl (K : PySem.W.Frag) (Wo : WX) (D : Ends) : List Cl → WX
  | [] => Wo
  | (c, j, ts) :: r => fun k d σ H => ∃ b, exmOne K k c = some b ∧ (b = true → ∀ a, H a = none → ts a k d (endN D j) (putN σ a j) H) ∧ (b = false → wCl K Wo D r k d σ H)
def nmOk (X : Cx) : Option Str → Option Nat → Prop
  | none, none => True
  | some n, some i => X.N[i]? = some n ∧ X.env.kindOf n = some .local
  | _, _ => False
inductive ClOk (X : Cx) : List ExceptHandler → List Cl → Prop
  | nil : ClOk X [] []
  | cons {x : Str} {c : Value} {n : Option Str} {j : Option Nat} {ts : Addr → Value → Option Addr → TS} {b : Stmt} {bs : List Stmt} {p q : Pos} {hr : List ExceptHandler} {l : List Cl} (hc : Names X x c) (hn : nmOk X n j)
      (su : ∀ (a : Addr) (o : Obj) (k : Value) (d : Option Addr) (pn : List (Addr × Obj)), Zc k d o → (∃ vs, o.data = .fields vs) → PSs (X.suite a ((a, o) :: pn)) (b :: bs) (ts a k d)) (r : ClOk X hr l) :
      ClOk X (.ExceptHandler (some (.Name x p)) n (b :: bs) q :: hr) ((c, j, ts) :: l)
section
variable {X : Cx} {pins : List (Addr × Obj)} {D : Ends} {a : Addr} {B : Heap} {σ : L2.St} {H : Hp} {k : Value} {d : Option Addr} {s t : Shared}
structure Fly (X : Cx) (pins : List (Addr × Obj)) (a : Addr) (B : Heap) (σ : L2.St) (H : Hp) (k : Value) (d : Option Addr) (s t : Shared) (h : Heap) : Prop where
  J : Inv X pins σ H s
  nb : ∀ b o, s.heap.get? b = some o → b ∉ frs X.stack → B.get? b = some o
  up : s.heap.UpToSlots h
  fl : HandSPX.FlyingZ B (X.env :: X.outer) a (Zc k d) h
  na : H a = none
  os : t.os = s.os
  ag : AllBare t.gens
theorem Fly.now {h : Heap} (f : Fly X pins a B σ H k d s t h) : Inv X pins σ H { t with heap := h } := f.J.landed (s' := { t with heap := h }) f.nb f.fl.1 f.up f.os f.ag
theorem Fly.obj {h : Heap} (f : Fly X pins a B σ H k d s t h) : ∃ o vs, h.get? a = some o ∧ Zc k d o ∧ o.data = .fields vs := f.fl.there
theorem Fly.far {h : Heap} (f : Fly X pins a B σ H k d s t h) (hf : X.env.frame = some X.env.locals) : a ≠ X.env.locals ∧ a ∉ X.fs := by
  obtain ⟨o, vs, e, _, ed⟩ := f.obj
  have out : a ∉ frs (X.env :: X.outer) := fun m => by
    obtain ⟨_, o', e', no⟩ := f.fl.2.2.1.mem m
    cases e.symm.trans e'
    exact no _ ed
  refine ⟨fun z => out (List.mem_filterMap.mpr ⟨_, List.mem_cons_self .., by rw [hf, z]⟩), fun m => ?_⟩
  obtain ⟨v, hv, hq⟩ := List.mem_filterMap.mp m
  exact out (List.mem_filterMap.mpr ⟨v, List.mem_cons_of_mem _ hv, hq⟩)
theorem clauses {Wo : WX} (ok : X.Ok) (hs : X.stack = X.env :: X.outer) (hf : X.env.frame = some X.env.locals) (hN : X.N.Nodup) (tk : Takes X Wo) {hr : List ExceptHandler} {l : List Cl} (hk : ClOk X hr l) :
    ∀ {h : Heap}, Fly X pins a B σ H k d s t h → wCl X.K Wo D l k d σ H → wpAny (model X.prog X.w) X.A (handleBy (.ref a) X.env hr) (L2.SP X pins D) X.xe { t with heap := h } := by
  induction hk with
  | nil =>
    intro h f w
    refine wpAny_handleBy_nil ?_
    obtain ⟨_, _, _, o, vs, tb, _, _, e, _, ed, e1, _⟩ := id f.fl
    unfold PySem.passOn
    refine wpAny_bind (wpAny_field e ed e1 ?_)
    have ne : ¬ ((Value.ref tb == Value.none) = true) := by simp
    rw [if_neg ne]
    have last : wpAny (model X.prog X.w) X.A (setFlight (.ref a) X.env.frame) (fun _ t4 => wpAny (model X.prog X.w) X.A (throw (.ref a) : Sem Flow) (L2.SP X pins D) X.xe t4) X.xe { t with heap := h } := by
      rw [hf]
      exact HandSPX.setFlight_upZ f.fl fun h4 hh up4 => wpAny_throw (tk _ _ ⟨a, B, s, pins, σ, H, k, d, rfl, f.J, f.nb, f.up.trans up4, .inr (.inr (by rw [hs]; exact hh)), f.na, f.os, f.ag, w⟩)
    first | exact wpAny_bind (wpAny_pure (wpAny_bind last)) | exact wpAny_bind last
  | @cons x c n j ts b bs p q hr l hc hn su r ih =>
    rintro h f ⟨y, hy, yes, no⟩
    obtain ⟨o, vs, e, ez, ed⟩ := f.obj
    obtain ⟨nL, nF⟩ := f.far hf
    have S := f.now.suite e ed f.na nL nF
    refine wpAny_handleBy_cons (codeAny_handlers_test ?_) (by intro z; cases z)
    have look : PySem.W.Looks (model X.prog X.w) h (typeOf (.ref a)) k := fun A Q E s k q => wpAny_typeOf_ref (k _ _ e) (by rw [ez.1]; exact q)
    have ask : ∀ {Q : Value → Shared → Prop} {E : Value → Shared → Prop}, Q c { t with heap := h } → wpAny (model X.prog X.w) (X.A.mark (some (.ref a))) (eval (.Name x p) X.env) Q E { t with heap := h } := fun {Q E} z => by
      obtain ⟨g1, g2, g3 | ⟨g3, g4, g5⟩⟩ := hc
      · exact ld_glob (X := X.suite a ((a, o) :: (X.pn ++ pins))) S g1 g3 z g2
      · exact ld_blt (X := X.suite a ((a, o) :: (X.pn ++ pins))) S g1 g3 g4 z g5 g2
    refine ask ((PySem.W.exm_one (M := model X.prog X.w) f.now.kIn look hy).here ?_)
    cases y with
    | false => exact ih f (no rfl)
    | true =>
      have yes := yes rfl a f.na
      match n, j, hn with
      | none, none, _ =>
        refine codeAny_handlers_suite (HandSPX.lands_againZ f.fl fun h4 fl4 up4 => ?_)
        have f4 : Fly X pins a B σ H k d s t h4 := ⟨f.J, f.nb, f.up.trans up4, fl4, f.na, f.os, f.ag⟩
        obtain ⟨o4, vs4, e4, ez4, ed4⟩ := f4.obj
        refine wpAny_mono ((su a o4 k d (X.pn ++ pins) ez4 ⟨_, ed4⟩).run [] _ σ H D (f4.now.suite e4 ed4 f.na nL nF) yes) (fun fw t6 sp => ?_) fun _ _ z => z.elim
        cases fw <;> (try (obtain ⟨u, G, S6, z⟩ := sp; exact ⟨_, _, S6.unsuite ok, z⟩))
        obtain ⟨u, x6, G, S6, z1, z2⟩ := sp
        exact ⟨_, _, _, S6.unsuite ok, z1, z2⟩
      | some n, some i, hn =>
        refine codeAny_handlers_suite_as (HandSPX.lands_againZ f.fl fun h4 fl4 up4 => ?_)
        have f4 : Fly X pins a B σ H k d s t h4 := ⟨f.J, f.nb, f.up.trans up4, fl4, f.na, f.os, f.ag⟩
        obtain ⟨o4, vs4, e4, ez4, ed4⟩ := f4.obj
        refine store_ok (X := X.suite a ((a, o4) :: (X.pn ++ pins))) (v := .ref a) (f4.now.suite e4 ed4 f.na nL nF) hN hn.1 (.inl hn.2) rfl (fun t5 S5 => ?_) (.inr hn.2)
        refine wpAny_mono ((su a o4 k d (X.pn ++ pins) ez4 ⟨_, ed4⟩).run [] t5 _ H _ S5 yes) (fun fw t6 sp => ?_) fun _ _ z => z.elim
        have bye : ∀ {u : L2.St} {G : Hp} {Q : Shared → Prop}, Inv (X.suite a ((a, o4) :: (X.pn ++ pins))) [] u G t6 → (∀ t7, Inv X pins (u.set i none) G t7 → Q t7) →
            wpAny (model X.prog X.w) X.A (do bindName X.env n .none; unbindBehindTheSuite X.env n q) (fun _ t7 => Q t7) X.xe t6 := fun S6 z => gone_ok (S6.unsuite ok) hN hn.1 hn.2 z
        cases fw <;> (try (obtain ⟨u, G, S6, z⟩ := sp; exact bye S6 fun _ J7 => ⟨_, _, J7, z⟩))
        obtain ⟨u, x6, G, S6, z1, z2⟩ := sp
        exact bye S6 fun _ J7 => ⟨_, _, _, J7, z1, z2⟩
theorem ps_tryN {body : List Stmt} {h0 : ExceptHandler} {hr : List ExceptHandler} {l : List Cl} {pos : Pos} {tb : WX → TS} {Wo : WX} (hs : X.stack = X.env :: X.outer) (hf : X.env.frame = some X.env.locals) (hN : X.N.Nodup) (tk : Takes X Wo)
    (hb : ∀ (W : WX) (pn : List (Addr × Obj)) (xe : Value → Shared → Prop), Takes (X.tr pn xe) W → PassesOwn (model X.prog X.w) X.A X.env xe → PSs (X.tr pn xe) body (tb W)) (hk : ClOk X (h0 :: hr) l) :
    PS X (.Try body (h0 :: hr) [] [] pos) (fun D σ H => tb (wCl X.K Wo D l) D σ H) := by
  constructor
  intro pins s σ H D I w
  have ok := I.ok
  have fr : X.A.frames = some (X.env :: X.outer) := by rw [ok.frames, hs]
  refine wpAny_Try_except (wpAny_mono ((hb (wCl X.K Wo D l) (X.pn ++ pins) (fun e s1 => wpAny (model X.prog X.w) X.A (noteFrame e X.env) (fun _ s2 => wpAny (model X.prog X.w) X.A (setFlight e none) (fun _ s3 =>
    wpAny (model X.prog X.w) X.A (handleBy e X.env (h0 :: hr)) (L2.SP X pins D) X.xe s3) X.xe s2) X.xe s1) (fun u t xx => ?_) PassesOwn.looking).run [] s σ H D (I.toTry _) w) (fun f t sp => ?_) fun _ _ z => z)
  · obtain ⟨a, B, sI, p2, σ2, H2, k, d, rfl, J, nb, up, sky, na, os, ag, w2⟩ := xx
    have sky : Sky B (X.env :: X.outer) a (Zc k d) X.env.locals t.heap := by rw [← hs]; exact sky
    exact Sky.land Zc.steady fr hf sky fun h3 fl up3 => clauses ok hs hf hN tk hk ⟨J.ofTry ok, nb, up.trans up3, fl, na, os, ag⟩ w2
  · cases f with
    | next => obtain ⟨u, G, J, z⟩ := sp; exact wpAny_execs_nil ⟨u, G, J.ofTry ok, z⟩
    | brk => obtain ⟨u, G, J, z⟩ := sp; exact ⟨u, G, J.ofTry ok, z⟩
    | cont => obtain ⟨u, G, J, z⟩ := sp; exact ⟨u, G, J.ofTry ok, z⟩
    | ret v => obtain ⟨v, u, G, J, z1, z2⟩ := sp; exact ⟨v, u, G, J.ofTry ok, z1, z2⟩
end
section
variable {C : Cf} {Γ Γ2 Γx : G}
inductive HsW (C : Cf) (Γx Γ2 : G) : Hs → List Cl → Prop
  | nil : HsW C Γx Γ2 .nil []
  | plain {k : Nat} {ms : Sm} {hs : Hs} {l : List Cl} (hx : ∀ c, exmOne C.B.K (.ref (C.B.ca c)) (.ref (C.B.ca k)) = some (C.sb c k)) (r : HsW C Γx Γ2 hs l) :
      HsW C Γx Γ2 (.cons k none ms hs) ((.ref (C.B.ca k), none, fun _ _ _ => tS (tryC C (fun _ _ _ _ => False) Γx) Γx ms Γ2) :: l)
  | as {k i j : Nat} {K : Str} {hs : Hs} {l : List Cl} (hx : ∀ c, exmOne C.B.K (.ref (C.B.ca c)) (.ref (C.B.ca k)) = some (C.sb c k)) (h1 : ∀ c, C.sb c k = true → C.B.ca c = C.B.ca k ∧ C.B.fn c = C.B.fn k)
      (hij : i ≠ j) (hiG : i < Γx.length) (hjG : j < Γx.length) (hMi : C.M.mi.contains i = false) (hMj : C.M.mi.contains j = false) (lT : leG ((Γx.set j (some .v)).set i none) Γ2 = true) (r : HsW C Γx Γ2 hs l) :
      HsW C Γx Γ2 (.cons k (some i) (.asg (.nm j) (.lst (.cons (.cst (.str K)) (.cons (.fld (.var i) 0) .nil)))) hs) ((.ref (C.B.ca k), some i, fun a cls d E σ H => σ[i]? = some (some (.ref a)) ∧ tSuA (C.B.ca k) (C.B.fn k) K j a cls d E σ H) :: l)
theorem HsW.err {hs : Hs} {l : List Cl} (hw : HsW C Γx Γ2 hs l) (lX : leG Γx C.GX = true) {E : Ends} {H H' : Hp} {S S' R : List Addr} {c : Nat} {fs : List D} {e1 : Env} {σ' : VS} {dx : Option Addr} (o : OutS C E H S R Γ2 (evHs C.F C.sb hs c fs e1)) (po : Post S H H') (nw : New S H S') (sta : Sta C.B C.M R Γx e1 σ' H' S')
    (hex : (fs = [] ∧ dx = none) ∨ ∃ (d : Addr) (ns : List Str) (vs : List V), dx = some d ∧ d ∉ S' ++ R ∧ H' d = some (.xd (ns.zip vs)) ∧ ns = ((List.range vs.length).map fun j => C.B.fn (c + j)) ∧ OwL C.B (S' ++ R) H' .v fs vs []) : wCl C.B.K C.W E l (.ref (C.B.ca c)) dx σ' H' := by
  induction hw with
  | nil =>
    obtain ⟨S2, g1, s2⟩ := sta.le lX
    refine (show ErrS C H S R c fs e1 from o) _ dx σ' H' S2 po (fun a ha => nw a (g1 a ha)) s2 ⟨rfl, ?_⟩
    rcases hex with h | ⟨d, ns, vs, q1, q2, q3, q4, q5⟩
    · exact .inl h
    · have sub : ∀ a ∈ S2 ++ R, a ∈ S' ++ R := fun a ha => (List.mem_append.mp ha).elim (fun z => memL (g1 a z)) memR
      exact .inr ⟨d, ns, vs, q1, fun z => q2 (sub _ z), q3, q4, q5.fr (Fr.sub sub) fun _ z => nomatch z⟩
  | @plain k ms hs l hx r ih =>
    have o : OutS C E H S R Γ2 (if C.sb c k then noErr (evS C.F C.sb ms e1) else evHs C.F C.sb hs c fs e1) := o
    refine ⟨C.sb c k, hx c, fun hbt a _ => ?_, fun hbf => ?_⟩
    · rw [hbt, if_pos rfl] at o
      refine ⟨e1, S', R, sta, ?_⟩
      have o := OutS.step o po nw
      show OutS (tryC C _ Γx) E H' S' R Γ2 (evS C.F C.sb ms e1)
      cases hev2 : evS C.F C.sb ms e1 with
      | bad => rw [hev2] at o; exact o
      | err _ _ _ => rw [hev2] at o; exact False.elim o
      | ok fl e2 => rw [hev2] at o; cases fl <;> exact o
    · rw [hbf, if_neg Bool.false_ne_true] at o
      exact ih o
  | @as k i j K hs l hx h1 hij hiG hjG hMi hMj lT r ih =>
    have o : OutS C E H S R Γ2 (if C.sb c k then (match evS C.F C.sb (.asg (.nm j) (.lst (.cons (.cst (.str K)) (.cons (.fld (.var i) 0) .nil)))) (st e1 i (some (.exc c fs))) with
        | .ok r e2 => .ok r (st e2 i none)
        | .err _ _ _ => .bad
        | .bad => .bad) else evHs C.F C.sb hs c fs e1) := o
    refine ⟨C.sb c k, hx c, fun hbt a ha => ?_, fun hbf => ?_⟩
    · rw [hbt, if_pos rfl, evS_by (by rw [sta.sl.lenE]; exact hiG)] at o
      rcases hex with ⟨rfl, _⟩ | ⟨dd, ns, vs, rfl, hn, hd, hns, how⟩
      · exact o.elim
      cases fs with
      | nil => exact o.elim
      | cons d0 r =>
        have o : ∀ σ'' H'' S'', Post S H H'' → New S H S'' → Sta C.B C.M R Γ2 (st (st (st e1 i (some (.exc c (d0 :: r)))) j (some (.lst [.str K, d0]))) i none) σ'' H'' S'' → E.nx σ'' H'' := o
        obtain ⟨k1, k2⟩ := h1 c hbt
        generalize hU : ([] : List Addr) = U at how
        cases how with
        | cons ow1 ow2 =>
          rename_i v vs S1 T1
          obtain ⟨rfl, rfl⟩ := List.append_eq_nil_iff.mp hU.symm
          have hlen : i < σ'.length := by rw [sta.sl.len]; exact hiG
          refine ⟨by show (σ'.set i (some (.ref a)))[i]? = _; rw [List.getElem?_set_self hlen], congrArg Value.ref k1, dd, ns.zip (v :: vs), v, rfl, hd, ?_, fun q hq => ?_⟩
          · rw [hns, List.length_cons, List.range_succ_eq_map, List.map_cons, List.zip_cons_cons, List.lookup_cons]
            rw [show (C.B.fn k == C.B.fn (c + 0)) = true by rw [Nat.add_zero, k2]; exact beq_self_eq_true _]
          · obtain ⟨Sa, a1, sa⟩ := sta.le (leG_none Γx i)
            have gi : (Γx.set i none)[i]? = some none := List.getElem?_set_self hiG
            have sb := sa.hole gi hMi (some (.exc c (d0 :: r))) (some (.ref a))
            have po2 : Post [] H' (upd H' q (.lst [.str K, v])) := post_upd hq
            have sc := sb.grow po2 (List.nodup_append.mp sb.nd).2.1 (fun b hb => by
              obtain ⟨ob, hob⟩ := sb.live b hb
              exact ⟨ob, po2 b ob (fun z => nomatch z) hob.1, hob.2⟩) fun b hb => .inl hb
            have sub : ∀ b ∈ Sa ++ R, b ∈ S' ++ R := fun b hb => (List.mem_append.mp hb).elim (fun z => memL (a1 b z)) memR
            have ow3 : Ow C.B (Sa ++ R) (upd H' q (.lst [.str K, v])) .v d0 v [] := (Ow.fr (Fr.sub sub) ow1 fun _ z => nomatch z).fr (Fr.grow po2 fun b hb => .inl hb) fun _ z => nomatch z
            have ow4 : Ow C.B (Sa ++ ([] ++ R)) (upd H' q (.lst [.str K, v])) .v (.lst [.str K, d0]) (.ref q) [] := .lstV ⟨notLive sb.lives hq, upd_same⟩ (OwL.cons (S := []) (T := []) .str (OwL.cons (S := []) (T := []) ow3 .nil))
            obtain ⟨Sc, c1, sd⟩ := Sta.bind (T := []) (i := j) sc ow4 (by rw [List.length_set]; exact hjG) hMj
            have gi2 : ((Γx.set i none).set j (some .v))[i]? = some none := by rw [List.getElem?_set_ne (Ne.symm hij)]; exact gi
            have se := sd.hole gi2 hMi none none
            rw [List.set_comm _ _ hij] at se
            obtain ⟨Sf, f1, sf⟩ := se.le lT
            have c2 : ∀ b ∈ Sf, b ∈ S' := fun b hb => a1 b ((List.mem_append.mp (c1 b (f1 b hb))).elim id fun z => nomatch z)
            exact o _ _ Sf (po.trans nw (po2.nil _)) (fun b hb => nw b (c2 b hb)) sf
    · rw [hbf, if_neg Bool.false_ne_true] at o
      exact ih o
theorem s_tryN {X : Cx} {pos : Pos} {body : List Stmt} {mb : Sm} {hs : Hs} {h0 : ExceptHandler} {hr : List ExceptHandler} {l : List Cl} (g : Gd X C) (hw : HsW C Γx Γ2 hs l)
    (hb : ∀ (W : WX) (pn : List (Addr × Obj)) (xe : Value → Shared → Prop), Gd (X.tr pn xe) (tryC C W Γx) → SSs (X.tr pn xe) (tryC C W Γx) Γ body mb Γ2) (hk : ClOk X (h0 :: hr) l) (lX : leG Γx C.GX = true := by rfl)
    (hst : X.stack = X.env :: X.outer := by rfl) (hf : X.env.frame = some X.env.locals := by rfl) : SS X C Γ (.Try body (h0 :: hr) [] [] pos) (.try_ mb hs) Γ2 :=
  PS.imp (ps_tryN (Wo := C.W) (tb := fun W => tS (tryC C W Γx) Γ mb Γ2) hst hf g.nd g.tk (fun W pn xe tk po => hb W pn xe ⟨g.K, g.calm, g.nd, g.gu, g.un, tk, po⟩) hk) fun E σ H ⟨e, S, R, s, o⟩ => by
    have o : OutS C E H S R Γ2 (match evS C.F C.sb mb e with
      | .err c fs e1 => evHs C.F C.sb hs c fs e1
      | r => r) := o
    refine ⟨e, S, R, s, ?_⟩
    show OutS (tryC C _ Γx) E H S R Γ2 (evS C.F C.sb mb e)
    revert o
    cases evS C.F C.sb mb e with
    | bad => exact fun o => o
    | ok fl e1 => cases fl <;> exact fun o => o
    | err c fs e1 =>
      rintro o cls dx σ' H' S' po nw sta ⟨rfl, hex⟩
      rw [g.K]
      exact hw.err lX o po nw sta hex
end
theorem exm_sub {K : PySem.W.Frag} {A S : Addr} {b : Bool} (h1 : PySem.W.subIn K (.ref S) (.type "BaseException") = some true) (h2 : PySem.W.isClsIn K S = true) (h3 : PySem.W.typeIn K (.ref S) = some (.type "type")) (h4 : PySem.W.subIn K (.ref A) (.ref S) = some b) : PySem.W.exmOne K (.ref A) (.ref S) = some b := by
  have a1 : (PySem.W.subIn K (.ref S) (.type "BaseException") == some true) = true := by rw [h1] <;> rfl
  have a2 : ((PySem.W.clsIn K S).isSome && PySem.W.typeIn K (.ref S) == some (.type "type")) = true := by rw [show (PySem.W.clsIn K S).isSome = true from h2, h3] <;> rfl
  show (if (PySem.W.subIn K (.ref S) (.type "BaseException") == some true) = true then (if ((PySem.W.clsIn K S).isSome && PySem.W.typeIn K (.ref S) == some (.type "type")) = true then PySem.W.subIn K (.ref A) (.ref S) else none) else none) = some b
  rw [if_pos a1, if_pos a2, h4]
end Mi
namespace Mi
open PySem
abbrev Er := Nat → List D → Env → Prop
def OK {α : Type} (r : R α) (Q : α → Env → Prop) (X : Er) : Prop := match r with
  | .ok a e => Q a e
  | .err c fs e => X c fs e
  | .bad => False
def OKo {α : Type} (x : Option α) (P : α → Prop) : Prop := match x with
  | some a => P a
  | none => False
def OKF (r : FR) (P : D → List D → Prop) (X : Nat → List D → List D → Prop) : Prop := match r with
  | .ok d os => P d os
  | .err c fs os => X c fs os
  | .bad => False
def NX : Nat → List D → List D → Prop := fun _ _ _ => False
def NE : Er := fun _ _ _ => False
def ENV (e : Env) (P : Env → Prop) : Prop := P e
def BR (x : D) (A B : Prop) : Prop := (x = .bl true ∧ A) ∨ (x = .bl false ∧ B)
namespace Wp
variable {F : FS} {sub : Sub} {X : Er} {e : Env}
theorem mono {α : Type} {r : R α} {Q Q' : α → Env → Prop} (h : OK r Q X) (k : ∀ a e, Q a e → Q' a e) : OK r Q' X := by
  cases r with
  | ok a e => exact k a e h
  | err => exact h
  | bad => exact h
theorem monoX {α : Type} {r : R α} {Q Q' : α → Env → Prop} (h : OK r Q NE) (k : ∀ a e, Q a e → Q' a e) : OK r Q' X := by
  cases r with
  | ok a e => exact k a e h
  | err => exact h.elim
  | bad => exact h
theorem bind {α β : Type} {r : R α} {f : α → Env → R β} {Q : β → Env → Prop} (h : OK r (fun a e => OK (f a e) Q X) X) : OK (r.bind f) Q X := by
  cases r <;> exact h
theorem ofO {x : Option D} {Q : D → Env → Prop} (h : OKo x fun d => Q d e) : OK (Mi.ofO x e) Q X := by
  cases x <;> exact h
theorem some {α : Type} {x : Option α} {a : α} {P : α → Prop} (h : x = some a) (k : P a) : OKo x P := by rw [h]; exact k
theorem obind {α β : Type} {x : Option α} {f : α → Option β} {P : β → Prop} (h : OKo x fun a => OKo (f a) P) : OKo (x.bind f) P := by
  cases x <;> exact h
theorem omap {α β : Type} {x : Option α} {f : α → β} {P : β → Prop} (h : OKo x fun a => P (f a)) : OKo (x.map f) P := by
  cases x <;> exact h
theorem br_t {A B : Prop} (h : A) : BR (.bl true) A B := .inl ⟨rfl, h⟩
theorem br_f {A B : Prop} (h : B) : BR (.bl false) A B := .inr ⟨rfl, h⟩
theorem br_dt {A B c : Prop} [Decidable c] (hc : c) (h : A) : BR (.bl (decide c)) A B := .inl ⟨by rw [decide_eq_true hc], h⟩
theorem br_df {A B c : Prop} [Decidable c] (hc : ¬ c) (h : B) : BR (.bl (decide c)) A B := .inr ⟨by rw [decide_eq_false hc], h⟩
theorem br_d {A B c : Prop} [Decidable c] (h : c → A) (k : ¬ c → B) : BR (.bl (decide c)) A B := by
  by_cases hc : c
  · exact br_dt hc (h hc)
  · exact br_df hc (k hc)
theorem br_n {A B : Prop} {c : Bool} (h : BR (.bl c) B A) : BR (.bl (!c)) A B := by
  match c, h with
  | true, .inl h => exact br_f h.2
  | true, .inr h => cases h.1
  | false, .inl h => cases h.1
  | false, .inr h => exact br_t h.2
theorem br_c {A B : Prop} {c : Bool} (h : c = true → A) (k : c = false → B) : BR (.bl c) A B := by
  cases c
  · exact br_f (k rfl)
  · exact br_t (h rfl)
theorem br_and {A B : Prop} {c d : Bool} (h : BR (.bl c) (BR (.bl d) A B) B) : BR (.bl (c && d)) A B := by
  match c, h with
  | true, .inl h => exact h.2
  | true, .inr h => cases h.1
  | false, .inl h => cases h.1
  | false, .inr h => exact br_f h.2
theorem env {e' : Env} {P : Env → Prop} (h : e = e') (k : P e') : ENV e P := by subst h; exact k
theorem var {i : Nat} {d : D} {Q : D → Env → Prop} (h : gt e i = Option.some d) (k : Q d e) : OK (evE F (.var i) e) Q X := by
  rw [evE_var, h]; exact k
theorem fz {i : Nat} {d : D} {Q : D → Env → Prop} (h : gt e i = Option.some d) (k : Q d e) : OK (evE F (.fz i) e) Q X := by
  rw [evE_fz, h]; exact k
theorem mv {i : Nat} {d : D} {Q : D → Env → Prop} (h : gt e i = Option.some d) (k : ENV (st e i none) (Q d)) : OK (evE F (.mv i) e) Q X := by
  rw [evE_mv, h]; exact k
theorem cst {d : D} {Q : D → Env → Prop} (k : Q d e) : OK (evE F (.cst d) e) Q X := k
theorem glb {x : String} {d : D} {Q : D → Env → Prop} (k : Q d e) : OK (evE F (.glb x d) e) Q X := k
theorem negI {a : Ex} {Q : D → Env → Prop} (h : OK (evE F a e) (fun d e1 => ∃ i, d = .int i ∧ Q (.int (-i)) e1) X) : OK (evE F (.neg a) e) Q X := by
  rw [evE_neg]
  refine bind (mono h ?_)
  rintro _ _ ⟨i, rfl, h⟩
  exact h
theorem not {a : Ex} {Q : D → Env → Prop} (h : OK (evE F a e) (fun d e1 => BR d (Q (.bl false) e1) (Q (.bl true) e1)) X) : OK (evE F (.not a) e) Q X := by
  rw [evE_not]
  refine bind (mono h ?_)
  rintro _ _ (⟨rfl, h⟩ | ⟨rfl, h⟩) <;> exact h
theorem op {o : Op2} {a b : Ex} {Q : D → Env → Prop} (h : OK (evE F a e) (fun x e1 => OK (evE F b e1) (fun y e2 => OKo (evOp2 o x y) fun z => Q z e2) X) X) : OK (evE F (.op o a b) e) Q X := by
  rw [evE_op]
  refine bind (mono h ?_)
  intro x e1 h
  exact bind (mono h fun y e2 h => ofO h)
theorem ch {o p : Op2} {a b c : Ex} {Q : D → Env → Prop} (h : OK (evE F a e) (fun x e1 => OK (evE F b e1) (fun y e2 => OKo (evOp2 o x y) fun z => BR z (OK (evE F c e2) (fun w e3 => OKo (evOp2 p y w) fun v => Q v e3) X) (Q (.bl false) e2)) X) X) : OK (evE F (.ch o p a b c) e) Q X := by
  rw [evE_ch]
  refine bind (mono h ?_)
  intro x e1 h
  refine bind (mono h fun y e2 h => ?_)
  revert h
  cases evOp2 o x y with
  | none => exact fun h => h.elim
  | some z =>
    rintro (⟨h1, h⟩ | ⟨h1, h⟩)
    · cases h1; exact bind (mono h fun w e3 h => ofO h)
    · cases h1; exact h
theorem and {a b : Ex} {Q : D → Env → Prop} (h : OK (evE F a e) (fun x e1 => BR x (OK (evE F b e1) Q X) (Q (.bl false) e1)) X) : OK (evE F (.and a b) e) Q X := by
  rw [evE_and]
  refine bind (mono h ?_)
  rintro _ _ (⟨rfl, h⟩ | ⟨rfl, h⟩) <;> exact h
theorem or {a b : Ex} {Q : D → Env → Prop} (h : OK (evE F a e) (fun x e1 => BR x (Q (.bl true) e1) (OK (evE F b e1) Q X)) X) : OK (evE F (.or a b) e) Q X := by
  rw [evE_or]
  refine bind (mono h ?_)
  rintro _ _ (⟨rfl, h⟩ | ⟨rfl, h⟩) <;> exact h
theorem ite {c a b : Ex} {Q : D → Env → Prop} (h : OK (evE F c e) (fun x e1 => BR x (OK (evE F a e1) Q X) (OK (evE F b e1) Q X)) X) : OK (evE F (.ite c a b) e) Q X := by
  rw [evE_ite]
  refine bind (mono h ?_)
  rintro _ _ (⟨rfl, h⟩ | ⟨rfl, h⟩) <;> exact h
theorem isN {g : Bool} {a : Ex} {Q : D → Env → Prop} (h : OK (evE F a e) (fun x e1 => Q (.bl (match x with
    | .non => !g
    | _ => g)) e1) X) : OK (evE F (.isN g a) e) Q X := by
  rw [evE_isN]
  exact bind h
theorem idx {a i : Ex} {Q : D → Env → Prop} (h : OK (evE F a e) (fun x e1 => OK (evE F i e1) (fun y e2 => OKo (idxS x y) fun z => Q z e2) X) X) : OK (evE F (.idx a i) e) Q X := by
  rw [evE_idx]
  refine bind (mono h ?_)
  intro x e1 h
  exact bind (mono h fun y e2 h => ofO h)
theorem idxD {a i : Ex} {Q : D → Env → Prop} (h : OK (evE F a e) (fun x e1 => OK (evE F i e1) (fun y e2 => OKo (Mi.idxD x y) fun z => Q z e2) X) X) : OK (evE F (.idxD a i) e) Q X := by
  rw [evE_idxD]
  refine bind (mono h ?_)
  intro x e1 h
  exact bind (mono h fun y e2 h => ofO h)
theorem op_no {Q : Option Int → Env → Prop} (h : Q none e) : OK (evOp F .no e) Q X := h
theorem op_ex {a : Ex} {Q : Option Int → Env → Prop} (h : OK (evE F a e) (fun x e1 => ∃ i, x = .int i ∧ Q (Option.some i) e1) X) : OK (evOp F (.ex a) e) Q X := by
  rw [evOp_ex]
  refine bind (mono h ?_)
  rintro _ _ ⟨i, rfl, h⟩
  exact h
theorem sl {a : Ex} {l h' : Op} {Q : D → Env → Prop} (h : OK (evE F a e) (fun x e1 => OK (evOp F l e1) (fun y e2 => OK (evOp F h' e2) (fun z e3 => OKo (slOp x y z) fun w => Q w e3) X) X) X) : OK (evE F (.sl a l h') e) Q X := by
  rw [evE_sl]
  refine bind (mono h ?_)
  intro x e1 h
  refine bind (mono h fun y e2 h => ?_)
  exact bind (mono h fun z e3 h => ofO h)
theorem fld {a : Ex} {n : Nat} {Q : D → Env → Prop} (h : OK (evE F a e) (fun x e1 => OKo (fldOp x n) fun z => Q z e1) X) : OK (evE F (.fld a n) e) Q X := by
  rw [evE_fld]
  exact bind (mono h fun x e1 h => ofO h)
theorem tup {es : Exs} {Q : D → Env → Prop} (h : OK (evEs F es e) (fun as e1 => OKo (dsOf as) fun ds => Q (.tup ds) e1) X) : OK (evE F (.tup es) e) Q X := by
  rw [evE_tup]
  exact bind (mono h fun x e1 h => ofO (omap h))
theorem lst {es : Exs} {Q : D → Env → Prop} (h : OK (evEs F es e) (fun as e1 => OKo (dsOf as) fun ds => Q (.lst ds) e1) X) : OK (evE F (.lst es) e) Q X := by
  rw [evE_lst]
  exact bind (mono h fun x e1 h => ofO (omap h))
theorem dct {es : Exs} {Q : D → Env → Prop} (h : OK (evEs F es e) (fun as e1 => OKo (dsOf as) fun ds => OKo (dispK ds []) fun k => Q (.dct k) e1) X) : OK (evE F (.dct es) e) Q X := by
  rw [evE_dct]
  exact bind (mono h fun x e1 h => ofO (obind (by
    revert h; cases dsOf x with
    | none => exact fun h => h
    | some ds => exact fun h => omap h)))
theorem e_nil {Q : List Ar → Env → Prop} (h : Q [] e) : OK (evEs F .nil e) Q X := h
theorem e_cons {a : Ex} {es : Exs} {Q : List Ar → Env → Prop} (h : OK (evE F a e) (fun d e1 => OK (evEs F es e1) (fun r e2 => Q (.d d :: r) e2) X) X) : OK (evEs F (.cons a es) e) Q X := by
  rw [evEs_cons]
  refine bind (mono h ?_)
  intro x e1 h
  exact bind (mono h fun y e2 h => h)
theorem e_ref {i : Nat} {es : Exs} {Q : List Ar → Env → Prop} (h : OK (evEs F es e) (fun r e1 => Q (.s i :: r) e1) X) : OK (evEs F (.ref i es) e) Q X := by
  rw [evEs_ref]
  exact bind (mono h fun x e1 h => h)
def callOK (r : FR) (as : List Ar) (e : Env) (Q : D → Env → Prop) (X : Er) : Prop := OKF r (fun d os => OKo (putO as os e) fun e2 => Q d e2) (fun c fs os => OKo (putO as os e) fun e2 => X c fs e2)
theorem callR {r : FR} {as : List Ar} {Q : D → Env → Prop} (h : callOK r as e Q X) : OK (Mi.callR r as e) Q X := by
  cases r with
  | ok d os =>
    revert h
    show OKo (putO as os e) _ → OK (match putO as os e with
      | Option.some e1 => R.ok d e1
      | none => .bad) Q X
    cases putO as os e <;> exact fun h => h
  | err c fs os =>
    revert h
    show OKo (putO as os e) _ → OK (match putO as os e with
      | Option.some e1 => R.err c fs e1
      | none => .bad) Q X
    cases putO as os e <;> exact fun h => h
  | bad => exact h
theorem call {f : Nat} {es : Exs} {Q : D → Env → Prop} (h : OK (evEs F es e) (fun as e1 => OKo (arD as e1) fun ds => callOK (F f ds) as e1 Q X) X) : OK (evE F (.call f es) e) Q X := by
  rw [evE_call]
  refine bind (mono h fun as e1 h => ?_)
  revert h
  cases arD as e1 with
  | none => exact fun h => h
  | some ds => exact fun h => callR h
theorem d_nil {P : List D → Prop} (h : P []) : OKo (dsOf []) P := h
theorem d_cons {d : D} {r : List Ar} {P : List D → Prop} (h : OKo (dsOf r) fun ds => P (d :: ds)) : OKo (dsOf (.d d :: r)) P := omap h
theorem a_nil {P : List D → Prop} (h : P []) : OKo (arD [] e) P := h
theorem a_cons {d : D} {r : List Ar} {P : List D → Prop} (h : OKo (arD r e) fun ds => P (d :: ds)) : OKo (arD (.d d :: r) e) P := omap h
theorem a_ref {i : Nat} {d : D} {r : List Ar} {P : List D → Prop} (h0 : gt e i = Option.some d) (h : OKo (arD r e) fun ds => P (d :: ds)) : OKo (arD (.s i :: r) e) P := by
  show OKo ((gt e i).bind _) P
  rw [h0]
  exact omap h
theorem p_nil {P : Env → Prop} (h : P e) : OKo (putO [] [] e) P := h
theorem p_cons {d : D} {r : List Ar} {os : List D} {P : Env → Prop} (h : OKo (putO r os e) P) : OKo (putO (.d d :: r) os e) P := by
  cases os <;> exact h
theorem p_ref {i : Nat} {o : D} {r : List Ar} {os : List D} {P : Env → Prop} (h : OKo (putO r os e) fun e1 => ENV (st e1 i (Option.some o)) P) : OKo (putO (.s i :: r) (o :: os) e) P := omap h
theorem c_by {T : Tab} {n m : Nat} {ds : List D} {as : List Ar} {Q : D → Env → Prop} {P : D → List D → Prop} (hm : m < n) (h : OKF (sem T sub m ds) P NX) (k : ∀ d os, P d os → OKo (putO as os e) fun e2 => Q d e2) : callOK (below T sub n m ds) as e Q X := by
  unfold callOK below
  rw [if_pos hm]
  revert h
  cases sem T sub m ds with
  | ok d os => exact fun h => k d os h
  | err => exact fun h => h.elim
  | bad => exact fun h => h
theorem c_eq {T : Tab} {n m : Nat} {ds : List D} {as : List Ar} {Q : D → Env → Prop} {d : D} {os : List D} (hm : m < n) (h : sem T sub m ds = .ok d os) (k : OKo (putO as os e) fun e2 => Q d e2) : callOK (below T sub n m ds) as e Q X := by
  unfold callOK below
  rw [if_pos hm, h]
  exact k
theorem bi {o : Bi} {es : Exs} {Q : D → Env → Prop} (h : OK (evEs F es e) (fun as e1 => OKo (dsOf as) fun ds => OKo (evBi o ds) fun z => Q z e1) X) : OK (evE F (.bi o es) e) Q X := by
  rw [evE_bi]
  refine bind (mono h fun x e1 h => ofO (obind h))
theorem lend {i : Nat} {a : Ex} {Q : D → Env → Prop} (h : OK (evE F a e) (fun d _ => lendD d = true ∧ Q d e) X) : OK (evE F (.lend i a) e) Q X := by
  rw [evE_lend]
  revert h
  cases evE F a e with
  | ok d e1 =>
    intro h
    show OK (if lendD d = true then _ else _) Q X
    rw [if_pos h.1]
    exact h.2
  | err => exact fun h => h
  | bad => exact fun h => h
theorem append {i : Nat} {a : Ex} {ys : List D} {Q : D → Env → Prop} (h0 : gt e i = Option.some (.lst ys)) (h : OK (evE F a e) (fun d e1 => ∃ xs, gt e1 i = Option.some (.lst xs) ∧ xs.length < LIM ∧ ENV (st e1 i (Option.some (.lst (xs ++ [d])))) (Q .non)) X) : OK (evE F (.mut .append (.sl i) (.cons a .nil)) e) Q X := by
  rw [evE_mut, evPl_sl, bind_okk]
  have h1 : atPl (muTy .append) (gt e i) [] = true := by rw [h0]; rfl
  rw [if_pos h1, evEs_cons]
  refine bind (bind (mono h ?_))
  rintro d e1 ⟨xs, h2, h3, h4⟩
  show OK (doMu .append [d] (i, []) e1) Q X
  unfold doMu
  rw [h2]
  show OK (match (if xs.length < LIM then Option.some (D.non, D.lst (xs ++ [d])) else none) with
      | Option.some (r, a') => match setP (.lst xs) [] a' with
        | Option.some d1 => R.ok r (st e1 i (Option.some d1))
        | none => .bad
      | none => .bad) Q X
  rw [if_pos h3]
  exact h4
theorem popAt {i : Nat} {a : Ex} {ys : List D} {Q : D → Env → Prop} (h0 : gt e i = Option.some (.lst ys)) (h : OK (evE F a e) (fun d e1 => ∃ k xs x, d = .int k ∧ k.natAbs < LIM ∧ gt e1 i = Option.some (.lst xs) ∧ 0 ≤ k ∧ k < xs.length ∧ xs[k.toNat]? = Option.some x ∧ ENV (st e1 i (Option.some (.lst (xs.eraseIdx k.toNat)))) (Q x)) X) : OK (evE F (.mut .popAt (.sl i) (.cons a .nil)) e) Q X := by
  rw [evE_mut, evPl_sl, bind_okk]
  have h1 : atPl (muTy .popAt) (gt e i) [] = true := by rw [h0]; rfl
  rw [if_pos h1, evEs_cons]
  refine bind (bind (mono h ?_))
  rintro d e1 ⟨k, xs, x, rfl, hl, h2, h3, h4, h5, h6⟩
  show OK (doMu .popAt [.int k] (i, []) e1) Q X
  unfold doMu
  rw [h2]
  have e : evMu .popAt (.lst xs) [.int k] = Option.some (x, .lst (xs.eraseIdx k.toNat)) := by
    show (if k.natAbs < LIM then (Mi.ixN xs.length k).bind fun k => (xs[k]?).map fun x => (x, D.lst (xs.eraseIdx k)) else none) = _
    unfold Mi.ixN
    rw [if_pos hl, if_pos h3, if_pos h4]
    show (xs[k.toNat]?).map (fun x => (x, D.lst (xs.eraseIdx k.toNat))) = _
    rw [h5]
    rfl
  show OK (match evMu .popAt (.lst xs) [.int k] with
      | Option.some (r, a') => match setP (.lst xs) [] a' with
        | Option.some d1 => R.ok r (st e1 i (Option.some d1))
        | none => .bad
      | none => .bad) Q X
  rw [e]
  exact h6
theorem pop {i : Nat} {xs : List D} {x : D} {Q : D → Env → Prop} (h0 : gt e i = Option.some (.lst xs)) (h : xs.getLast? = Option.some x) (k : ENV (st e i (Option.some (.lst xs.dropLast))) (Q x)) : OK (evE F (.mut .pop (.sl i) .nil) e) Q X := by
  rw [evE_mut, evPl_sl, bind_okk]
  have h1 : atPl (muTy .pop) (gt e i) [] = true := by rw [h0]; rfl
  rw [if_pos h1, evEs_nil, bind_okk]
  show OK (doMu .pop [] (i, []) e) Q X
  unfold doMu
  rw [h0]
  show OK (match (xs.getLast?).map fun x => (x, D.lst xs.dropLast) with
      | Option.some (r, a') => match setP (.lst xs) [] a' with
        | Option.some d1 => R.ok r (st e i (Option.some d1))
        | none => .bad
      | none => .bad) Q X
  rw [h]
  exact k
theorem clear {i : Nat} {xs : List D} {Q : D → Env → Prop} (h0 : gt e i = Option.some (.lst xs)) (k : ENV (st e i (Option.some (.lst []))) (Q .non)) : OK (evE F (.mut .clear (.sl i) .nil) e) Q X := by
  rw [evE_mut, evPl_sl, bind_okk]
  have h1 : atPl (muTy .clear) (gt e i) [] = true := by rw [h0]; rfl
  rw [if_pos h1, evEs_nil, bind_okk]
  show OK (doMu .clear [] (i, []) e) Q X
  unfold doMu
  rw [h0]
  exact k
theorem insertI {i : Nat} {a b : Ex} {ys : List D} {Q : D → Env → Prop} (h0 : gt e i = Option.some (.lst ys)) (h : OK (evE F a e) (fun d e1 => OK (evE F b e1) (fun x e2 => ∃ k xs, d = .int k ∧ gt e2 i = Option.some (.lst xs) ∧ 0 ≤ k ∧ k ≤ xs.length ∧ xs.length < LIM ∧ ENV (st e2 i (Option.some (.lst (xs.take k.toNat ++ x :: xs.drop k.toNat)))) (Q .non)) X) X) : OK (evE F (.mut .insert (.sl i) (.cons a (.cons b .nil))) e) Q X := by
  rw [evE_mut, evPl_sl, bind_okk]
  have h1 : atPl (muTy .insert) (gt e i) [] = true := by rw [h0]; rfl
  rw [if_pos h1, evEs_cons]
  refine bind (bind (mono h ?_))
  intro d e1 h
  rw [evEs_cons]
  refine bind (bind (mono h ?_))
  rintro x e2 ⟨k, xs, rfl, h2, h3, h4, h5, h6⟩
  show OK (doMu .insert [.int k, x] (i, []) e2) Q X
  unfold doMu
  rw [h2]
  show OK (match (if 0 ≤ k ∧ k ≤ xs.length ∧ xs.length < LIM then Option.some (D.non, D.lst (xs.take k.toNat ++ x :: xs.drop k.toNat)) else none) with
      | Option.some (r, a') => match setP (.lst xs) [] a' with
        | Option.some d1 => R.ok r (st e2 i (Option.some d1))
        | none => .bad
      | none => .bad) Q X
  rw [if_pos ⟨h3, h4, h5⟩]
  exact h6
theorem putN {i : Nat} {a b : Ex} {ys : List (D × D)} {Q : D → Env → Prop} (h0 : gt e i = Option.some (.dct ys)) (h : OK (evE F a e) (fun x e1 => OK (evE F b e1) (fun k e2 => ∃ d0 r, gt e2 i = Option.some d0 ∧ evMu .putN d0 [x, k] = Option.some r ∧ ENV (st e2 i (Option.some r.2)) (Q r.1)) X) X) : OK (evE F (.mut .putN (.sl i) (.cons a (.cons b .nil))) e) Q X := by
  rw [evE_mut, evPl_sl, bind_okk]
  have h1 : atPl (muTy .putN) (gt e i) [] = true := by rw [h0]; rfl
  rw [if_pos h1, evEs_cons]
  refine bind (bind (mono h ?_))
  intro x e1 h
  rw [evEs_cons]
  refine bind (bind (mono h ?_))
  rintro k e2 ⟨d0, r, h2, h3, h4⟩
  show OK (doMu .putN [x, k] (i, []) e2) Q X
  unfold doMu
  rw [h2]
  show OK (match evMu .putN d0 [x, k] with
      | Option.some (r, a') => match setP d0 [] a' with
        | Option.some d1 => R.ok r (st e2 i (Option.some d1))
        | none => .bad
      | none => .bad) Q X
  rw [h3]
  exact h4
theorem addI {i j : Int} {P : D → Prop} (h : P (.int (i + j))) : OKo (evOp2 .addG (.int i) (.int j)) P := h
theorem addL {xs ys : List D} {P : D → Prop} (hl : xs.length + ys.length < LIM) (h : P (.lst (xs ++ ys))) : OKo (evOp2 .addG (.lst xs) (.lst ys)) P := by
  show OKo (if xs.length + ys.length < LIM then _ else _) P
  rw [if_pos hl]; exact h
theorem addT {xs ys : List D} {P : D → Prop} (hl : xs.length + ys.length < LIM) (h : P (.tup (xs ++ ys))) : OKo (evOp2 .addG (.tup xs) (.tup ys)) P := by
  show OKo (if xs.length + ys.length < LIM then _ else _) P
  rw [if_pos hl]; exact h
theorem subI {i j : Int} {P : D → Prop} (h : P (.int (i - j))) : OKo (evOp2 .sub (.int i) (.int j)) P := h
theorem mulI {i j : Int} {P : D → Prop} (hl : mulOk i j = true) (h : P (.int (i * j))) : OKo (evOp2 .mulG (.int i) (.int j)) P := by
  show OKo (if mulOk i j = true then _ else _) P
  rw [if_pos hl]; exact h
theorem mulL {xs : List D} {j : Int} {P : D → Prop} (hl : xs.length * j.toNat < LIM ∧ j.natAbs < LIM) (h : P (.lst (List.replicate j.toNat xs).flatten)) : OKo (evOp2 .mulG (.lst xs) (.int j)) P := by
  show OKo (if xs.length * j.toNat < LIM ∧ j.natAbs < LIM then _ else _) P
  rw [if_pos hl]; exact h
theorem modI {i j : Int} {P : D → Prop} (hl : 0 < j) (h : P (.int (i % j))) : OKo (evOp2 .mod (.int i) (.int j)) P := by
  show OKo (if decide (0 < j) = true then _ else _) P
  rw [if_pos (decide_eq_true hl)]; exact h
theorem divI {i j : Int} {P : D → Prop} (hl : divOk j = true) (h : P (.int (i / j))) : OKo (evOp2 .fdiv (.int i) (.int j)) P := by
  show OKo (if divOk j = true then _ else _) P
  rw [if_pos hl]; exact h
theorem powI {i j : Int} {P : D → Prop} (hl : powOk i j = true) (h : P (.int (i ^ j.toNat))) : OKo (evOp2 .pow (.int i) (.int j)) P := by
  show OKo (if powOk i j = true then _ else _) P
  rw [if_pos hl]; exact h
theorem eqI {i j : Int} {P : D → Prop} (h : P (.bl (decide (i = j)))) : OKo (evOp2 .eq (.int i) (.int j)) P := h
theorem neI {i j : Int} {P : D → Prop} (h : P (.bl (decide (i ≠ j)))) : OKo (evOp2 .ne (.int i) (.int j)) P := by
  have e : (!decide (i = j)) = decide (i ≠ j) := by rw [decide_not]
  rw [← e] at h; exact h
theorem eqG {a b : D} {P : D → Prop} (ha : shp SD a = true) (hb : shp SD b = true) (h : P (.bl (eqD a b))) : OKo (evOp2 .eq a b) P := by
  show OKo ((if shp SD a && shp SD b then Option.some (eqD a b) else none).map .bl) P
  rw [ha, hb]; exact h
theorem neG {a b : D} {P : D → Prop} (ha : shp SD a = true) (hb : shp SD b = true) (h : P (.bl (!eqD a b))) : OKo (evOp2 .ne a b) P := by
  show OKo ((if shp SD a && shp SD b then Option.some (eqD a b) else none).map fun c => .bl (!c)) P
  rw [ha, hb]; exact h
theorem ltI {i j : Int} {P : D → Prop} (h : P (.bl (decide (i < j)))) : OKo (evOp2 .lt (.int i) (.int j)) P := h
theorem leI {i j : Int} {P : D → Prop} (h : P (.bl (decide (i ≤ j)))) : OKo (evOp2 .le (.int i) (.int j)) P := h
theorem gtI {i j : Int} {P : D → Prop} (h : P (.bl (decide (j < i)))) : OKo (evOp2 .gt (.int i) (.int j)) P := h
theorem geI {i j : Int} {P : D → Prop} (h : P (.bl (decide (j ≤ i)))) : OKo (evOp2 .ge (.int i) (.int j)) P := h
theorem innL {a : D} {ds : List D} {P : D → Prop} (ha : shp SD a = true) (hb : ds.all (shp SD) = true) (h : P (.bl (ds.any fun d => eqD d a))) : OKo (evOp2 .inn a (.lst ds)) P := by
  show OKo ((if shp SD a && ds.all (shp SD) then Option.some (ds.any fun d => eqD d a) else none).map .bl) P
  rw [ha, hb]; exact h
theorem ninL {a : D} {ds : List D} {P : D → Prop} (ha : shp SD a = true) (hb : ds.all (shp SD) = true) (h : P (.bl (!ds.any fun d => eqD d a))) : OKo (evOp2 .nin a (.lst ds)) P := by
  show OKo ((if shp SD a && ds.all (shp SD) then Option.some (ds.any fun d => eqD d a) else none).map fun c => .bl (!c)) P
  rw [ha, hb]; exact h
theorem isB {a b : Bool} {P : D → Prop} (h : P (.bl (decide (a = b)))) : OKo (evOp2 .isB (.bl a) (.bl b)) P := h
theorem isnB {a b : Bool} {P : D → Prop} (h : P (.bl (!decide (a = b)))) : OKo (evOp2 .isnB (.bl a) (.bl b)) P := h
theorem ixL {xs : List D} {k : Int} {P : D → Prop} (h0 : 0 ≤ k) (h1 : k < xs.length) (h : ∀ d, xs[k.toNat]? = Option.some d → d ∈ xs → P d) : OKo (idxS (.lst xs) (.int k)) P := by
  have hlt : k.toNat < xs.length := by omega
  refine some (a := xs[k.toNat]) ?_ (h _ (List.getElem?_eq_getElem hlt) (List.getElem_mem hlt))
  show (Mi.ixN xs.length k).bind (fun n => xs[n]?) = _
  unfold Mi.ixN
  rw [if_pos h0, if_pos h1]
  exact List.getElem?_eq_getElem hlt
theorem ixLv {xs : List D} {k : Int} {d : D} {P : D → Prop} (h0 : 0 ≤ k) (h1 : xs[k.toNat]? = Option.some d) (h : P d) : OKo (idxS (.lst xs) (.int k)) P := by
  have hlt : k.toNat < xs.length := (List.getElem?_eq_some_iff.1 h1).1
  refine some (a := d) ?_ h
  show (Mi.ixN xs.length k).bind (fun n => xs[n]?) = _
  unfold Mi.ixN
  rw [if_pos h0, if_pos (by omega)]
  exact h1
theorem slL {xs : List D} {l h' : Option Int} {P : D → Prop} (h : P (.lst (cut xs l h'))) : OKo (slOp (.lst xs) l h') P := h
theorem b_len {xs : List D} {P : D → Prop} (h : P (.int xs.length)) : OKo (evBi .len [.lst xs]) P := h
theorem b_lenT {xs : List D} {P : D → Prop} (h : P (.int xs.length)) : OKo (evBi .len [.tup xs]) P := h
theorem b_abs {i : Int} {P : D → Prop} (h : P (.int (if i < 0 then -i else i))) : OKo (evBi .abs [.int i]) P := h
theorem b_int {i : Int} {P : D → Prop} (h : P (.int i)) : OKo (evBi .toInt [.int i]) P := h
theorem b_intB {b : Bool} {P : D → Prop} (h : P (.int (if b then 1 else 0))) : OKo (evBi .toInt [.bl b]) P := h
theorem b_list {xs : List D} {P : D → Prop} (h : P (.lst xs)) : OKo (evBi .toList [.lst xs]) P := h
theorem b_listT {xs : List D} {P : D → Prop} (h : P (.lst xs)) : OKo (evBi .toList [.tup xs]) P := h
theorem b_tup {xs : List D} {P : D → Prop} (h : P (.tup xs)) : OKo (evBi .toTuple [.lst xs]) P := h
theorem b_sum {ns : List Int} {xs : List D} {P : D → Prop} (he : ints? xs = Option.some ns) (h : P (.int ns.sum)) : OKo (evBi .sum [.lst xs]) P := by
  show OKo ((ints? xs).map fun ns => .int ns.sum) P
  rw [he]; exact h
theorem b_max {i j : Int} {P : D → Prop} (h : P (.int (max i j))) : OKo (evBi .max2 [.int i, .int j]) P := h
theorem b_min {i j : Int} {P : D → Prop} (h : P (.int (min i j))) : OKo (evBi .min2 [.int i, .int j]) P := h
theorem b_rng1 {j : Int} {P : D → Prop} (hj : j.natAbs < LIM) (h : P (.lst (rngD 0 (j - 0).toNat))) : OKo (evBi .rng1 [.int j]) P := by
  show OKo (if (0 : Int).natAbs < LIM ∧ j.natAbs < LIM then _ else _) P
  rw [if_pos ⟨by decide, hj⟩]; exact h
theorem b_rng2 {i j : Int} {P : D → Prop} (hi : i.natAbs < LIM) (hj : j.natAbs < LIM) (h : P (.lst (rngD i (j - i).toNat))) : OKo (evBi .rng2 [.int i, .int j]) P := by
  show OKo (if i.natAbs < LIM ∧ j.natAbs < LIM then _ else _) P
  rw [if_pos ⟨hi, hj⟩]; exact h
theorem b_isin {t : Ty} {d : D} {P : D → Prop} (h0 : isOk t d = true) (h : P (.bl (isTy t d))) : OKo (evBi (.isin t) [d]) P := by
  show OKo (if isOk t d = true then _ else _) P
  rw [if_pos h0]; exact h
theorem b_repr {d : D} {P : D → Prop} (h0 : shw SD d = true) (h1 : (shown d).length < LIM) (h : P (.str (shown d))) : OKo (evBi .repr [d]) P := by
  show OKo (if shw SD d = true ∧ (shown d).length < LIM then _ else _) P
  rw [if_pos ⟨h0, h1⟩]; exact h
def SQ (F : FS) (sub : Sub) (b : Sm) (Q : Fl → Env → Prop) (X : Er) (fl : Fl) (e1 : Env) : Prop := match fl with
  | .nxt => OK (evS F sub b e1) Q X
  | .ret d => Q (.ret d) e1
theorem sq_n {b : Sm} {Q : Fl → Env → Prop} (h : OK (evS F sub b e) Q X) : SQ F sub b Q X .nxt e := h
theorem sq_r {b : Sm} {d : D} {Q : Fl → Env → Prop} (h : Q (.ret d) e) : SQ F sub b Q X (.ret d) e := h
theorem seq {a b : Sm} {Q : Fl → Env → Prop} (h : OK (evS F sub a e) (SQ F sub b Q X) X) : OK (evS F sub (.seq a b) e) Q X := by
  rw [evS_seq]
  revert h
  cases evS F sub a e with
  | ok fl e1 => cases fl <;> exact fun h => h
  | err => exact fun h => h
  | bad => exact fun h => h
theorem skip {Q : Fl → Env → Prop} (h : Q .nxt e) : OK (evS F sub .skip e) Q X := h
theorem ex {a : Ex} {Q : Fl → Env → Prop} (h : OK (evE F a e) (fun _ e1 => Q .nxt e1) X) : OK (evS F sub (.ex a) e) Q X := by
  rw [evS_ex]; exact bind h
theorem ret {a : Ex} {Q : Fl → Env → Prop} (h : OK (evE F a e) (fun d e1 => Q (.ret d) e1) X) : OK (evS F sub (.ret a) e) Q X := by
  rw [evS_ret]; exact bind h
theorem asg {t : Tg} {a : Ex} {Q : Fl → Env → Prop} (h : OK (evE F a e) (fun d e1 => OKo (bindT t d e1) fun e2 => Q .nxt e2) X) : OK (evS F sub (.asg t a) e) Q X := by
  rw [evS_asg]
  refine bind (mono h fun d e1 h => ?_)
  revert h
  cases bindT t d e1 <;> exact fun h => h
theorem b_nm {i : Nat} {d : D} {P : Env → Prop} (h : ENV (st e i (Option.some d)) P) : OKo (bindT (.nm i) d e) P := h
theorem b_tp {ts : Tgs} {ds : List D} {P : Env → Prop} (h : OKo (bindTs ts ds e) P) : OKo (bindT (.tp ts) (.tup ds) e) P := h
theorem b_tl {ts : Tgs} {ds : List D} {P : Env → Prop} (h : OKo (bindTs ts ds e) P) : OKo (bindT (.tl ts) (.lst ds) e) P := h
theorem bs_cons {t : Tg} {ts : Tgs} {d : D} {ds : List D} {P : Env → Prop} (h : OKo (bindT t d e) fun e1 => OKo (bindTs ts ds e1) P) : OKo (bindTs (.cons t ts) (d :: ds) e) P := obind h
theorem bs_nil {P : Env → Prop} (h : P e) : OKo (bindTs .nil [] e) P := h
theorem ife {c : Ex} {a b : Sm} {Q : Fl → Env → Prop} (h : OK (evE F c e) (fun x e1 => BR x (OK (evS F sub a e1) Q X) (OK (evS F sub b e1) Q X)) X) : OK (evS F sub (.ife c a b) e) Q X := by
  rw [evS_ife]
  refine bind (mono h ?_)
  rintro _ _ (⟨rfl, h⟩ | ⟨rfl, h⟩) <;> exact h
theorem iset {i : Nat} {k a : Ex} {Q : Fl → Env → Prop} (h : OK (evE F a e) (fun d e1 => OK (evE F k e1) (fun kd e2 => OKo (gt e2 i) fun d0 => OKo (setI d0 kd d) fun d1 => ENV (st e2 i (Option.some d1)) (Q .nxt)) X) X) : OK (evS F sub (.iset (.sl i) k a) e) Q X := by
  rw [evS_iset]
  refine bind (mono h fun d e1 h => ?_)
  rw [evPl_sl]
  show OK ((evE F k e1).bind _) Q X
  refine bind (mono h fun kd e2 h => ?_)
  revert h
  dsimp only
  cases gt e2 i with
  | none => exact fun h => h
  | some d0 =>
    show OKo (setI d0 kd d) _ → OK (match getP d0 [] with
      | Option.some o => match setI o kd d with
        | Option.some o' => match setP d0 [] o' with
          | Option.some d1 => .ok .nxt (st e2 i (Option.some d1))
          | none => .bad
        | none => .bad
      | none => .bad) Q X
    show OKo (setI d0 kd d) _ → OK (match setI d0 kd d with
        | Option.some o' => match setP d0 [] o' with
          | Option.some d1 => .ok .nxt (st e2 i (Option.some d1))
          | none => .bad
        | none => .bad) Q X
    cases setI d0 kd d <;> exact fun h => h
theorem setL {xs : List D} {k : Int} {x : D} {P : D → Prop} (h0 : 0 ≤ k) (h1 : k < xs.length) (h : P (.lst (xs.set k.toNat x))) : OKo (setI (.lst xs) (.int k) x) P := by
  show OKo (((Mi.ixN xs.length k).map fun k => (D.non, D.lst (xs.set k x))).map (·.2)) P
  unfold Mi.ixN
  rw [if_pos h0, if_pos h1]
  exact h
theorem aug {i : Nat} {o : Op2} {a : Ex} {Q : Fl → Env → Prop} (h : OK (evE F a e) (fun y e1 => OKo (gt e1 i) fun x => OKo (evOp2 o x y) fun z => ENV (st e1 i (Option.some z)) (Q .nxt)) X) : OK (evS F sub (.aug i o a) e) Q X := by
  rw [evS_aug]
  refine bind (mono h fun y e1 h => ?_)
  revert h
  cases gt e1 i with
  | none => exact fun h => h
  | some x =>
    show OKo (evOp2 o x y) _ → OK (match evOp2 o x y with
      | Option.some z => .ok .nxt (st e1 i (Option.some z))
      | none => .bad) Q X
    cases evOp2 o x y <;> exact fun h => h
theorem par {is : List Nat} {es : Exs} {Q : Fl → Env → Prop} (h : OK (evEs F es e) (fun as e1 => OKo (dsOf as) fun ds => OKo (stN is ds e1) fun e2 => Q .nxt e2) X) : OK (evS F sub (.par is es) e) Q X := by
  rw [evS_par]
  refine bind (mono h fun as e1 h => ?_)
  have h := obind h
  revert h
  cases (dsOf as).bind fun ds => stN is ds e1 <;> exact fun h => h
theorem n_nil {P : Env → Prop} (h : P e) : OKo (stN [] [] e) P := h
theorem n_cons {i : Nat} {is : List Nat} {d : D} {ds : List D} {P : Env → Prop} (h : ENV (st e i (Option.some d)) fun e' => OKo (stN is ds e') P) : OKo (stN (i :: is) (d :: ds) e) P := h
theorem i_lst {a : Ex} {Q : List D → Env → Prop} (h : OK (evE F a e) (fun d e1 => ∃ ds, d = .lst ds ∧ Q ds e1) X) : OK (evIt F (.lst a) e) Q X := by
  rw [evIt_lst]
  refine bind (mono h ?_)
  rintro _ _ ⟨ds, rfl, h⟩
  exact h
theorem i_scr {a : Ex} {Q : List D → Env → Prop} (h : OK (evE F a e) (fun d e1 => ∃ ds, d = .lst ds ∧ Q ds e1) X) : OK (evIt F (.scr a) e) Q X := by
  rw [evIt_scr]
  refine bind (mono h ?_)
  rintro _ _ ⟨ds, rfl, h⟩
  exact h
theorem i_tup {a : Ex} {Q : List D → Env → Prop} (h : OK (evE F a e) (fun d e1 => ∃ ds, d = .tup ds ∧ Q ds e1) X) : OK (evIt F (.tup a) e) Q X := by
  rw [evIt_tup]
  refine bind (mono h ?_)
  rintro _ _ ⟨ds, rfl, h⟩
  exact h
theorem i_en {a : Ex} {Q : List D → Env → Prop} (h : OK (evE F a e) (fun d e1 => ∃ ds, d = .lst ds ∧ Q (enumD 0 ds) e1) X) : OK (evIt F (.en a) e) Q X := by
  rw [evIt_en]
  refine bind (mono h ?_)
  rintro _ _ ⟨ds, rfl, h⟩
  exact h
theorem i_zp {a b : Ex} {Q : List D → Env → Prop} (h : OK (evE F a e) (fun d e1 => OK (evE F b e1) (fun d2 e2 => ∃ xs ys, d = .lst xs ∧ d2 = .lst ys ∧ Q ((xs.zip ys).map kvD) e2) X) X) : OK (evIt F (.zp a b) e) Q X := by
  rw [evIt_zp]
  refine bind (mono h ?_)
  intro d e1 h
  refine bind (mono h ?_)
  rintro _ _ ⟨xs, ys, rfl, rfl, h⟩
  exact h
theorem i_rng1 {a : Ex} {Q : List D → Env → Prop} (h : OK (evE F a e) (fun d e1 => ∃ j, d = .int j ∧ j.natAbs < LIM ∧ Q ((List.range j.toNat).map fun (i : Nat) => D.int (0 + i)) e1) X) : OK (evIt F (.rng (.cons a .nil)) e) Q X := by
  rw [evIt_rng, evEs_cons]
  refine bind (bind (mono h ?_))
  rintro _ e1 ⟨j, rfl, hj, h⟩
  show OK (if j.natAbs < LIM then _ else _) Q X
  rw [if_pos hj]
  exact h
theorem i_rng2 {a b : Ex} {Q : List D → Env → Prop} (h : OK (evE F a e) (fun d e1 => OK (evE F b e1) (fun d2 e2 => ∃ i j, d = .int i ∧ d2 = .int j ∧ i.natAbs < LIM ∧ j.natAbs < LIM ∧ Q ((List.range (j - i).toNat).map fun (n : Nat) => D.int (i + n)) e2) X) X) : OK (evIt F (.rng (.cons a (.cons b .nil))) e) Q X := by
  rw [evIt_rng, evEs_cons]
  refine bind (bind (mono h ?_))
  intro d e1 h
  rw [evEs_cons]
  refine bind (bind (mono h ?_))
  rintro _ e2 ⟨i, j, rfl, rfl, hi, hj, h⟩
  show OK (if i.natAbs < LIM ∧ j.natAbs < LIM then _ else _) Q X
  rw [if_pos ⟨hi, hj⟩]
  exact h
theorem forr {t : Tg} {it : It} {b : Sm} {Q : Fl → Env → Prop} (h : OK (evIt F it e) (fun xs e1 => OK (forL (bindT t) (fun e => evS F sub b e) xs e1) Q X) X) : OK (evS F sub (.forr t it b) e) Q X := by
  rw [evS_forr]; exact bind h
def FB (I : Env → Prop) (Q : Fl → Env → Prop) (fl : Fl) (e2 : Env) : Prop := match fl with
  | .nxt => I e2
  | .ret d => Q (.ret d) e2
theorem fb_n {I : Env → Prop} {Q : Fl → Env → Prop} (h : I e) : FB I Q .nxt e := h
theorem fb_r {I : Env → Prop} {d : D} {Q : Fl → Env → Prop} (h : Q (.ret d) e) : FB I Q (.ret d) e := h
theorem forM {α : Type} {g : α → D} {l : List α} {t : Tg} {b : Sm} {Q : Fl → Env → Prop} (I : List α → Env → Prop) (h0 : I [] e)
    (hs : ∀ done a rest e, l = done ++ a :: rest → I done e → OKo (bindT t (g a) e) fun e1 => OK (evS F sub b e1) (FB (I (done ++ [a])) Q) X)
    (hq : ∀ e, I l e → Q .nxt e) : OK (forL (bindT t) (fun e => evS F sub b e) (l.map g) e) Q X := by
  have key : ∀ (rest done : List α) (e : Env), l = done ++ rest → I done e → OK (forL (bindT t) (fun e => evS F sub b e) (rest.map g) e) Q X := by
    intro rest
    induction rest with
    | nil =>
      intro done e hl hi
      rw [List.append_nil] at hl
      subst hl
      exact hq e hi
    | cons a rest ih =>
      intro done e hl hi
      have h := hs done a rest e hl hi
      rw [List.map_cons, forL_cons]
      revert h
      cases bindT t (g a) e with
      | none => exact fun h => h.elim
      | some e1 =>
        show OK (evS F sub b e1) _ X → OK (match evS F sub b e1 with
          | .ok .nxt e2 => forL (bindT t) (fun e => evS F sub b e) (rest.map g) e2
          | r => r) Q X
        cases evS F sub b e1 with
        | ok fl e2 =>
          cases fl with
          | nxt => exact fun h => ih (done ++ [a]) e2 (by rw [hl]; simp) h
          | ret d => exact fun h => h
        | err => exact fun h => h
        | bad => exact fun h => h
  exact key l [] e rfl h0
def WB (I : Nat → Env → Prop) (m : Nat) (Q : Fl → Env → Prop) (fl : Fl) (e2 : Env) : Prop := match fl with
  | .nxt => ∃ m', m' < m ∧ I m' e2
  | .ret d => Q (.ret d) e2
def WL (F : FS) (sub : Sub) (c : Ex) (b : Sm) (e : Env) (Q : Fl → Env → Prop) (X : Er) : Prop := OK (evS F sub (.whl c b) e) Q X
theorem whileB_by {step : Env → W} (I : Nat → Env → Prop) (P : R Fl → Prop) (hs : ∀ m e, I m e → match step e with
    | .done r => P r
    | .more e1 => ∃ m', m' < m ∧ I m' e1) : ∀ (k m : Nat) (e : Env), I m e → match whileB step k e with
    | .done r => P r
    | .more e1 => ∃ m', m' + 2 ^ k ≤ m ∧ I m' e1 := by
  intro k
  induction k with
  | zero =>
    intro m e h
    have h := hs m e h
    show match step e with
      | .done r => P r
      | .more e1 => ∃ m', m' + 2 ^ 0 ≤ m ∧ I m' e1
    revert h
    cases step e with
    | done r => exact fun h => h
    | more e1 => exact fun ⟨m', h1, h2⟩ => ⟨m', by omega, h2⟩
  | succ k ih =>
    intro m e h
    have h := ih m e h
    show match (match whileB step k e with
      | .more e1 => whileB step k e1
      | r => r) with
      | .done r => P r
      | .more e1 => ∃ m', m' + 2 ^ (k + 1) ≤ m ∧ I m' e1
    revert h
    cases whileB step k e with
    | done r => exact fun h => h
    | more e1 =>
      rintro ⟨m', h1, h2⟩
      have h := ih m' e1 h2
      dsimp only
      revert h
      cases whileB step k e1 with
      | done r => exact fun h => h
      | more e2 =>
        rintro ⟨m2, h3, h4⟩
        exact ⟨m2, by rw [Nat.pow_succ]; omega, h4⟩
theorem whl {c : Ex} {b : Sm} {Q : Fl → Env → Prop} (I : Nat → Env → Prop) (n : Nat) (h0 : I n e) (hn : n < 2 ^ 40)
    (hs : ∀ m e, I m e → OK (evE F c e) (fun d e1 => BR d (OK (evS F sub b e1) (WB I m Q) X) (Q .nxt e1)) X) : WL F sub c b e Q X := by
  have key := whileB_by (step := fun e => match evE F c e with
      | .ok (.bl true) e1 => match evS F sub b e1 with
        | .ok .nxt e2 => .more e2
        | r => .done r
      | .ok (.bl false) e1 => .done (.ok .nxt e1)
      | .err k fs e1 => .done (.err k fs e1)
      | _ => .done .bad) I (fun r => OK r Q X) (fun m e h => by
    have h := hs m e h
    revert h
    cases evE F c e with
    | ok d e1 =>
      rintro (⟨rfl, h⟩ | ⟨rfl, h⟩)
      · dsimp only
        revert h
        cases evS F sub b e1 with
        | ok fl e2 => cases fl <;> exact fun h => h
        | err => exact fun h => h
        | bad => exact fun h => h
      · exact h
    | err => exact fun h => h
    | bad => exact fun h => h) 40 n e h0
  show OK (match whileB (fun e => match evE F c e with
      | .ok (.bl true) e1 => match evS F sub b e1 with
        | .ok .nxt e2 => .more e2
        | r => .done r
      | .ok (.bl false) e1 => .done (.ok .nxt e1)
      | .err k fs e1 => .done (.err k fs e1)
      | _ => .done .bad) 40 e with
    | .done r => r
    | .more _ => .bad) Q X
  revert key
  cases whileB (fun e => match evE F c e with
      | .ok (.bl true) e1 => match evS F sub b e1 with
        | .ok .nxt e2 => .more e2
        | r => .done r
      | .ok (.bl false) e1 => .done (.ok .nxt e1)
      | .err k fs e1 => .done (.err k fs e1)
      | _ => .done .bad) 40 e with
  | done r => exact fun h => h
  | more e1 =>
    rintro ⟨m', h1, _⟩
    omega
theorem noErr {α : Type} {r : R α} {Q : α → Env → Prop} (h : OK r Q NE) : OK (Mi.noErr r) Q X := by
  cases r with
  | ok => exact h
  | err => exact h.elim
  | bad => exact h
theorem lcM {α : Type} {g : α → D} {l : List α} {t : Tg} {c : Ex} {f : Env → R (List D)} {Q : List D → Env → Prop} (I : List α → List D → Env → Prop) (h0 : I [] [] e)
    (hs : ∀ done a rest out e, l = done ++ a :: rest → I done out e → OKo (bindT t (g a) e) fun e1 => OK (evE F c e1) (fun b e2 => BR b (OK (f e2) (fun ds e3 => I (done ++ [a]) (out ++ ds) e3) X) (I (done ++ [a]) out e2)) X)
    (hq : ∀ out e, I l out e → Q out e) : OK (lcLoop (bindT t) (fun e => evE F c e) f (l.map g) e) Q X := by
  have key : ∀ (rest done : List α) (out : List D) (e : Env), l = done ++ rest → I done out e → OK (lcLoop (bindT t) (fun e => evE F c e) f (rest.map g) e) (fun ds e => I l (out ++ ds) e) X := by
    intro rest
    induction rest with
    | nil =>
      intro done out e hl hi
      rw [List.append_nil] at hl
      subst hl
      show I l (out ++ []) e
      rw [List.append_nil]
      exact hi
    | cons a rest ih =>
      intro done out e hl hi
      have h := hs done a rest out e hl hi
      rw [List.map_cons]
      unfold lcLoop
      revert h
      cases bindT t (g a) e with
      | none => exact fun h => h.elim
      | some e1 =>
        intro h
        refine bind (mono h ?_)
        have hl' : l = (done ++ [a]) ++ rest := by rw [hl]; simp
        rintro _ e2 (⟨rfl, h⟩ | ⟨rfl, h⟩)
        · refine bind (mono h ?_)
          intro ds e3 h
          refine bind (mono (ih (done ++ [a]) (out ++ ds) e3 hl' h) ?_)
          intro ds2 e4 h
          show I l (out ++ (ds ++ ds2)) e4
          rw [← List.append_assoc]
          exact h
        · exact ih (done ++ [a]) out e2 hl' h
  refine mono (key l [] [] e rfl h0) ?_
  intro ds e h
  exact hq ds e h
theorem lc {own : List Nat} {f : Ex} {t : Tg} {it : It} {c : Ex} {Q : D → Env → Prop} (h : OK (evIt F it e) (fun xs e1 => ENV (wipeE own e1) fun e' => OK (lcLoop (bindT t) (fun e => evE F c e) (fun e => (evE F f e).bind fun d e1 => .ok [d] e1) xs e') (fun ds e2 => ds.length < LIM ∧ ENV (backE own e1 e2) (Q (.lst ds))) NE) X) : OK (evE F (.lc own f t it c) e) Q X := by
  rw [evE_lc]
  refine bind (mono h fun xs e1 h => ?_)
  refine noErr (bind (mono h ?_))
  rintro ds e2 ⟨h1, h2⟩
  rw [if_pos h1]
  exact h2
theorem one {f : Ex} {Q : List D → Env → Prop} (h : OK (evE F f e) (fun d e1 => Q [d] e1) X) : OK ((evE F f e).bind fun d e1 => .ok [d] e1) Q X := bind h
theorem o_nil {P : List D → Prop} (h : P []) : OKo (outsOf [] e) P := h
theorem o_t {d : D} {r : List Bool} {P : List D → Prop} (h : OKo (outsOf r e) fun ds => P (d :: ds)) : OKo (outsOf (true :: r) (Option.some d :: e)) P := omap h
theorem o_f {x : Option D} {r : List Bool} {P : List D → Prop} (h : OKo (outsOf r e) P) : OKo (outsOf (false :: r) (x :: e)) P := h
theorem fn {T : Tab} {n : Nat} {rf : List Bool} {ns : Nat} {body : Sm} {ds : List D} {E : Env} {P : D → List D → Prop} (hT : T n = Option.some ⟨rf, ns, body⟩) (hd : ds.length = rf.length) (hE : ds.map Option.some ++ List.replicate (ns - rf.length) none = E)
    (h : OK (evS (below T sub n) sub body E) (fun fl e => OKo (outsOf rf e) fun os => P (match fl with
      | .nxt => .non
      | .ret d => d) os) NE) : OKF (sem T sub n ds) P NX := by
  rw [sem_eq, hT]
  show OKF (runFn (below T sub n) sub ⟨rf, ns, body⟩ ds) P NX
  unfold runFn
  rw [if_pos hd, hE]
  revert h
  show OK (evS (below T sub n) sub body E) _ NE → OKF (match evS (below T sub n) sub body E with
    | .ok fl e => match outsOf rf e with
      | Option.some os => .ok (match fl with
        | .nxt => .non
        | .ret d => d) os
      | none => .bad
    | .err c fs e => match outsOf rf e with
      | Option.some os => .err c fs os
      | none => .bad
    | .bad => .bad) P NX
  cases evS (below T sub n) sub body E with
  | ok fl e =>
    show OKo (outsOf rf e) _ → _
    dsimp only
    cases outsOf rf e <;> exact fun h => h
  | err => exact fun h => h.elim
  | bad => exact fun h => h
theorem toEq {r : FR} {d : D} {os : List D} (h : OKF r (fun d' os' => d' = d ∧ os' = os) NX) : r = .ok d os := by
  cases r with
  | ok d' os' => rw [h.1, h.2]
  | err => exact h.elim
  | bad => exact h.elim
end Wp
end Mi
namespace Mi
open PySem
def SC (p k : Prop) : Prop := p ∧ k
abbrev OKL (d : D) (P : List D → Prop) : Prop := match d with
  | .lst ds => P ds
  | _ => False
abbrev OKT (d : D) (P : List D → Prop) : Prop := match d with
  | .tup ds => P ds
  | _ => False
abbrev OKDc (d : D) (P : List (D × D) → Prop) : Prop := match d with
  | .dct ds => P ds
  | _ => False
abbrev OKI (d : D) (P : Int → Prop) : Prop := match d with
  | .int ds => P ds
  | _ => False
namespace Wp
variable {F : FS} {sub : Sub} {X : Er} {e : Env}
theorem br_ct {A B : Prop} {c : Bool} (hc : c = true) (h : A) : BR (.bl c) A B := by rw [hc]; exact br_t h
theorem br_cf {A B : Prop} {c : Bool} (hc : c = false) (h : B) : BR (.bl c) A B := by rw [hc]; exact br_f h
theorem some_ {α : Type} {a : α} {P : α → Prop} (h : P a) : OKo (Option.some a) P := h
theorem sc {p k : Prop} (h : p) (h' : k) : SC p k := ⟨h, h'⟩
abbrev wE (F : FS) (a : Ex) (e : Env) (Q : D → Env → Prop) (X : Er) : Prop := match a with
  | .var i => OKo (gt e i) fun d => Q d e
  | .mv i => OKo (gt e i) fun d => ENV (st e i none) (Q d)
  | .fz i => OKo (gt e i) fun d => Q d e
  | .cst d => Q d e
  | .glb _ d => Q d e
  | .neg a => OK (evE F a e) (fun d e1 => OKI d fun i => Q (.int (-i)) e1) X
  | .not a => OK (evE F a e) (fun d e1 => BR d (Q (.bl false) e1) (Q (.bl true) e1)) X
  | .op o a b => OK (evE F a e) (fun x e1 => OK (evE F b e1) (fun y e2 => OKo (evOp2 o x y) fun z => Q z e2) X) X
  | .ch o p a b c => OK (evE F a e) (fun x e1 => OK (evE F b e1) (fun y e2 => OKo (evOp2 o x y) fun z => BR z (OK (evE F c e2) (fun w e3 => OKo (evOp2 p y w) fun v => Q v e3) X) (Q (.bl false) e2)) X) X
  | .and a b => OK (evE F a e) (fun x e1 => BR x (OK (evE F b e1) Q X) (Q (.bl false) e1)) X
  | .or a b => OK (evE F a e) (fun x e1 => BR x (Q (.bl true) e1) (OK (evE F b e1) Q X)) X
  | .ite c a b => OK (evE F c e) (fun x e1 => BR x (OK (evE F a e1) Q X) (OK (evE F b e1) Q X)) X
  | .isN g a => OK (evE F a e) (fun x e1 => Q (.bl (match x with
    | .non => !g
    | _ => g)) e1) X
  | .idx a i => OK (evE F a e) (fun x e1 => OK (evE F i e1) (fun y e2 => OKo (idxS x y) fun z => Q z e2) X) X
  | .idxD a i => OK (evE F a e) (fun x e1 => OK (evE F i e1) (fun y e2 => OKo (Mi.idxD x y) fun z => Q z e2) X) X
  | .sl a l h' => OK (evE F a e) (fun x e1 => OK (evOp F l e1) (fun y e2 => OK (evOp F h' e2) (fun z e3 => OKo (slOp x y z) fun w => Q w e3) X) X) X
  | .rev a => OK (evE F a e) (fun d e1 => OKL d fun xs => Q (.lst xs.reverse) e1) X
  | .fld a n => OK (evE F a e) (fun x e1 => OKo (fldOp x n) fun z => Q z e1) X
  | .tup es => OK (evEs F es e) (fun as e1 => OKo (dsOf as) fun ds => Q (.tup ds) e1) X
  | .lst es => OK (evEs F es e) (fun as e1 => OKo (dsOf as) fun ds => Q (.lst ds) e1) X
  | .dct es => OK (evEs F es e) (fun as e1 => OKo (dsOf as) fun ds => OKo (dispK ds []) fun k => Q (.dct k) e1) X
  | .call f es => OK (evEs F es e) (fun as e1 => OKo (arD as e1) fun ds => callOK (F f ds) as e1 Q X) X
  | .bi o es => OK (evEs F es e) (fun as e1 => OKo (dsOf as) fun ds => OKo (evBi o ds) fun z => Q z e1) X
  | .lend _ a => OK (evE F a e) (fun d _ => SC (lendD d = true) (Q d e)) X
  | .mut m p es => match m, p, es with
    | .append, .sl i, .cons a .nil => OKo (gt e i) fun y => OKL y fun _ => OK (evE F a e) (fun d e1 => OKo (gt e1 i) fun d0 => OKL d0 fun xs => SC (xs.length < LIM) (ENV (st e1 i (Option.some (.lst (xs ++ [d])))) (Q .non))) X
    | .popAt, .sl i, .cons a .nil => OKo (gt e i) fun y => OKL y fun _ => OK (evE F a e) (fun d e1 => OKI d fun k => OKo (gt e1 i) fun d0 => OKL d0 fun xs => SC (k.natAbs < LIM ∧ 0 ≤ k ∧ k < xs.length) (OKo (xs[k.toNat]?) fun x => ENV (st e1 i (Option.some (.lst (xs.eraseIdx k.toNat)))) (Q x))) X
    | .pop, .sl i, .nil => OKo (gt e i) fun y => OKL y fun xs => OKo (xs.getLast?) fun x => ENV (st e i (Option.some (.lst xs.dropLast))) (Q x)
    | .putN, .sl i, .cons a (.cons b .nil) => OKo (gt e i) fun y => OKDc y fun _ => OK (evE F a e) (fun x e1 => OK (evE F b e1) (fun k e2 => OKo (gt e2 i) fun d0 => OKo (evMu .putN d0 [x, k]) fun r => ENV (st e2 i (Option.some r.2)) (Q r.1)) X) X
    | .clear, .sl i, .nil => OKo (gt e i) fun y => OKL y fun _ => ENV (st e i (Option.some (.lst []))) (Q .non)
    | .insert, .sl i, .cons a (.cons b .nil) => OKo (gt e i) fun y => OKL y fun _ => OK (evE F a e) (fun d e1 => OK (evE F b e1) (fun x e2 => OKI d fun k => OKo (gt e2 i) fun d0 => OKL d0 fun xs => SC (0 ≤ k ∧ k ≤ xs.length ∧ xs.length < LIM) (ENV (st e2 i (Option.some (.lst (xs.take k.toNat ++ x :: xs.drop k.toNat)))) (Q .non))) X) X
    | _, _, _ => False
  | .lc own f t it c => OK (evIt F it e) (fun xs e1 => ENV (wipeE own e1) fun e' => OK (lcLoop (bindT t) (fun e => evE F c e) (fun e => (evE F f e).bind fun d e1 => .ok [d] e1) xs e') (fun ds e2 => SC (ds.length < LIM) (ENV (backE own e1 e2) (Q (.lst ds)))) NE) X
  | _ => False
theorem of_o {α : Type} {x : Option α} {P : α → Prop} (h : OKo x P) : ∃ a, x = Option.some a ∧ P a := by
  cases x with
  | none => exact h.elim
  | some a => exact ⟨a, rfl, h⟩
theorem of_L {d : D} {P : List D → Prop} (h : OKL d P) : ∃ a, d = .lst a ∧ P a := by
  cases d <;> first | exact ⟨_, rfl, h⟩ | exact (h : False).elim
theorem of_T {d : D} {P : List D → Prop} (h : OKT d P) : ∃ a, d = .tup a ∧ P a := by
  cases d <;> first | exact ⟨_, rfl, h⟩ | exact (h : False).elim
theorem of_Dc {d : D} {P : List (D × D) → Prop} (h : OKDc d P) : ∃ a, d = .dct a ∧ P a := by
  cases d <;> first | exact ⟨_, rfl, h⟩ | exact (h : False).elim
theorem of_I {d : D} {P : Int → Prop} (h : OKI d P) : ∃ a, d = .int a ∧ P a := by
  cases d <;> first | exact ⟨_, rfl, h⟩ | exact (h : False).elim
theorem xE {a : Ex} {Q : D → Env → Prop} (h : wE F a e Q X) : OK (evE F a e) Q X := by
  cases a with
  | var i => obtain ⟨d, h1, h2⟩ := of_o h; exact var h1 h2
  | mv i => obtain ⟨d, h1, h2⟩ := of_o h; exact mv h1 h2
  | fz i => obtain ⟨d, h1, h2⟩ := of_o h; exact fz h1 h2
  | cst d => exact h
  | glb _ d => exact h
  | neg a => exact negI (mono h fun _ _ h => of_I h)
  | not a => exact not h
  | op o a b => exact op h
  | ch o p a b c => exact ch h
  | and a b => exact and h
  | or a b => exact or h
  | ite c a b => exact ite h
  | isN g a => exact isN h
  | idx a i => exact idx h
  | idxD a i => exact idxD h
  | sl a l h' => exact sl h
  | rev a =>
    rw [evE_rev]
    refine bind (mono h fun d e1 h => ?_)
    obtain ⟨xs, rfl, h⟩ := of_L h
    exact h
  | fld a n => exact fld h
  | tup es => exact tup h
  | lst es => exact lst h
  | dct es => exact dct h
  | call f es => exact call h
  | bi o es => exact bi h
  | lend _ a => exact lend h
  | lc own f t it c => exact lc h
  | «mut» m p es =>
    cases m <;> cases p <;> try exact (h : False).elim
    · cases es with
      | nil => exact (h : False).elim
      | ref => exact (h : False).elim
      | cons a es =>
        cases es with
        | nil =>
          obtain ⟨y, h1, h2⟩ := of_o h
          obtain ⟨ys, rfl, h3⟩ := of_L h2
          refine append h1 (mono h3 fun d e1 h => ?_)
          obtain ⟨y, h1, h2⟩ := of_o h
          obtain ⟨ys, rfl, h3⟩ := of_L h2
          exact ⟨ys, h1, h3.1, h3.2⟩
        | _ => exact (h : False).elim
    · cases es with
      | nil =>
        obtain ⟨y, h1, h2⟩ := of_o h
        obtain ⟨ys, rfl, h3⟩ := of_L h2
        obtain ⟨x, h4, h5⟩ := of_o h3
        exact pop h1 h4 h5
      | _ => exact (h : False).elim
    · cases es with
      | nil => exact (h : False).elim
      | ref => exact (h : False).elim
      | cons a es =>
        cases es with
        | nil =>
          obtain ⟨y, h1, h2⟩ := of_o h
          obtain ⟨ys, rfl, h3⟩ := of_L h2
          refine popAt h1 (mono h3 fun d e1 h => ?_)
          obtain ⟨k, rfl, h⟩ := of_I h
          obtain ⟨y, h1, h2⟩ := of_o h
          obtain ⟨ys, rfl, h3⟩ := of_L h2
          obtain ⟨x, h4, h5⟩ := of_o h3.2
          exact ⟨k, ys, x, rfl, h3.1.1, h1, h3.1.2.1, h3.1.2.2, h4, h5⟩
        | _ => exact (h : False).elim
    · cases es with
      | nil => exact (h : False).elim
      | ref => exact (h : False).elim
      | cons a es =>
        cases es with
        | cons b es =>
          cases es with
          | nil =>
            obtain ⟨y, h1, h2⟩ := of_o h
            obtain ⟨ys, rfl, h3⟩ := of_L h2
            refine insertI h1 (mono h3 fun d e1 h => mono h fun x e2 h => ?_)
            obtain ⟨k, rfl, h⟩ := of_I h
            obtain ⟨y, h1, h2⟩ := of_o h
            obtain ⟨ys, rfl, h3⟩ := of_L h2
            exact ⟨k, ys, rfl, h1, h3.1.1, h3.1.2.1, h3.1.2.2, h3.2⟩
          | _ => exact (h : False).elim
        | _ => exact (h : False).elim
    · cases es with
      | nil =>
        obtain ⟨y, h1, h2⟩ := of_o h
        obtain ⟨ys, rfl, h3⟩ := of_L h2
        exact clear h1 h3
      | _ => exact (h : False).elim
    · cases es with
      | nil => exact (h : False).elim
      | ref => exact (h : False).elim
      | cons a es =>
        cases es with
        | cons b es =>
          cases es with
          | nil =>
            obtain ⟨y, h1, h2⟩ := of_o h
            obtain ⟨ys, rfl, h3⟩ := of_Dc h2
            refine putN h1 (mono h3 fun x e1 h => mono h fun k e2 h => ?_)
            obtain ⟨d0, g1, g2⟩ := of_o h
            obtain ⟨r, g3, g4⟩ := of_o g2
            exact ⟨d0, r, g1, g3, g4⟩
          | _ => exact (h : False).elim
        | _ => exact (h : False).elim
  | _ => exact (h : False).elim
abbrev wEs (F : FS) (a : Exs) (e : Env) (Q : List Ar → Env → Prop) (X : Er) : Prop := match a with
  | .nil => Q [] e
  | .cons a es => OK (evE F a e) (fun d e1 => OK (evEs F es e1) (fun r e2 => Q (.d d :: r) e2) X) X
  | .ref i es => OK (evEs F es e) (fun r e1 => Q (.s i :: r) e1) X
theorem xEs {a : Exs} {Q : List Ar → Env → Prop} (h : wEs F a e Q X) : OK (evEs F a e) Q X := by
  cases a with
  | nil => exact h
  | cons a es => exact e_cons h
  | ref i es => exact e_ref h
abbrev wOp (F : FS) (a : Op) (e : Env) (Q : Option Int → Env → Prop) (X : Er) : Prop := match a with
  | .no => Q none e
  | .ex a => OK (evE F a e) (fun d e1 => OKI d fun i => Q (Option.some i) e1) X
theorem xOp {a : Op} {Q : Option Int → Env → Prop} (h : wOp F a e Q X) : OK (evOp F a e) Q X := by
  cases a with
  | no => exact h
  | ex a => exact op_ex (mono h fun _ _ h => of_I h)
abbrev wIt (F : FS) (a : It) (e : Env) (Q : List D → Env → Prop) (X : Er) : Prop := match a with
  | .lst a => OK (evE F a e) (fun d e1 => OKL d fun ds => Q ds e1) X
  | .scr a => OK (evE F a e) (fun d e1 => OKL d fun ds => Q ds e1) X
  | .tup a => OK (evE F a e) (fun d e1 => OKT d fun ds => Q ds e1) X
  | .en a => OK (evE F a e) (fun d e1 => OKL d fun ds => Q (enumD 0 ds) e1) X
  | .sq a => OK (evE F a e) (fun d e1 => match d with
    | .lst ds => Q ds e1
    | .tup ds => Q ds e1
    | _ => False) X
  | .enT a => OK (evE F a e) (fun d e1 => OKT d fun ds => Q (enumD 0 ds) e1) X
  | .zp a b => OK (evE F a e) (fun d e1 => OK (evE F b e1) (fun d2 e2 => OKL d fun xs => OKL d2 fun ys => Q ((xs.zip ys).map kvD) e2) X) X
  | .rng es => match es with
    | .cons a .nil => OK (evE F a e) (fun d e1 => OKI d fun j => SC (j.natAbs < LIM) (Q ((List.range j.toNat).map fun (i : Nat) => D.int (0 + i)) e1)) X
    | .cons a (.cons b .nil) => OK (evE F a e) (fun d e1 => OK (evE F b e1) (fun d2 e2 => OKI d fun i => OKI d2 fun j => SC (i.natAbs < LIM ∧ j.natAbs < LIM) (Q ((List.range (j - i).toNat).map fun (n : Nat) => D.int (i + n)) e2)) X) X
    | _ => False
  | _ => False
theorem xIt {a : It} {Q : List D → Env → Prop} (h : wIt F a e Q X) : OK (evIt F a e) Q X := by
  cases a with
  | lst a => exact i_lst (mono h fun _ _ h => of_L h)
  | scr a => exact i_scr (mono h fun _ _ h => of_L h)
  | tup a => exact i_tup (mono h fun _ _ h => of_T h)
  | en a => exact i_en (mono h fun _ _ h => of_L h)
  | sq a =>
    rw [evIt_sq]
    refine bind (mono h fun d e1 h => ?_)
    cases d <;> first | exact h | exact (h : False).elim
  | enT a =>
    rw [evIt_enT]
    refine bind (mono h fun d e1 h => ?_)
    obtain ⟨xs, rfl, h⟩ := of_T h
    exact h
  | zp a b =>
    refine i_zp (mono h fun d _ h => mono h fun d2 _ h => ?_)
    cases d <;> first | exact (h : False).elim | (cases d2 <;> first | exact (h : False).elim | exact ⟨_, _, rfl, rfl, h⟩)
  | rng es =>
    cases es with
    | nil => exact (h : False).elim
    | ref => exact (h : False).elim
    | cons a es =>
      cases es with
      | nil =>
        refine i_rng1 (mono h fun _ _ h => ?_)
        obtain ⟨i, rfl, h⟩ := of_I h
        exact ⟨_, rfl, h.1, h.2⟩
      | ref => exact (h : False).elim
      | cons b es =>
        cases es with
        | nil =>
          refine i_rng2 (mono h fun d _ h => mono h fun d2 _ h => ?_)
          cases d <;> first | exact (h : False).elim | (cases d2 <;> first | exact (h : False).elim | exact ⟨_, _, rfl, rfl, h.1.1, h.1.2, h.2⟩)
        | _ => exact (h : False).elim
  | _ => exact (h : False).elim
abbrev wH (F : FS) (sub : Sub) (hs : Hs) (c : Nat) (fs : List D) (e : Env) (Q : Fl → Env → Prop) (X : Er) : Prop := match hs with
  | .nil => X c fs e
  | .cons k none b r => BR (.bl (sub c k)) (OK (evS F sub b e) Q NE) (OK (evHs F sub r c fs e) Q X)
  | .cons k (Option.some i) b r => BR (.bl (sub c k)) (ENV (st e i (Option.some (.exc c fs))) fun e' => OK (evS F sub b e') (fun r e1 => ENV (st e1 i none) (Q r)) NE) (OK (evHs F sub r c fs e) Q X)
theorem xH {hs : Hs} {c : Nat} {fs : List D} {Q : Fl → Env → Prop} (h : wH F sub hs c fs e Q X) : OK (evHs F sub hs c fs e) Q X := by
  cases hs with
  | nil => exact h
  | cons k i b r =>
    rw [evHs_cons]
    cases i with
    | none =>
      rcases h with ⟨h1, h⟩ | ⟨h1, h⟩
      · injection h1 with h1
        rw [if_pos h1]
        exact noErr h
      · injection h1 with h1
        rw [if_neg (by rw [h1]; decide)]
        exact h
    | some i =>
      rcases h with ⟨h1, h⟩ | ⟨h1, h⟩
      · injection h1 with h1
        rw [if_pos h1]
        revert h
        show OK (evS F sub b (st e i (Option.some (.exc c fs)))) _ NE → OK (match evS F sub b (st e i (Option.some (.exc c fs))) with
          | .ok r e1 => .ok r (st e1 i none)
          | .err _ _ _ => .bad
          | .bad => .bad) Q X
        cases evS F sub b (st e i (Option.some (.exc c fs))) <;> first | exact fun h => h | exact fun h => h.elim
      · injection h1 with h1
        rw [if_neg (by rw [h1]; decide)]
        exact h
abbrev wS (F : FS) (sub : Sub) (a : Sm) (e : Env) (Q : Fl → Env → Prop) (X : Er) : Prop := match a with
  | .skip => Q .nxt e
  | .seq a b => OK (evS F sub a e) (SQ F sub b Q X) X
  | .ex a => OK (evE F a e) (fun _ e1 => Q .nxt e1) X
  | .ret a => OK (evE F a e) (fun d e1 => Q (.ret d) e1) X
  | .asg t a => OK (evE F a e) (fun d e1 => OKo (bindT t d e1) fun e2 => Q .nxt e2) X
  | .ife c a b => OK (evE F c e) (fun x e1 => BR x (OK (evS F sub a e1) Q X) (OK (evS F sub b e1) Q X)) X
  | .iset p k a => match p with
    | .sl i => OK (evE F a e) (fun d e1 => OK (evE F k e1) (fun kd e2 => OKo (gt e2 i) fun d0 => OKo (setI d0 kd d) fun d1 => ENV (st e2 i (Option.some d1)) (Q .nxt)) X) X
    | _ => False
  | .aug i o a => OK (evE F a e) (fun y e1 => OKo (gt e1 i) fun x => OKo (evOp2 o x y) fun z => ENV (st e1 i (Option.some z)) (Q .nxt)) X
  | .par is es => OK (evEs F es e) (fun as e1 => OKo (dsOf as) fun ds => OKo (stN is ds e1) fun e2 => Q .nxt e2) X
  | .forr t it b => OK (evIt F it e) (fun xs e1 => OK (forL (bindT t) (fun e => evS F sub b e) xs e1) Q X) X
  | .rse c es => OK (evEs F es e) (fun as e1 => OKo (dsOf as) fun ds => X c ds e1) X
  | .whl c b => WL F sub c b e Q X
  | .try_ b hs => OK (evS F sub b e) Q (fun c fs e1 => OK (evHs F sub hs c fs e1) Q X)
  | _ => False
theorem xS {a : Sm} {Q : Fl → Env → Prop} (h : wS F sub a e Q X) : OK (evS F sub a e) Q X := by
  cases a with
  | skip => exact h
  | seq a b => exact seq h
  | ex a => exact ex h
  | ret a => exact ret h
  | asg t a => exact asg h
  | ife c a b => exact ife h
  | iset p k a =>
    cases p with
    | sl i => exact iset h
    | _ => exact (h : False).elim
  | aug i o a => exact aug h
  | par is es => exact par h
  | forr t it b => exact forr h
  | rse c es =>
    rw [evS_rse]
    refine bind (mono h fun as e1 h => ?_)
    revert h
    cases dsOf as <;> exact fun h => h
  | whl c b => exact h
  | try_ b hs =>
    rw [evS_try_]
    have h : OK (evS F sub b e) Q (fun c fs e1 => OK (evHs F sub hs c fs e1) Q X) := h
    revert h
    cases evS F sub b e with
    | ok fl e1 => exact fun h => h
    | err c fs e1 => exact fun h => h
    | bad => exact fun h => h
  | _ => exact (h : False).elim
abbrev wSQ (F : FS) (sub : Sub) (b : Sm) (Q : Fl → Env → Prop) (X : Er) (fl : Fl) (e1 : Env) : Prop := match fl with
  | .nxt => OK (evS F sub b e1) Q X
  | .ret d => Q (.ret d) e1
theorem cutS {a b : Sm} {Q : Fl → Env → Prop} (I : Env → Prop) (h1 : OK (evS F sub a e) (FB I Q) X) (h2 : ∀ e, I e → OK (evS F sub b e) Q X) : OK (evS F sub (.seq a b) e) Q X := by
  refine seq (mono h1 ?_)
  intro fl e1 h
  cases fl with
  | nxt => exact h2 e1 h
  | ret d => exact h
theorem xSQ {b : Sm} {Q : Fl → Env → Prop} {fl : Fl} (h : wSQ F sub b Q X fl e) : SQ F sub b Q X fl e := h
abbrev wWB (I : Nat → Env → Prop) (m : Nat) (Q : Fl → Env → Prop) (fl : Fl) (e2 : Env) : Prop := match fl with
  | .nxt => ∃ m', m' < m ∧ I m' e2
  | .ret d => Q (.ret d) e2
theorem xWB {I : Nat → Env → Prop} {m : Nat} {Q : Fl → Env → Prop} {fl : Fl} (h : wWB I m Q fl e) : WB I m Q fl e := h
abbrev wFB (I : Env → Prop) (Q : Fl → Env → Prop) (fl : Fl) (e2 : Env) : Prop := match fl with
  | .nxt => I e2
  | .ret d => Q (.ret d) e2
theorem xFB {I : Env → Prop} {Q : Fl → Env → Prop} {fl : Fl} (h : wFB I Q fl e) : FB I Q fl e := h
abbrev wB (t : Tg) (d : D) (e : Env) (P : Env → Prop) : Prop := match t with
  | .nm i => ENV (st e i (Option.some d)) P
  | .tp ts => OKT d fun ds => OKo (bindTs ts ds e) P
  | .tl ts => OKL d fun ds => OKo (bindTs ts ds e) P
theorem xB {t : Tg} {d : D} {P : Env → Prop} (h : wB t d e P) : OKo (bindT t d e) P := by
  cases t with
  | nm i => exact h
  | tp ts => obtain ⟨ds, rfl, h⟩ := of_T h; exact h
  | tl ts => obtain ⟨ds, rfl, h⟩ := of_L h; exact h
abbrev wBs (t : Tgs) (d : List D) (e : Env) (P : Env → Prop) : Prop := match t, d with
  | .nil, [] => P e
  | .cons t ts, d :: ds => OKo (bindT t d e) fun e1 => OKo (bindTs ts ds e1) P
  | _, _ => False
theorem xBs {t : Tgs} {d : List D} {P : Env → Prop} (h : wBs t d e P) : OKo (bindTs t d e) P := by
  cases t <;> cases d <;> first | exact h | exact (h : False).elim | exact bs_cons h
abbrev wN (t : List Nat) (d : List D) (e : Env) (P : Env → Prop) : Prop := match t, d with
  | [], [] => P e
  | i :: is, d :: ds => ENV (st e i (Option.some d)) fun e' => OKo (stN is ds e') P
  | _, _ => False
theorem xN {t : List Nat} {d : List D} {P : Env → Prop} (h : wN t d e P) : OKo (stN t d e) P := by
  cases t <;> cases d <;> first | exact h | exact (h : False).elim
abbrev wDs (t : List Ar) (P : List D → Prop) : Prop := match t with
  | [] => P []
  | .d d :: r => OKo (dsOf r) fun ds => P (d :: ds)
  | _ => False
theorem xDs {t : List Ar} {P : List D → Prop} (h : wDs t P) : OKo (dsOf t) P := by
  cases t with
  | nil => exact h
  | cons a r =>
    cases a with
    | d d => exact d_cons h
    | s i => exact (h : False).elim
abbrev wAr (t : List Ar) (e : Env) (P : List D → Prop) : Prop := match t with
  | [] => P []
  | .d d :: r => OKo (arD r e) fun ds => P (d :: ds)
  | .s i :: r => OKo (gt e i) fun d => OKo (arD r e) fun ds => P (d :: ds)
theorem xAr {t : List Ar} {P : List D → Prop} (h : wAr t e P) : OKo (arD t e) P := by
  cases t with
  | nil => exact h
  | cons a r =>
    cases a with
    | d d => exact a_cons h
    | s i => obtain ⟨d, h1, h2⟩ := of_o h; exact a_ref h1 h2
abbrev wPo (t : List Ar) (os : List D) (e : Env) (P : Env → Prop) : Prop := match t with
  | [] => match os with
    | [] => P e
    | _ => False
  | .d d :: r => OKo (putO r os e) P
  | .s i :: r => match os with
    | o :: os => OKo (putO r os e) fun e1 => ENV (st e1 i (Option.some o)) P
    | _ => False
theorem xPo {t : List Ar} {os : List D} {P : Env → Prop} (h : wPo t os e P) : OKo (putO t os e) P := by
  cases t with
  | nil => cases os <;> first | exact h | exact (h : False).elim
  | cons a r =>
    cases a with
    | d d => exact p_cons h
    | s i => cases os <;> first | exact (h : False).elim | exact p_ref h
abbrev wOu (r : List Bool) (e : Env) (P : List D → Prop) : Prop := match r with
  | [] => P []
  | true :: r => match e with
    | Option.some d :: e => OKo (outsOf r e) fun ds => P (d :: ds)
    | _ => False
  | false :: r => match e with
    | _ :: e => OKo (outsOf r e) P
    | _ => False
theorem xOu {r : List Bool} {P : List D → Prop} (h : wOu r e P) : OKo (outsOf r e) P := by
  cases r with
  | nil => exact h
  | cons a r =>
    cases a with
    | true =>
      cases e with
      | nil => exact (h : False).elim
      | cons d e =>
        cases d with
        | none => exact (h : False).elim
        | some d => exact o_t h
    | false =>
      cases e with
      | nil => exact (h : False).elim
      | cons d e => exact h
abbrev wO (o : Op2) (x y : D) (P : D → Prop) : Prop := match o with
  | .addG => match x, y with
    | .int i, .int j => P (.int (i + j))
    | .lst xs, .lst ys => SC (xs.length + ys.length < LIM) (P (.lst (xs ++ ys)))
    | .tup xs, .tup ys => SC (xs.length + ys.length < LIM) (P (.tup (xs ++ ys)))
    | _, _ => False
  | .sub => OKI x fun i => OKI y fun j => P (.int (i - j))
  | .mulG => OKI y fun j => match x with
    | .int i => SC (mulOk i j = true) (P (.int (i * j)))
    | .lst xs => SC (xs.length * j.toNat < LIM ∧ j.natAbs < LIM) (P (.lst (List.replicate j.toNat xs).flatten))
    | _ => False
  | .mod => OKI x fun i => OKI y fun j => SC (0 < j) (P (.int (i % j)))
  | .fdiv => OKI x fun i => OKI y fun j => SC (divOk j = true) (P (.int (i / j)))
  | .pow => OKI x fun i => OKI y fun j => SC (powOk i j = true) (P (.int (i ^ j.toNat)))
  | .eq => match x, y with
    | .int i, .int j => P (.bl (decide (i = j)))
    | a, b => SC (shp SD a = true ∧ shp SD b = true) (P (.bl (eqD a b)))
  | .ne => match x, y with
    | .int i, .int j => P (.bl (decide (i ≠ j)))
    | a, b => SC (shp SD a = true ∧ shp SD b = true) (P (.bl (!eqD a b)))
  | .eqA => match x, y with
    | .str a, .str b => P (.bl (decide (a = b)))
    | .int a, .int b => P (.bl (decide (a = b)))
    | _, _ => False
  | .neA => match x, y with
    | .str a, .str b => P (.bl (!decide (a = b)))
    | .int a, .int b => P (.bl (!decide (a = b)))
    | _, _ => False
  | .lt => OKI x fun i => OKI y fun j => P (.bl (decide (i < j)))
  | .le => OKI x fun i => OKI y fun j => P (.bl (decide (i ≤ j)))
  | .gt => OKI x fun i => OKI y fun j => P (.bl (decide (j < i)))
  | .ge => OKI x fun i => OKI y fun j => P (.bl (decide (j ≤ i)))
  | .inn => OKL y fun ds => SC (shp SD x = true ∧ ds.all (shp SD) = true) (P (.bl (ds.any fun d => eqD d x)))
  | .nin => OKL y fun ds => SC (shp SD x = true ∧ ds.all (shp SD) = true) (P (.bl (!ds.any fun d => eqD d x)))
  | .innD => OKo (inD x y) fun c => P (.bl c)
  | .ninD => OKo (inD x y) fun c => P (.bl (!c))
  | .neE => match x, y with
    | .lst xs, .lst [] => P (.bl (!xs.isEmpty))
    | _, _ => False
  | .isB => match x, y with
    | .bl a, .bl b => P (.bl (decide (a = b)))
    | _, _ => False
  | .isnB => match x, y with
    | .bl a, .bl b => P (.bl (!decide (a = b)))
    | _, _ => False
  | _ => False
theorem xO {o : Op2} {x y : D} {P : D → Prop} (h : wO o x y P) : OKo (evOp2 o x y) P := by
  cases o with
  | addG => cases x <;> cases y <;> first | exact (h : False).elim | exact h | exact addL h.1 h.2 | exact addT h.1 h.2
  | sub => obtain ⟨i, rfl, h⟩ := of_I h; obtain ⟨j, rfl, h⟩ := of_I h; exact h
  | mulG => obtain ⟨j, rfl, h⟩ := of_I h; cases x <;> first | exact (h : False).elim | exact mulI h.1 h.2 | exact mulL h.1 h.2
  | mod => obtain ⟨i, rfl, h⟩ := of_I h; obtain ⟨j, rfl, h⟩ := of_I h; exact modI h.1 h.2
  | fdiv => obtain ⟨i, rfl, h⟩ := of_I h; obtain ⟨j, rfl, h⟩ := of_I h; exact divI h.1 h.2
  | pow => obtain ⟨i, rfl, h⟩ := of_I h; obtain ⟨j, rfl, h⟩ := of_I h; exact powI h.1 h.2
  | eq => cases x <;> cases y <;> first | exact eqG h.1.1 h.1.2 h.2 | exact h
  | ne => cases x <;> cases y <;> first | exact neG h.1.1 h.1.2 h.2 | exact neI h
  | eqA => cases x <;> cases y <;> first | exact (h : False).elim | exact h
  | neA => cases x <;> cases y <;> first | exact (h : False).elim | exact h
  | lt => obtain ⟨i, rfl, h⟩ := of_I h; obtain ⟨j, rfl, h⟩ := of_I h; exact h
  | le => obtain ⟨i, rfl, h⟩ := of_I h; obtain ⟨j, rfl, h⟩ := of_I h; exact h
  | gt => obtain ⟨i, rfl, h⟩ := of_I h; obtain ⟨j, rfl, h⟩ := of_I h; exact h
  | ge => obtain ⟨i, rfl, h⟩ := of_I h; obtain ⟨j, rfl, h⟩ := of_I h; exact h
  | inn => obtain ⟨ds, rfl, h⟩ := of_L h; exact innL h.1.1 h.1.2 h.2
  | nin => obtain ⟨ds, rfl, h⟩ := of_L h; exact ninL h.1.1 h.1.2 h.2
  | innD => exact omap h
  | ninD => exact omap h
  | neE =>
    cases x <;> cases y <;> first | exact (h : False).elim | skip
    rename_i xs ys
    cases ys with
    | nil => exact h
    | cons => exact (h : False).elim
  | isB => cases x <;> cases y <;> first | exact (h : False).elim | exact h
  | isnB => cases x <;> cases y <;> first | exact (h : False).elim | exact h
  | _ => exact (h : False).elim
abbrev wBi (o : Bi) (as : List D) (P : D → Prop) : Prop := match as with
  | [a] => match o with
    | .len => match a with
      | .lst xs => P (.int xs.length)
      | .tup xs => P (.int xs.length)
      | _ => False
    | .abs => OKI a fun i => P (.int (if i < 0 then -i else i))
    | .toInt => match a with
      | .int i => P (.int i)
      | .bl b => P (.int (if b then 1 else 0))
      | _ => False
    | .toList => match a with
      | .lst xs => P (.lst xs)
      | .tup xs => P (.lst xs)
      | _ => False
    | .toTuple => OKL a fun xs => P (.tup xs)
    | .sum => OKL a fun xs => OKo (ints? xs) fun ns => P (.int ns.sum)
    | .rng1 => OKI a fun j => SC (j.natAbs < LIM) (P (.lst (rngD 0 (j - 0).toNat)))
    | .isin t => SC (isOk t a = true) (P (.bl (isTy t a)))
    | .repr => SC (shw SD a = true ∧ (shown a).length < LIM) (P (.str (shown a)))
    | .lenSet => OKo (biLenSet a) P
    | .sorted => OKo (srtD a) P
    | .sortLen => OKo (biSortLen a) P
    | .setSort => OKo (biSetSort a) P
    | .revT => OKT a fun xs => P (.tup xs.reverse)
    | .tupK => OKo (tupKD a) P
    | .castL => OKo (castLD a) P
    | .maxL => OKo (biMM maxI a) P
    | .minL => OKo (biMM minI a) P
    | _ => False
  | [a, b] => match o with
    | .max2 => OKI a fun i => OKI b fun j => P (.int (max i j))
    | .min2 => OKI a fun i => OKI b fun j => P (.int (min i j))
    | .index => OKo (biIndex a b) P
    | .rng2 => OKI a fun i => OKI b fun j => SC (i.natAbs < LIM ∧ j.natAbs < LIM) (P (.lst (rngD i (j - i).toNat)))
    | _ => False
  | _ => False
theorem xBi {o : Bi} {as : List D} {P : D → Prop} (h : wBi o as P) : OKo (evBi o as) P := by
  match as, h with
  | [a], h =>
    cases o with
    | len => cases a <;> first | exact (h : False).elim | exact h
    | abs => obtain ⟨i, rfl, h⟩ := of_I h; exact h
    | toInt => cases a <;> first | exact (h : False).elim | exact h
    | toList => cases a <;> first | exact (h : False).elim | exact h
    | toTuple => obtain ⟨i, rfl, h⟩ := of_L h; exact h
    | sum => obtain ⟨i, rfl, h⟩ := of_L h; obtain ⟨ns, h1, h2⟩ := of_o h; exact b_sum h1 h2
    | rng1 => obtain ⟨i, rfl, h⟩ := of_I h; exact b_rng1 h.1 h.2
    | isin t => exact b_isin h.1 h.2
    | repr => exact b_repr h.1.1 h.1.2 h.2
    | lenSet => exact h
    | sorted => exact h
    | sortLen => exact h
    | setSort => exact h
    | revT => obtain ⟨i, rfl, h⟩ := of_T h; exact h
    | tupK => exact h
    | castL => exact h
    | maxL => exact h
    | minL => exact h
    | _ => exact (h : False).elim
  | [a, b], h =>
    cases o with
    | max2 => obtain ⟨i, rfl, h⟩ := of_I h; obtain ⟨j, rfl, h⟩ := of_I h; exact h
    | min2 => obtain ⟨i, rfl, h⟩ := of_I h; obtain ⟨j, rfl, h⟩ := of_I h; exact h
    | index => exact h
    | rng2 => obtain ⟨i, rfl, h⟩ := of_I h; obtain ⟨j, rfl, h⟩ := of_I h; exact b_rng2 h.1.1 h.1.2 h.2
    | _ => exact (h : False).elim
  | [], h => exact (h : False).elim
  | _ :: _ :: _ :: _, h => exact (h : False).elim
end Wp
theorem Wp.c_err {sub : Sub} {X : Er} {e : Env} {T : Tab} {n m : Nat} {ds : List D} {as : List Ar} {Q : D → Env → Prop} {c : Nat} {fs os : List D} (hm : m < n) (h : sem T sub m ds = .err c fs os) (k : OKo (putO as os e) fun e2 => X c fs e2) : Wp.callOK (below T sub n m ds) as e Q X := by
  unfold Wp.callOK below
  rw [if_pos hm, h]
  exact k
theorem Wp.fnX {sub : Sub} {T : Tab} {n : Nat} {rf : List Bool} {ns : Nat} {body : Sm} {ds : List D} {E : Env} {P : D → List D → Prop} {XP : Nat → List D → List D → Prop} (hT : T n = Option.some ⟨rf, ns, body⟩) (hd : ds.length = rf.length) (hE : ds.map Option.some ++ List.replicate (ns - rf.length) none = E)
    (h : OK (evS (below T sub n) sub body E) (fun fl e => OKo (outsOf rf e) fun os => P (match fl with
      | .nxt => .non
      | .ret d => d) os) (fun c fs e => OKo (outsOf rf e) fun os => XP c fs os)) : OKF (sem T sub n ds) P XP := by
  rw [sem_eq, hT]
  show OKF (runFn (below T sub n) sub ⟨rf, ns, body⟩ ds) P XP
  unfold runFn
  rw [if_pos hd, hE]
  revert h
  show OK (evS (below T sub n) sub body E) _ _ → OKF (match evS (below T sub n) sub body E with
    | .ok fl e => match outsOf rf e with
      | Option.some os => .ok (match fl with
        | .nxt => .non
        | .ret d => d) os
      | none => .bad
    | .err c fs e => match outsOf rf e with
      | Option.some os => .err c fs os
      | none => .bad
    | .bad => .bad) P XP
  cases evS (below T sub n) sub body E with
  | ok fl e =>
    show OKo (outsOf rf e) _ → _
    dsimp only
    cases outsOf rf e <;> exact fun h => h
  | err c fs e =>
    show OKo (outsOf rf e) _ → _
    dsimp only
    cases outsOf rf e <;> exact fun h => h
  | bad => exact fun h => h
theorem Wp.lcI {F : FS} {X : Er} {e : Env} {l : List D} {t : Tg} {c : Ex} {f : Env → R (List D)} {Q : List D → Env → Prop} (I : List D → List D → Env → Prop) (h0 : I [] [] e)
    (hs : ∀ done a rest out e, l = done ++ a :: rest → I done out e → OKo (bindT t a e) fun e1 => OK (evE F c e1) (fun b e2 => BR b (OK (f e2) (fun ds e3 => I (done ++ [a]) (out ++ ds) e3) X) (I (done ++ [a]) out e2)) X)
    (hq : ∀ out e, I l out e → Q out e) : OK (lcLoop (bindT t) (fun e => evE F c e) f l e) Q X := by
  have h := Wp.lcM (g := id) (l := l) (F := F) (X := X) (e := e) (t := t) (c := c) (f := f) (Q := Q) I h0 hs hq
  rw [List.map_id] at h
  exact h
theorem Wp.forI {F : FS} {sub : Sub} {X : Er} {e : Env} {l : List D} {t : Tg} {b : Sm} {Q : Fl → Env → Prop} (I : List D → Env → Prop) (h0 : I [] e)
    (hs : ∀ done a rest e, l = done ++ a :: rest → I done e → OKo (bindT t a e) fun e1 => OK (evS F sub b e1) (Wp.FB (I (done ++ [a])) Q) X)
    (hq : ∀ e, I l e → Q .nxt e) : OK (forL (bindT t) (fun e => evS F sub b e) l e) Q X := by
  have h := Wp.forM (g := id) (l := l) (F := F) (sub := sub) (X := X) (e := e) (t := t) (b := b) (Q := Q) I h0 hs hq
  rw [List.map_id] at h
  exact h
theorem mulOk_r {i j : Int} (h : j.natAbs < 2 ^ 64) : mulOk i j = true := by unfold mulOk; simp [h]
theorem mulOk_l {i j : Int} (h : i.natAbs < 2 ^ 64) : mulOk i j = true := by unfold mulOk; simp [h]
theorem divOk_of {j : Int} (h0 : 0 < j) (h : j.natAbs < 2 ^ 64) : divOk j = true := by
  unfold divOk
  have : j.natAbs.log2 < 9000 := by
    rw [Nat.log2_lt (by omega)]
    exact Nat.lt_of_lt_of_le h (Nat.pow_le_pow_right (by decide) (by decide))
  simp [h0, this]
end Mi
set_option maxRecDepth 100000
namespace Lw
open PySem PySem.Spec PyProof.Rows L2 Mi
def topS (i : Nat) : Stmt := PySem.Challenge.pw_turnweights_k60_distances_and_shortest_w.main.body.getD i (.Pass ⟨0, 0, 0, 0⟩)
def fn0 : Fn := ⟨[false, false], 4, (.seq (.asg (.nm 2) (.idx (.op .addG (.bi .toList (.cons (.sl (.var 0) (.ex (.var 1)) (.ex (.op .addG (.var 1) (.cst (.int 1))))) .nil)) (.lst (.cons (.op .addG (.op .mulG (.cst (.int 71)) (.var 1)) (.cst (.int 23))) .nil))) (.cst (.int 0)))) (.seq (.asg (.nm 3) (.bi .max2 (.cons (.cst (.int 0)) (.cons (.op .sub (.bi .abs (.cons (.var 2) .nil)) (.op .pow (.cst (.int 10)) (.cst (.int 18)))) .nil)))) (.ret (.lst (.cons (.var 3) (.cons (.op .mod (.bi .toInt (.cons (.op .addG (.op .addG (.op .mulG (.op .mod (.bi .toInt (.cons (.bi .abs (.cons (.var 2) .nil)) .nil)) (.cst (.int 1000003))) (.cst (.int 7919))) (.op .mulG (.cst (.int 31)) (.var 1))) (.cst (.int 17))) .nil)) (.cst (.int 1000033))) .nil))))))⟩
abbrev st0 : Stmt := topS 17
theorem sc0 : FnScope ["script", "k", "seed", "digits"] ["script", "k"] (defScope st0) := ⟨rfl, rfl, rfl, by decide +kernel, rfl, by decide +kernel, by decide +kernel⟩
def fn1 : Fn := ⟨[false], 8, (.seq (.par [3, 4] (.cons (.lst (.cons (.lst .nil) .nil)) (.cons (.lst .nil) .nil))) (.seq (.forr (.nm 1) (.rng (.cons (.cst (.int 1)) (.cons (.op .addG (.var 0) (.cst (.int 1))) .nil))) (.asg (.nm 3) (.op .addG (.var 3) (.lc [2] (.op .addG (.var 2) (.lst (.cons (.var 1) .nil))) (.nm 2) (.lst (.var 3)) (.cst (.bl true)))))) (.seq (.forr (.nm 2) (.lst (.var 3)) (.seq (.par [5, 6] (.cons (.bi .toList (.cons (.var 2) .nil)) (.cons (.lst .nil) .nil))) (.seq (.whl (.op .ne (.var 5) (.lst .nil)) (.ex (.mut .append (.sl 6) (.cons (.ite (.op .eq (.op .mod (.bi .toInt (.cons (.bi .len (.cons (.var 6) .nil)) .nil)) (.cst (.int 2))) (.cst (.int 0))) (.mut .popAt (.sl 5) (.cons (.neg (.cst (.int 1))) .nil)) (.mut .popAt (.sl 5) (.cons (.cst (.int 0)) .nil))) .nil)))) (.ex (.mut .append (.sl 4) (.cons (.tup (.cons (.bi .len (.cons (.var 6) .nil)) (.cons (.bi .toTuple (.cons (.var 6) .nil)) .nil))) .nil)))))) (.ret (.lc [7, 6] (.var 6) (.tp (.cons (.nm 7) (.cons (.nm 6) .nil))) (.lst (.bi .sorted (.cons (.var 4) .nil))) (.cst (.bl true)))))))⟩
abbrev st1 : Stmt := topS 20
theorem sc1 : FnScope ["top", "level", "lot", "lots", "found", "left", "entries", "many"] ["top"] (defScope st1) := ⟨rfl, rfl, rfl, by decide +kernel, rfl, by decide +kernel, by decide +kernel⟩
def fn2 : Fn := ⟨[true, false], 3, (.seq (.ife (.op .gt (.idx (.var 0) (.cst (.int 0))) (.cst (.int 0))) (.seq (.asg (.nm 2) (.op .mod (.bi .toInt (.cons (.idx (.var 0) (.cst (.int 0))) .nil)) (.var 1))) (.seq (.iset (.sl 0) (.cst (.int 0)) (.op .fdiv (.idx (.var 0) (.cst (.int 0))) (.var 1))) (.ret (.var 2)))) .skip) (.seq (.iset (.sl 0) (.cst (.int 1)) (.op .mod (.bi .toInt (.cons (.op .addG (.op .mulG (.idx (.var 0) (.cst (.int 1))) (.cst (.int 69069))) (.cst (.int 12345))) .nil)) (.cst (.int 4294967311)))) (.ret (.op .mod (.bi .toInt (.cons (.op .fdiv (.idx (.var 0) (.cst (.int 1))) (.cst (.int 65536))) .nil)) (.var 1)))))⟩
abbrev st2 : Stmt := topS 18
theorem sc2 : FnScope ["feed", "size", "digit"] ["feed", "size"] (defScope st2) := ⟨rfl, rfl, rfl, by decide +kernel, rfl, by decide +kernel, by decide +kernel⟩
def fn3 : Fn := ⟨[true, false], 2, (.ret (.idx (.var 1) (.call 2 (.ref 0 (.cons (.bi .len (.cons (.var 1) .nil)) .nil)))))⟩
abbrev st3 : Stmt := topS 19
theorem sc3 : FnScope ["feed", "things"] ["feed", "things"] (defScope st3) := ⟨rfl, rfl, rfl, by decide +kernel, rfl, by decide +kernel, by decide +kernel⟩
def fn4 : Fn := ⟨[false], 5, (.seq (.par [1, 2, 3] (.cons (.bi .toList (.cons (.var 0) .nil)) (.cons (.lst .nil) (.cons (.cst (.bl true)) .nil)))) (.seq (.whl (.op .inn (.cst (.int 0)) (.var 1)) (.asg (.nm 1) (.sl (.var 1) (.ex (.op .addG (.bi .index (.cons (.var 1) (.cons (.cst (.int 0)) .nil))) (.cst (.int 1)))) .no))) (.seq (.whl (.op .ne (.var 1) (.lst .nil)) (.seq (.asg (.nm 4) (.ite (.var 3) (.bi .maxL (.cons (.var 1) .nil)) (.bi .minL (.cons (.var 1) .nil)))) (.seq (.ex (.mut .append (.sl 2) (.cons (.var 4) .nil))) (.seq (.whl (.op .inn (.var 4) (.var 1)) (.asg (.nm 1) (.sl (.var 1) (.ex (.op .addG (.bi .index (.cons (.var 1) (.cons (.var 4) .nil))) (.cst (.int 1)))) .no))) (.asg (.nm 3) (.not (.var 3))))))) (.ret (.bi .toTuple (.cons (.var 2) .nil))))))⟩
abbrev st4 : Stmt := topS 21
theorem sc4 : FnScope ["levels", "left", "found", "is_high", "level"] ["levels"] (defScope st4) := ⟨rfl, rfl, rfl, by decide +kernel, rfl, by decide +kernel, by decide +kernel⟩
def fn5 : Fn := ⟨[false, false], 2, (.ret (.call 4 (.cons (.op .addG (.bi .toList (.cons (.var 0) .nil)) (.bi .toList (.cons (.var 1) .nil))) .nil)))⟩
abbrev st5 : Stmt := topS 22
theorem sc5 : FnScope ["memory", "levels"] ["memory", "levels"] (defScope st5) := ⟨rfl, rfl, rfl, by decide +kernel, rfl, by decide +kernel, by decide +kernel⟩
def fn6 : Fn := ⟨[false, false], 9, (.seq (.par [2, 3, 4] (.cons (.dct (.cons (.bi .tupK (.cons (.var 1) .nil)) (.cons (.cst (.int 0)) .nil))) (.cons (.lst (.cons (.var 1) .nil)) (.cons (.cst (.int 0)) .nil)))) (.seq (.whl (.op .ne (.var 3) (.lst .nil)) (.seq (.par [4, 6] (.cons (.op .addG (.var 4) (.cst (.int 1))) (.cons (.lst .nil) .nil))) (.seq (.forr (.nm 5) (.lst (.var 3)) (.forr (.nm 7) (.rng (.cons (.op .addG (.var 0) (.cst (.int 1))) .nil)) (.seq (.asg (.nm 8) (.call 5 (.cons (.var 5) (.cons (.lst (.cons (.var 7) .nil)) .nil)))) (.ife (.op .ninD (.var 8) (.var 2)) (.seq (.iset (.sl 2) (.var 8) (.var 4)) (.ex (.mut .append (.sl 6) (.cons (.var 8) .nil)))) .skip)))) (.asg (.nm 3) (.fz 6))))) (.ret (.mv 2))))⟩
abbrev st6 : Stmt := topS 23
theorem sc6 : FnScope ["top", "first", "found", "level", "many", "memory", "longer", "one", "there"] ["top", "first"] (defScope st6) := ⟨rfl, rfl, rfl, by decide +kernel, rfl, by decide +kernel, by decide +kernel⟩
def fn7 : Fn := ⟨[false, false, false], 3, (.ret (.and (.bi (.isin .int) (.cons (.var 0) .nil)) (.and (.not (.bi (.isin .bool) (.cons (.var 0) .nil))) (.ch .le .le (.var 1) (.var 0) (.var 2)))))⟩
abbrev st7 : Stmt := topS 4
theorem sc7 : FnScope ["value", "least", "most"] ["value", "least", "most"] (defScope st7) := ⟨rfl, rfl, rfl, by decide +kernel, rfl, by decide +kernel, by decide +kernel⟩
def fn8 : Fn := ⟨[false, false], 6, (.seq (.ife (.not (.bi (.isin .tuple) (.cons (.var 1) .nil))) (.ret (.cst (.bl false))) .skip) (.seq (.par [2, 3] (.cons (.cst (.int 0)) (.cons (.op .addG (.var 0) (.cst (.int 1))) .nil))) (.seq (.forr (.tp (.cons (.nm 4) (.cons (.nm 5) .nil))) (.enT (.var 1)) (.seq (.ife (.not (.call 7 (.cons (.var 5) (.cons (.op .addG (.var 2) (.cst (.int 1))) (.cons (.op .sub (.var 3) (.cst (.int 1))) .nil))))) (.ret (.cst (.bl false))) .skip) (.ife (.op .eq (.op .mod (.var 4) (.cst (.int 2))) (.cst (.int 0))) (.asg (.nm 3) (.var 5)) (.asg (.nm 2) (.var 5))))) (.ret (.cst (.bl true))))))⟩
abbrev st8 : Stmt := topS 6
theorem sc8 : FnScope ["top", "value", "low", "high", "at", "level"] ["top", "value"] (defScope st8) := ⟨rfl, rfl, rfl, by decide +kernel, rfl, by decide +kernel, by decide +kernel⟩
def fn9 : Fn := ⟨[false, false], 2, (.ife (.not (.call 8 (.cons (.var 0) (.cons (.var 1) .nil)))) (.rse 0 .nil) .skip)⟩
abbrev st9 : Stmt := topS 7
theorem sc9 : FnScope ["top", "memory"] ["top", "memory"] (defScope st9) := ⟨rfl, rfl, rfl, by decide +kernel, rfl, by decide +kernel, by decide +kernel⟩
def fn10 : Fn := ⟨[false], 1, (.ret (.ite (.op .ne (.var 0) (.tup .nil)) (.idx (.var 0) (.neg (.cst (.int 1)))) (.cst (.int 0))))⟩
abbrev st10 : Stmt := topS 8
theorem sc10 : FnScope ["memory"] ["memory"] (defScope st10) := ⟨rfl, rfl, rfl, by decide +kernel, rfl, by decide +kernel, by decide +kernel⟩
def fn11 : Fn := ⟨[false, false, false], 3, (.seq (.ife (.op .eq (.bi .len (.cons (.var 0) .nil)) (.cst (.int 1))) (.ret (.cst (.bl false))) .skip) (.ret (.ite (.var 2) (.op .le (.idx (.var 0) (.neg (.cst (.int 2)))) (.var 1)) (.op .ge (.idx (.var 0) (.neg (.cst (.int 2)))) (.var 1)))))⟩
abbrev st11 : Stmt := topS 11
theorem sc11 : FnScope ["memory", "level", "is_rise"] ["memory", "level", "is_rise"] (defScope st11) := ⟨rfl, rfl, rfl, by decide +kernel, rfl, by decide +kernel, by decide +kernel⟩
def fn12 : Fn := ⟨[false, false, false], 4, (.seq (.asg (.nm 3) (.op .eq (.op .mod (.bi .len (.cons (.var 0) .nil)) (.cst (.int 2))) (.cst (.int 1)))) (.seq (.ife (.var 2) (.ret (.ite (.var 3) (.op .le (.idx (.var 0) (.neg (.cst (.int 1)))) (.var 1)) (.call 11 (.cons (.var 0) (.cons (.var 1) (.cons (.var 2) .nil)))))) .skip) (.ret (.ite (.var 3) (.call 11 (.cons (.var 0) (.cons (.var 1) (.cons (.var 2) .nil)))) (.op .ge (.idx (.var 0) (.neg (.cst (.int 1)))) (.var 1))))))⟩
abbrev st12 : Stmt := topS 10
theorem sc12 : FnScope ["memory", "level", "is_rise", "is_high"] ["memory", "level", "is_rise"] (defScope st12) := ⟨rfl, rfl, rfl, by decide +kernel, rfl, by decide +kernel, by decide +kernel⟩
def fn13 : Fn := ⟨[false, false], 4, (.seq (.ife (.op .eq (.var 1) (.cst (.int 0))) (.ret (.tup .nil)) .skip) (.seq (.ife (.op .eq (.var 1) (.call 10 (.cons (.var 0) .nil))) (.ret (.var 0)) .skip) (.seq (.asg (.nm 2) (.op .gt (.var 1) (.call 10 (.cons (.var 0) .nil)))) (.seq (.asg (.nm 3) (.var 0)) (.seq (.whl (.and (.op .ne (.var 3) (.tup .nil)) (.call 12 (.cons (.var 3) (.cons (.var 1) (.cons (.var 2) .nil))))) (.asg (.nm 3) (.sl (.var 3) .no (.ex (.neg (.cst (.int 1))))))) (.ret (.op .addG (.var 3) (.tup (.cons (.var 1) .nil)))))))))⟩
abbrev st13 : Stmt := topS 9
theorem sc13 : FnScope ["memory", "level", "is_rise", "kept"] ["memory", "level"] (defScope st13) := ⟨rfl, rfl, rfl, by decide +kernel, rfl, by decide +kernel, by decide +kernel⟩
def fn14 : Fn := ⟨[false, false], 7, (.seq (.par [2, 3] (.cons (.dct (.cons (.bi .tupK (.cons (.var 1) .nil)) (.cons (.lst .nil) .nil))) (.cons (.lst (.cons (.var 1) .nil)) .nil))) (.seq (.whl (.op .ne (.var 3) (.lst .nil)) (.seq (.asg (.nm 4) (.mut .popAt (.sl 3) (.cons (.cst (.int 0)) .nil))) (.forr (.nm 5) (.rng (.cons (.op .addG (.var 0) (.cst (.int 1))) .nil)) (.seq (.asg (.nm 6) (.call 13 (.cons (.var 4) (.cons (.var 5) .nil)))) (.ife (.op .ninD (.var 6) (.var 2)) (.seq (.ex (.mut .putN (.sl 2) (.cons (.op .addG (.idxD (.var 2) (.var 4)) (.lst (.cons (.var 5) .nil))) (.cons (.var 6) .nil)))) (.ex (.mut .append (.sl 3) (.cons (.var 6) .nil)))) .skip))))) (.ret (.mv 2))))⟩
abbrev st14 : Stmt := topS 13
theorem sc14 : FnScope ["top", "memory", "found", "waiting", "here", "level", "there"] ["top", "memory"] (defScope st14) := ⟨rfl, rfl, rfl, by decide +kernel, rfl, by decide +kernel, by decide +kernel⟩
def fn15 : Fn := ⟨[false, false, false], 3, (.seq (.ex (.call 9 (.cons (.var 0) (.cons (.var 1) .nil)))) (.seq (.ex (.call 9 (.cons (.var 0) (.cons (.var 2) .nil)))) (.ret (.idxD (.call 14 (.cons (.var 0) (.cons (.var 1) .nil))) (.var 2)))))⟩
abbrev st15 : Stmt := topS 14
theorem sc15 : FnScope ["top", "first", "second"] ["top", "first", "second"] (defScope st15) := ⟨rfl, rfl, rfl, by decide +kernel, rfl, by decide +kernel, by decide +kernel⟩
def fn16 : Fn := ⟨[false, false, false], 3, (.ret (.bi .len (.cons (.call 15 (.cons (.var 0) (.cons (.var 1) (.cons (.var 2) .nil)))) .nil)))⟩
abbrev st16 : Stmt := topS 15
theorem sc16 : FnScope ["top", "first", "second"] ["top", "first", "second"] (defScope st16) := ⟨rfl, rfl, rfl, by decide +kernel, rfl, by decide +kernel, by decide +kernel⟩
def fn17 : Fn := ⟨[false, false, false, false], 5, (.seq (.asg (.nm 4) (.bi .castL (.cons (.cst .non) .nil))) (.seq (.try_ (.asg (.nm 4) (.ite (.op .eq (.var 0) (.cst (.int 0))) (.bi .castL (.cons (.call 16 (.cons (.var 1) (.cons (.var 2) (.cons (.var 3) .nil)))) .nil)) (.call 15 (.cons (.var 1) (.cons (.var 2) (.cons (.var 3) .nil)))))) (.cons 0 none (.asg (.nm 4) (.bi .castL (.cons (.cst (.str "memory")) .nil))) .nil)) (.ret (.mv 4))))⟩
abbrev st17 : Stmt := topS 24
theorem sc17 : FnScope ["way", "top", "first", "second", "found"] ["way", "top", "first", "second"] (defScope st17) := ⟨rfl, rfl, rfl, by decide +kernel, rfl, by decide +kernel, by decide +kernel⟩
def fn18 : Fn := ⟨[false], 15, (.seq (.forr (.nm 1) (.rng (.cons (.bi .max2 (.cons (.cst (.int 1)) (.cons (.bi .min2 (.cons (.cst (.int 2)) (.cons (.bi .len (.cons (.var 0) .nil)) .nil))) .nil))) .nil)) (.seq (.asg (.nm 2) (.call 0 (.cons (.var 0) (.cons (.var 1) .nil)))) (.seq (.asg (.nm 3) (.op .addG (.cst (.int 1)) (.call 2 (.ref 2 (.cons (.op .sub (.cst (.int 6)) (.var 1)) .nil))))) (.seq (.asg (.nm 4) (.call 1 (.cons (.var 3) .nil))) (.seq (.asg (.nm 5) (.call 3 (.ref 2 (.cons (.var 4) .nil)))) (.seq (.asg (.nm 6) (.call 6 (.cons (.var 3) (.cons (.var 5) .nil)))) (.seq (.forr (.nm 7) (.rng (.cons (.cst (.int 5)) .nil)) (.seq (.asg (.nm 11) (.call 3 (.ref 2 (.cons (.op .addG (.var 4) (.lst (.cons (.var 5) .nil))) .nil)))) (.seq (.ife (.op .neA (.bi .repr (.cons (.call 17 (.cons (.cst (.int 0)) (.cons (.var 3) (.cons (.var 5) (.cons (.var 11) .nil))))) .nil)) (.bi .repr (.cons (.idxD (.var 6) (.var 11)) .nil))) (.ret (.cst (.bl false))) .skip) (.forr (.nm 12) (.rng (.cons (.cst (.int 2)) .nil)) (.seq (.asg (.nm 13) (.call 17 (.cons (.cst (.int 1)) (.cons (.var 3) (.cons (.var 5) (.cons (.var 11) .nil)))))) (.seq (.ife (.or (.not (.bi (.isin .list) (.cons (.var 13) .nil))) (.op .ne (.bi .len (.cons (.var 13) .nil)) (.idxD (.var 6) (.var 11)))) (.ret (.cst (.bl false))) .skip) (.seq (.ife (.lend 13 (.op .neE (.lc [14] (.cst (.int 1)) (.nm 14) (.lst (.var 13)) (.or (.not (.bi (.isin .int) (.cons (.var 14) .nil))) (.not (.ch .le .le (.cst (.int 0)) (.var 14) (.var 3))))) (.lst .nil))) (.ret (.cst (.bl false))) .skip) (.seq (.ife (.op .ne (.lend 13 (.call 5 (.cons (.var 5) (.cons (.var 13) .nil)))) (.var 11)) (.ret (.cst (.bl false))) .skip) (.ex (.mut .append (.sl 13) (.cons (.cst .non) .nil))))))))))) (.seq (.asg (.nm 8) (.lst (.cons (.cst .non) (.cons (.bi .toList (.cons (.var 5) .nil)) (.cons (.cst (.int 0)) (.cons (.cst (.str "1")) (.cons (.dct .nil) (.cons (.tup (.cons (.cst (.int 0)) .nil)) (.cons (.tup (.cons (.op .addG (.var 3) (.cst (.int 1))) .nil)) (.cons (.tup (.cons (.cst (.int 1)) (.cons (.cst (.int 1)) .nil))) (.cons (.tup (.cons (.cst (.bl true)) .nil)) (.cons (.tup (.cons (.cst .non) .nil)) (.cons (.op .addG (.var 5) (.tup (.cons (.cst (.int 0)) .nil))) (.cons (.tup (.cons (.cst (.int 1)) (.cons (.cst (.int 2)) .nil))) .nil)))))))))))))) (.seq (.asg (.nm 9) (.call 3 (.ref 2 (.cons (.op .addG (.var 8) (.op .mulG (.lst (.cons (.ite (.op .gt (.bi .len (.cons (.var 5) .nil)) (.cst (.int 1))) (.bi .revT (.cons (.var 5) .nil)) (.tup (.cons (.cst (.int 1)) (.cons (.var 3) .nil)))) .nil)) (.cst (.int 3)))) .nil)))) (.forr (.nm 10) (.lst (.lst (.cons (.tup (.cons (.var 9) (.cons (.var 5) .nil))) (.cons (.tup (.cons (.var 5) (.cons (.var 9) .nil))) (.cons (.tup (.cons (.var 9) (.cons (.var 9) .nil))) .nil))))) (.ife (.op .ne (.lc [13] (.call 17 (.cons (.var 13) (.cons (.var 3) (.cons (.idx (.var 10) (.cst (.int 0))) (.cons (.idx (.var 10) (.cst (.int 1))) .nil))))) (.nm 13) (.tup (.tup (.cons (.cst (.int 0)) (.cons (.cst (.int 1)) .nil)))) (.cst (.bl true))) (.lst (.cons (.cst (.str "memory")) (.cons (.cst (.str "memory")) .nil)))) (.ret (.cst (.bl false))) .skip))))))))))) (.ret (.cst (.bl true))))⟩
abbrev st18 : Stmt := topS 25
theorem sc18 : FnScope ["script", "k", "feed", "top", "every", "first", "far", "turn", "odd", "bad", "pair", "second", "again", "way", "one"] ["script"] (defScope st18) := ⟨rfl, rfl, rfl, by decide +kernel, rfl, by decide +kernel, by decide +kernel⟩
def T : Tab := fun n => match n with
  | 0 => some fn0
  | 1 => some fn1
  | 2 => some fn2
  | 3 => some fn3
  | 4 => some fn4
  | 5 => some fn5
  | 6 => some fn6
  | 7 => some fn7
  | 8 => some fn8
  | 9 => some fn9
  | 10 => some fn10
  | 11 => some fn11
  | 12 => some fn12
  | 13 => some fn13
  | 14 => some fn14
  | 15 => some fn15
  | 16 => some fn16
  | 17 => some fn17
  | 18 => some fn18
  | _ => none
def clA (K : PySem.W.Frag) (x : Str) : Addr := match PySem.W.nsIn K mainGlobals x with
  | some (some (.ref a)) => a
  | _ => 0
def sub : Sub := fun _ _ => true
abbrev BB (K : PySem.W.Frag) : Tb := ⟨K, fun _ => clA K "BadMemory", fun _ _ => .v, fun _ => "", fun _ _ => rfl⟩
structure ExX (K : PySem.W.Frag) (mg : Str → Option Value) (x : Str) : Prop where
  g : mg x = some (.ref (clA K x))
  q : PySem.W.excIn K (clA K x) [.type "ValueError", .type "Exception", .type "BaseException", .type "object"] "ValueError.__new__" = true
  k : PySem.W.keepIn K (.ref (clA K x)) = true
  b : PySem.W.subIn K (.ref (clA K x)) (.type "BaseException") = some true
  t : PySem.W.typeIn K (.ref (clA K x)) = some (.type "type")
  e : PySem.W.exmOne K (.ref (clA K x)) (.ref (clA K x)) = some true
structure DefX (K : PySem.W.Frag) (mg : Str → Option Value) (x : Str) (f : Addr) (fd : FuncData) (st : Stmt) (ps : List Str) : Prop where
  u : Fun K x x st f fd
  g : mg x = some (.ref f)
  k : PySem.W.keepIn K (.ref f) = true
  b : Binds K fd ps []
section
variable {P : Program} {w : World} {K : PySem.W.Frag} {mg : Str → Option Value} {base : Heap}
theorem ok0 (Z : Zz mg) {f : Addr} {fd : FuncData} (U : Fun K "_law_feed" "_law_feed" st0 f fd) : FnG P w K mg base 1 f fd ["script", "k"] (spF (BB K) (sem T sub 0) [false, false] [.s, .v] (.l .v)) := by
  have e : runFn (below T sub 0) sub fn0 = sem T sub 0 := by funext ds; rw [sem_eq]; rfl
  rw [← e]
  exact def_ok (n := 2) (Γe := [none, none, none, none]) U sc0 rfl rfl rfl rfl rfl rfl fun cd A outer s H vs E hr g => (ss_cons (s_set g (w_idx g (w_b (w_list1 g Z (w_slice g w_vs (wp_ex w_vv) (wp_ex (w_shr (w_b w_vv w_int (b_add (g := g))))))) (w_lst (m := .v) (wa_cons (w_shr (w_b (w_b w_int w_vv (b_mul)) w_int (b_add (g := g)))) wa_nil)) (b_add (g := g))) w_int)) (ss_cons (s_set g (w_max2 g Z w_int (w_b (w_abs g Z w_vv) (w_b w_int w_int (b_pow (m := .v))) (b_sub (m := .v))))) (ss_one (s_ret (w_lst (m := .v) (wa_cons w_vv (wa_cons (w_b (w_int1 g Z (w_b (w_b (w_b (w_b (w_int1 g Z (w_abs g Z w_vv)) w_int (b_mod (m := .v))) w_int (b_mul)) (w_b w_int w_vv (b_mul)) (b_add (g := g))) w_int (b_add (g := g)))) w_int (b_mod (m := .v))) wa_nil)))))))
theorem ok1 (Z : Zz mg) {f : Addr} {fd : FuncData} (U : Fun K "_law_memories" "_law_memories" st1 f fd) : FnG P w K mg base 1 f fd ["top"] (spF (BB K) (sem T sub 1) [false] [.v] .v) := by
  have e : runFn (below T sub 1) sub fn1 = sem T sub 1 := by funext ds; rw [sem_eq]; rfl
  rw [← e]
  exact def_ok (n := 7) (Γe := [none, none, none, none, none, none, none, none]) U sc1 rfl rfl rfl rfl rfl rfl fun cd A outer s H vs E hr g => (ss_cons (s_par2 g (wa_cons (w_shr (w_lst (m := .v) (wa_cons (w_shr (w_lst (m := .v) wa_nil)) wa_nil))) (wa_cons (w_lst (m := .v) wa_nil) wa_nil))) (ss_cons (s_for (Γ2 := [some .v, none, none, some .v, some (.l .v), none, none, none]) g (i_r2 Z.range (wa_cons w_int (wa_cons (w_b w_vv w_int (b_add (g := g))) wa_nil))) rfl (g_nm g) (w_leSs (Γ2 := [some .v, none, none, some .v, some (.l .v), none, none, none]) (ss_one (s_set g (w_shr (w_b w_vv (w_lc (ow := [("lot", 2)]) g (i_list w_vv) (blkOk_by (by kernel_rfl)) (fun s H L cl fp g => (g_nm g)) (fun s H L cl fp g => ts_nil) (fun s H L cl fp g => (w_shr (w_b w_vv (w_lst (m := .v) (wa_cons w_vv wa_nil)) (b_add (g := g)))))) (b_add (g := g)))))) rfl)) (ss_cons (s_for (Γ2 := [some .v, none, none, some .v, some (.l .v), none, none, none]) g (i_list w_vv) rfl (g_nm g) (w_leSs (Γ2 := [some .v, none, none, some .v, some (.l .v), none, none, none]) (ss_cons (s_par2 g (wa_cons (w_list1 g Z w_vv) (wa_cons (w_lst (m := .v) wa_nil) wa_nil))) (ss_cons (s_while (Γ := [some .v, none, some .v, some .v, some (.l .v), some (.l .v), some (.l .v), none]) g (t_c (w_vl (m := .v)) (w_lst (m := .v) wa_nil) (p_ne g)) (ss_one (s_expr (m_append g (w_ite (t_c (w_b (w_int1 g Z (w_len g Z (w_vl (m := .v)))) w_int (b_mod (m := .v))) w_int (p_eq g)) (m_popAt g (w_neg (m := .v) w_int)) (m_popAt g w_int)))))) (ss_one (s_expr (m_append g (w_tup (wa_cons (w_len g Z (w_vl (m := .v))) (wa_cons (w_tup1 g Z (w_vl (m := .v))) wa_nil)))))))) rfl)) (ss_one (s_ret (w_shr (w_lc (ow := [("many", 7), ("entries", 6)]) g (i_list (w_sorted g Z.sorted (w_vl (m := .v)))) (blkOk_by (by kernel_rfl)) (fun s H L cl fp g => (g_tup g (g_cons (g_nm g) (g_cons (g_nm g) g_nil)))) (fun s H L cl fp g => ts_nil) (fun s H L cl fp g => w_vv))))))))
theorem ok2 (Z : Zz mg) {f : Addr} {fd : FuncData} (U : Fun K "_law_take" "_law_take" st2 f fd) : FnG P w K mg base 1 f fd ["feed", "size"] (spF (BB K) (sem T sub 2) [true, false] [(.l .v), .v] .v) := by
  have e : runFn (below T sub 2) sub fn2 = sem T sub 2 := by funext ds; rw [sem_eq]; rfl
  rw [← e]
  exact def_ok (n := 1) (Γe := [some (.l .v), none, none]) U sc2 rfl rfl rfl rfl rfl rfl fun cd A outer s H vs E hr g => (ss_cons (s_if (Γ2 := [some (.l .v), some .v, none]) (t_c (w_idx g (w_vl (m := .v)) w_int) w_int (p_gt)) (ss_cons (s_set g (w_b (w_int1 g Z (w_idx g (w_vl (m := .v)) w_int)) w_vv (b_mod (m := .v)))) (ss_cons (s_isetL g (w_b (w_idx g (w_vl (m := .v)) w_int) w_vv (b_fdiv (m := .v))) w_int) (ss_one (s_ret w_vv)))) ss_nil) (ss_cons (s_isetL g (w_b (w_int1 g Z (w_b (w_b (w_idx g (w_vl (m := .v)) w_int) w_int (b_mul)) w_int (b_add (g := g)))) w_int (b_mod (m := .v))) w_int) (ss_one (s_ret (w_b (w_int1 g Z (w_b (w_idx g (w_vl (m := .v)) w_int) w_int (b_fdiv (m := .v)))) w_vv (b_mod (m := .v)))))))
theorem ok3 (Z : Zz mg) {f : Addr} {fd : FuncData} (U : Fun K "_law_pick" "_law_pick" st3 f fd) {f2 : Addr} {d2 : FuncData} (X2 : DefX K mg "_law_take" f2 d2 st2 ["feed", "size"]) (F2 : FnG P w K mg base 1 f2 d2 ["feed", "size"] (spF (BB K) (sem T sub 2) [true, false] [(.l .v), .v] .v)) : FnG P w K mg base 2 f fd ["feed", "things"] (spF (BB K) (sem T sub 3) [true, false] [(.l .v), .v] .v) := by
  have e : runFn (below T sub 3) sub fn3 = sem T sub 3 := by funext ds; rw [sem_eq]; rfl
  rw [← e]
  exact def_ok (n := 0) (Γe := [some (.l .v), none]) U sc3 rfl rfl rfl rfl rfl rfl fun cd A outer s H vs E hr g => (ss_one (s_ret (w_idx g w_vv (w_call g F2 (fun _ => rfl) (hr.mono (by decide)) X2.g X2.k X2.b (wa_ref (wa_cons (w_len g Z w_vv) wa_nil))))))
theorem ok4 (Z : Zz mg) {f : Addr} {fd : FuncData} (U : Fun K "_law_memory_of" "_law_memory_of" st4 f fd) : FnG P w K mg base 1 f fd ["levels"] (spF (BB K) (sem T sub 4) [false] [.v] .v) := by
  have e : runFn (below T sub 4) sub fn4 = sem T sub 4 := by funext ds; rw [sem_eq]; rfl
  rw [← e]
  exact def_ok (n := 4) (Γe := [none, none, none, none, none]) U sc4 rfl rfl rfl rfl rfl rfl fun cd A outer s H vs E hr g => (ss_cons (s_par3 g (wa_cons (w_shr (w_list1 g Z w_vv)) (wa_cons (w_lst (m := .v) wa_nil) (wa_cons w_bl wa_nil)))) (ss_cons (s_while (Γ := [some .v, some .v, some (.l .v), some .v, none]) g (t_c w_int w_vv (p_in g)) (ss_one (s_set g (w_shr (w_slice g w_vv (wp_ex (w_shr (w_b (w_index g w_vv w_int (nerr_cst _ _)) w_int (b_add (g := g))))) wp_no))))) (ss_cons (s_while (Γ := [some .v, some .v, some (.l .v), some .v, none]) g (t_c w_vv (w_lst (m := .v) wa_nil) (p_ne g)) (w_leSs (Γ2 := [some .v, some .v, some (.l .v), some .v, none]) (ss_cons (s_set g (w_ite (t_val w_vv) (w_maxL g Z w_vv) (w_minL g Z w_vv))) (ss_cons (s_expr (m_append g w_vv)) (ss_cons (s_while (Γ := [some .v, some .v, some (.l .v), some .v, some .v]) g (t_c w_vv w_vv (p_in g)) (ss_one (s_set g (w_shr (w_slice g w_vv (wp_ex (w_shr (w_b (w_index g w_vv w_vv (nerr_var _ _)) w_int (b_add (g := g))))) wp_no))))) (ss_one (s_set g (w_not (m := .v) w_vv)))))) rfl)) (ss_one (s_ret (w_tup1 g Z (w_vl (m := .v))))))))
theorem ok5 (Z : Zz mg) {f : Addr} {fd : FuncData} (U : Fun K "_law_walked" "_law_walked" st5 f fd) {f4 : Addr} {d4 : FuncData} (X4 : DefX K mg "_law_memory_of" f4 d4 st4 ["levels"]) (F4 : FnG P w K mg base 1 f4 d4 ["levels"] (spF (BB K) (sem T sub 4) [false] [.v] .v)) : FnG P w K mg base 2 f fd ["memory", "levels"] (spF (BB K) (sem T sub 5) [false, false] [.v, .v] .v) := by
  have e : runFn (below T sub 5) sub fn5 = sem T sub 5 := by funext ds; rw [sem_eq]; rfl
  rw [← e]
  exact def_ok (n := 0) (Γe := [none, none]) U sc5 rfl rfl rfl rfl rfl rfl fun cd A outer s H vs E hr g => (ss_one (s_ret (w_callV g F4 (fun _ => rfl) (hr.mono (by decide)) X4.g X4.k X4.b (wa_cons (w_shr (w_b (w_list1 g Z w_vv) (w_list1 g Z w_vv) (b_add (g := g)))) wa_nil))))
theorem ok6 (Z : Zz mg) {f : Addr} {fd : FuncData} (U : Fun K "_law_rounds" "_law_rounds" st6 f fd) {f5 : Addr} {d5 : FuncData} (X5 : DefX K mg "_law_walked" f5 d5 st5 ["memory", "levels"]) (F5 : FnG P w K mg base 2 f5 d5 ["memory", "levels"] (spF (BB K) (sem T sub 5) [false, false] [.v, .v] .v)) : FnG P w K mg base 3 f fd ["top", "first"] (spF (BB K) (sem T sub 6) [false, false] [.v, .v] (.t .v)) := by
  have e : runFn (below T sub 6) sub fn6 = sem T sub 6 := by funext ds; rw [sem_eq]; rfl
  rw [← e]
  exact def_ok (n := 7) (Γe := [none, none, none, none, none, none, none, none, none]) U sc6 rfl rfl rfl rfl rfl rfl fun cd A outer s H vs E hr g => (ss_cons (s_par3 g (wa_cons (w_dctT1i (i := 1) g) (wa_cons (w_shr (w_lst (m := .v) (wa_cons w_vv wa_nil))) (wa_cons w_int wa_nil)))) (ss_cons (s_while (Γ := [some .v, some .v, some (.t .v), some .v, some .v, none, none, none, none]) g (t_c w_vv (w_lst (m := .v) wa_nil) (p_ne g)) (w_leSs (Γ2 := [some .v, some .v, some (.t .v), some .v, some .v, none, none, none, none]) (ss_cons (s_par2 g (wa_cons (w_shr (w_b w_vv w_int (b_add (g := g)))) (wa_cons (w_lst (m := .v) wa_nil) wa_nil))) (ss_cons (s_for (Γ2 := [some .v, some .v, some (.t .v), some .v, some .v, none, some (.l .v), none, none]) g (i_list w_vv) rfl (g_nm g) (w_leSs (Γ2 := [some .v, some .v, some (.t .v), some .v, some .v, none, some (.l .v), none, none]) (ss_one (s_for (Γ2 := [some .v, some .v, some (.t .v), some .v, some .v, some .v, some (.l .v), none, none]) g (i_r1 Z.range (wa_cons (w_b w_vv w_int (b_add (g := g))) wa_nil)) rfl (g_nm g) (w_leSs (Γ2 := [some .v, some .v, some (.t .v), some .v, some .v, some .v, some (.l .v), none, none]) (ss_cons (s_set g (w_callV g F5 (fun _ => rfl) (hr.mono (by decide)) X5.g X5.k X5.b (wa_cons w_vv (wa_cons (w_shr (w_lst (m := .v) (wa_cons w_vv wa_nil))) wa_nil)))) (ss_one (s_if (Γ2 := [some .v, some .v, some (.t .v), some .v, some .v, some .v, some (.l .v), some .v, some .v]) (t_c w_vv (w_vt (m := .v)) (p_dNin g)) (ss_cons (s_isetT g w_vv w_vv) (ss_one (s_expr (m_append g w_vv)))) ss_nil))) rfl))) rfl)) (ss_one (s_set g w_fz)))) rfl)) (ss_one (s_ret w_mv))))
theorem ok7 (Z : Zz mg) {f : Addr} {fd : FuncData} (U : Fun K "is_integer" "is_integer" st7 f fd) : FnG P w K mg base 1 f fd ["value", "least", "most"] (spF (BB K) (sem T sub 7) [false, false, false] [.v, .v, .v] .v) := by
  have e : runFn (below T sub 7) sub fn7 = sem T sub 7 := by funext ds; rw [sem_eq]; rfl
  rw [← e]
  exact def_ok (n := 0) (Γe := [none, none, none]) U sc7 rfl rfl rfl rfl rfl rfl fun cd A outer s H vs E hr g => (ss_one (s_ret (w_and (w_isi (t := .int) g (fun _ => nofun) Z.isi Z.int (by decide +kernel) w_vv) (w_and (w_not (m := .v) (w_isi (t := .bool) g (fun _ => nofun) Z.isi Z.bool (by decide +kernel) w_vv)) (w_one (w_cc w_vv w_vv w_vv a_le a_le))))))
theorem ok8 (Z : Zz mg) {f : Addr} {fd : FuncData} (U : Fun K "is_memory" "is_memory" st8 f fd) {f7 : Addr} {d7 : FuncData} (X7 : DefX K mg "is_integer" f7 d7 st7 ["value", "least", "most"]) (F7 : FnG P w K mg base 1 f7 d7 ["value", "least", "most"] (spF (BB K) (sem T sub 7) [false, false, false] [.v, .v, .v] .v)) : FnG P w K mg base 2 f fd ["top", "value"] (spF (BB K) (sem T sub 8) [false, false] [.v, .v] .v) := by
  have e : runFn (below T sub 8) sub fn8 = sem T sub 8 := by funext ds; rw [sem_eq]; rfl
  rw [← e]
  exact def_ok (n := 4) (Γe := [none, none, none, none, none, none]) U sc8 rfl rfl rfl rfl rfl rfl fun cd A outer s H vs E hr g => (ss_cons (s_if (Γ2 := [some .v, some .v, none, none, none, none]) (t_not (t_val (w_isi (t := .tuple) g (fun _ => nofun) Z.isi Z.tuple (by decide +kernel) w_vv))) (ss_one (s_ret w_bl)) ss_nil) (ss_cons (s_par2 g (wa_cons w_int (wa_cons (w_shr (w_b w_vv w_int (b_add (g := g)))) wa_nil))) (ss_cons (s_for (Γ2 := [some .v, some .v, some .v, some .v, none, none]) g (i_enT g Z.enum w_vv) rfl (g_tup g (g_cons (g_nm g) (g_cons (g_nm g) g_nil))) (w_leSs (Γ2 := [some .v, some .v, some .v, some .v, none, none]) (ss_cons (s_if (Γ2 := [some .v, some .v, some .v, some .v, some .v, some .v]) (t_not (t_val (w_callV g F7 (fun _ => rfl) (hr.mono (by decide)) X7.g X7.k X7.b (wa_cons w_vv (wa_cons (w_shr (w_b w_vv w_int (b_add (g := g)))) (wa_cons (w_b w_vv w_int (b_sub (m := .v))) wa_nil)))))) (ss_one (s_ret w_bl)) ss_nil) (ss_one (s_if (Γ2 := [some .v, some .v, some .v, some .v, some .v, some .v]) (t_c (w_b w_vv w_int (b_mod (m := .v))) w_int (p_eq g)) (ss_one (s_set g w_vv)) (ss_one (s_set g w_vv))))) rfl)) (ss_one (s_ret w_bl)))))
theorem ok9 (Z : Zz mg) {f : Addr} {fd : FuncData} (U : Fun K "check_memory" "check_memory" st9 f fd) (EX0 : ExX K mg "BadMemory") {f8 : Addr} {d8 : FuncData} (X8 : DefX K mg "is_memory" f8 d8 st8 ["top", "value"]) (F8 : FnG P w K mg base 2 f8 d8 ["top", "value"] (spF (BB K) (sem T sub 8) [false, false] [.v, .v] .v)) : FnG P w K mg base 3 f fd ["top", "memory"] (spF (BB K) (sem T sub 9) [false, false] [.v, .v] .v) := by
  have e : runFn (below T sub 9) sub fn9 = sem T sub 9 := by funext ds; rw [sem_eq]; rfl
  rw [← e]
  exact def_ok (n := 0) (Γe := [none, none]) U sc9 rfl rfl rfl rfl rfl rfl fun cd A outer s H vs E hr g => (w_leSs (Γ2 := [none, none]) (ss_one (s_if (Γ2 := [some .v, some .v]) (t_not (t_val (w_callV g F8 (fun _ => rfl) (hr.mono (by decide)) X8.g X8.k X8.b (wa_cons w_vv (wa_cons w_vv wa_nil))))) (ss_one (s_raise0 (c := 0) g (pmk_own0 PySem.F.excBase_ValueError EX0.q EX0.g EX0.k (raises_own EX0.b EX0.t) (by exact rfl)))) ss_nil)) rfl)
theorem ok10 (Z : Zz mg) {f : Addr} {fd : FuncData} (U : Fun K "last_level" "last_level" st10 f fd) : FnG P w K mg base 1 f fd ["memory"] (spF (BB K) (sem T sub 10) [false] [.v] .v) := by
  have e : runFn (below T sub 10) sub fn10 = sem T sub 10 := by funext ds; rw [sem_eq]; rfl
  rw [← e]
  exact def_ok (n := 0) (Γe := [none]) U sc10 rfl rfl rfl rfl rfl rfl fun cd A outer s H vs E hr g => (ss_one (s_ret (w_ite (t_c w_vv (w_tup wa_nil) (p_ne g)) (w_idx g w_vv (w_neg (m := .v) w_int)) w_int)))
theorem ok11 (Z : Zz mg) {f : Addr} {fd : FuncData} (U : Fun K "is_met" "is_met" st11 f fd) : FnG P w K mg base 1 f fd ["memory", "level", "is_rise"] (spF (BB K) (sem T sub 11) [false, false, false] [.v, .v, .v] .v) := by
  have e : runFn (below T sub 11) sub fn11 = sem T sub 11 := by funext ds; rw [sem_eq]; rfl
  rw [← e]
  exact def_ok (n := 0) (Γe := [none, none, none]) U sc11 rfl rfl rfl rfl rfl rfl fun cd A outer s H vs E hr g => (ss_cons (s_if (Γ2 := [some .v, some .v, some .v]) (t_c (w_len g Z w_vv) w_int (p_eq g)) (ss_one (s_ret w_bl)) ss_nil) (ss_one (s_ret (w_ite (t_val w_vv) (w_c (w_idx g w_vv (w_neg (m := .v) w_int)) w_vv (p_le)) (w_c (w_idx g w_vv (w_neg (m := .v) w_int)) w_vv (p_ge))))))
theorem ok12 (Z : Zz mg) {f : Addr} {fd : FuncData} (U : Fun K "is_wiped" "is_wiped" st12 f fd) {f11 : Addr} {d11 : FuncData} (X11 : DefX K mg "is_met" f11 d11 st11 ["memory", "level", "is_rise"]) (F11 : FnG P w K mg base 1 f11 d11 ["memory", "level", "is_rise"] (spF (BB K) (sem T sub 11) [false, false, false] [.v, .v, .v] .v)) : FnG P w K mg base 2 f fd ["memory", "level", "is_rise"] (spF (BB K) (sem T sub 12) [false, false, false] [.v, .v, .v] .v) := by
  have e : runFn (below T sub 12) sub fn12 = sem T sub 12 := by funext ds; rw [sem_eq]; rfl
  rw [← e]
  exact def_ok (n := 1) (Γe := [none, none, none, none]) U sc12 rfl rfl rfl rfl rfl rfl fun cd A outer s H vs E hr g => (ss_cons (s_set g (w_c (w_b (w_len g Z w_vv) w_int (b_mod (m := .v))) w_int (p_eq g))) (ss_cons (s_if (Γ2 := [some .v, some .v, some .v, some .v]) (t_val w_vv) (ss_one (s_ret (w_ite (t_val w_vv) (w_c (w_idx g w_vv (w_neg (m := .v) w_int)) w_vv (p_le)) (w_callV g F11 (fun _ => rfl) (hr.mono (by decide)) X11.g X11.k X11.b (wa_cons w_vv (wa_cons w_vv (wa_cons w_vv wa_nil))))))) ss_nil) (ss_one (s_ret (w_ite (t_val w_vv) (w_callV g F11 (fun _ => rfl) (hr.mono (by decide)) X11.g X11.k X11.b (wa_cons w_vv (wa_cons w_vv (wa_cons w_vv wa_nil)))) (w_c (w_idx g w_vv (w_neg (m := .v) w_int)) w_vv (p_ge)))))))
theorem ok13 (Z : Zz mg) {f : Addr} {fd : FuncData} (U : Fun K "stepped_to" "stepped_to" st13 f fd) {f10 : Addr} {d10 : FuncData} (X10 : DefX K mg "last_level" f10 d10 st10 ["memory"]) (F10 : FnG P w K mg base 1 f10 d10 ["memory"] (spF (BB K) (sem T sub 10) [false] [.v] .v)) {f12 : Addr} {d12 : FuncData} (X12 : DefX K mg "is_wiped" f12 d12 st12 ["memory", "level", "is_rise"]) (F12 : FnG P w K mg base 2 f12 d12 ["memory", "level", "is_rise"] (spF (BB K) (sem T sub 12) [false, false, false] [.v, .v, .v] .v)) : FnG P w K mg base 3 f fd ["memory", "level"] (spF (BB K) (sem T sub 13) [false, false] [.v, .v] .v) := by
  have e : runFn (below T sub 13) sub fn13 = sem T sub 13 := by funext ds; rw [sem_eq]; rfl
  rw [← e]
  exact def_ok (n := 2) (Γe := [none, none, none, none]) U sc13 rfl rfl rfl rfl rfl rfl fun cd A outer s H vs E hr g => (ss_cons (s_if (Γ2 := [some .v, some .v, none, none]) (t_c w_vv w_int (p_eq g)) (ss_one (s_ret (w_tup wa_nil))) ss_nil) (ss_cons (s_if (Γ2 := [some .v, some .v, none, none]) (t_c w_vv (w_callV g F10 (fun _ => rfl) (hr.mono (by decide)) X10.g X10.k X10.b (wa_cons w_vv wa_nil)) (p_eq g)) (ss_one (s_ret w_vv)) ss_nil) (ss_cons (s_set g (w_c w_vv (w_callV g F10 (fun _ => rfl) (hr.mono (by decide)) X10.g X10.k X10.b (wa_cons w_vv wa_nil)) (p_gt))) (ss_cons (s_set g w_vv) (ss_cons (s_while (Γ := [some .v, some .v, some .v, some .v]) g (t_and (sw_and (t_c w_vv (w_tup wa_nil) (p_ne g)) (sw_and1 (t_val (w_callV g F12 (fun _ => rfl) (hr.mono (by decide)) X12.g X12.k X12.b (wa_cons w_vv (wa_cons w_vv (wa_cons w_vv wa_nil)))))))) (ss_one (s_set g (w_shr (w_slice g w_vv wp_no (wp_ex (w_neg (m := .v) w_int))))))) (ss_one (s_ret (w_shr (w_b w_vv (w_tup (wa_cons w_vv wa_nil)) (b_add (g := g)))))))))))
theorem ok14 (Z : Zz mg) {f : Addr} {fd : FuncData} (U : Fun K "ways_from" "ways_from" st14 f fd) {f13 : Addr} {d13 : FuncData} (X13 : DefX K mg "stepped_to" f13 d13 st13 ["memory", "level"]) (F13 : FnG P w K mg base 3 f13 d13 ["memory", "level"] (spF (BB K) (sem T sub 13) [false, false] [.v, .v] .v)) : FnG P w K mg base 4 f fd ["top", "memory"] (spF (BB K) (sem T sub 14) [false, false] [.v, .v] (.t (.l .v))) := by
  have e : runFn (below T sub 14) sub fn14 = sem T sub 14 := by funext ds; rw [sem_eq]; rfl
  rw [← e]
  exact def_ok (n := 5) (Γe := [none, none, none, none, none, none, none]) U sc14 rfl rfl rfl rfl rfl rfl fun cd A outer s H vs E hr g => (ss_cons (s_par2 g (wa_cons (w_dctT1o (m := .v) (i := 1) g) (wa_cons (w_lst (m := .v) (wa_cons w_vv wa_nil)) wa_nil))) (ss_cons (s_while (Γ := [some .v, some .v, some (.t (.l .v)), some (.l .v), none, none, none]) g (t_c (w_vl (m := .v)) (w_lst (m := .v) wa_nil) (p_ne g)) (w_leSs (Γ2 := [some .v, some .v, some (.t (.l .v)), some (.l .v), none, none, none]) (ss_cons (s_set g (m_popAt g w_int)) (ss_one (s_for (Γ2 := [some .v, some .v, some (.t (.l .v)), some (.l .v), some .v, none, none]) g (i_r1 Z.range (wa_cons (w_b w_vv w_int (b_add (g := g))) wa_nil)) rfl (g_nm g) (w_leSs (Γ2 := [some .v, some .v, some (.t (.l .v)), some (.l .v), some .v, none, none]) (ss_cons (s_set g (w_callV g F13 (fun _ => rfl) (hr.mono (by decide)) X13.g X13.k X13.b (wa_cons w_vv (wa_cons w_vv wa_nil)))) (ss_one (s_if (Γ2 := [some .v, some .v, some (.t (.l .v)), some (.l .v), some .v, some .v, some .v]) (t_c w_vv (w_vt (m := (.l .v))) (p_dNin g)) (ss_cons (s_putN g (w_b (w_idxDb g (w_vt (m := (.l .v))) w_vv) (w_lst (m := .v) (wa_cons w_vv wa_nil)) (b_add (g := g))) w_vv) (ss_one (s_expr (m_append g w_vv)))) ss_nil))) rfl)))) rfl)) (ss_one (s_ret w_mv))))
theorem ok15 (Z : Zz mg) {f : Addr} {fd : FuncData} (U : Fun K "shortest_way" "shortest_way" st15 f fd) {f9 : Addr} {d9 : FuncData} (X9 : DefX K mg "check_memory" f9 d9 st9 ["top", "memory"]) (F9 : FnG P w K mg base 3 f9 d9 ["top", "memory"] (spF (BB K) (sem T sub 9) [false, false] [.v, .v] .v)) {f14 : Addr} {d14 : FuncData} (X14 : DefX K mg "ways_from" f14 d14 st14 ["top", "memory"]) (F14 : FnG P w K mg base 4 f14 d14 ["top", "memory"] (spF (BB K) (sem T sub 14) [false, false] [.v, .v] (.t (.l .v)))) : FnG P w K mg base 5 f fd ["top", "first", "second"] (spF (BB K) (sem T sub 15) [false, false, false] [.v, .v, .v] (.l .v)) := by
  have e : runFn (below T sub 15) sub fn15 = sem T sub 15 := by funext ds; rw [sem_eq]; rfl
  rw [← e]
  exact def_ok (n := 0) (Γe := [none, none, none]) U sc15 rfl rfl rfl rfl rfl rfl fun cd A outer s H vs E hr g => (ss_cons (s_expr (w_callV g F9 (fun _ => rfl) (hr.mono (by decide)) X9.g X9.k X9.b (wa_cons w_vv (wa_cons w_vv wa_nil)))) (ss_cons (s_expr (w_callV g F9 (fun _ => rfl) (hr.mono (by decide)) X9.g X9.k X9.b (wa_cons w_vv (wa_cons w_vv wa_nil)))) (ss_one (s_ret (w_idxDo g (w_callV g F14 (fun _ => rfl) (hr.mono (by decide)) X14.g X14.k X14.b (wa_cons w_vv (wa_cons w_vv wa_nil))) w_vv)))))
theorem ok16 (Z : Zz mg) {f : Addr} {fd : FuncData} (U : Fun K "distance" "distance" st16 f fd) {f15 : Addr} {d15 : FuncData} (X15 : DefX K mg "shortest_way" f15 d15 st15 ["top", "first", "second"]) (F15 : FnG P w K mg base 5 f15 d15 ["top", "first", "second"] (spF (BB K) (sem T sub 15) [false, false, false] [.v, .v, .v] (.l .v))) : FnG P w K mg base 6 f fd ["top", "first", "second"] (spF (BB K) (sem T sub 16) [false, false, false] [.v, .v, .v] .v) := by
  have e : runFn (below T sub 16) sub fn16 = sem T sub 16 := by funext ds; rw [sem_eq]; rfl
  rw [← e]
  exact def_ok (n := 0) (Γe := [none, none, none]) U sc16 rfl rfl rfl rfl rfl rfl fun cd A outer s H vs E hr g => (ss_one (s_ret (w_len g Z (w_callV g F15 (fun _ => rfl) (hr.mono (by decide)) X15.g X15.k X15.b (wa_cons w_vv (wa_cons w_vv (wa_cons w_vv wa_nil)))))))
theorem ok17 (Z : Zz mg) {f : Addr} {fd : FuncData} (U : Fun K "_law_told" "_law_told" st17 f fd) (EX0 : ExX K mg "BadMemory") {f16 : Addr} {d16 : FuncData} (X16 : DefX K mg "distance" f16 d16 st16 ["top", "first", "second"]) (F16 : FnG P w K mg base 6 f16 d16 ["top", "first", "second"] (spF (BB K) (sem T sub 16) [false, false, false] [.v, .v, .v] .v)) {f15 : Addr} {d15 : FuncData} (X15 : DefX K mg "shortest_way" f15 d15 st15 ["top", "first", "second"]) (F15 : FnG P w K mg base 5 f15 d15 ["top", "first", "second"] (spF (BB K) (sem T sub 15) [false, false, false] [.v, .v, .v] (.l .v))) : FnG P w K mg base 7 f fd ["way", "top", "first", "second"] (spF (BB K) (sem T sub 17) [false, false, false, false] [.v, .v, .v, .v] (.l .v)) := by
  have e : runFn (below T sub 17) sub fn17 = sem T sub 17 := by funext ds; rw [sem_eq]; rfl
  rw [← e]
  exact def_ok (n := 1) (Γe := [none, none, none, none, none]) U sc17 rfl rfl rfl rfl rfl rfl fun cd A outer s H vs E hr g => (ss_cons (s_set g (w_castL w_non)) (ss_cons (s_try (k := 0) (Γx := [some .v, some .v, some .v, some .v, some (.l .v)]) (Γ2 := [some .v, some .v, some .v, some .v, some (.l .v)]) g ⟨rfl, by decide, .inl EX0.g⟩ (fun _ => EX0.e) (fun W pn xe g => (ss_one (s_set g (w_ite (t_c w_vv w_int (p_eq g)) (w_castL (w_callV g F16 (fun _ => rfl) (hr.mono (by decide)) X16.g X16.k X16.b (wa_cons w_vv (wa_cons w_vv (wa_cons w_vv wa_nil))))) (w_callV g F15 (fun _ => rfl) (hr.mono (by decide)) X15.g X15.k X15.b (wa_cons w_vv (wa_cons w_vv (wa_cons w_vv wa_nil)))))))) (fun a pn => (ss_one (s_setN (by exact g.nd) (w_castL w_str))))) (ss_one (s_ret w_mv))))
theorem ok18 (Z : Zz mg) {f : Addr} {fd : FuncData} (U : Fun K "law" "law" st18 f fd) {f0 : Addr} {d0 : FuncData} (X0 : DefX K mg "_law_feed" f0 d0 st0 ["script", "k"]) (F0 : FnG P w K mg base 1 f0 d0 ["script", "k"] (spF (BB K) (sem T sub 0) [false, false] [.s, .v] (.l .v))) {f2 : Addr} {d2 : FuncData} (X2 : DefX K mg "_law_take" f2 d2 st2 ["feed", "size"]) (F2 : FnG P w K mg base 1 f2 d2 ["feed", "size"] (spF (BB K) (sem T sub 2) [true, false] [(.l .v), .v] .v)) {f1 : Addr} {d1 : FuncData} (X1 : DefX K mg "_law_memories" f1 d1 st1 ["top"]) (F1 : FnG P w K mg base 1 f1 d1 ["top"] (spF (BB K) (sem T sub 1) [false] [.v] .v)) {f3 : Addr} {d3 : FuncData} (X3 : DefX K mg "_law_pick" f3 d3 st3 ["feed", "things"]) (F3 : FnG P w K mg base 2 f3 d3 ["feed", "things"] (spF (BB K) (sem T sub 3) [true, false] [(.l .v), .v] .v)) {f6 : Addr} {d6 : FuncData} (X6 : DefX K mg "_law_rounds" f6 d6 st6 ["top", "first"]) (F6 : FnG P w K mg base 3 f6 d6 ["top", "first"] (spF (BB K) (sem T sub 6) [false, false] [.v, .v] (.t .v))) {f17 : Addr} {d17 : FuncData} (X17 : DefX K mg "_law_told" f17 d17 st17 ["way", "top", "first", "second"]) (F17 : FnG P w K mg base 7 f17 d17 ["way", "top", "first", "second"] (spF (BB K) (sem T sub 17) [false, false, false, false] [.v, .v, .v, .v] (.l .v))) {f5 : Addr} {d5 : FuncData} (X5 : DefX K mg "_law_walked" f5 d5 st5 ["memory", "levels"]) (F5 : FnG P w K mg base 2 f5 d5 ["memory", "levels"] (spF (BB K) (sem T sub 5) [false, false] [.v, .v] .v)) : FnG P w K mg base 8 f fd ["script"] (spF (BB K) (sem T sub 18) [false] [.s] .v) := by
  have e : runFn (below T sub 18) sub fn18 = sem T sub 18 := by funext ds; rw [sem_eq]; rfl
  rw [← e]
  exact def_ok (n := 14) (Γe := [none, none, none, none, none, none, none, none, none, none, none, none, none, none, none]) U sc18 rfl rfl rfl rfl rfl rfl fun cd A outer s H vs E hr g => (ss_cons (s_for (Γ2 := [some .s, none, none, none, none, none, none, none, none, none, none, none, none, none, none]) g (i_r1 Z.range (wa_cons (w_max2 g Z w_int (w_min2 g Z w_int (w_len g Z w_vs))) wa_nil)) rfl (g_nm g) (w_leSs (Γ2 := [some .s, none, none, none, none, none, none, none, none, none, none, none, none, none, none]) (ss_cons (s_set g (w_callV g F0 (fun _ => rfl) (hr.mono (by decide)) X0.g X0.k X0.b (wa_cons w_vs (wa_cons w_vv wa_nil)))) (ss_cons (s_set g (w_shr (w_b w_int (w_call g F2 (fun _ => rfl) (hr.mono (by decide)) X2.g X2.k X2.b (wa_ref (wa_cons (w_b w_int w_vv (b_sub (m := .v))) wa_nil))) (b_add (g := g))))) (ss_cons (s_set g (w_callV g F1 (fun _ => rfl) (hr.mono (by decide)) X1.g X1.k X1.b (wa_cons w_vv wa_nil))) (ss_cons (s_set g (w_call g F3 (fun _ => rfl) (hr.mono (by decide)) X3.g X3.k X3.b (wa_ref (wa_cons w_vv wa_nil)))) (ss_cons (s_set g (w_callV g F6 (fun _ => rfl) (hr.mono (by decide)) X6.g X6.k X6.b (wa_cons w_vv (wa_cons w_vv wa_nil)))) (ss_cons (s_for1 (Γ2 := [some .s, some .v, some (.l .v), some .v, some .v, some .v, some (.t .v), none, none, none, none, none, none, none, none]) (Γ3 := [some .s, some .v, some (.l .v), some .v, some .v, some .v, some (.t .v), some .v, none, none, none, some .v, some .v, some (.l .v), none]) g (i_r1 Z.range (wa_cons w_int wa_nil)) rfl (g_nm g) (ss_cons (s_set g (w_call g F3 (fun _ => rfl) (hr.mono (by decide)) X3.g X3.k X3.b (wa_ref (wa_cons (w_shr (w_b w_vv (w_lst (m := .v) (wa_cons w_vv wa_nil)) (b_add (g := g)))) wa_nil)))) (ss_cons (s_if (Γ2 := [some .s, some .v, some (.l .v), some .v, some .v, some .v, some (.t .v), some .v, none, none, none, some .v, none, none, none]) (t_c (w_repr g Z (w_callV g F17 (fun _ => rfl) (hr.mono (by decide)) X17.g X17.k X17.b (wa_cons w_int (wa_cons w_vv (wa_cons w_vv (wa_cons w_vv wa_nil)))))) (w_repr g Z (w_idxD g (w_vt (m := .v)) w_vv)) (p_neA)) (ss_one (s_ret w_bl)) ss_nil) (ss_one (s_for1 (Γ2 := [some .s, some .v, some (.l .v), some .v, some .v, some .v, some (.t .v), some .v, none, none, none, some .v, none, none, none]) (Γ3 := [some .s, some .v, some (.l .v), some .v, some .v, some .v, some (.t .v), some .v, none, none, none, some .v, some .v, some (.l .v), none]) g (i_r1 Z.range (wa_cons w_int wa_nil)) rfl (g_nm g) (ss_cons (s_set g (w_callV g F17 (fun _ => rfl) (hr.mono (by decide)) X17.g X17.k X17.b (wa_cons w_int (wa_cons w_vv (wa_cons w_vv (wa_cons w_vv wa_nil)))))) (ss_cons (s_if (Γ2 := [some .s, some .v, some (.l .v), some .v, some .v, some .v, some (.t .v), some .v, none, none, none, some .v, some .v, some (.l .v), none]) (t_and (sw_or (t_not (t_val (w_isi (t := .list) g (fun _ => nofun) Z.isi Z.list (by decide +kernel) (w_vl (m := .v))))) (sw_or1 (t_c (w_len g Z (w_vl (m := .v))) (w_idxD g (w_vt (m := .v)) w_vv) (p_ne g))))) (ss_one (s_ret w_bl)) ss_nil) (ss_cons (s_if (Γ2 := [some .s, some .v, some (.l .v), some .v, some .v, some .v, some (.t .v), some .v, none, none, none, some .v, some .v, some (.l .v), none]) (t_lendQ (i := 13) g rfl rfl (w_lcQ (ow := [("one", 14)]) g (i_list w_vv) (blkOk_by (by kernel_rfl)) (fun s H L cl fp g => (g_nm g)) (fun s H L cl fp g => (ts_one (t_and (sw_or (t_not (t_val (w_isi (t := .int) g (fun _ => nofun) Z.isi Z.int (by decide +kernel) w_vv))) (sw_or1 (t_not (t_cc w_int w_vv w_vv a_le a_le))))))) (fun s H L cl fp g => w_int))) (ss_one (s_ret w_bl)) ss_nil) (ss_cons (s_if (Γ2 := [some .s, some .v, some (.l .v), some .v, some .v, some .v, some (.t .v), some .v, none, none, none, some .v, some .v, some (.l .v), none]) (t_c (w_lend (i := 13) rfl rfl (w_callV g F5 (fun _ => rfl) (hr.mono (by decide)) X5.g X5.k X5.b (wa_cons w_vv (wa_cons w_vv wa_nil)))) w_vv (p_ne g)) (ss_one (s_ret w_bl)) ss_nil) (ss_one (s_expr (m_append g w_non))))))) (fun e ds e1 h => ne_rng _ (by decide) e ds e1 h))))) (fun e ds e1 h => ne_rng _ (by decide) e ds e1 h)) (ss_cons (s_set g (w_shr (w_lst (m := .v) (wa_cons w_non (wa_cons (w_shr (w_list1 g Z w_vv)) (wa_cons w_int (wa_cons w_str (wa_cons (w_shr (w_dct0 (m := .v))) (wa_cons (w_tup (wa_cons w_int wa_nil)) (wa_cons (w_tup (wa_cons (w_shr (w_b w_vv w_int (b_add (g := g)))) wa_nil)) (wa_cons (w_tup (wa_cons w_int (wa_cons w_int wa_nil))) (wa_cons (w_tup (wa_cons w_bl wa_nil)) (wa_cons (w_tup (wa_cons w_non wa_nil)) (wa_cons (w_shr (w_b w_vv (w_tup (wa_cons w_int wa_nil)) (b_add (g := g)))) (wa_cons (w_tup (wa_cons w_int (wa_cons w_int wa_nil))) wa_nil))))))))))))))) (ss_cons (s_set g (w_call g F3 (fun _ => rfl) (hr.mono (by decide)) X3.g X3.k X3.b (wa_ref (wa_cons (w_shr (w_b w_vv (w_b (w_lst (m := .v) (wa_cons (w_ite (t_c (w_len g Z w_vv) w_int (p_gt)) (w_revT g w_vv) (w_tup (wa_cons w_int (wa_cons w_vv wa_nil)))) wa_nil)) w_int (b_mul)) (b_add (g := g)))) wa_nil)))) (ss_one (s_for (Γ2 := [some .s, some .v, some (.l .v), some .v, some .v, some .v, some (.t .v), some .v, some .v, some .v, none, some .v, some .v, none, none]) g (i_list (w_lst (m := .v) (wa_cons (w_tup (wa_cons w_vv (wa_cons w_vv wa_nil))) (wa_cons (w_tup (wa_cons w_vv (wa_cons w_vv wa_nil))) (wa_cons (w_tup (wa_cons w_vv (wa_cons w_vv wa_nil))) wa_nil))))) rfl (g_nm g) (w_leSs (Γ2 := [some .s, some .v, some (.l .v), some .v, some .v, some .v, some (.t .v), some .v, some .v, some .v, none, some .v, some .v, none, none]) (ss_one (s_if (Γ2 := [some .s, some .v, some (.l .v), some .v, some .v, some .v, some (.t .v), some .v, some .v, some .v, some .v, some .v, some .v, none, none]) (t_c (w_lc (ow := [("way", 13)]) g (i_tup (w_tup (wa_cons w_int (wa_cons w_int wa_nil)))) (blkOk_by (by kernel_rfl)) (fun s H L cl fp g => (g_nm g)) (fun s H L cl fp g => ts_nil) (fun s H L cl fp g => (w_shr (w_callV g F17 (fun _ => rfl) (hr.mono (by decide)) X17.g X17.k X17.b (wa_cons w_vv (wa_cons w_vv (wa_cons (w_idx g w_vv w_int) (wa_cons (w_idx g w_vv w_int) wa_nil)))))))) (w_lst (m := .v) (wa_cons w_str (wa_cons w_str wa_nil))) (p_ne g)) (ss_one (s_ret w_bl)) ss_nil)) rfl))))))))))) rfl)) (ss_one (s_ret w_bl)))
end
end Lw
set_option maxHeartbeats 4000000
namespace Lw
open PySem Mi
local macro_rules | `(tactic| array_get_dec) => `(tactic| (first | ((with_reducible show OK (evE _ _ _) _ _); (with_reducible refine Wp.xE ?_)) | ((with_reducible show OK (evEs _ _ _) _ _); (with_reducible refine Wp.xEs ?_)) | ((with_reducible show OK (evS _ _ _ _) _ _); (with_reducible refine Wp.xS ?_)) | ((with_reducible show Wp.SQ _ _ _ _ _ _ _); (with_reducible refine Wp.xSQ ?_)) | ((with_reducible show OK (evHs _ _ _ _ _ _) _ _); (with_reducible refine Wp.xH ?_)) | ((with_reducible show ENV _ _); (with_reducible refine Wp.env (by dsimp only [st, gt, backE, wipeE]; try exact rfl) ?_)) | ((with_reducible show OKo (gt _ _) _); (show OKo (Option.some _) _); (with_reducible refine Wp.some_ ?_)) | ((with_reducible show OKo (evOp2 _ _ _) _); (with_reducible refine Wp.xO ?_)) | ((with_reducible show OKo (dsOf _) _); (with_reducible refine Wp.xDs ?_)) | ((with_reducible show OKo (arD _ _) _); (with_reducible refine Wp.xAr ?_)) | ((with_reducible show OKo (putO _ _ _) _); (with_reducible refine Wp.xPo ?_)) | ((with_reducible show OKo (evBi _ _) _); (with_reducible refine Wp.xBi ?_)) | ((with_reducible show OKo (bindT _ _ _) _); (with_reducible refine Wp.xB ?_)) | ((with_reducible show OKo (bindTs _ _ _) _); (with_reducible refine Wp.xBs ?_)) | ((with_reducible show OKo (stN _ _ _) _); (with_reducible refine Wp.xN ?_)) | ((with_reducible show OK (evIt _ _ _) _ _); (with_reducible refine Wp.xIt ?_)) | ((with_reducible show OK (evOp _ _ _) _ _); (with_reducible refine Wp.xOp ?_)) | ((with_reducible show OKo (outsOf _ _) _); (with_reducible refine Wp.xOu ?_)) | ((with_reducible show Wp.FB _ _ _ _); (with_reducible refine Wp.xFB ?_)) | ((with_reducible show Wp.WB _ _ _ _ _); (with_reducible refine Wp.xWB ?_)) | ((with_reducible show SC _ _); (with_reducible refine Wp.sc ?_ ?_); (focus first | assumption | ((with_reducible apply mulOk_r); decide) | ((with_reducible apply mulOk_l); decide) | ((with_reducible apply divOk_of); (focus decide); decide) | decide | omega | exact of_decide_eq_true rfl | (show _ < 1000000; omega) | (refine ⟨(by show _ < 1000000; omega), (by show _ < 1000000; omega)⟩) | (with_reducible exact rfl) | exact ⟨rfl, rfl⟩ | exact rfl)) | ((with_reducible show BR (.bl true) _ _); (with_reducible refine Wp.br_t ?_)) | ((with_reducible show BR (.bl false) _ _); (with_reducible refine Wp.br_f ?_)) | ((with_reducible show BR (.bl (_ && _)) _ _); (with_reducible refine Wp.br_and ?_)) | ((with_reducible show BR (.bl (!_)) _ _); (with_reducible refine Wp.br_n ?_)) | ((with_reducible show BR (.bl (@decide _ _)) _ _); (with_reducible refine Wp.br_dt ?_ ?_); (focus first | assumption | decide | omega | exact rfl | exact of_decide_eq_true rfl)) | ((with_reducible show BR (.bl (@decide _ _)) _ _); (with_reducible refine Wp.br_df ?_ ?_); (focus first | assumption | decide | omega | exact rfl | exact of_decide_eq_true rfl)) | ((with_reducible show BR (.bl _) _ _); (with_reducible refine Wp.br_ct ?_ ?_); (focus first | assumption | exact rfl)) | ((with_reducible show BR (.bl _) _ _); (with_reducible refine Wp.br_cf ?_ ?_); (focus first | assumption | exact rfl)) | ((with_reducible show OK (R.bind (evE _ _ _) (fun d e1 => .ok [d] e1)) _ _); (with_reducible refine Wp.one ?_)) | ((with_reducible show OKo _ _); (show OKo (Option.some _) _); (with_reducible refine Wp.some_ ?_))))
local macro_rules | `(tactic| array_mem_dec) => `(tactic| ((repeat (first | ((with_reducible show OK (evE _ _ _) _ _); (with_reducible refine Wp.xE ?_)) | ((with_reducible show OK (evEs _ _ _) _ _); (with_reducible refine Wp.xEs ?_)) | ((with_reducible show OK (evS _ _ _ _) _ _); (with_reducible refine Wp.xS ?_)) | ((with_reducible show Wp.SQ _ _ _ _ _ _ _); (with_reducible refine Wp.xSQ ?_)) | ((with_reducible show OK (evHs _ _ _ _ _ _) _ _); (with_reducible refine Wp.xH ?_)) | ((with_reducible show ENV _ _); (with_reducible refine Wp.env (by dsimp only [st, gt, backE, wipeE]; try exact rfl) ?_)) | ((with_reducible show OKo (gt _ _) _); (show OKo (Option.some _) _); (with_reducible refine Wp.some_ ?_)) | ((with_reducible show OKo (evOp2 _ _ _) _); (with_reducible refine Wp.xO ?_)) | ((with_reducible show OKo (dsOf _) _); (with_reducible refine Wp.xDs ?_)) | ((with_reducible show OKo (arD _ _) _); (with_reducible refine Wp.xAr ?_)) | ((with_reducible show OKo (putO _ _ _) _); (with_reducible refine Wp.xPo ?_)) | ((with_reducible show OKo (evBi _ _) _); (with_reducible refine Wp.xBi ?_)) | ((with_reducible show OKo (bindT _ _ _) _); (with_reducible refine Wp.xB ?_)) | ((with_reducible show OKo (bindTs _ _ _) _); (with_reducible refine Wp.xBs ?_)) | ((with_reducible show OKo (stN _ _ _) _); (with_reducible refine Wp.xN ?_)) | ((with_reducible show OK (evIt _ _ _) _ _); (with_reducible refine Wp.xIt ?_)) | ((with_reducible show OK (evOp _ _ _) _ _); (with_reducible refine Wp.xOp ?_)) | ((with_reducible show OKo (outsOf _ _) _); (with_reducible refine Wp.xOu ?_)) | ((with_reducible show Wp.FB _ _ _ _); (with_reducible refine Wp.xFB ?_)) | ((with_reducible show Wp.WB _ _ _ _ _); (with_reducible refine Wp.xWB ?_)) | ((with_reducible show SC _ _); (with_reducible refine Wp.sc ?_ ?_); (focus first | assumption | ((with_reducible apply mulOk_r); decide) | ((with_reducible apply mulOk_l); decide) | ((with_reducible apply divOk_of); (focus decide); decide) | decide | omega | exact of_decide_eq_true rfl | (show _ < 1000000; omega) | (refine ⟨(by show _ < 1000000; omega), (by show _ < 1000000; omega)⟩) | (with_reducible exact rfl) | exact ⟨rfl, rfl⟩ | exact rfl)) | ((with_reducible show BR (.bl true) _ _); (with_reducible refine Wp.br_t ?_)) | ((with_reducible show BR (.bl false) _ _); (with_reducible refine Wp.br_f ?_)) | ((with_reducible show BR (.bl (_ && _)) _ _); (with_reducible refine Wp.br_and ?_)) | ((with_reducible show BR (.bl (!_)) _ _); (with_reducible refine Wp.br_n ?_)) | ((with_reducible show BR (.bl (@decide _ _)) _ _); (with_reducible refine Wp.br_dt ?_ ?_); (focus first | assumption | decide | omega | exact rfl | exact of_decide_eq_true rfl)) | ((with_reducible show BR (.bl (@decide _ _)) _ _); (with_reducible refine Wp.br_df ?_ ?_); (focus first | assumption | decide | omega | exact rfl | exact of_decide_eq_true rfl)) | ((with_reducible show BR (.bl _) _ _); (with_reducible refine Wp.br_ct ?_ ?_); (focus first | assumption | exact rfl)) | ((with_reducible show BR (.bl _) _ _); (with_reducible refine Wp.br_cf ?_ ?_); (focus first | assumption | exact rfl)) | ((with_reducible show OK (R.bind (evE _ _ _) (fun d e1 => .ok [d] e1)) _ _); (with_reducible refine Wp.one ?_)) | ((with_reducible show OKo _ _); (show OKo (Option.some _) _); (with_reducible refine Wp.some_ ?_)))); try dsimp only))
local macro_rules | `(tactic| decreasing_trivial_pre_omega) => `(tactic| ((repeat ((fail_if_success (with_reducible show OK (evS _ _ (Sm.seq (Sm.ife _ _ _) _) _) _ _)); (first | ((with_reducible show OK (evE _ _ _) _ _); (with_reducible refine Wp.xE ?_)) | ((with_reducible show OK (evEs _ _ _) _ _); (with_reducible refine Wp.xEs ?_)) | ((with_reducible show OK (evS _ _ _ _) _ _); (with_reducible refine Wp.xS ?_)) | ((with_reducible show Wp.SQ _ _ _ _ _ _ _); (with_reducible refine Wp.xSQ ?_)) | ((with_reducible show OK (evHs _ _ _ _ _ _) _ _); (with_reducible refine Wp.xH ?_)) | ((with_reducible show ENV _ _); (with_reducible refine Wp.env (by dsimp only [st, gt, backE, wipeE]; try exact rfl) ?_)) | ((with_reducible show OKo (gt _ _) _); (show OKo (Option.some _) _); (with_reducible refine Wp.some_ ?_)) | ((with_reducible show OKo (evOp2 _ _ _) _); (with_reducible refine Wp.xO ?_)) | ((with_reducible show OKo (dsOf _) _); (with_reducible refine Wp.xDs ?_)) | ((with_reducible show OKo (arD _ _) _); (with_reducible refine Wp.xAr ?_)) | ((with_reducible show OKo (putO _ _ _) _); (with_reducible refine Wp.xPo ?_)) | ((with_reducible show OKo (evBi _ _) _); (with_reducible refine Wp.xBi ?_)) | ((with_reducible show OKo (bindT _ _ _) _); (with_reducible refine Wp.xB ?_)) | ((with_reducible show OKo (bindTs _ _ _) _); (with_reducible refine Wp.xBs ?_)) | ((with_reducible show OKo (stN _ _ _) _); (with_reducible refine Wp.xN ?_)) | ((with_reducible show OK (evIt _ _ _) _ _); (with_reducible refine Wp.xIt ?_)) | ((with_reducible show OK (evOp _ _ _) _ _); (with_reducible refine Wp.xOp ?_)) | ((with_reducible show OKo (outsOf _ _) _); (with_reducible refine Wp.xOu ?_)) | ((with_reducible show Wp.FB _ _ _ _); (with_reducible refine Wp.xFB ?_)) | ((with_reducible show Wp.WB _ _ _ _ _); (with_reducible refine Wp.xWB ?_)) | ((with_reducible show SC _ _); (with_reducible refine Wp.sc ?_ ?_); (focus first | assumption | ((with_reducible apply mulOk_r); decide) | ((with_reducible apply mulOk_l); decide) | ((with_reducible apply divOk_of); (focus decide); decide) | decide | omega | exact of_decide_eq_true rfl | (show _ < 1000000; omega) | (refine ⟨(by show _ < 1000000; omega), (by show _ < 1000000; omega)⟩) | (with_reducible exact rfl) | exact ⟨rfl, rfl⟩ | exact rfl)) | ((with_reducible show BR (.bl true) _ _); (with_reducible refine Wp.br_t ?_)) | ((with_reducible show BR (.bl false) _ _); (with_reducible refine Wp.br_f ?_)) | ((with_reducible show BR (.bl (_ && _)) _ _); (with_reducible refine Wp.br_and ?_)) | ((with_reducible show BR (.bl (!_)) _ _); (with_reducible refine Wp.br_n ?_)) | ((with_reducible show BR (.bl (@decide _ _)) _ _); (with_reducible refine Wp.br_dt ?_ ?_); (focus first | assumption | decide | omega | exact rfl | exact of_decide_eq_true rfl)) | ((with_reducible show BR (.bl (@decide _ _)) _ _); (with_reducible refine Wp.br_df ?_ ?_); (focus first | assumption | decide | omega | exact rfl | exact of_decide_eq_true rfl)) | ((with_reducible show BR (.bl _) _ _); (with_reducible refine Wp.br_ct ?_ ?_); (focus first | assumption | exact rfl)) | ((with_reducible show BR (.bl _) _ _); (with_reducible refine Wp.br_cf ?_ ?_); (focus first | assumption | exact rfl)) | ((with_reducible show OK (R.bind (evE _ _ _) (fun d e1 => .ok [d] e1)) _ _); (with_reducible refine Wp.one ?_)) | ((with_reducible show OKo _ _); (show OKo (Option.some _) _); (with_reducible refine Wp.some_ ?_))))); try dsimp only))
def take (f : Int × Int) (n : Int) : Int × (Int × Int) := if 0 < f.1 then (f.1 % n, (f.1 / n, f.2)) else ((f.2 * 69069 + 12345) % 4294967311 / 65536 % n, (f.1, (f.2 * 69069 + 12345) % 4294967311))
def fd (f : Int × Int) : D := .lst [.int f.1, .int f.2]
theorem sp1 (f : Int × Int) (n : Int) (h0 : 0 < n) (h1 : n < 2 ^ 60) : sem T sub 2 [fd f, .int n] = .ok (.int (take f n).1) [fd (take f n).2] := by
  rw [sem_eq]
  show runFn (below T sub 2) sub fn2 _ = _
  have hn : divOk n = true := divOk_of h0 (by omega)
  have h6 : divOk 65536 = true := divOk_of (by decide) (by decide)
  have hm : ∀ i : Int, mulOk i 69069 = true := fun i => mulOk_r (by decide)
  unfold fn2 runFn take
  by_cases h : 0 < f.1
  · simp [fd, evS_seq, evS_ife, evE_op, evE_idx, evE_var, evE_cst, bind_okk, gt, st, ofO, evOp2, idxS, atD, Mi.ixN, cmpI, h, evS_asg, bindT_nm, evE_bi, evEs_cons, evEs_nil, dsOf, evBi, biInt, intOp, h0, hn, evS_iset, evPl_sl, getP, setI, evMu, setP, evS_ret, outsOf]
  · simp [fd, evS_seq, evS_ife, evE_op, evE_idx, evE_var, evE_cst, bind_okk, gt, st, ofO, evOp2, idxS, atD, Mi.ixN, cmpI, h, evS_asg, bindT_nm, evE_bi, evEs_cons, evEs_nil, dsOf, evBi, biInt, intOp, h0, hn, evS_iset, evPl_sl, getP, setI, evMu, setP, evS_ret, outsOf, addG, mulG, hm, h6, evS_skip]
theorem take_range (f : Int × Int) (n : Int) (h : 0 < n) : 0 ≤ (take f n).1 ∧ (take f n).1 < n := by
  unfold take
  split
  · exact ⟨Int.emod_nonneg _ (by omega), Int.emod_lt_of_pos _ h⟩
  · exact ⟨Int.emod_nonneg _ (by omega), Int.emod_lt_of_pos _ h⟩
theorem sp3 (f : Int × Int) (ds : List D) (h0 : 0 < ds.length) (h1 : ds.length < 2 ^ 60) : ∃ d ∈ ds, sem T sub 3 [fd f, .lst ds] = .ok d [fd (take f ds.length).2] := by
  obtain ⟨r0, r1⟩ := take_range f ds.length (by omega)
  have hlt : (take f ds.length).1.toNat < ds.length := by omega
  refine ⟨ds[(take f ds.length).1.toNat], List.getElem_mem hlt, ?_⟩
  rw [sem_eq]
  show runFn (below T sub 3) sub fn3 _ = _
  unfold fn3 runFn
  have hc : below T sub 3 2 [fd f, .int ds.length] = .ok (.int (take f ds.length).1) [fd (take f ds.length).2] := sp1 f ds.length (by omega) (by omega)
  have hi : idxS (.lst ds) (.int (take f ds.length).1) = some ds[(take f ds.length).1.toNat] := by
    show (Mi.ixN ds.length (take f ds.length).1).bind (fun n => ds[n]?) = _
    unfold Mi.ixN
    rw [if_pos r0, if_pos r1]
    exact List.getElem?_eq_getElem hlt
  simp [evS_ret, evE_idx, evE_call, evEs_cons, evEs_nil, evEs_ref, evE_var, evE_bi, bind_okk, gt, st, ofO, arD, dsOf, evBi, biLen, len?, hc, callR, putO, hi, outsOf]
abbrev ZD (ls : List Int) : D := .lst (ls.map .int)
abbrev FD (f : Int × Int) : D := .lst [.int f.1, .int f.2]
theorem q1 (f : Int × Int) (n : Int) (h0 : 0 < n) (h1 : n < 2 ^ 60) : OKF (sem T sub 2 [FD f, .int n]) (fun d os => ∃ v f', d = .int v ∧ os = [FD f'] ∧ 0 ≤ v ∧ v < n) NX := by
  have h := sp1 f n h0 h1
  have e : fd f = FD f := rfl
  rw [e] at h
  rw [h]
  exact ⟨_, _, rfl, rfl, take_range f n h0⟩
theorem cut_mem {α : Type} {xs : List α} {lo hi : Option Int} {x : α} (h : x ∈ cut xs lo hi) : x ∈ xs := List.mem_of_mem_drop (List.mem_of_mem_take h)
theorem cut_len {α : Type} (xs : List α) (lo hi : Option Int) : (cut xs lo hi).length ≤ xs.length := by
  unfold cut
  rw [List.length_take, List.length_drop]; omega
theorem q0 (ns : List Int) (k : Int) (hl : ns.length ≤ 63) : OKF (sem T sub 0 [ZD ns, .int k]) (fun d os => ∃ f, d = FD f ∧ os = []) NX := by
  refine Wp.fn (E := [some (ZD ns), some (.int k), none, none]) (show T 0 = some ⟨_, _, _⟩ from rfl) rfl rfl ?_
  array_mem_dec
  refine Wp.sc ?_ ?_
  · have := cut_len (ns.map D.int) (some k) (some (k + 1))
    rw [List.length_map] at this
    show _ + 1 < 1000000
    omega
  array_mem_dec
  refine Wp.ixL (by decide) (by simp) ?_
  intro d _ hd
  obtain ⟨z, rfl⟩ : ∃ z, d = .int z := by
    rcases List.mem_append.1 hd with h | h
    · obtain ⟨z, _, h⟩ := List.mem_map.1 (cut_mem h)
      exact ⟨z, h.symm⟩
    · exact ⟨_, List.mem_singleton.1 h⟩
  array_mem_dec
  exact ⟨(_, _), rfl, rfl⟩
theorem q3 (f : Int × Int) (ds : List D) (h0 : 0 < ds.length) (h1 : ds.length < 2 ^ 60) : OKF (sem T sub 3 [FD f, .lst ds]) (fun d os => d ∈ ds ∧ ∃ f', os = [FD f']) NX := by
  obtain ⟨d, hd, h⟩ := sp3 f ds h0 h1
  have e : fd f = FD f := rfl
  rw [e] at h
  rw [h]
  exact ⟨hd, _, rfl⟩
end Lw
namespace Lw
open PySem Mi
local macro_rules | `(tactic| array_get_dec) => `(tactic| (first | ((with_reducible show OK (evE _ _ _) _ _); (with_reducible refine Wp.xE ?_)) | ((with_reducible show OK (evEs _ _ _) _ _); (with_reducible refine Wp.xEs ?_)) | ((with_reducible show OK (evS _ _ _ _) _ _); (with_reducible refine Wp.xS ?_)) | ((with_reducible show Wp.SQ _ _ _ _ _ _ _); (with_reducible refine Wp.xSQ ?_)) | ((with_reducible show OK (evHs _ _ _ _ _ _) _ _); (with_reducible refine Wp.xH ?_)) | ((with_reducible show ENV _ _); (with_reducible refine Wp.env (by dsimp only [st, gt, backE, wipeE]; try exact rfl) ?_)) | ((with_reducible show OKo (gt _ _) _); (show OKo (Option.some _) _); (with_reducible refine Wp.some_ ?_)) | ((with_reducible show OKo (evOp2 _ _ _) _); (with_reducible refine Wp.xO ?_)) | ((with_reducible show OKo (dsOf _) _); (with_reducible refine Wp.xDs ?_)) | ((with_reducible show OKo (arD _ _) _); (with_reducible refine Wp.xAr ?_)) | ((with_reducible show OKo (putO _ _ _) _); (with_reducible refine Wp.xPo ?_)) | ((with_reducible show OKo (evBi _ _) _); (with_reducible refine Wp.xBi ?_)) | ((with_reducible show OKo (bindT _ _ _) _); (with_reducible refine Wp.xB ?_)) | ((with_reducible show OKo (bindTs _ _ _) _); (with_reducible refine Wp.xBs ?_)) | ((with_reducible show OKo (stN _ _ _) _); (with_reducible refine Wp.xN ?_)) | ((with_reducible show OK (evIt _ _ _) _ _); (with_reducible refine Wp.xIt ?_)) | ((with_reducible show OK (evOp _ _ _) _ _); (with_reducible refine Wp.xOp ?_)) | ((with_reducible show OKo (outsOf _ _) _); (with_reducible refine Wp.xOu ?_)) | ((with_reducible show Wp.FB _ _ _ _); (with_reducible refine Wp.xFB ?_)) | ((with_reducible show Wp.WB _ _ _ _ _); (with_reducible refine Wp.xWB ?_)) | ((with_reducible show SC _ _); (with_reducible refine Wp.sc ?_ ?_); (focus first | assumption | ((with_reducible apply mulOk_r); decide) | ((with_reducible apply mulOk_l); decide) | ((with_reducible apply divOk_of); (focus decide); decide) | decide | omega | exact of_decide_eq_true rfl | (show _ < 1000000; omega) | (refine ⟨(by show _ < 1000000; omega), (by show _ < 1000000; omega)⟩) | (with_reducible exact rfl) | exact ⟨rfl, rfl⟩ | exact rfl)) | ((with_reducible show BR (.bl true) _ _); (with_reducible refine Wp.br_t ?_)) | ((with_reducible show BR (.bl false) _ _); (with_reducible refine Wp.br_f ?_)) | ((with_reducible show BR (.bl (_ && _)) _ _); (with_reducible refine Wp.br_and ?_)) | ((with_reducible show BR (.bl (!_)) _ _); (with_reducible refine Wp.br_n ?_)) | ((with_reducible show BR (.bl (@decide _ _)) _ _); (with_reducible refine Wp.br_dt ?_ ?_); (focus first | assumption | decide | omega | exact rfl | exact of_decide_eq_true rfl)) | ((with_reducible show BR (.bl (@decide _ _)) _ _); (with_reducible refine Wp.br_df ?_ ?_); (focus first | assumption | decide | omega | exact rfl | exact of_decide_eq_true rfl)) | ((with_reducible show BR (.bl _) _ _); (with_reducible refine Wp.br_ct ?_ ?_); (focus first | assumption | exact rfl)) | ((with_reducible show BR (.bl _) _ _); (with_reducible refine Wp.br_cf ?_ ?_); (focus first | assumption | exact rfl)) | ((with_reducible show OK (R.bind (evE _ _ _) (fun d e1 => .ok [d] e1)) _ _); (with_reducible refine Wp.one ?_)) | ((with_reducible show OKo _ _); (show OKo (Option.some _) _); (with_reducible refine Wp.some_ ?_))))
local macro_rules | `(tactic| array_mem_dec) => `(tactic| ((repeat (first | ((with_reducible show OK (evE _ _ _) _ _); (with_reducible refine Wp.xE ?_)) | ((with_reducible show OK (evEs _ _ _) _ _); (with_reducible refine Wp.xEs ?_)) | ((with_reducible show OK (evS _ _ _ _) _ _); (with_reducible refine Wp.xS ?_)) | ((with_reducible show Wp.SQ _ _ _ _ _ _ _); (with_reducible refine Wp.xSQ ?_)) | ((with_reducible show OK (evHs _ _ _ _ _ _) _ _); (with_reducible refine Wp.xH ?_)) | ((with_reducible show ENV _ _); (with_reducible refine Wp.env (by dsimp only [st, gt, backE, wipeE]; try exact rfl) ?_)) | ((with_reducible show OKo (gt _ _) _); (show OKo (Option.some _) _); (with_reducible refine Wp.some_ ?_)) | ((with_reducible show OKo (evOp2 _ _ _) _); (with_reducible refine Wp.xO ?_)) | ((with_reducible show OKo (dsOf _) _); (with_reducible refine Wp.xDs ?_)) | ((with_reducible show OKo (arD _ _) _); (with_reducible refine Wp.xAr ?_)) | ((with_reducible show OKo (putO _ _ _) _); (with_reducible refine Wp.xPo ?_)) | ((with_reducible show OKo (evBi _ _) _); (with_reducible refine Wp.xBi ?_)) | ((with_reducible show OKo (bindT _ _ _) _); (with_reducible refine Wp.xB ?_)) | ((with_reducible show OKo (bindTs _ _ _) _); (with_reducible refine Wp.xBs ?_)) | ((with_reducible show OKo (stN _ _ _) _); (with_reducible refine Wp.xN ?_)) | ((with_reducible show OK (evIt _ _ _) _ _); (with_reducible refine Wp.xIt ?_)) | ((with_reducible show OK (evOp _ _ _) _ _); (with_reducible refine Wp.xOp ?_)) | ((with_reducible show OKo (outsOf _ _) _); (with_reducible refine Wp.xOu ?_)) | ((with_reducible show Wp.FB _ _ _ _); (with_reducible refine Wp.xFB ?_)) | ((with_reducible show Wp.WB _ _ _ _ _); (with_reducible refine Wp.xWB ?_)) | ((with_reducible show SC _ _); (with_reducible refine Wp.sc ?_ ?_); (focus first | assumption | ((with_reducible apply mulOk_r); decide) | ((with_reducible apply mulOk_l); decide) | ((with_reducible apply divOk_of); (focus decide); decide) | decide | omega | exact of_decide_eq_true rfl | (show _ < 1000000; omega) | (refine ⟨(by show _ < 1000000; omega), (by show _ < 1000000; omega)⟩) | (with_reducible exact rfl) | exact ⟨rfl, rfl⟩ | exact rfl)) | ((with_reducible show BR (.bl true) _ _); (with_reducible refine Wp.br_t ?_)) | ((with_reducible show BR (.bl false) _ _); (with_reducible refine Wp.br_f ?_)) | ((with_reducible show BR (.bl (_ && _)) _ _); (with_reducible refine Wp.br_and ?_)) | ((with_reducible show BR (.bl (!_)) _ _); (with_reducible refine Wp.br_n ?_)) | ((with_reducible show BR (.bl (@decide _ _)) _ _); (with_reducible refine Wp.br_dt ?_ ?_); (focus first | assumption | decide | omega | exact rfl | exact of_decide_eq_true rfl)) | ((with_reducible show BR (.bl (@decide _ _)) _ _); (with_reducible refine Wp.br_df ?_ ?_); (focus first | assumption | decide | omega | exact rfl | exact of_decide_eq_true rfl)) | ((with_reducible show BR (.bl _) _ _); (with_reducible refine Wp.br_ct ?_ ?_); (focus first | assumption | exact rfl)) | ((with_reducible show BR (.bl _) _ _); (with_reducible refine Wp.br_cf ?_ ?_); (focus first | assumption | exact rfl)) | ((with_reducible show OK (R.bind (evE _ _ _) (fun d e1 => .ok [d] e1)) _ _); (with_reducible refine Wp.one ?_)) | ((with_reducible show OKo _ _); (show OKo (Option.some _) _); (with_reducible refine Wp.some_ ?_)))); try dsimp only))
local macro_rules | `(tactic| decreasing_trivial_pre_omega) => `(tactic| ((repeat ((fail_if_success (with_reducible show OK (evS _ _ (Sm.seq (Sm.ife _ _ _) _) _) _ _)); (first | ((with_reducible show OK (evE _ _ _) _ _); (with_reducible refine Wp.xE ?_)) | ((with_reducible show OK (evEs _ _ _) _ _); (with_reducible refine Wp.xEs ?_)) | ((with_reducible show OK (evS _ _ _ _) _ _); (with_reducible refine Wp.xS ?_)) | ((with_reducible show Wp.SQ _ _ _ _ _ _ _); (with_reducible refine Wp.xSQ ?_)) | ((with_reducible show OK (evHs _ _ _ _ _ _) _ _); (with_reducible refine Wp.xH ?_)) | ((with_reducible show ENV _ _); (with_reducible refine Wp.env (by dsimp only [st, gt, backE, wipeE]; try exact rfl) ?_)) | ((with_reducible show OKo (gt _ _) _); (show OKo (Option.some _) _); (with_reducible refine Wp.some_ ?_)) | ((with_reducible show OKo (evOp2 _ _ _) _); (with_reducible refine Wp.xO ?_)) | ((with_reducible show OKo (dsOf _) _); (with_reducible refine Wp.xDs ?_)) | ((with_reducible show OKo (arD _ _) _); (with_reducible refine Wp.xAr ?_)) | ((with_reducible show OKo (putO _ _ _) _); (with_reducible refine Wp.xPo ?_)) | ((with_reducible show OKo (evBi _ _) _); (with_reducible refine Wp.xBi ?_)) | ((with_reducible show OKo (bindT _ _ _) _); (with_reducible refine Wp.xB ?_)) | ((with_reducible show OKo (bindTs _ _ _) _); (with_reducible refine Wp.xBs ?_)) | ((with_reducible show OKo (stN _ _ _) _); (with_reducible refine Wp.xN ?_)) | ((with_reducible show OK (evIt _ _ _) _ _); (with_reducible refine Wp.xIt ?_)) | ((with_reducible show OK (evOp _ _ _) _ _); (with_reducible refine Wp.xOp ?_)) | ((with_reducible show OKo (outsOf _ _) _); (with_reducible refine Wp.xOu ?_)) | ((with_reducible show Wp.FB _ _ _ _); (with_reducible refine Wp.xFB ?_)) | ((with_reducible show Wp.WB _ _ _ _ _); (with_reducible refine Wp.xWB ?_)) | ((with_reducible show SC _ _); (with_reducible refine Wp.sc ?_ ?_); (focus first | assumption | ((with_reducible apply mulOk_r); decide) | ((with_reducible apply mulOk_l); decide) | ((with_reducible apply divOk_of); (focus decide); decide) | decide | omega | exact of_decide_eq_true rfl | (show _ < 1000000; omega) | (refine ⟨(by show _ < 1000000; omega), (by show _ < 1000000; omega)⟩) | (with_reducible exact rfl) | exact ⟨rfl, rfl⟩ | exact rfl)) | ((with_reducible show BR (.bl true) _ _); (with_reducible refine Wp.br_t ?_)) | ((with_reducible show BR (.bl false) _ _); (with_reducible refine Wp.br_f ?_)) | ((with_reducible show BR (.bl (_ && _)) _ _); (with_reducible refine Wp.br_and ?_)) | ((with_reducible show BR (.bl (!_)) _ _); (with_reducible refine Wp.br_n ?_)) | ((with_reducible show BR (.bl (@decide _ _)) _ _); (with_reducible refine Wp.br_dt ?_ ?_); (focus first | assumption | decide | omega | exact rfl | exact of_decide_eq_true rfl)) | ((with_reducible show BR (.bl (@decide _ _)) _ _); (with_reducible refine Wp.br_df ?_ ?_); (focus first | assumption | decide | omega | exact rfl | exact of_decide_eq_true rfl)) | ((with_reducible show BR (.bl _) _ _); (with_reducible refine Wp.br_ct ?_ ?_); (focus first | assumption | exact rfl)) | ((with_reducible show BR (.bl _) _ _); (with_reducible refine Wp.br_cf ?_ ?_); (focus first | assumption | exact rfl)) | ((with_reducible show OK (R.bind (evE _ _ _) (fun d e1 => .ok [d] e1)) _ _); (with_reducible refine Wp.one ?_)) | ((with_reducible show OKo _ _); (show OKo (Option.some _) _); (with_reducible refine Wp.some_ ?_))))); try dsimp only))
abbrev TD (ls : List Int) : D := .tup (ls.map .int)
def good (t : Nat) (ls : List Int) : Prop := ∀ l ∈ ls, 0 ≤ l ∧ l ≤ (t : Int)
theorem good_cut {t : Nat} {ls : List Int} (h : good t ls) (lo hi : Option Int) : good t (cut ls lo hi) := fun l hl => h l (cut_mem hl)
theorem good_app {t : Nat} {a b : List Int} (ha : good t a) (hb : good t b) : good t (a ++ b) := fun l hl => (List.mem_append.1 hl).elim (ha l) (hb l)
theorem good_one {t : Nat} {l : Int} (h0 : 0 ≤ l) (h1 : l ≤ t) : good t [l] := fun x hx => by rw [List.mem_singleton.1 hx]; exact ⟨h0, h1⟩
def F : Bool → List Int → Int → List Int
  | _, [], l => [l]
  | h, e :: r, l => if (if h then e ≤ l else l ≤ e) then [l] else e :: F (!h) r l
def stp (m : List Int) (l : Int) : List Int := if l = 0 then [] else F true m l
def M (ls : List Int) : List Int := ls.foldl stp []
def aft (e : Int) : List Int → List Int
  | [] => []
  | x :: r => if e ∈ r then aft e r else if x = e then r else x :: r
def ext (h : Bool) (x : Int) (xs : List Int) : Int := if h then xs.foldl max x else xs.foldl min x
def Lk : Nat → Bool → List Int → List Int
  | 0, _, _ => []
  | _ + 1, _, [] => []
  | n + 1, h, x :: xs => ext h x xs :: Lk n (!h) (aft (ext h x xs) (x :: xs))
theorem aft_not {e : Int} : ∀ {ls : List Int}, e ∉ ls → aft e ls = ls
  | [], _ => rfl
  | x :: r, h => by
    have h1 : e ∉ r := fun z => h (List.mem_cons_of_mem _ z)
    have h2 : ¬ x = e := fun z => h (by rw [z]; exact List.mem_cons_self ..)
    unfold aft
    rw [if_neg h1, if_neg h2]
theorem aft_lt {e : Int} : ∀ {ls : List Int}, e ∈ ls → (aft e ls).length < ls.length
  | [], h => by cases h
  | x :: r, h => by
    unfold aft
    split
    · rename_i h1
      have := aft_lt h1
      rw [List.length_cons]; omega
    · rename_i h1
      have hx : x = e := by
        rcases List.mem_cons.mp h with h | h
        · exact h.symm
        · exact absurd h h1
      rw [if_pos hx, List.length_cons]; omega
theorem aft_le (e : Int) (ls : List Int) : (aft e ls).length ≤ ls.length := by
  by_cases h : e ∈ ls
  · exact Nat.le_of_lt (aft_lt h)
  · rw [aft_not h]; exact Nat.le_refl _
theorem aft_snoc {e l : Int} (hl : l ≠ e) : ∀ ls : List Int, e ∈ ls → aft e (ls ++ [l]) = aft e ls ++ [l]
  | [], h => by cases h
  | x :: r, h => by
    have hm : e ∈ r ++ [l] ↔ e ∈ r := by
      rw [List.mem_append, List.mem_singleton]
      exact ⟨fun z => z.elim id fun z => absurd z.symm hl, .inl⟩
    show (if e ∈ r ++ [l] then aft e (r ++ [l]) else if x = e then r ++ [l] else x :: (r ++ [l])) = (if e ∈ r then aft e r else if x = e then r else x :: r) ++ [l]
    by_cases h1 : e ∈ r
    · rw [if_pos h1, if_pos (hm.mpr h1), aft_snoc hl r h1]
    · rw [if_neg h1, if_neg (fun z => h1 (hm.mp z))]
      split <;> rfl
theorem aft_snoc' {e l : Int} (hl : l ≠ e) (ls : List Int) : aft e (ls ++ [l]) = aft e ls ++ [l] := by
  by_cases h : e ∈ ls
  · exact aft_snoc hl ls h
  · rw [aft_not h, aft_not]
    intro z
    rcases List.mem_append.mp z with z | z
    · exact h z
    · exact hl (List.mem_singleton.mp z).symm
theorem aft_last (e : Int) : ∀ ls : List Int, aft e (ls ++ [e]) = []
  | [] => by simp [aft]
  | x :: r => by
    show (if e ∈ r ++ [e] then aft e (r ++ [e]) else _) = []
    rw [if_pos (by simp), aft_last e r]
theorem aft_step {e : Int} : ∀ ls : List Int, e ∈ ls → aft e (ls.drop (ls.idxOf e + 1)) = aft e ls
  | [], h => by cases h
  | x :: r, h => by
    by_cases hx : x = e
    · subst hx
      rw [List.idxOf_cons_self]
      show aft x r = (if x ∈ r then aft x r else if x = x then r else x :: r)
      split
      · rfl
      · rename_i h1
        rw [if_pos rfl, aft_not h1]
    · have hr : e ∈ r := by
        rcases List.mem_cons.mp h with h | h
        · exact absurd h.symm hx
        · exact h
      rw [List.idxOf_cons, show (x == e) = false from beq_false_of_ne hx]
      show aft e (r.drop (r.idxOf e + 1)) = (if e ∈ r then aft e r else _)
      rw [if_pos hr, aft_step r hr]
theorem foldl_max_mem : ∀ (xs : List Int) (x : Int), xs.foldl max x ∈ x :: xs
  | [], x => by simp
  | y :: r, x => by
    have := foldl_max_mem r (max x y)
    rcases List.mem_cons.mp this with h | h
    · show r.foldl max (max x y) ∈ _
      rw [h]
      by_cases hxy : x ≤ y
      · rw [Int.max_eq_right hxy]; simp
      · rw [Int.max_eq_left (by omega)]; simp
    · exact List.mem_cons_of_mem _ (List.mem_cons_of_mem _ h)
theorem foldl_min_mem : ∀ (xs : List Int) (x : Int), xs.foldl min x ∈ x :: xs
  | [], x => by simp
  | y :: r, x => by
    have := foldl_min_mem r (min x y)
    rcases List.mem_cons.mp this with h | h
    · show r.foldl min (min x y) ∈ _
      rw [h]
      by_cases hxy : x ≤ y
      · rw [Int.min_eq_left hxy]; simp
      · rw [Int.min_eq_right (by omega)]; simp
    · exact List.mem_cons_of_mem _ (List.mem_cons_of_mem _ h)
theorem ext_mem (h : Bool) (x : Int) (xs : List Int) : ext h x xs ∈ x :: xs := by
  cases h
  · exact foldl_min_mem xs x
  · exact foldl_max_mem xs x
theorem ext_snoc (h : Bool) (x : Int) (xs : List Int) (l : Int) : ext h x (xs ++ [l]) = if (if h then ext h x xs ≤ l else l ≤ ext h x xs) then l else ext h x xs := by
  cases h
  · show (xs ++ [l]).foldl min x = if l ≤ xs.foldl min x then l else xs.foldl min x
    rw [List.foldl_append]
    show min (xs.foldl min x) l = _
    rw [Int.min_def]
    split <;> split <;> omega
  · show (xs ++ [l]).foldl max x = if xs.foldl max x ≤ l then l else xs.foldl max x
    rw [List.foldl_append]
    show max (xs.foldl max x) l = _
    rw [Int.max_def]
theorem Lk_snoc : ∀ (n : Nat) (h : Bool) (z : List Int) (l : Int), z.length ≤ n → Lk (n + 1) h (z ++ [l]) = F h (Lk n h z) l
  | n, h, [], l, _ => by
    have e : Lk n h [] = [] := by cases n <;> rfl
    rw [e]
    show ext h l [] :: Lk n (!h) (aft (ext h l []) [l]) = [l]
    have e1 : ext h l [] = l := by cases h <;> rfl
    rw [e1]
    have e2 : aft l [l] = [] := aft_last l []
    rw [e2]
    cases n <;> rfl
  | 0, h, x :: xs, l, hn => by simp at hn
  | n + 1, h, x :: xs, l, hn => by
    show ext h x (xs ++ [l]) :: Lk (n + 1) (!h) (aft (ext h x (xs ++ [l])) (x :: (xs ++ [l]))) = F h (ext h x xs :: Lk n (!h) (aft (ext h x xs) (x :: xs))) l
    have hm := ext_mem h x xs
    rw [ext_snoc]
    show _ = if (if h then ext h x xs ≤ l else l ≤ ext h x xs) then [l] else ext h x xs :: F (!h) (Lk n (!h) (aft (ext h x xs) (x :: xs))) l
    by_cases hc : (if h then ext h x xs ≤ l else l ≤ ext h x xs)
    · rw [if_pos hc, if_pos hc]
      have e2 : aft l (x :: (xs ++ [l])) = [] := aft_last l (x :: xs)
      rw [e2]
      rfl
    · rw [if_neg hc, if_neg hc]
      have hne : l ≠ ext h x xs := by
        intro e
        apply hc
        split <;> omega
      have e2 : aft (ext h x xs) (x :: (xs ++ [l])) = aft (ext h x xs) (x :: xs) ++ [l] := aft_snoc hne (x :: xs) hm
      rw [e2, Lk_snoc n (!h) _ l (by have := aft_lt hm; rw [List.length_cons] at this hn; omega)]
theorem Lk_more : ∀ (n : Nat) (h : Bool) (z : List Int), z.length ≤ n → Lk (n + 1) h z = Lk n h z
  | 0, h, [], _ => rfl
  | n + 1, h, [], _ => rfl
  | 0, h, x :: xs, hn => by simp at hn
  | n + 1, h, x :: xs, hn => by
    show ext h x xs :: Lk (n + 1) (!h) (aft (ext h x xs) (x :: xs)) = ext h x xs :: Lk n (!h) (aft (ext h x xs) (x :: xs))
    rw [Lk_more n (!h) _ (by have := aft_lt (ext_mem h x xs); rw [List.length_cons] at this hn; omega)]
theorem Lk_any (h : Bool) (z : List Int) : ∀ n, z.length ≤ n → Lk n h z = Lk z.length h z := by
  intro n hn
  induction n with
  | zero => rw [show z.length = 0 by omega]
  | succ n ih =>
    by_cases e : z.length = n + 1
    · rw [e]
    · rw [Lk_more n h z (by omega), ih (by omega)]
def L (h : Bool) (z : List Int) : List Int := Lk z.length h z
theorem L_nil (h : Bool) : L h [] = [] := rfl
theorem L_cons (h : Bool) (x : Int) (xs : List Int) : L h (x :: xs) = ext h x xs :: L (!h) (aft (ext h x xs) (x :: xs)) := by
  show ext h x xs :: Lk xs.length (!h) (aft (ext h x xs) (x :: xs)) = _
  rw [Lk_any (!h) _ xs.length (by have := aft_lt (ext_mem h x xs); rw [List.length_cons] at this; omega)]
  rfl
theorem L_snoc (h : Bool) (z : List Int) (l : Int) : L h (z ++ [l]) = F h (L h z) l := by
  have := Lk_snoc z.length h z l (Nat.le_refl _)
  show Lk (z ++ [l]).length h (z ++ [l]) = _
  rw [List.length_append]
  exact this
theorem M_snoc (ls : List Int) (l : Int) : M (ls ++ [l]) = stp (M ls) l := by
  unfold M
  rw [List.foldl_append]
  rfl
theorem LM : ∀ n (ls : List Int), ls.length = n → L true (aft 0 ls) = M ls := by
  intro n
  induction n with
  | zero => intro ls h; rw [List.length_eq_zero_iff.mp h]; rfl
  | succ n ih =>
    intro ls h
    obtain ⟨z, l, rfl⟩ : ∃ z l, ls = z ++ [l] := by
      refine ⟨ls.dropLast, ls.getLast (by intro e; rw [e] at h; cases h), ?_⟩
      rw [List.dropLast_concat_getLast]
    rw [M_snoc, ← ih z (by rw [List.length_append] at h; simpa using h)]
    unfold stp
    by_cases h0 : l = 0
    · subst h0
      rw [aft_last, if_pos rfl]
      rfl
    · rw [if_neg h0, aft_snoc' h0, L_snoc]
theorem snoc_ind {P : List Int → Prop} (h0 : P []) (hs : ∀ z l, P z → P (z ++ [l])) : ∀ n (ls : List Int), ls.length = n → P ls := by
  intro n
  induction n with
  | zero => intro ls h; rw [List.length_eq_zero_iff.mp h]; exact h0
  | succ n ih =>
    intro ls h
    have hne : ls ≠ [] := by intro e; rw [e] at h; cases h
    have e := List.dropLast_concat_getLast hne
    rw [← e]
    exact hs _ _ (ih _ (by rw [List.length_dropLast]; omega))
def tab : Nat → List (List Int × Nat)
  | 1 => [([], 0), ([1], 1)]
  | 2 => [([], 0), ([1], 1), ([2], 7), ([2, 1], 3)]
  | 3 => [([], 0), ([1], 1), ([2], 7), ([3], 63), ([2, 1], 3), ([3, 1], 11), ([3, 2], 31), ([3, 1, 2], 15)]
  | 4 => [([], 0), ([1], 1), ([2], 7), ([3], 63), ([4], 1023), ([2, 1], 3), ([3, 1], 11), ([3, 2], 31), ([4, 1], 75), ([4, 2], 223), ([4, 3], 511), ([3, 1, 2], 15), ([4, 1, 2], 79), ([4, 1, 3], 127), ([4, 2, 3], 255), ([4, 1, 3, 2], 95)]
  | 5 => [([], 0), ([1], 1), ([2], 7), ([3], 63), ([4], 1023), ([5], 32767), ([2, 1], 3), ([3, 1], 11), ([3, 2], 31), ([4, 1], 75), ([4, 2], 223), ([4, 3], 511), ([5, 1], 1099), ([5, 2], 3295), ([5, 3], 7679), ([5, 4], 16383), ([3, 1, 2], 15), ([4, 1, 2], 79), ([4, 1, 3], 127), ([4, 2, 3], 255), ([5, 1, 2], 1103), ([5, 1, 3], 1151), ([5, 1, 4], 2047), ([5, 2, 3], 3327), ([5, 2, 4], 4095), ([5, 3, 4], 8191), ([4, 1, 3, 2], 95), ([5, 1, 3, 2], 1119), ([5, 1, 4, 2], 1247), ([5, 1, 4, 3], 1535), ([5, 2, 4, 3], 3583), ([5, 1, 4, 2, 3], 1279)]
  | 6 => [([], 0), ([1], 1), ([2], 7), ([3], 63), ([4], 1023), ([5], 32767), ([6], 2097151), ([2, 1], 3), ([3, 1], 11), ([3, 2], 31), ([4, 1], 75), ([4, 2], 223), ([4, 3], 511), ([5, 1], 1099), ([5, 2], 3295), ([5, 3], 7679), ([5, 4], 16383), ([6, 1], 33867), ([6, 2], 101599), ([6, 3], 237055), ([6, 4], 507903), ([6, 5], 1048575), ([3, 1, 2], 15), ([4, 1, 2], 79), ([4, 1, 3], 127), ([4, 2, 3], 255), ([5, 1, 2], 1103), ([5, 1, 3], 1151), ([5, 1, 4], 2047), ([5, 2, 3], 3327), ([5, 2, 4], 4095), ([5, 3, 4], 8191), ([6, 1, 2], 33871), ([6, 1, 3], 33919), ([6, 1, 4], 34815), ([6, 1, 5], 65535), ([6, 2, 3], 101631), ([6, 2, 4], 102399), ([6, 2, 5], 131071), ([6, 3, 4], 237567), ([6, 3, 5], 262143), ([6, 4, 5], 524287), ([4, 1, 3, 2], 95), ([5, 1, 3, 2], 1119), ([5, 1, 4, 2], 1247), ([5, 1, 4, 3], 1535), ([5, 2, 4, 3], 3583), ([6, 1, 3, 2], 33887), ([6, 1, 4, 2], 34015), ([6, 1, 4, 3], 34303), ([6, 1, 5, 2], 36063), ([6, 1, 5, 3], 40447), ([6, 1, 5, 4], 49151), ([6, 2, 4, 3], 101887), ([6, 2, 5, 3], 105983), ([6, 2, 5, 4], 114687), ([6, 3, 5, 4], 245759), ([5, 1, 4, 2, 3], 1279), ([6, 1, 4, 2, 3], 34047), ([6, 1, 5, 2, 3], 36095), ([6, 1, 5, 2, 4], 36863), ([6, 1, 5, 3, 4], 40959), ([6, 2, 5, 3, 4], 106495), ([6, 1, 5, 2, 4, 3], 36351)]
  | _ => []
theorem shp_ints (n : Nat) (k : List Int) : (k.map D.int).all (shp n) = true := by
  rw [List.all_eq_true]
  intro d hd
  obtain ⟨i, _, rfl⟩ := List.mem_map.mp hd
  cases n <;> rfl
theorem eqDs_ints : ∀ k l : List Int, eqDs (k.map D.int) (l.map D.int) = decide (k = l)
  | [], [] => rfl
  | [], _ :: _ => rfl
  | _ :: _, [] => rfl
  | a :: k, b :: l => by
    show (decide (a = b) && eqDs (k.map D.int) (l.map D.int)) = _
    rw [eqDs_ints k l]
    by_cases h : a = b <;> by_cases h' : k = l <;> simp [h, h']
theorem eq_TD (k l : List Int) : eqD (TD k) (TD l) = decide (k = l) := eqDs_ints k l
theorem shp_TD (k : List Int) : shp SD (TD k) = true := shp_ints 39 k
theorem any_ints (e : Int) : ∀ z : List Int, ((z.map D.int).any fun d => eqD d (.int e)) = decide (e ∈ z)
  | [] => rfl
  | x :: r => by
    rw [List.map_cons, List.any_cons, any_ints e r]
    show (decide (x = e) || decide (e ∈ r)) = _
    by_cases h : x = e
    · simp [h]
    · have h' : ¬ e = x := fun z => h z.symm
      by_cases g : e ∈ r <;> simp [h, h', g]
theorem find_ints (e : Int) : ∀ (z : List Int) (n : Nat), e ∈ z → findD (.int e) n (z.map D.int) = some (n + z.idxOf e)
  | [], _, h => by cases h
  | x :: r, n, h => by
    show (if decide (x = e) = true then some n else findD (.int e) (n + 1) (r.map D.int)) = _
    rw [List.idxOf_cons]
    by_cases hx : x = e
    · rw [if_pos (decide_eq_true hx), hx]
      simp
    · have hr : e ∈ r := by
        rcases List.mem_cons.mp h with h | h
        · exact absurd h.symm hx
        · exact h
      rw [if_neg (by simpa using hx), find_ints e r (n + 1) hr, show (x == e) = false from beq_false_of_ne hx]
      show _ = some (n + (r.idxOf e + 1))
      congr 1
      omega
theorem bi_index {e : Int} {z : List Int} (h : e ∈ z) : biIndex (ZD z) (.int e) = some (.int (z.idxOf e : Nat)) := by
  show (if shp SD (.int e) ∧ (z.map D.int).all (shp SD) then (findD (.int e) 0 (z.map D.int)).map fun (n : Nat) => D.int (n : Int) else none) = _
  rw [if_pos ⟨rfl, shp_ints SD z⟩, find_ints e z 0 h, Nat.zero_add]
  rfl
theorem cut_from {α : Type} (xs : List α) (n : Nat) : cut xs (some ((n : Int) + 1)) none = xs.drop (n + 1) := by
  unfold cut slI
  simp only
  rw [if_neg (by omega), show ((n : Int) + 1).toNat = n + 1 by omega]
  by_cases h : n + 1 ≤ xs.length
  · rw [Nat.min_eq_left h, List.take_of_length_le (by rw [List.length_drop]; omega)]
  · rw [Nat.min_eq_right (by omega), List.drop_of_length_le (Nat.le_refl _), List.drop_of_length_le (by omega)]
    simp
theorem ints_map' : ∀ k : List Int, ints? (k.map D.int) = some k
  | [] => rfl
  | a :: k => by
    show (ints? (k.map D.int)).map (a :: ·) = _
    rw [ints_map' k]
    rfl
theorem bi_max (x : Int) (xs : List Int) : biMM maxI (.lst (D.int x :: xs.map D.int)) = some (.int (ext true x xs)) := by
  show ((ints? ((x :: xs).map D.int)).bind maxI).map D.int = _
  rw [ints_map']
  rfl
theorem bi_min (x : Int) (xs : List Int) : biMM minI (.lst (D.int x :: xs.map D.int)) = some (.int (ext false x xs)) := by
  show ((ints? ((x :: xs).map D.int)).bind minI).map D.int = _
  rw [ints_map']
  rfl
theorem good6 {t : Nat} (ht : t < 7) {ls : List Int} (h : good t ls) : good 6 ls := fun l hl => ⟨(h l hl).1, by have := (h l hl).2; omega⟩
theorem ints_of : ∀ {xs : List D} {ns : List Int}, ints? xs = some ns → xs = ns.map .int
  | [], ns, h => by cases h; rfl
  | d :: ds, ns, h => by
    cases d <;> first | (cases h; done) | skip
    rename_i i
    have h : (ints? ds).map (i :: ·) = some ns := h
    obtain ⟨ms, h1, rfl⟩ := Option.map_eq_some_iff.1 h
    rw [ints_of h1]
    rfl
def okT (r : FR) (m : List Int) : Bool := match r with
  | .ok (.tup ds) [] => decide (ints? ds = some m)
  | _ => false
theorem okT_eq {r : FR} {m : List Int} (h : okT r m = true) : r = .ok (TD m) [] := by
  unfold okT at h
  split at h
  · rw [ints_of (of_decide_eq_true h)]
  · cases h
theorem lev_nat {t : Nat} {a : Int} (h0 : 0 ≤ a) (h1 : a ≤ t) : ∃ l ∈ List.range (t + 1), a = (l : Int) := ⟨a.toNat, List.mem_range.mpr (by omega), by omega⟩
def chkStep (t : Nat) : Bool := (tab t).all fun p => (List.range (t + 1)).all fun l => okT (sem T sub 13 [TD p.1, .int l]) (stp p.1 l)
def chkClo (t : Nat) : Bool := (tab t).all fun p => (List.range (t + 1)).all fun l => (tab t).any fun q => decide (q.1 = stp p.1 l)
def chkFix (t : Nat) : Bool := (tab t).all fun p => decide (M p.1 = p.1) && (p.1.all fun l => decide (0 ≤ l) && decide (l ≤ (t : Int))) && decide (p.1.length ≤ 20)
def chkNil (t : Nat) : Bool := ((tab t).any fun p => decide (p.1 = [])) && decide (0 < (tab t).length) && decide ((tab t).length < 100)
def msD (t : Nat) : List D := (tab t).map fun p => TD p.1
structure F11 (t : Nat) : Prop where
  step : chkStep t = true
  clo : chkClo t = true
  fix : chkFix t = true
  nil : chkNil t = true
  lmem : sem T sub 1 [.int t] = .ok (.lst (msD t)) []
theorem f1 : F11 1 := ⟨by decide +kernel, by decide +kernel, by decide +kernel, by decide +kernel, by kernel_rfl⟩
theorem f2 : F11 2 := ⟨by decide +kernel, by decide +kernel, by decide +kernel, by decide +kernel, by kernel_rfl⟩
theorem f3 : F11 3 := ⟨by decide +kernel, by decide +kernel, by decide +kernel, by decide +kernel, by kernel_rfl⟩
theorem f4 : F11 4 := ⟨by decide +kernel, by decide +kernel, by decide +kernel, by decide +kernel, by kernel_rfl⟩
theorem f5 : F11 5 := ⟨by decide +kernel, by decide +kernel, by decide +kernel, by decide +kernel, by kernel_rfl⟩
theorem f6 : F11 6 := ⟨by decide +kernel, by decide +kernel, by decide +kernel, by decide +kernel, by kernel_rfl⟩
theorem fA (t : Nat) (h0 : 1 ≤ t) (h1 : t ≤ 6) : F11 t := by
  match t, h0, h1 with
  | 1, _, _ => exact f1
  | 2, _, _ => exact f2
  | 3, _, _ => exact f3
  | 4, _, _ => exact f4
  | 5, _, _ => exact f5
  | 6, _, _ => exact f6
theorem step_get {t : Nat} (G : F11 t) {p : List Int × Nat} (hp : p ∈ tab t) {a : Int} (h0 : 0 ≤ a) (h1 : a ≤ t) : sem T sub 13 [TD p.1, .int a] = .ok (TD (stp p.1 a)) [] := by
  obtain ⟨l, hl, rfl⟩ := lev_nat h0 h1
  exact okT_eq (List.all_eq_true.mp (List.all_eq_true.mp G.step p hp) l hl)
theorem clo_get {t : Nat} (G : F11 t) {p : List Int × Nat} (hp : p ∈ tab t) {a : Int} (h0 : 0 ≤ a) (h1 : a ≤ t) : ∃ q ∈ tab t, q.1 = stp p.1 a := by
  obtain ⟨l, hl, rfl⟩ := lev_nat h0 h1
  have h := List.all_eq_true.mp (List.all_eq_true.mp G.clo p hp) l hl
  rw [List.any_eq_true] at h
  obtain ⟨q, h1, h2⟩ := h
  exact ⟨q, h1, of_decide_eq_true h2⟩
theorem fix_get {t : Nat} (G : F11 t) {p : List Int × Nat} (hp : p ∈ tab t) : M p.1 = p.1 ∧ good t p.1 ∧ p.1.length ≤ 20 := by
  have h := List.all_eq_true.mp G.fix p hp
  rw [Bool.and_eq_true, Bool.and_eq_true, List.all_eq_true] at h
  refine ⟨of_decide_eq_true h.1.1, fun l hl => ?_, of_decide_eq_true h.2⟩
  have h2 := h.1.2 l hl
  rw [Bool.and_eq_true] at h2
  exact ⟨of_decide_eq_true h2.1, of_decide_eq_true h2.2⟩
theorem M_tab {t : Nat} (G : F11 t) (ls : List Int) (hg : good t ls) : ∃ p ∈ tab t, p.1 = M ls := by
  revert hg
  refine snoc_ind (P := fun ls => good t ls → ∃ p ∈ tab t, p.1 = M ls) ?_ ?_ ls.length ls rfl
  · intro _
    have h := G.nil
    unfold chkNil at h
    rw [Bool.and_eq_true, Bool.and_eq_true] at h
    obtain ⟨p, h1, h2⟩ := List.any_eq_true.mp h.1.1
    exact ⟨p, h1, of_decide_eq_true h2⟩
  · intro z l ih hg
    obtain ⟨p, hp, e⟩ := ih fun x hx => hg x (List.mem_append_left _ hx)
    obtain ⟨h0, h1⟩ := hg l (List.mem_append_right _ (List.mem_singleton.mpr rfl))
    rw [M_snoc, ← e]
    exact clo_get G hp h0 h1
end Lw
namespace Lw
open PySem Mi
local macro_rules | `(tactic| array_get_dec) => `(tactic| (first | ((with_reducible show OK (evE _ _ _) _ _); (with_reducible refine Wp.xE ?_)) | ((with_reducible show OK (evEs _ _ _) _ _); (with_reducible refine Wp.xEs ?_)) | ((with_reducible show OK (evS _ _ _ _) _ _); (with_reducible refine Wp.xS ?_)) | ((with_reducible show Wp.SQ _ _ _ _ _ _ _); (with_reducible refine Wp.xSQ ?_)) | ((with_reducible show OK (evHs _ _ _ _ _ _) _ _); (with_reducible refine Wp.xH ?_)) | ((with_reducible show ENV _ _); (with_reducible refine Wp.env (by dsimp only [st, gt, backE, wipeE]; try exact rfl) ?_)) | ((with_reducible show OKo (gt _ _) _); (show OKo (Option.some _) _); (with_reducible refine Wp.some_ ?_)) | ((with_reducible show OKo (evOp2 _ _ _) _); (with_reducible refine Wp.xO ?_)) | ((with_reducible show OKo (dsOf _) _); (with_reducible refine Wp.xDs ?_)) | ((with_reducible show OKo (arD _ _) _); (with_reducible refine Wp.xAr ?_)) | ((with_reducible show OKo (putO _ _ _) _); (with_reducible refine Wp.xPo ?_)) | ((with_reducible show OKo (evBi _ _) _); (with_reducible refine Wp.xBi ?_)) | ((with_reducible show OKo (bindT _ _ _) _); (with_reducible refine Wp.xB ?_)) | ((with_reducible show OKo (bindTs _ _ _) _); (with_reducible refine Wp.xBs ?_)) | ((with_reducible show OKo (stN _ _ _) _); (with_reducible refine Wp.xN ?_)) | ((with_reducible show OK (evIt _ _ _) _ _); (with_reducible refine Wp.xIt ?_)) | ((with_reducible show OK (evOp _ _ _) _ _); (with_reducible refine Wp.xOp ?_)) | ((with_reducible show OKo (outsOf _ _) _); (with_reducible refine Wp.xOu ?_)) | ((with_reducible show Wp.FB _ _ _ _); (with_reducible refine Wp.xFB ?_)) | ((with_reducible show Wp.WB _ _ _ _ _); (with_reducible refine Wp.xWB ?_)) | ((with_reducible show SC _ _); (with_reducible refine Wp.sc ?_ ?_); (focus first | assumption | ((with_reducible apply mulOk_r); decide) | ((with_reducible apply mulOk_l); decide) | ((with_reducible apply divOk_of); (focus decide); decide) | decide | omega | exact of_decide_eq_true rfl | (show _ < 1000000; omega) | (refine ⟨(by show _ < 1000000; omega), (by show _ < 1000000; omega)⟩) | (with_reducible exact rfl) | exact ⟨rfl, rfl⟩ | exact rfl)) | ((with_reducible show BR (.bl true) _ _); (with_reducible refine Wp.br_t ?_)) | ((with_reducible show BR (.bl false) _ _); (with_reducible refine Wp.br_f ?_)) | ((with_reducible show BR (.bl (_ && _)) _ _); (with_reducible refine Wp.br_and ?_)) | ((with_reducible show BR (.bl (!_)) _ _); (with_reducible refine Wp.br_n ?_)) | ((with_reducible show BR (.bl (@decide _ _)) _ _); (with_reducible refine Wp.br_dt ?_ ?_); (focus first | assumption | decide | omega | exact rfl | exact of_decide_eq_true rfl)) | ((with_reducible show BR (.bl (@decide _ _)) _ _); (with_reducible refine Wp.br_df ?_ ?_); (focus first | assumption | decide | omega | exact rfl | exact of_decide_eq_true rfl)) | ((with_reducible show BR (.bl _) _ _); (with_reducible refine Wp.br_ct ?_ ?_); (focus first | assumption | exact rfl)) | ((with_reducible show BR (.bl _) _ _); (with_reducible refine Wp.br_cf ?_ ?_); (focus first | assumption | exact rfl)) | ((with_reducible show OK (R.bind (evE _ _ _) (fun d e1 => .ok [d] e1)) _ _); (with_reducible refine Wp.one ?_)) | ((with_reducible show OKo _ _); (show OKo (Option.some _) _); (with_reducible refine Wp.some_ ?_))))
local macro_rules | `(tactic| array_mem_dec) => `(tactic| ((repeat (first | ((with_reducible show OK (evE _ _ _) _ _); (with_reducible refine Wp.xE ?_)) | ((with_reducible show OK (evEs _ _ _) _ _); (with_reducible refine Wp.xEs ?_)) | ((with_reducible show OK (evS _ _ _ _) _ _); (with_reducible refine Wp.xS ?_)) | ((with_reducible show Wp.SQ _ _ _ _ _ _ _); (with_reducible refine Wp.xSQ ?_)) | ((with_reducible show OK (evHs _ _ _ _ _ _) _ _); (with_reducible refine Wp.xH ?_)) | ((with_reducible show ENV _ _); (with_reducible refine Wp.env (by dsimp only [st, gt, backE, wipeE]; try exact rfl) ?_)) | ((with_reducible show OKo (gt _ _) _); (show OKo (Option.some _) _); (with_reducible refine Wp.some_ ?_)) | ((with_reducible show OKo (evOp2 _ _ _) _); (with_reducible refine Wp.xO ?_)) | ((with_reducible show OKo (dsOf _) _); (with_reducible refine Wp.xDs ?_)) | ((with_reducible show OKo (arD _ _) _); (with_reducible refine Wp.xAr ?_)) | ((with_reducible show OKo (putO _ _ _) _); (with_reducible refine Wp.xPo ?_)) | ((with_reducible show OKo (evBi _ _) _); (with_reducible refine Wp.xBi ?_)) | ((with_reducible show OKo (bindT _ _ _) _); (with_reducible refine Wp.xB ?_)) | ((with_reducible show OKo (bindTs _ _ _) _); (with_reducible refine Wp.xBs ?_)) | ((with_reducible show OKo (stN _ _ _) _); (with_reducible refine Wp.xN ?_)) | ((with_reducible show OK (evIt _ _ _) _ _); (with_reducible refine Wp.xIt ?_)) | ((with_reducible show OK (evOp _ _ _) _ _); (with_reducible refine Wp.xOp ?_)) | ((with_reducible show OKo (outsOf _ _) _); (with_reducible refine Wp.xOu ?_)) | ((with_reducible show Wp.FB _ _ _ _); (with_reducible refine Wp.xFB ?_)) | ((with_reducible show Wp.WB _ _ _ _ _); (with_reducible refine Wp.xWB ?_)) | ((with_reducible show SC _ _); (with_reducible refine Wp.sc ?_ ?_); (focus first | assumption | ((with_reducible apply mulOk_r); decide) | ((with_reducible apply mulOk_l); decide) | ((with_reducible apply divOk_of); (focus decide); decide) | decide | omega | exact of_decide_eq_true rfl | (show _ < 1000000; omega) | (refine ⟨(by show _ < 1000000; omega), (by show _ < 1000000; omega)⟩) | (with_reducible exact rfl) | exact ⟨rfl, rfl⟩ | exact rfl)) | ((with_reducible show BR (.bl true) _ _); (with_reducible refine Wp.br_t ?_)) | ((with_reducible show BR (.bl false) _ _); (with_reducible refine Wp.br_f ?_)) | ((with_reducible show BR (.bl (_ && _)) _ _); (with_reducible refine Wp.br_and ?_)) | ((with_reducible show BR (.bl (!_)) _ _); (with_reducible refine Wp.br_n ?_)) | ((with_reducible show BR (.bl (@decide _ _)) _ _); (with_reducible refine Wp.br_dt ?_ ?_); (focus first | assumption | decide | omega | exact rfl | exact of_decide_eq_true rfl)) | ((with_reducible show BR (.bl (@decide _ _)) _ _); (with_reducible refine Wp.br_df ?_ ?_); (focus first | assumption | decide | omega | exact rfl | exact of_decide_eq_true rfl)) | ((with_reducible show BR (.bl _) _ _); (with_reducible refine Wp.br_ct ?_ ?_); (focus first | assumption | exact rfl)) | ((with_reducible show BR (.bl _) _ _); (with_reducible refine Wp.br_cf ?_ ?_); (focus first | assumption | exact rfl)) | ((with_reducible show OK (R.bind (evE _ _ _) (fun d e1 => .ok [d] e1)) _ _); (with_reducible refine Wp.one ?_)) | ((with_reducible show OKo _ _); (show OKo (Option.some _) _); (with_reducible refine Wp.some_ ?_)))); try dsimp only))
local macro_rules | `(tactic| decreasing_trivial_pre_omega) => `(tactic| ((repeat ((fail_if_success (with_reducible show OK (evS _ _ (Sm.seq (Sm.ife _ _ _) _) _) _ _)); (first | ((with_reducible show OK (evE _ _ _) _ _); (with_reducible refine Wp.xE ?_)) | ((with_reducible show OK (evEs _ _ _) _ _); (with_reducible refine Wp.xEs ?_)) | ((with_reducible show OK (evS _ _ _ _) _ _); (with_reducible refine Wp.xS ?_)) | ((with_reducible show Wp.SQ _ _ _ _ _ _ _); (with_reducible refine Wp.xSQ ?_)) | ((with_reducible show OK (evHs _ _ _ _ _ _) _ _); (with_reducible refine Wp.xH ?_)) | ((with_reducible show ENV _ _); (with_reducible refine Wp.env (by dsimp only [st, gt, backE, wipeE]; try exact rfl) ?_)) | ((with_reducible show OKo (gt _ _) _); (show OKo (Option.some _) _); (with_reducible refine Wp.some_ ?_)) | ((with_reducible show OKo (evOp2 _ _ _) _); (with_reducible refine Wp.xO ?_)) | ((with_reducible show OKo (dsOf _) _); (with_reducible refine Wp.xDs ?_)) | ((with_reducible show OKo (arD _ _) _); (with_reducible refine Wp.xAr ?_)) | ((with_reducible show OKo (putO _ _ _) _); (with_reducible refine Wp.xPo ?_)) | ((with_reducible show OKo (evBi _ _) _); (with_reducible refine Wp.xBi ?_)) | ((with_reducible show OKo (bindT _ _ _) _); (with_reducible refine Wp.xB ?_)) | ((with_reducible show OKo (bindTs _ _ _) _); (with_reducible refine Wp.xBs ?_)) | ((with_reducible show OKo (stN _ _ _) _); (with_reducible refine Wp.xN ?_)) | ((with_reducible show OK (evIt _ _ _) _ _); (with_reducible refine Wp.xIt ?_)) | ((with_reducible show OK (evOp _ _ _) _ _); (with_reducible refine Wp.xOp ?_)) | ((with_reducible show OKo (outsOf _ _) _); (with_reducible refine Wp.xOu ?_)) | ((with_reducible show Wp.FB _ _ _ _); (with_reducible refine Wp.xFB ?_)) | ((with_reducible show Wp.WB _ _ _ _ _); (with_reducible refine Wp.xWB ?_)) | ((with_reducible show SC _ _); (with_reducible refine Wp.sc ?_ ?_); (focus first | assumption | ((with_reducible apply mulOk_r); decide) | ((with_reducible apply mulOk_l); decide) | ((with_reducible apply divOk_of); (focus decide); decide) | decide | omega | exact of_decide_eq_true rfl | (show _ < 1000000; omega) | (refine ⟨(by show _ < 1000000; omega), (by show _ < 1000000; omega)⟩) | (with_reducible exact rfl) | exact ⟨rfl, rfl⟩ | exact rfl)) | ((with_reducible show BR (.bl true) _ _); (with_reducible refine Wp.br_t ?_)) | ((with_reducible show BR (.bl false) _ _); (with_reducible refine Wp.br_f ?_)) | ((with_reducible show BR (.bl (_ && _)) _ _); (with_reducible refine Wp.br_and ?_)) | ((with_reducible show BR (.bl (!_)) _ _); (with_reducible refine Wp.br_n ?_)) | ((with_reducible show BR (.bl (@decide _ _)) _ _); (with_reducible refine Wp.br_dt ?_ ?_); (focus first | assumption | decide | omega | exact rfl | exact of_decide_eq_true rfl)) | ((with_reducible show BR (.bl (@decide _ _)) _ _); (with_reducible refine Wp.br_df ?_ ?_); (focus first | assumption | decide | omega | exact rfl | exact of_decide_eq_true rfl)) | ((with_reducible show BR (.bl _) _ _); (with_reducible refine Wp.br_ct ?_ ?_); (focus first | assumption | exact rfl)) | ((with_reducible show BR (.bl _) _ _); (with_reducible refine Wp.br_cf ?_ ?_); (focus first | assumption | exact rfl)) | ((with_reducible show OK (R.bind (evE _ _ _) (fun d e1 => .ok [d] e1)) _ _); (with_reducible refine Wp.one ?_)) | ((with_reducible show OKo _ _); (show OKo (Option.some _) _); (with_reducible refine Wp.some_ ?_))))); try dsimp only))
theorem q4 (ls : List Int) (hl : ls.length < 1000) : OKF (sem T sub 4 [ZD ls]) (fun r os => r = TD (M ls) ∧ os = []) NX := by
  refine Wp.fn (E := [some (ZD ls), none, none, none, none]) (show T 4 = some ⟨_, _, _⟩ from rfl) rfl rfl ?_
  array_mem_dec
  refine Wp.whl (fun n e => ∃ z, n = z.length ∧ z.length ≤ ls.length ∧ aft 0 z = aft 0 ls ∧ e = [some (ZD ls), some (ZD z), some (.lst []), some (.bl true), none]) ls.length ⟨ls, rfl, Nat.le_refl _, rfl, rfl⟩ (by omega) ?_
  · rintro _ _ ⟨z, rfl, hzl, hz, rfl⟩
    have hs : shp SD (.int 0) = true ∧ (z.map D.int).all (shp SD) = true := ⟨rfl, shp_ints SD z⟩
    array_mem_dec
    rw [any_ints]
    refine Wp.br_d (fun h => ?_) (fun h => ?_)
    · array_mem_dec
      refine Wp.some (bi_index h) ?_
      array_mem_dec
      rw [cut_from, ← List.map_drop]
      have := List.length_drop (l := z) (i := z.idxOf 0 + 1)
      have := List.idxOf_lt_length_of_mem h
      exact ⟨_, by omega, _, rfl, by omega, by rw [aft_step z h]; exact hz, rfl⟩
    · rw [aft_not h] at hz
      array_mem_dec
      refine Wp.whl (fun n e => ∃ (z out : List Int) (h : Bool) (x : Option D), n = z.length ∧ out.length + z.length ≤ ls.length ∧ out ++ L h z = L true (aft 0 ls) ∧ e = [some (ZD ls), some (ZD z), some (ZD out), some (.bl h), x]) z.length ⟨z, [], true, none, rfl, by simpa using hzl, by rw [← hz]; rfl, rfl⟩ (by omega) ?_
      rintro _ _ ⟨z, out, h, x3, rfl, hzl, hz, rfl⟩
      have hs : shp SD (ZD z) = true ∧ shp SD (.lst []) = true := ⟨shp_ints 39 z, rfl⟩
      cases z with
      | nil =>
        have hz : out = M ls := by
          rw [← LM _ ls rfl, ← hz]
          show _ = out ++ []
          rw [List.append_nil]
        array_mem_dec
        rw [hz]
        exact ⟨rfl, rfl⟩
      | cons x xs =>
        array_mem_dec
        obtain ⟨w, hw⟩ : ∃ w, w = ext h x xs := ⟨_, rfl⟩
        have hm : w ∈ x :: xs := hw ▸ ext_mem h x xs
        have hL : (out ++ [w]) ++ L (!h) (aft w (x :: xs)) = L true (aft 0 ls) := by
          rw [← hz, L_cons, ← hw, List.append_assoc]
          rfl
        have hlt := aft_lt hm
        rw [List.length_cons] at hlt hzl
        refine Wp.br_c (fun hp => ?_) (fun hp => ?_)
        all_goals
          subst hp
          array_mem_dec
          first | refine Wp.some (bi_max x xs) ?_ | refine Wp.some (bi_min x xs) ?_
          rw [← hw]
          array_mem_dec
          refine Wp.sc (by rw [List.length_map]; show _ < 1000000; omega) ?_
          rw [show out.map D.int ++ [D.int w] = (out ++ [w]).map D.int by simp]
          array_mem_dec
          refine Wp.whl (fun n e => ∃ z', n = z'.length ∧ aft w z' = aft w (x :: xs) ∧ e = [some (ZD ls), some (ZD z'), some (ZD (out ++ [w])), some (.bl _), some (.int w)]) (xs.length + 1) ⟨x :: xs, rfl, rfl, rfl⟩ (by omega) ?_
          rintro _ _ ⟨z', rfl, hz', rfl⟩
          have hs : shp SD (.int w) = true ∧ (z'.map D.int).all (shp SD) = true := ⟨rfl, shp_ints SD z'⟩
          array_mem_dec
          rw [any_ints]
          refine Wp.br_d (fun h => ?_) (fun h => ?_)
          · array_mem_dec
            refine Wp.some (bi_index h) ?_
            array_mem_dec
            rw [cut_from, ← List.map_drop]
            have := List.length_drop (l := z') (i := z'.idxOf w + 1)
            have := List.idxOf_lt_length_of_mem h
            exact ⟨_, by omega, _, rfl, by rw [aft_step z' h]; exact hz', rfl⟩
          · rw [aft_not h] at hz'
            array_mem_dec
            rw [← hz'] at hlt hL
            exact ⟨_, hlt, _, _, _, _, rfl, by rw [List.length_append]; simp; omega, hL, rfl⟩
theorem q5 (m ls : List Int) (hl : m.length + ls.length < 900) : OKF (sem T sub 5 [TD m, ZD ls]) (fun r os => r = TD (M (m ++ ls)) ∧ os = []) NX := by
  refine Wp.fn (E := [some (TD m), some (ZD ls)]) (show T 5 = some ⟨_, _, _⟩ from rfl) rfl rfl ?_
  array_mem_dec
  refine Wp.sc (by rw [List.length_map, List.length_map]; show _ < 1000000; omega) ?_
  rw [← List.map_append]
  array_mem_dec
  refine Wp.c_by (by decide) (q4 (m ++ ls) (by rw [List.length_append]; omega)) ?_
  rintro _ _ ⟨rfl, rfl⟩
  array_mem_dec
  exact ⟨rfl, rfl⟩
end Lw
namespace Lw
open PySem Mi
local macro_rules | `(tactic| array_get_dec) => `(tactic| (first | ((with_reducible show OK (evE _ _ _) _ _); (with_reducible refine Wp.xE ?_)) | ((with_reducible show OK (evEs _ _ _) _ _); (with_reducible refine Wp.xEs ?_)) | ((with_reducible show OK (evS _ _ _ _) _ _); (with_reducible refine Wp.xS ?_)) | ((with_reducible show Wp.SQ _ _ _ _ _ _ _); (with_reducible refine Wp.xSQ ?_)) | ((with_reducible show OK (evHs _ _ _ _ _ _) _ _); (with_reducible refine Wp.xH ?_)) | ((with_reducible show ENV _ _); (with_reducible refine Wp.env (by dsimp only [st, gt, backE, wipeE]; try exact rfl) ?_)) | ((with_reducible show OKo (gt _ _) _); (show OKo (Option.some _) _); (with_reducible refine Wp.some_ ?_)) | ((with_reducible show OKo (evOp2 _ _ _) _); (with_reducible refine Wp.xO ?_)) | ((with_reducible show OKo (dsOf _) _); (with_reducible refine Wp.xDs ?_)) | ((with_reducible show OKo (arD _ _) _); (with_reducible refine Wp.xAr ?_)) | ((with_reducible show OKo (putO _ _ _) _); (with_reducible refine Wp.xPo ?_)) | ((with_reducible show OKo (evBi _ _) _); (with_reducible refine Wp.xBi ?_)) | ((with_reducible show OKo (bindT _ _ _) _); (with_reducible refine Wp.xB ?_)) | ((with_reducible show OKo (bindTs _ _ _) _); (with_reducible refine Wp.xBs ?_)) | ((with_reducible show OKo (stN _ _ _) _); (with_reducible refine Wp.xN ?_)) | ((with_reducible show OK (evIt _ _ _) _ _); (with_reducible refine Wp.xIt ?_)) | ((with_reducible show OK (evOp _ _ _) _ _); (with_reducible refine Wp.xOp ?_)) | ((with_reducible show OKo (outsOf _ _) _); (with_reducible refine Wp.xOu ?_)) | ((with_reducible show Wp.FB _ _ _ _); (with_reducible refine Wp.xFB ?_)) | ((with_reducible show Wp.WB _ _ _ _ _); (with_reducible refine Wp.xWB ?_)) | ((with_reducible show SC _ _); (with_reducible refine Wp.sc ?_ ?_); (focus first | assumption | ((with_reducible apply mulOk_r); decide) | ((with_reducible apply mulOk_l); decide) | ((with_reducible apply divOk_of); (focus decide); decide) | decide | omega | exact of_decide_eq_true rfl | (show _ < 1000000; omega) | (refine ⟨(by show _ < 1000000; omega), (by show _ < 1000000; omega)⟩) | (with_reducible exact rfl) | exact ⟨rfl, rfl⟩ | exact rfl)) | ((with_reducible show BR (.bl true) _ _); (with_reducible refine Wp.br_t ?_)) | ((with_reducible show BR (.bl false) _ _); (with_reducible refine Wp.br_f ?_)) | ((with_reducible show BR (.bl (_ && _)) _ _); (with_reducible refine Wp.br_and ?_)) | ((with_reducible show BR (.bl (!_)) _ _); (with_reducible refine Wp.br_n ?_)) | ((with_reducible show BR (.bl (@decide _ _)) _ _); (with_reducible refine Wp.br_dt ?_ ?_); (focus first | assumption | decide | omega | exact rfl | exact of_decide_eq_true rfl)) | ((with_reducible show BR (.bl (@decide _ _)) _ _); (with_reducible refine Wp.br_df ?_ ?_); (focus first | assumption | decide | omega | exact rfl | exact of_decide_eq_true rfl)) | ((with_reducible show BR (.bl _) _ _); (with_reducible refine Wp.br_ct ?_ ?_); (focus first | assumption | exact rfl)) | ((with_reducible show BR (.bl _) _ _); (with_reducible refine Wp.br_cf ?_ ?_); (focus first | assumption | exact rfl)) | ((with_reducible show OK (R.bind (evE _ _ _) (fun d e1 => .ok [d] e1)) _ _); (with_reducible refine Wp.one ?_)) | ((with_reducible show OKo _ _); (show OKo (Option.some _) _); (with_reducible refine Wp.some_ ?_))))
local macro_rules | `(tactic| array_mem_dec) => `(tactic| ((repeat (first | ((with_reducible show OK (evE _ _ _) _ _); (with_reducible refine Wp.xE ?_)) | ((with_reducible show OK (evEs _ _ _) _ _); (with_reducible refine Wp.xEs ?_)) | ((with_reducible show OK (evS _ _ _ _) _ _); (with_reducible refine Wp.xS ?_)) | ((with_reducible show Wp.SQ _ _ _ _ _ _ _); (with_reducible refine Wp.xSQ ?_)) | ((with_reducible show OK (evHs _ _ _ _ _ _) _ _); (with_reducible refine Wp.xH ?_)) | ((with_reducible show ENV _ _); (with_reducible refine Wp.env (by dsimp only [st, gt, backE, wipeE]; try exact rfl) ?_)) | ((with_reducible show OKo (gt _ _) _); (show OKo (Option.some _) _); (with_reducible refine Wp.some_ ?_)) | ((with_reducible show OKo (evOp2 _ _ _) _); (with_reducible refine Wp.xO ?_)) | ((with_reducible show OKo (dsOf _) _); (with_reducible refine Wp.xDs ?_)) | ((with_reducible show OKo (arD _ _) _); (with_reducible refine Wp.xAr ?_)) | ((with_reducible show OKo (putO _ _ _) _); (with_reducible refine Wp.xPo ?_)) | ((with_reducible show OKo (evBi _ _) _); (with_reducible refine Wp.xBi ?_)) | ((with_reducible show OKo (bindT _ _ _) _); (with_reducible refine Wp.xB ?_)) | ((with_reducible show OKo (bindTs _ _ _) _); (with_reducible refine Wp.xBs ?_)) | ((with_reducible show OKo (stN _ _ _) _); (with_reducible refine Wp.xN ?_)) | ((with_reducible show OK (evIt _ _ _) _ _); (with_reducible refine Wp.xIt ?_)) | ((with_reducible show OK (evOp _ _ _) _ _); (with_reducible refine Wp.xOp ?_)) | ((with_reducible show OKo (outsOf _ _) _); (with_reducible refine Wp.xOu ?_)) | ((with_reducible show Wp.FB _ _ _ _); (with_reducible refine Wp.xFB ?_)) | ((with_reducible show Wp.WB _ _ _ _ _); (with_reducible refine Wp.xWB ?_)) | ((with_reducible show SC _ _); (with_reducible refine Wp.sc ?_ ?_); (focus first | assumption | ((with_reducible apply mulOk_r); decide) | ((with_reducible apply mulOk_l); decide) | ((with_reducible apply divOk_of); (focus decide); decide) | decide | omega | exact of_decide_eq_true rfl | (show _ < 1000000; omega) | (refine ⟨(by show _ < 1000000; omega), (by show _ < 1000000; omega)⟩) | (with_reducible exact rfl) | exact ⟨rfl, rfl⟩ | exact rfl)) | ((with_reducible show BR (.bl true) _ _); (with_reducible refine Wp.br_t ?_)) | ((with_reducible show BR (.bl false) _ _); (with_reducible refine Wp.br_f ?_)) | ((with_reducible show BR (.bl (_ && _)) _ _); (with_reducible refine Wp.br_and ?_)) | ((with_reducible show BR (.bl (!_)) _ _); (with_reducible refine Wp.br_n ?_)) | ((with_reducible show BR (.bl (@decide _ _)) _ _); (with_reducible refine Wp.br_dt ?_ ?_); (focus first | assumption | decide | omega | exact rfl | exact of_decide_eq_true rfl)) | ((with_reducible show BR (.bl (@decide _ _)) _ _); (with_reducible refine Wp.br_df ?_ ?_); (focus first | assumption | decide | omega | exact rfl | exact of_decide_eq_true rfl)) | ((with_reducible show BR (.bl _) _ _); (with_reducible refine Wp.br_ct ?_ ?_); (focus first | assumption | exact rfl)) | ((with_reducible show BR (.bl _) _ _); (with_reducible refine Wp.br_cf ?_ ?_); (focus first | assumption | exact rfl)) | ((with_reducible show OK (R.bind (evE _ _ _) (fun d e1 => .ok [d] e1)) _ _); (with_reducible refine Wp.one ?_)) | ((with_reducible show OKo _ _); (show OKo (Option.some _) _); (with_reducible refine Wp.some_ ?_)))); try dsimp only))
local macro_rules | `(tactic| decreasing_trivial_pre_omega) => `(tactic| ((repeat ((fail_if_success (with_reducible show OK (evS _ _ (Sm.seq (Sm.ife _ _ _) _) _) _ _)); (first | ((with_reducible show OK (evE _ _ _) _ _); (with_reducible refine Wp.xE ?_)) | ((with_reducible show OK (evEs _ _ _) _ _); (with_reducible refine Wp.xEs ?_)) | ((with_reducible show OK (evS _ _ _ _) _ _); (with_reducible refine Wp.xS ?_)) | ((with_reducible show Wp.SQ _ _ _ _ _ _ _); (with_reducible refine Wp.xSQ ?_)) | ((with_reducible show OK (evHs _ _ _ _ _ _) _ _); (with_reducible refine Wp.xH ?_)) | ((with_reducible show ENV _ _); (with_reducible refine Wp.env (by dsimp only [st, gt, backE, wipeE]; try exact rfl) ?_)) | ((with_reducible show OKo (gt _ _) _); (show OKo (Option.some _) _); (with_reducible refine Wp.some_ ?_)) | ((with_reducible show OKo (evOp2 _ _ _) _); (with_reducible refine Wp.xO ?_)) | ((with_reducible show OKo (dsOf _) _); (with_reducible refine Wp.xDs ?_)) | ((with_reducible show OKo (arD _ _) _); (with_reducible refine Wp.xAr ?_)) | ((with_reducible show OKo (putO _ _ _) _); (with_reducible refine Wp.xPo ?_)) | ((with_reducible show OKo (evBi _ _) _); (with_reducible refine Wp.xBi ?_)) | ((with_reducible show OKo (bindT _ _ _) _); (with_reducible refine Wp.xB ?_)) | ((with_reducible show OKo (bindTs _ _ _) _); (with_reducible refine Wp.xBs ?_)) | ((with_reducible show OKo (stN _ _ _) _); (with_reducible refine Wp.xN ?_)) | ((with_reducible show OK (evIt _ _ _) _ _); (with_reducible refine Wp.xIt ?_)) | ((with_reducible show OK (evOp _ _ _) _ _); (with_reducible refine Wp.xOp ?_)) | ((with_reducible show OKo (outsOf _ _) _); (with_reducible refine Wp.xOu ?_)) | ((with_reducible show Wp.FB _ _ _ _); (with_reducible refine Wp.xFB ?_)) | ((with_reducible show Wp.WB _ _ _ _ _); (with_reducible refine Wp.xWB ?_)) | ((with_reducible show SC _ _); (with_reducible refine Wp.sc ?_ ?_); (focus first | assumption | ((with_reducible apply mulOk_r); decide) | ((with_reducible apply mulOk_l); decide) | ((with_reducible apply divOk_of); (focus decide); decide) | decide | omega | exact of_decide_eq_true rfl | (show _ < 1000000; omega) | (refine ⟨(by show _ < 1000000; omega), (by show _ < 1000000; omega)⟩) | (with_reducible exact rfl) | exact ⟨rfl, rfl⟩ | exact rfl)) | ((with_reducible show BR (.bl true) _ _); (with_reducible refine Wp.br_t ?_)) | ((with_reducible show BR (.bl false) _ _); (with_reducible refine Wp.br_f ?_)) | ((with_reducible show BR (.bl (_ && _)) _ _); (with_reducible refine Wp.br_and ?_)) | ((with_reducible show BR (.bl (!_)) _ _); (with_reducible refine Wp.br_n ?_)) | ((with_reducible show BR (.bl (@decide _ _)) _ _); (with_reducible refine Wp.br_dt ?_ ?_); (focus first | assumption | decide | omega | exact rfl | exact of_decide_eq_true rfl)) | ((with_reducible show BR (.bl (@decide _ _)) _ _); (with_reducible refine Wp.br_df ?_ ?_); (focus first | assumption | decide | omega | exact rfl | exact of_decide_eq_true rfl)) | ((with_reducible show BR (.bl _) _ _); (with_reducible refine Wp.br_ct ?_ ?_); (focus first | assumption | exact rfl)) | ((with_reducible show BR (.bl _) _ _); (with_reducible refine Wp.br_cf ?_ ?_); (focus first | assumption | exact rfl)) | ((with_reducible show OK (R.bind (evE _ _ _) (fun d e1 => .ok [d] e1)) _ _); (with_reducible refine Wp.one ?_)) | ((with_reducible show OKo _ _); (show OKo (Option.some _) _); (with_reducible refine Wp.some_ ?_))))); try dsimp only))
abbrev Fd := List (List Int × Int)
def rin (many : Int) (s : Fd × List (List Int)) (q : List Int) : Fd × List (List Int) := if (s.1.any fun x => decide (x.1 = q)) = true then s else (s.1 ++ [(q, many)], s.2 ++ [q])
def rmid (t : Nat) (many : Int) (s : Fd × List (List Int)) (p : List Int) : Fd × List (List Int) := (List.range (t + 1)).foldl (fun s (l : Nat) => rin many s (stp p (l : Int))) s
def rlev (t : Nat) (many : Int) (s : Fd × List (List Int)) (level : List (List Int)) : Fd × List (List Int) := level.foldl (rmid t many) s
def rgo (t : Nat) : Nat → Int → Fd → List (List Int) → Option Fd
  | 0, _, found, [] => some found
  | 0, _, _, _ :: _ => none
  | _ + 1, _, found, [] => some found
  | n + 1, many, found, p :: level => rgo t n (many + 1) (rlev t (many + 1) (found, []) (p :: level)).1 (rlev t (many + 1) (found, []) (p :: level)).2
abbrev dR (f : Fd) : D := .dct (f.map fun x => (TD x.1, D.int x.2))
abbrev LT (l : List (List Int)) : D := .lst (l.map fun k => TD k)
theorem key_TD (q : List Int) : isKey (TD q) = true := by
  show (q.map D.int).all _ = true
  simp
theorem inD_dR {f : Fd} (hne : f ≠ []) (q : List Int) : inD (TD q) (dR f) = some (f.any fun x => decide (x.1 = q)) := by
  have h1 : (f.map fun x => (TD x.1, D.int x.2)).isEmpty = false := by cases f with
    | nil => exact absurd rfl hne
    | cons => rfl
  have h2 : (f.map fun x => (TD x.1, D.int x.2)).all (fun kv => isTupD kv.1 == isTupD (TD q)) = true := by simp [isTupD]
  have h3 : ((f.map fun x => (TD x.1, D.int x.2)).any fun kv => eqD kv.1 (TD q)) = f.any fun x => decide (x.1 = q) := by
    rw [List.any_map]
    congr 1
    funext x
    exact eq_TD x.1 q
  show (if isTupD (TD q) && isKey (TD q) && !(f.map fun x => (TD x.1, D.int x.2)).isEmpty && (f.map fun x => (TD x.1, D.int x.2)).all (fun kv => isTupD kv.1 == isTupD (TD q)) then some ((f.map fun x => (TD x.1, D.int x.2)).any fun kv => eqD kv.1 (TD q)) else none) = _
  rw [key_TD, h1, h2, h3]
  rfl
theorem setI_dR {f : Fd} {q : List Int} (n : Int) (hn : (f.any fun x => decide (x.1 = q)) = false) (hl : f.length < 1000) : setI (dR f) (TD q) (.int n) = some (dR (f ++ [(q, n)])) := by
  have h3 : ((f.map fun x => (TD x.1, D.int x.2)).any fun kv => eqD kv.1 (TD q)) = false := by
    rw [← hn, List.any_map]
    congr 1
    funext x
    exact eq_TD x.1 q
  show ((if (f.map fun x => (TD x.1, D.int x.2)).length < LIM ∧ isKey (TD q) = true ∧ isTupD (TD q) = true then some (D.non, D.dct (putK (f.map fun x => (TD x.1, D.int x.2)) (TD q) (.int n))) else none).map (·.2)) = _
  rw [if_pos ⟨by rw [List.length_map]; show _ < 1000000; omega, key_TD q, rfl⟩]
  unfold putK
  rw [h3, if_neg (by decide)]
  simp
theorem len_rin (many : Int) (s : Fd × List (List Int)) (q : List Int) : s.1.length ≤ (rin many s q).1.length ∧ (s.2.length ≤ s.1.length → (rin many s q).2.length ≤ (rin many s q).1.length) ∧ (s.1 ≠ [] → (rin many s q).1 ≠ []) := by
  unfold rin
  split
  · exact ⟨Nat.le_refl _, id, id⟩
  · exact ⟨by simp, fun h => by simpa using h, fun _ h => by simp at h⟩
theorem foldl_le {α β : Type} (μ : β → Nat) (f : β → α → β) (h : ∀ s a, μ s ≤ μ (f s a)) : ∀ (l : List α) (s : β), μ s ≤ μ (l.foldl f s)
  | [], _ => Nat.le_refl _
  | a :: l, s => Nat.le_trans (h s a) (foldl_le μ f h l (f s a))
theorem foldl_inv {α β : Type} (P : β → Prop) (f : β → α → β) (h : ∀ s a, P s → P (f s a)) : ∀ (l : List α) (s : β), P s → P (l.foldl f s)
  | [], _, hs => hs
  | a :: l, s, hs => foldl_inv P f h l (f s a) (h s a hs)
theorem mid_le (t : Nat) (many : Int) (s : Fd × List (List Int)) (p : List Int) : s.1.length ≤ (rmid t many s p).1.length := foldl_le (fun s => s.1.length) _ (fun s l => (len_rin many s _).1) _ s
theorem lev_le (t : Nat) (many : Int) (s : Fd × List (List Int)) (l : List (List Int)) : s.1.length ≤ (rlev t many s l).1.length := foldl_le (fun s => s.1.length) _ (fun s p => mid_le t many s p) l s
theorem go_le (t : Nat) : ∀ (n : Nat) (many : Int) (f : Fd) (l : List (List Int)) (R : Fd), rgo t n many f l = some R → f.length ≤ R.length
  | 0, _, f, [], R, h => by cases h; exact Nat.le_refl _
  | 0, _, _, _ :: _, _, h => by cases h
  | n + 1, _, f, [], R, h => by cases h; exact Nat.le_refl _
  | n + 1, many, f, p :: l, R, h => Nat.le_trans (lev_le t (many + 1) (f, []) (p :: l)) (go_le t n _ _ _ R h)
theorem shp_LT (l : List (List Int)) : shp SD (LT l) = true := by
  show (l.map fun k => TD k).all (shp 39) = true
  rw [List.all_eq_true]
  intro d hd
  obtain ⟨k, _, rfl⟩ := List.mem_map.mp hd
  exact shp_ints 38 k
theorem tupK_TD (p : List Int) : tupKD (TD p) = some (TD p) := by
  show (if isKey (TD p) then some (TD p) else none) = _
  rw [if_pos (key_TD p)]
def inTab (t : Nat) (l : List (List Int)) : Prop := ∀ k ∈ l, ∃ x ∈ tab t, x.1 = k
theorem rin_tab {t : Nat} {many : Int} {s : Fd × List (List Int)} {q : List Int} (h : inTab t s.2) (hq : ∃ x ∈ tab t, x.1 = q) : inTab t (rin many s q).2 := by
  unfold rin
  split
  · exact h
  · intro k hk
    rcases List.mem_append.mp hk with z | z
    · exact h k z
    · rw [List.mem_singleton.mp z]; exact hq
theorem q6 {t : Nat} (ht : t < 7) (G : F11 t) {p : List Int × Nat} (hp : p ∈ tab t) {R : Fd} (hR : rgo t 70 0 [(p.1, 0)] [p.1] = some R) (hl : R.length ≤ 100) : OKF (sem T sub 6 [.int t, TD p.1]) (fun r os => r = dR R ∧ os = []) NX := by
  refine Wp.fn (E := [some (.int t), some (TD p.1), none, none, none, none, none, none, none]) (show T 6 = some ⟨_, _, _⟩ from rfl) rfl rfl ?_
  array_mem_dec
  refine Wp.some (tupK_TD p.1) ?_
  array_mem_dec
  refine Wp.whl (fun n e => ∃ (many : Int) (found : Fd) (level : List (List Int)) (x5 x6 x7 x8 : Option D), e = [some (.int t), some (TD p.1), some (dR found), some (LT level), some (.int many), x5, x6, x7, x8] ∧ rgo t n many found level = some R ∧ found ≠ [] ∧ inTab t level) 70 ⟨0, [(p.1, 0)], [p.1], _, _, _, _, rfl, hR, by simp, fun k hk => ⟨p, hp, (List.mem_singleton.mp hk).symm⟩⟩ (by decide) ?_
  rintro n _ ⟨many, found, level, x5, x6, x7, x8, rfl, hgo, hne, htab⟩
  have hs : shp SD (LT level) = true ∧ shp SD (.lst []) = true := ⟨shp_LT level, rfl⟩
  cases level with
  | nil =>
    have : found = R := by cases n <;> (cases hgo; rfl)
    subst this
    array_mem_dec
    exact ⟨rfl, rfl⟩
  | cons k0 lv =>
    cases n with
    | zero => cases hgo
    | succ n =>
      have hgo : rgo t n (many + 1) (rlev t (many + 1) (found, []) (k0 :: lv)).1 (rlev t (many + 1) (found, []) (k0 :: lv)).2 = some R := hgo
      have hend := Nat.le_trans (go_le t _ _ _ _ _ hgo) hl
      have hmono : ∀ done rest : List (List Int), k0 :: lv = done ++ rest → (rlev t (many + 1) (found, []) done).1.length ≤ 100 := fun done rest e => by
        refine Nat.le_trans ?_ hend
        rw [e]
        unfold rlev
        rw [List.foldl_append]
        exact lev_le t (many + 1) _ rest
      have inv : ∀ done : List (List Int), (rlev t (many + 1) (found, []) done).2.length ≤ (rlev t (many + 1) (found, []) done).1.length ∧ (rlev t (many + 1) (found, []) done).1 ≠ [] := fun done =>
        foldl_inv (fun s => s.2.length ≤ s.1.length ∧ s.1 ≠ []) _ (fun s a h => foldl_inv (fun s => s.2.length ≤ s.1.length ∧ s.1 ≠ []) _ (fun s l h => ⟨(len_rin _ s _).2.1 h.1, (len_rin _ s _).2.2 h.2⟩) _ s h) done _ ⟨Nat.zero_le _, hne⟩
      array_mem_dec
      refine Wp.forM (l := k0 :: lv) (g := fun k => TD k) (fun done e => ∃ x5 x7 x8, e = [some (.int t), some (TD p.1), some (dR (rlev t (many + 1) (found, []) done).1), some (LT (k0 :: lv)), some (.int (many + 1)), x5, some (LT (rlev t (many + 1) (found, []) done).2), x7, x8] ∧ inTab t (rlev t (many + 1) (found, []) done).2) ⟨_, _, _, rfl, fun _ h => nomatch h⟩ ?_ ?_
      · rintro done a rest _ hd ⟨x5, x7, x8, rfl, htb⟩
        obtain ⟨y, hy, rfl⟩ := htab a (by rw [hd]; simp)
        have Fy := fix_get G hy
        have hm2 := hmono (done ++ [y.1]) rest (by rw [hd]; simp)
        have es : rlev t (many + 1) (found, []) (done ++ [y.1]) = rmid t (many + 1) (rlev t (many + 1) (found, []) done) y.1 := by
          unfold rlev
          rw [List.foldl_append]
          rfl
        obtain ⟨iv1, iv2⟩ := inv done
        generalize rlev t (many + 1) (found, []) done = s at *
        array_mem_dec
        refine Wp.forM (fun done2 e => ∃ x7 x8, e = [some (.int t), some (TD p.1), some (dR (done2.foldl (fun s (l : Nat) => rin (many + 1) s (stp y.1 (l : Int))) s).1), some (LT (k0 :: lv)), some (.int (many + 1)), some (TD y.1), some (LT (done2.foldl (fun s (l : Nat) => rin (many + 1) s (stp y.1 (l : Int))) s).2), x7, x8] ∧ inTab t (done2.foldl (fun s (l : Nat) => rin (many + 1) s (stp y.1 (l : Int))) s).2) ⟨_, _, rfl, htb⟩ ?_ ?_
        · rintro done2 l rest2 _ hd2 ⟨x7, x8, rfl, htb2⟩
          have hlt : l ≤ t := by
            have : l ∈ List.range (((t : Int) + 1).toNat) := by rw [hd2]; simp
            have := List.mem_range.mp this
            omega
          have hle : (done2.foldl (fun s (l : Nat) => rin (many + 1) s (stp y.1 (l : Int))) s).1.length ≤ 100 := by
            refine Nat.le_trans ?_ hm2
            rw [es]
            unfold rmid
            rw [show List.range (t + 1) = done2 ++ l :: rest2 from by rw [← hd2]; congr 1, List.foldl_append]
            exact foldl_le (fun s => s.1.length) _ (fun s l => (len_rin (many + 1) s _).1) _ _
          obtain ⟨jv1, jv2⟩ := foldl_inv (fun s : Fd × List (List Int) => s.2.length ≤ s.1.length ∧ s.1 ≠ []) (fun s (l : Nat) => rin (many + 1) s (stp y.1 (l : Int))) (fun s l h => ⟨(len_rin _ s _).2.1 h.1, (len_rin _ s _).2.2 h.2⟩) done2 s ⟨iv1, iv2⟩
          have hcl : ∃ x ∈ tab t, x.1 = stp y.1 (l : Int) := clo_get G hy (by omega) (by omega)
          have enext : ((done2 ++ [l]).foldl (fun s (l : Nat) => rin (many + 1) s (stp y.1 (l : Int))) s) = rin (many + 1) (done2.foldl (fun s (l : Nat) => rin (many + 1) s (stp y.1 (l : Int))) s) (stp y.1 (l : Int)) := by
            rw [List.foldl_append]
            rfl
          rw [enext]
          generalize done2.foldl (fun s (l : Nat) => rin (many + 1) s (stp y.1 (l : Int))) s = s2 at *
          array_mem_dec
          refine Wp.c_by (by decide) (q5 y.1 [0 + (l : Int)] (by have := Fy.2.2; simp; omega)) ?_
          rintro _ _ ⟨rfl, rfl⟩
          rw [M_snoc, Fy.1, Int.zero_add]
          array_mem_dec
          refine Wp.some (inD_dR jv2 (stp y.1 (l : Int))) ?_
          array_mem_dec
          refine Wp.br_c (fun h => ?_) (fun h => ?_)
          · array_mem_dec
            have er : rin (many + 1) s2 (stp y.1 (l : Int)) = s2 := by unfold rin; rw [if_pos h]
            rw [er]
            exact ⟨_, _, rfl, htb2⟩
          · array_mem_dec
            refine Wp.some (setI_dR (many + 1) h (by omega)) ?_
            array_mem_dec
            refine Wp.sc (by rw [List.length_map]; show _ < 1000000; omega) ?_
            array_mem_dec
            have er : rin (many + 1) s2 (stp y.1 (l : Int)) = (s2.1 ++ [(stp y.1 (l : Int), many + 1)], s2.2 ++ [stp y.1 (l : Int)]) := by unfold rin; rw [if_neg (by rw [h]; decide)]
            have htb3 := rin_tab (many := many + 1) (q := stp y.1 (l : Int)) htb2 hcl
            rw [er] at htb3 ⊢
            exact ⟨some (.int (l : Int)), some (TD (stp y.1 (l : Int))), by simp, htb3⟩
        · rintro _ ⟨x7, x8, rfl, htb2⟩
          array_mem_dec
          rw [es]
          exact ⟨_, _, _, rfl, htb2⟩
      · rintro _ ⟨x5, x7, x8, rfl, htb⟩
        array_mem_dec
        exact ⟨n, Nat.lt_succ_self n, _, _, _, _, _, _, _, rfl, hgo, (inv _).2, htb⟩
end Lw
namespace Lw
open PySem Mi
local macro_rules | `(tactic| array_get_dec) => `(tactic| (first | ((with_reducible show OK (evE _ _ _) _ _); (with_reducible refine Wp.xE ?_)) | ((with_reducible show OK (evEs _ _ _) _ _); (with_reducible refine Wp.xEs ?_)) | ((with_reducible show OK (evS _ _ _ _) _ _); (with_reducible refine Wp.xS ?_)) | ((with_reducible show Wp.SQ _ _ _ _ _ _ _); (with_reducible refine Wp.xSQ ?_)) | ((with_reducible show OK (evHs _ _ _ _ _ _) _ _); (with_reducible refine Wp.xH ?_)) | ((with_reducible show ENV _ _); (with_reducible refine Wp.env (by dsimp only [st, gt, backE, wipeE]; try exact rfl) ?_)) | ((with_reducible show OKo (gt _ _) _); (show OKo (Option.some _) _); (with_reducible refine Wp.some_ ?_)) | ((with_reducible show OKo (evOp2 _ _ _) _); (with_reducible refine Wp.xO ?_)) | ((with_reducible show OKo (dsOf _) _); (with_reducible refine Wp.xDs ?_)) | ((with_reducible show OKo (arD _ _) _); (with_reducible refine Wp.xAr ?_)) | ((with_reducible show OKo (putO _ _ _) _); (with_reducible refine Wp.xPo ?_)) | ((with_reducible show OKo (evBi _ _) _); (with_reducible refine Wp.xBi ?_)) | ((with_reducible show OKo (bindT _ _ _) _); (with_reducible refine Wp.xB ?_)) | ((with_reducible show OKo (bindTs _ _ _) _); (with_reducible refine Wp.xBs ?_)) | ((with_reducible show OKo (stN _ _ _) _); (with_reducible refine Wp.xN ?_)) | ((with_reducible show OK (evIt _ _ _) _ _); (with_reducible refine Wp.xIt ?_)) | ((with_reducible show OK (evOp _ _ _) _ _); (with_reducible refine Wp.xOp ?_)) | ((with_reducible show OKo (outsOf _ _) _); (with_reducible refine Wp.xOu ?_)) | ((with_reducible show Wp.FB _ _ _ _); (with_reducible refine Wp.xFB ?_)) | ((with_reducible show Wp.WB _ _ _ _ _); (with_reducible refine Wp.xWB ?_)) | ((with_reducible show SC _ _); (with_reducible refine Wp.sc ?_ ?_); (focus first | assumption | ((with_reducible apply mulOk_r); decide) | ((with_reducible apply mulOk_l); decide) | ((with_reducible apply divOk_of); (focus decide); decide) | decide | omega | exact of_decide_eq_true rfl | (show _ < 1000000; omega) | (refine ⟨(by show _ < 1000000; omega), (by show _ < 1000000; omega)⟩) | (with_reducible exact rfl) | exact ⟨rfl, rfl⟩ | exact rfl)) | ((with_reducible show BR (.bl true) _ _); (with_reducible refine Wp.br_t ?_)) | ((with_reducible show BR (.bl false) _ _); (with_reducible refine Wp.br_f ?_)) | ((with_reducible show BR (.bl (_ && _)) _ _); (with_reducible refine Wp.br_and ?_)) | ((with_reducible show BR (.bl (!_)) _ _); (with_reducible refine Wp.br_n ?_)) | ((with_reducible show BR (.bl (@decide _ _)) _ _); (with_reducible refine Wp.br_dt ?_ ?_); (focus first | assumption | decide | omega | exact rfl | exact of_decide_eq_true rfl)) | ((with_reducible show BR (.bl (@decide _ _)) _ _); (with_reducible refine Wp.br_df ?_ ?_); (focus first | assumption | decide | omega | exact rfl | exact of_decide_eq_true rfl)) | ((with_reducible show BR (.bl _) _ _); (with_reducible refine Wp.br_ct ?_ ?_); (focus first | assumption | exact rfl)) | ((with_reducible show BR (.bl _) _ _); (with_reducible refine Wp.br_cf ?_ ?_); (focus first | assumption | exact rfl)) | ((with_reducible show OK (R.bind (evE _ _ _) (fun d e1 => .ok [d] e1)) _ _); (with_reducible refine Wp.one ?_)) | ((with_reducible show OKo _ _); (show OKo (Option.some _) _); (with_reducible refine Wp.some_ ?_))))
local macro_rules | `(tactic| array_mem_dec) => `(tactic| ((repeat (first | ((with_reducible show OK (evE _ _ _) _ _); (with_reducible refine Wp.xE ?_)) | ((with_reducible show OK (evEs _ _ _) _ _); (with_reducible refine Wp.xEs ?_)) | ((with_reducible show OK (evS _ _ _ _) _ _); (with_reducible refine Wp.xS ?_)) | ((with_reducible show Wp.SQ _ _ _ _ _ _ _); (with_reducible refine Wp.xSQ ?_)) | ((with_reducible show OK (evHs _ _ _ _ _ _) _ _); (with_reducible refine Wp.xH ?_)) | ((with_reducible show ENV _ _); (with_reducible refine Wp.env (by dsimp only [st, gt, backE, wipeE]; try exact rfl) ?_)) | ((with_reducible show OKo (gt _ _) _); (show OKo (Option.some _) _); (with_reducible refine Wp.some_ ?_)) | ((with_reducible show OKo (evOp2 _ _ _) _); (with_reducible refine Wp.xO ?_)) | ((with_reducible show OKo (dsOf _) _); (with_reducible refine Wp.xDs ?_)) | ((with_reducible show OKo (arD _ _) _); (with_reducible refine Wp.xAr ?_)) | ((with_reducible show OKo (putO _ _ _) _); (with_reducible refine Wp.xPo ?_)) | ((with_reducible show OKo (evBi _ _) _); (with_reducible refine Wp.xBi ?_)) | ((with_reducible show OKo (bindT _ _ _) _); (with_reducible refine Wp.xB ?_)) | ((with_reducible show OKo (bindTs _ _ _) _); (with_reducible refine Wp.xBs ?_)) | ((with_reducible show OKo (stN _ _ _) _); (with_reducible refine Wp.xN ?_)) | ((with_reducible show OK (evIt _ _ _) _ _); (with_reducible refine Wp.xIt ?_)) | ((with_reducible show OK (evOp _ _ _) _ _); (with_reducible refine Wp.xOp ?_)) | ((with_reducible show OKo (outsOf _ _) _); (with_reducible refine Wp.xOu ?_)) | ((with_reducible show Wp.FB _ _ _ _); (with_reducible refine Wp.xFB ?_)) | ((with_reducible show Wp.WB _ _ _ _ _); (with_reducible refine Wp.xWB ?_)) | ((with_reducible show SC _ _); (with_reducible refine Wp.sc ?_ ?_); (focus first | assumption | ((with_reducible apply mulOk_r); decide) | ((with_reducible apply mulOk_l); decide) | ((with_reducible apply divOk_of); (focus decide); decide) | decide | omega | exact of_decide_eq_true rfl | (show _ < 1000000; omega) | (refine ⟨(by show _ < 1000000; omega), (by show _ < 1000000; omega)⟩) | (with_reducible exact rfl) | exact ⟨rfl, rfl⟩ | exact rfl)) | ((with_reducible show BR (.bl true) _ _); (with_reducible refine Wp.br_t ?_)) | ((with_reducible show BR (.bl false) _ _); (with_reducible refine Wp.br_f ?_)) | ((with_reducible show BR (.bl (_ && _)) _ _); (with_reducible refine Wp.br_and ?_)) | ((with_reducible show BR (.bl (!_)) _ _); (with_reducible refine Wp.br_n ?_)) | ((with_reducible show BR (.bl (@decide _ _)) _ _); (with_reducible refine Wp.br_dt ?_ ?_); (focus first | assumption | decide | omega | exact rfl | exact of_decide_eq_true rfl)) | ((with_reducible show BR (.bl (@decide _ _)) _ _); (with_reducible refine Wp.br_df ?_ ?_); (focus first | assumption | decide | omega | exact rfl | exact of_decide_eq_true rfl)) | ((with_reducible show BR (.bl _) _ _); (with_reducible refine Wp.br_ct ?_ ?_); (focus first | assumption | exact rfl)) | ((with_reducible show BR (.bl _) _ _); (with_reducible refine Wp.br_cf ?_ ?_); (focus first | assumption | exact rfl)) | ((with_reducible show OK (R.bind (evE _ _ _) (fun d e1 => .ok [d] e1)) _ _); (with_reducible refine Wp.one ?_)) | ((with_reducible show OKo _ _); (show OKo (Option.some _) _); (with_reducible refine Wp.some_ ?_)))); try dsimp only))
local macro_rules | `(tactic| decreasing_trivial_pre_omega) => `(tactic| ((repeat ((fail_if_success (with_reducible show OK (evS _ _ (Sm.seq (Sm.ife _ _ _) _) _) _ _)); (first | ((with_reducible show OK (evE _ _ _) _ _); (with_reducible refine Wp.xE ?_)) | ((with_reducible show OK (evEs _ _ _) _ _); (with_reducible refine Wp.xEs ?_)) | ((with_reducible show OK (evS _ _ _ _) _ _); (with_reducible refine Wp.xS ?_)) | ((with_reducible show Wp.SQ _ _ _ _ _ _ _); (with_reducible refine Wp.xSQ ?_)) | ((with_reducible show OK (evHs _ _ _ _ _ _) _ _); (with_reducible refine Wp.xH ?_)) | ((with_reducible show ENV _ _); (with_reducible refine Wp.env (by dsimp only [st, gt, backE, wipeE]; try exact rfl) ?_)) | ((with_reducible show OKo (gt _ _) _); (show OKo (Option.some _) _); (with_reducible refine Wp.some_ ?_)) | ((with_reducible show OKo (evOp2 _ _ _) _); (with_reducible refine Wp.xO ?_)) | ((with_reducible show OKo (dsOf _) _); (with_reducible refine Wp.xDs ?_)) | ((with_reducible show OKo (arD _ _) _); (with_reducible refine Wp.xAr ?_)) | ((with_reducible show OKo (putO _ _ _) _); (with_reducible refine Wp.xPo ?_)) | ((with_reducible show OKo (evBi _ _) _); (with_reducible refine Wp.xBi ?_)) | ((with_reducible show OKo (bindT _ _ _) _); (with_reducible refine Wp.xB ?_)) | ((with_reducible show OKo (bindTs _ _ _) _); (with_reducible refine Wp.xBs ?_)) | ((with_reducible show OKo (stN _ _ _) _); (with_reducible refine Wp.xN ?_)) | ((with_reducible show OK (evIt _ _ _) _ _); (with_reducible refine Wp.xIt ?_)) | ((with_reducible show OK (evOp _ _ _) _ _); (with_reducible refine Wp.xOp ?_)) | ((with_reducible show OKo (outsOf _ _) _); (with_reducible refine Wp.xOu ?_)) | ((with_reducible show Wp.FB _ _ _ _); (with_reducible refine Wp.xFB ?_)) | ((with_reducible show Wp.WB _ _ _ _ _); (with_reducible refine Wp.xWB ?_)) | ((with_reducible show SC _ _); (with_reducible refine Wp.sc ?_ ?_); (focus first | assumption | ((with_reducible apply mulOk_r); decide) | ((with_reducible apply mulOk_l); decide) | ((with_reducible apply divOk_of); (focus decide); decide) | decide | omega | exact of_decide_eq_true rfl | (show _ < 1000000; omega) | (refine ⟨(by show _ < 1000000; omega), (by show _ < 1000000; omega)⟩) | (with_reducible exact rfl) | exact ⟨rfl, rfl⟩ | exact rfl)) | ((with_reducible show BR (.bl true) _ _); (with_reducible refine Wp.br_t ?_)) | ((with_reducible show BR (.bl false) _ _); (with_reducible refine Wp.br_f ?_)) | ((with_reducible show BR (.bl (_ && _)) _ _); (with_reducible refine Wp.br_and ?_)) | ((with_reducible show BR (.bl (!_)) _ _); (with_reducible refine Wp.br_n ?_)) | ((with_reducible show BR (.bl (@decide _ _)) _ _); (with_reducible refine Wp.br_dt ?_ ?_); (focus first | assumption | decide | omega | exact rfl | exact of_decide_eq_true rfl)) | ((with_reducible show BR (.bl (@decide _ _)) _ _); (with_reducible refine Wp.br_df ?_ ?_); (focus first | assumption | decide | omega | exact rfl | exact of_decide_eq_true rfl)) | ((with_reducible show BR (.bl _) _ _); (with_reducible refine Wp.br_ct ?_ ?_); (focus first | assumption | exact rfl)) | ((with_reducible show BR (.bl _) _ _); (with_reducible refine Wp.br_cf ?_ ?_); (focus first | assumption | exact rfl)) | ((with_reducible show OK (R.bind (evE _ _ _) (fun d e1 => .ok [d] e1)) _ _); (with_reducible refine Wp.one ?_)) | ((with_reducible show OKo _ _); (show OKo (Option.some _) _); (with_reducible refine Wp.some_ ?_))))); try dsimp only))
abbrev Fw := List (List Int × List Int)
def getW : Fw → List Int → Option (List Int)
  | [], _ => none
  | x :: r, k => if x.1 = k then some x.2 else getW r k
def win (here : List Int) (s : Fw × List (List Int)) (q : List Int) (l : Int) : Fw × List (List Int) := if (s.1.any fun x => decide (x.1 = q)) = true then s else match getW s.1 here with
  | some w => (s.1 ++ [(q, w ++ [l])], s.2 ++ [q])
  | none => s
def wmid (t : Nat) (s : Fw × List (List Int)) (p : List Int) : Fw × List (List Int) := (List.range (t + 1)).foldl (fun s (l : Nat) => win p s (stp p (l : Int)) (l : Int)) s
def wgo (t : Nat) : Nat → Fw → List (List Int) → Option Fw
  | 0, f, [] => some f
  | 0, _, _ :: _ => none
  | _ + 1, f, [] => some f
  | n + 1, f, p :: wt => if (getW f p).isSome then wgo t n (wmid t (f, wt) p).1 (wmid t (f, wt) p).2 else none
abbrev dW (f : Fw) : D := .dct (f.map fun x => (TD x.1, ZD x.2))
theorem getK_dW (k : List Int) : ∀ f : Fw, getK (f.map fun x => (TD x.1, ZD x.2)) (TD k) = (getW f k).map fun w => ZD w
  | [] => rfl
  | x :: r => by
    show (if eqD (TD x.1) (TD k) = true then some (ZD x.2) else getK (r.map fun x => (TD x.1, ZD x.2)) (TD k)) = Option.map _ (if x.1 = k then some x.2 else getW r k)
    rw [eq_TD, getK_dW k r]
    by_cases h : x.1 = k <;> simp [h]
theorem idx_dW {f : Fw} {k w : List Int} (h : getW f k = some w) : Mi.idxD (dW f) (TD k) = some (ZD w) := by
  show (if isTupD (TD k) && isKey (TD k) then getK (f.map fun x => (TD x.1, ZD x.2)) (TD k) else none) = _
  rw [key_TD, getK_dW, h]
  rfl
theorem any_dW (q : List Int) (f : Fw) : ((f.map fun x => (TD x.1, ZD x.2)).any fun kv => eqD kv.1 (TD q)) = f.any fun x => decide (x.1 = q) := by
  rw [List.any_map]
  congr 1
  funext x
  exact eq_TD x.1 q
theorem inD_dW {f : Fw} (hne : f ≠ []) (q : List Int) : inD (TD q) (dW f) = some (f.any fun x => decide (x.1 = q)) := by
  have h1 : (f.map fun x => (TD x.1, ZD x.2)).isEmpty = false := by cases f with
    | nil => exact absurd rfl hne
    | cons => rfl
  have h2 : (f.map fun x => (TD x.1, ZD x.2)).all (fun kv => isTupD kv.1 == isTupD (TD q)) = true := by simp [isTupD]
  show (if isTupD (TD q) && isKey (TD q) && !(f.map fun x => (TD x.1, ZD x.2)).isEmpty && (f.map fun x => (TD x.1, ZD x.2)).all (fun kv => isTupD kv.1 == isTupD (TD q)) then some ((f.map fun x => (TD x.1, ZD x.2)).any fun kv => eqD kv.1 (TD q)) else none) = _
  rw [key_TD, h1, h2, any_dW]
  rfl
theorem putN_dW {f : Fw} {q w : List Int} (hn : (f.any fun x => decide (x.1 = q)) = false) (hl : f.length < 1000) : evMu .putN (dW f) [ZD w, TD q] = some (.non, dW (f ++ [(q, w)])) := by
  show (if (f.map fun x => (TD x.1, ZD x.2)).length < LIM ∧ isKey (TD q) = true ∧ isTupD (TD q) = true ∧ ((f.map fun x => (TD x.1, ZD x.2)).any fun kv => eqD kv.1 (TD q)) = false then some (D.non, D.dct ((f.map fun x => (TD x.1, ZD x.2)) ++ [(TD q, ZD w)])) else none) = _
  rw [if_pos ⟨by rw [List.length_map]; show _ < 1000000; omega, key_TD q, rfl, by rw [any_dW]; exact hn⟩]
  simp
theorem getW_app : ∀ (f g : Fw) (k w : List Int), getW f k = some w → getW (f ++ g) k = some w
  | [], _, _, _, h => by cases h
  | x :: r, g, k, w, h => by
    have h : (if x.1 = k then some x.2 else getW r k) = some w := h
    show (if x.1 = k then some x.2 else getW (r ++ g) k) = some w
    split at h
    · rename_i hx; rw [if_pos hx]; exact h
    · rename_i hx; rw [if_neg hx]; exact getW_app r g k w h
structure Wi (t : Nat) (here : List Int) (N : Nat) (s : Fw × List (List Int)) : Prop where
  w : ∃ w, getW s.1 here = some w
  tb : inTab t s.2
  ne : s.1 ≠ []
  le : s.2.length ≤ s.1.length
  wl : ∀ x ∈ s.1, x.2.length ≤ N
theorem getW_mem : ∀ (f : Fw) (k w : List Int), getW f k = some w → (k, w) ∈ f
  | [], _, _, h => by cases h
  | x :: r, k, w, h => by
    have h : (if x.1 = k then some x.2 else getW r k) = some w := h
    split at h
    · rename_i hx
      cases h
      rw [← hx]
      exact List.mem_cons_self ..
    · exact List.mem_cons_of_mem _ (getW_mem r k w h)
theorem len_win (here : List Int) (s : Fw × List (List Int)) (q : List Int) (l : Int) : s.1.length ≤ (win here s q l).1.length := by
  unfold win
  split
  · exact Nat.le_refl _
  · split
    · simp
    · exact Nat.le_refl _
theorem wmid_le (t : Nat) (s : Fw × List (List Int)) (p : List Int) : s.1.length ≤ (wmid t s p).1.length := foldl_le (fun s => s.1.length) _ (fun s l => len_win p s _ _) _ s
theorem wgo_le (t : Nat) : ∀ (n : Nat) (f : Fw) (l : List (List Int)) (R : Fw), wgo t n f l = some R → f.length ≤ R.length
  | 0, f, [], R, h => by cases h; exact Nat.le_refl _
  | 0, _, _ :: _, _, h => by cases h
  | n + 1, f, [], R, h => by cases h; exact Nat.le_refl _
  | n + 1, f, p :: l, R, h => by
    have h : (if (getW f p).isSome then wgo t n (wmid t (f, l) p).1 (wmid t (f, l) p).2 else none) = some R := h
    split at h
    · exact Nat.le_trans (wmid_le t (f, l) p) (wgo_le t n _ _ R h)
    · cases h
def subW (f g : Fw) : Prop := ∀ x ∈ f, x ∈ g
theorem win_sub (here : List Int) (s : Fw × List (List Int)) (q : List Int) (l : Int) : subW s.1 (win here s q l).1 := by
  unfold win
  split
  · exact fun x h => h
  · split
    · exact fun x h => List.mem_append_left _ h
    · exact fun x h => h
theorem wmid_sub (t : Nat) (s : Fw × List (List Int)) (p : List Int) : subW s.1 (wmid t s p).1 := by
  have : ∀ (l : List Nat) (s : Fw × List (List Int)), subW s.1 (l.foldl (fun s (l : Nat) => win p s (stp p (l : Int)) (l : Int)) s).1 := by
    intro l
    induction l with
    | nil => exact fun s x h => h
    | cons a l ih => exact fun s x h => ih _ x (win_sub p s _ _ x h)
  exact this _ s
theorem wgo_sub (t : Nat) : ∀ (n : Nat) (f : Fw) (l : List (List Int)) (R : Fw), wgo t n f l = some R → subW f R
  | 0, f, [], R, h => by cases h; exact fun x h => h
  | 0, _, _ :: _, _, h => by cases h
  | n + 1, f, [], R, h => by cases h; exact fun x h => h
  | n + 1, f, p :: l, R, h => by
    have h : (if (getW f p).isSome then wgo t n (wmid t (f, l) p).1 (wmid t (f, l) p).2 else none) = some R := h
    split at h
    · exact fun x hx => wgo_sub t n _ _ R h x (wmid_sub t (f, l) p x hx)
    · cases h
theorem q14 {t : Nat} (ht : t < 7) (G : F11 t) {p : List Int × Nat} (hp : p ∈ tab t) {R : Fw} (hR : wgo t 200 [(p.1, [])] [p.1] = some R) (hl : R.length ≤ 100) (hw : ∀ x ∈ R, x.2.length ≤ 100) : OKF (sem T sub 14 [.int t, TD p.1]) (fun r os => r = dW R ∧ os = []) NX := by
  refine Wp.fn (E := [some (.int t), some (TD p.1), none, none, none, none, none]) (show T 14 = some ⟨_, _, _⟩ from rfl) rfl rfl ?_
  array_mem_dec
  refine Wp.some (tupK_TD p.1) ?_
  array_mem_dec
  refine Wp.whl (fun n e => ∃ (found : Fw) (wt : List (List Int)) (x4 x5 x6 : Option D), e = [some (.int t), some (TD p.1), some (dW found), some (LT wt), x4, x5, x6] ∧ wgo t n found wt = some R ∧ found ≠ [] ∧ inTab t wt ∧ wt.length ≤ found.length) 200 ⟨[(p.1, [])], [p.1], _, _, _, rfl, hR, by simp, fun k hk => ⟨p, hp, (List.mem_singleton.mp hk).symm⟩, Nat.le_refl _⟩ (by decide) ?_
  rintro n _ ⟨found, wt, x4, x5, x6, rfl, hgo, hne, htab, hlen⟩
  have hs : shp SD (LT wt) = true ∧ shp SD (.lst []) = true := ⟨shp_LT wt, rfl⟩
  cases wt with
  | nil =>
    have : found = R := by cases n <;> (cases hgo; rfl)
    subst this
    array_mem_dec
    exact ⟨rfl, rfl⟩
  | cons k0 wt =>
    cases n with
    | zero => cases hgo
    | succ n =>
      have hgo : (if (getW found k0).isSome then wgo t n (wmid t (found, wt) k0).1 (wmid t (found, wt) k0).2 else none) = some R := hgo
      split at hgo
      case isFalse => cases hgo
      rename_i hsome
      obtain ⟨w0, hw0⟩ := Option.isSome_iff_exists.mp hsome
      obtain ⟨y, hy, rfl⟩ := htab k0 (List.mem_cons_self ..)
      have Fy := fix_get G hy
      have hend := Nat.le_trans (wgo_le t _ _ _ _ hgo) hl
      have hsubR := wgo_sub t _ _ _ _ hgo
      have hpart : ∀ done rest : List Nat, List.range (t + 1) = done ++ rest → (done.foldl (fun s (l : Nat) => win y.1 s (stp y.1 (l : Int)) (l : Int)) (found, wt)).1.length ≤ 100 ∧ subW (done.foldl (fun s (l : Nat) => win y.1 s (stp y.1 (l : Int)) (l : Int)) (found, wt)).1 R := fun done rest e => by
        have e2 : wmid t (found, wt) y.1 = rest.foldl (fun s (l : Nat) => win y.1 s (stp y.1 (l : Int)) (l : Int)) (done.foldl (fun s (l : Nat) => win y.1 s (stp y.1 (l : Int)) (l : Int)) (found, wt)) := by
          unfold wmid
          rw [e, List.foldl_append]
        rw [e2] at hend hsubR
        refine ⟨Nat.le_trans (foldl_le (fun s => s.1.length) _ (fun s l => len_win y.1 s _ _) rest _) hend, ?_⟩
        have : ∀ (l : List Nat) (s : Fw × List (List Int)), subW s.1 (l.foldl (fun s (l : Nat) => win y.1 s (stp y.1 (l : Int)) (l : Int)) s).1 := by
          intro l
          induction l with
          | nil => exact fun s x h => h
          | cons a l ih => exact fun s x h => ih _ x (win_sub y.1 s _ _ x h)
        exact fun x hx => hsubR x (this rest _ x hx)
      array_mem_dec
      refine Wp.sc ⟨by decide, by decide, by simp⟩ ?_
      array_mem_dec
      refine Wp.forM (fun done e => ∃ x5 x6, e = [some (.int t), some (TD p.1), some (dW (done.foldl (fun s (l : Nat) => win y.1 s (stp y.1 (l : Int)) (l : Int)) (found, wt)).1), some (LT (done.foldl (fun s (l : Nat) => win y.1 s (stp y.1 (l : Int)) (l : Int)) (found, wt)).2), some (TD y.1), x5, x6] ∧ inTab t (done.foldl (fun s (l : Nat) => win y.1 s (stp y.1 (l : Int)) (l : Int)) (found, wt)).2 ∧ (∃ w, getW (done.foldl (fun s (l : Nat) => win y.1 s (stp y.1 (l : Int)) (l : Int)) (found, wt)).1 y.1 = some w) ∧ (done.foldl (fun s (l : Nat) => win y.1 s (stp y.1 (l : Int)) (l : Int)) (found, wt)).1 ≠ [] ∧ (done.foldl (fun s (l : Nat) => win y.1 s (stp y.1 (l : Int)) (l : Int)) (found, wt)).2.length ≤ (done.foldl (fun s (l : Nat) => win y.1 s (stp y.1 (l : Int)) (l : Int)) (found, wt)).1.length) ⟨_, _, rfl, fun k hk => htab k (List.mem_cons_of_mem _ hk), ⟨w0, hw0⟩, hne, by rw [List.length_cons] at hlen; show wt.length ≤ found.length; omega⟩ ?_ ?_
      · rintro done l rest _ hd ⟨x5, x6, rfl, htb, ⟨w, hwd⟩, hne2, hle2⟩
        have hlt : l ≤ t := by
          have : l ∈ List.range (((t : Int) + 1).toNat) := by rw [hd]; simp
          have := List.mem_range.mp this
          omega
        obtain ⟨hp1, hp2⟩ := hpart done (l :: rest) (by rw [← hd]; congr 1)
        have hcl : ∃ x ∈ tab t, x.1 = stp y.1 (l : Int) := clo_get G hy (by omega) (by omega)
        have enext : ((done ++ [l]).foldl (fun s (l : Nat) => win y.1 s (stp y.1 (l : Int)) (l : Int)) (found, wt)) = win y.1 (done.foldl (fun s (l : Nat) => win y.1 s (stp y.1 (l : Int)) (l : Int)) (found, wt)) (stp y.1 (l : Int)) (l : Int) := by
          rw [List.foldl_append]
          rfl
        rw [enext]
        generalize done.foldl (fun s (l : Nat) => win y.1 s (stp y.1 (l : Int)) (l : Int)) (found, wt) = s at *
        have hwl : w.length ≤ 100 := hw _ (hp2 _ (getW_mem _ _ _ hwd))
        have st := step_get G hy (a := 0 + (l : Int)) (by omega) (by omega)
        array_mem_dec
        refine Wp.c_eq (by decide) st ?_
        rw [Int.zero_add]
        array_mem_dec
        refine Wp.some (inD_dW hne2 (stp y.1 (l : Int))) ?_
        array_mem_dec
        refine Wp.br_c (fun h => ?_) (fun h => ?_)
        · array_mem_dec
          have er : win y.1 s (stp y.1 (l : Int)) (l : Int) = s := by unfold win; rw [if_pos h]
          rw [er]
          exact ⟨_, _, rfl, htb, ⟨w, hwd⟩, hne2, hle2⟩
        · array_mem_dec
          refine Wp.some (idx_dW hwd) ?_
          array_mem_dec
          refine Wp.sc (by rw [List.length_map]; show _ + 1 < 1000000; omega) ?_
          rw [show w.map D.int ++ [D.int (l : Int)] = (w ++ [(l : Int)]).map D.int by simp]
          array_mem_dec
          refine Wp.some (putN_dW h (by omega)) ?_
          array_mem_dec
          refine Wp.sc (by rw [List.length_map]; show _ < 1000000; omega) ?_
          array_mem_dec
          have er : win y.1 s (stp y.1 (l : Int)) (l : Int) = (s.1 ++ [(stp y.1 (l : Int), w ++ [(l : Int)])], s.2 ++ [stp y.1 (l : Int)]) := by unfold win; rw [if_neg (by rw [h]; decide), hwd]
          rw [er]
          refine ⟨some (.int (l : Int)), some (TD (stp y.1 (l : Int))), by simp, fun k hk => ?_, ⟨w, getW_app _ _ _ _ hwd⟩, by simp, by simpa using hle2⟩
          rcases List.mem_append.mp hk with z | z
          · exact htb k z
          · rw [List.mem_singleton.mp z]; exact hcl
      · rintro _ ⟨x5, x6, rfl, htb, _, hne2, hle2⟩
        array_mem_dec
        exact ⟨n, Nat.lt_succ_self n, _, _, _, _, _, rfl, hgo, hne2, htb, hle2⟩
end Lw
namespace Lw
open PySem Mi
local macro_rules | `(tactic| array_get_dec) => `(tactic| (first | ((with_reducible show OK (evE _ _ _) _ _); (with_reducible refine Wp.xE ?_)) | ((with_reducible show OK (evEs _ _ _) _ _); (with_reducible refine Wp.xEs ?_)) | ((with_reducible show OK (evS _ _ _ _) _ _); (with_reducible refine Wp.xS ?_)) | ((with_reducible show Wp.SQ _ _ _ _ _ _ _); (with_reducible refine Wp.xSQ ?_)) | ((with_reducible show OK (evHs _ _ _ _ _ _) _ _); (with_reducible refine Wp.xH ?_)) | ((with_reducible show ENV _ _); (with_reducible refine Wp.env (by dsimp only [st, gt, backE, wipeE]; try exact rfl) ?_)) | ((with_reducible show OKo (gt _ _) _); (show OKo (Option.some _) _); (with_reducible refine Wp.some_ ?_)) | ((with_reducible show OKo (evOp2 _ _ _) _); (with_reducible refine Wp.xO ?_)) | ((with_reducible show OKo (dsOf _) _); (with_reducible refine Wp.xDs ?_)) | ((with_reducible show OKo (arD _ _) _); (with_reducible refine Wp.xAr ?_)) | ((with_reducible show OKo (putO _ _ _) _); (with_reducible refine Wp.xPo ?_)) | ((with_reducible show OKo (evBi _ _) _); (with_reducible refine Wp.xBi ?_)) | ((with_reducible show OKo (bindT _ _ _) _); (with_reducible refine Wp.xB ?_)) | ((with_reducible show OKo (bindTs _ _ _) _); (with_reducible refine Wp.xBs ?_)) | ((with_reducible show OKo (stN _ _ _) _); (with_reducible refine Wp.xN ?_)) | ((with_reducible show OK (evIt _ _ _) _ _); (with_reducible refine Wp.xIt ?_)) | ((with_reducible show OK (evOp _ _ _) _ _); (with_reducible refine Wp.xOp ?_)) | ((with_reducible show OKo (outsOf _ _) _); (with_reducible refine Wp.xOu ?_)) | ((with_reducible show Wp.FB _ _ _ _); (with_reducible refine Wp.xFB ?_)) | ((with_reducible show Wp.WB _ _ _ _ _); (with_reducible refine Wp.xWB ?_)) | ((with_reducible show SC _ _); (with_reducible refine Wp.sc ?_ ?_); (focus first | assumption | ((with_reducible apply mulOk_r); decide) | ((with_reducible apply mulOk_l); decide) | ((with_reducible apply divOk_of); (focus decide); decide) | decide | omega | exact of_decide_eq_true rfl | (show _ < 1000000; omega) | (refine ⟨(by show _ < 1000000; omega), (by show _ < 1000000; omega)⟩) | (with_reducible exact rfl) | exact ⟨rfl, rfl⟩ | exact rfl)) | ((with_reducible show BR (.bl true) _ _); (with_reducible refine Wp.br_t ?_)) | ((with_reducible show BR (.bl false) _ _); (with_reducible refine Wp.br_f ?_)) | ((with_reducible show BR (.bl (_ && _)) _ _); (with_reducible refine Wp.br_and ?_)) | ((with_reducible show BR (.bl (!_)) _ _); (with_reducible refine Wp.br_n ?_)) | ((with_reducible show BR (.bl (@decide _ _)) _ _); (with_reducible refine Wp.br_dt ?_ ?_); (focus first | assumption | decide | omega | exact rfl | exact of_decide_eq_true rfl)) | ((with_reducible show BR (.bl (@decide _ _)) _ _); (with_reducible refine Wp.br_df ?_ ?_); (focus first | assumption | decide | omega | exact rfl | exact of_decide_eq_true rfl)) | ((with_reducible show BR (.bl _) _ _); (with_reducible refine Wp.br_ct ?_ ?_); (focus first | assumption | exact rfl)) | ((with_reducible show BR (.bl _) _ _); (with_reducible refine Wp.br_cf ?_ ?_); (focus first | assumption | exact rfl)) | ((with_reducible show OK (R.bind (evE _ _ _) (fun d e1 => .ok [d] e1)) _ _); (with_reducible refine Wp.one ?_)) | ((with_reducible show OKo _ _); (show OKo (Option.some _) _); (with_reducible refine Wp.some_ ?_))))
local macro_rules | `(tactic| array_mem_dec) => `(tactic| ((repeat (first | ((with_reducible show OK (evE _ _ _) _ _); (with_reducible refine Wp.xE ?_)) | ((with_reducible show OK (evEs _ _ _) _ _); (with_reducible refine Wp.xEs ?_)) | ((with_reducible show OK (evS _ _ _ _) _ _); (with_reducible refine Wp.xS ?_)) | ((with_reducible show Wp.SQ _ _ _ _ _ _ _); (with_reducible refine Wp.xSQ ?_)) | ((with_reducible show OK (evHs _ _ _ _ _ _) _ _); (with_reducible refine Wp.xH ?_)) | ((with_reducible show ENV _ _); (with_reducible refine Wp.env (by dsimp only [st, gt, backE, wipeE]; try exact rfl) ?_)) | ((with_reducible show OKo (gt _ _) _); (show OKo (Option.some _) _); (with_reducible refine Wp.some_ ?_)) | ((with_reducible show OKo (evOp2 _ _ _) _); (with_reducible refine Wp.xO ?_)) | ((with_reducible show OKo (dsOf _) _); (with_reducible refine Wp.xDs ?_)) | ((with_reducible show OKo (arD _ _) _); (with_reducible refine Wp.xAr ?_)) | ((with_reducible show OKo (putO _ _ _) _); (with_reducible refine Wp.xPo ?_)) | ((with_reducible show OKo (evBi _ _) _); (with_reducible refine Wp.xBi ?_)) | ((with_reducible show OKo (bindT _ _ _) _); (with_reducible refine Wp.xB ?_)) | ((with_reducible show OKo (bindTs _ _ _) _); (with_reducible refine Wp.xBs ?_)) | ((with_reducible show OKo (stN _ _ _) _); (with_reducible refine Wp.xN ?_)) | ((with_reducible show OK (evIt _ _ _) _ _); (with_reducible refine Wp.xIt ?_)) | ((with_reducible show OK (evOp _ _ _) _ _); (with_reducible refine Wp.xOp ?_)) | ((with_reducible show OKo (outsOf _ _) _); (with_reducible refine Wp.xOu ?_)) | ((with_reducible show Wp.FB _ _ _ _); (with_reducible refine Wp.xFB ?_)) | ((with_reducible show Wp.WB _ _ _ _ _); (with_reducible refine Wp.xWB ?_)) | ((with_reducible show SC _ _); (with_reducible refine Wp.sc ?_ ?_); (focus first | assumption | ((with_reducible apply mulOk_r); decide) | ((with_reducible apply mulOk_l); decide) | ((with_reducible apply divOk_of); (focus decide); decide) | decide | omega | exact of_decide_eq_true rfl | (show _ < 1000000; omega) | (refine ⟨(by show _ < 1000000; omega), (by show _ < 1000000; omega)⟩) | (with_reducible exact rfl) | exact ⟨rfl, rfl⟩ | exact rfl)) | ((with_reducible show BR (.bl true) _ _); (with_reducible refine Wp.br_t ?_)) | ((with_reducible show BR (.bl false) _ _); (with_reducible refine Wp.br_f ?_)) | ((with_reducible show BR (.bl (_ && _)) _ _); (with_reducible refine Wp.br_and ?_)) | ((with_reducible show BR (.bl (!_)) _ _); (with_reducible refine Wp.br_n ?_)) | ((with_reducible show BR (.bl (@decide _ _)) _ _); (with_reducible refine Wp.br_dt ?_ ?_); (focus first | assumption | decide | omega | exact rfl | exact of_decide_eq_true rfl)) | ((with_reducible show BR (.bl (@decide _ _)) _ _); (with_reducible refine Wp.br_df ?_ ?_); (focus first | assumption | decide | omega | exact rfl | exact of_decide_eq_true rfl)) | ((with_reducible show BR (.bl _) _ _); (with_reducible refine Wp.br_ct ?_ ?_); (focus first | assumption | exact rfl)) | ((with_reducible show BR (.bl _) _ _); (with_reducible refine Wp.br_cf ?_ ?_); (focus first | assumption | exact rfl)) | ((with_reducible show OK (R.bind (evE _ _ _) (fun d e1 => .ok [d] e1)) _ _); (with_reducible refine Wp.one ?_)) | ((with_reducible show OKo _ _); (show OKo (Option.some _) _); (with_reducible refine Wp.some_ ?_)))); try dsimp only))
local macro_rules | `(tactic| decreasing_trivial_pre_omega) => `(tactic| ((repeat ((fail_if_success (with_reducible show OK (evS _ _ (Sm.seq (Sm.ife _ _ _) _) _) _ _)); (first | ((with_reducible show OK (evE _ _ _) _ _); (with_reducible refine Wp.xE ?_)) | ((with_reducible show OK (evEs _ _ _) _ _); (with_reducible refine Wp.xEs ?_)) | ((with_reducible show OK (evS _ _ _ _) _ _); (with_reducible refine Wp.xS ?_)) | ((with_reducible show Wp.SQ _ _ _ _ _ _ _); (with_reducible refine Wp.xSQ ?_)) | ((with_reducible show OK (evHs _ _ _ _ _ _) _ _); (with_reducible refine Wp.xH ?_)) | ((with_reducible show ENV _ _); (with_reducible refine Wp.env (by dsimp only [st, gt, backE, wipeE]; try exact rfl) ?_)) | ((with_reducible show OKo (gt _ _) _); (show OKo (Option.some _) _); (with_reducible refine Wp.some_ ?_)) | ((with_reducible show OKo (evOp2 _ _ _) _); (with_reducible refine Wp.xO ?_)) | ((with_reducible show OKo (dsOf _) _); (with_reducible refine Wp.xDs ?_)) | ((with_reducible show OKo (arD _ _) _); (with_reducible refine Wp.xAr ?_)) | ((with_reducible show OKo (putO _ _ _) _); (with_reducible refine Wp.xPo ?_)) | ((with_reducible show OKo (evBi _ _) _); (with_reducible refine Wp.xBi ?_)) | ((with_reducible show OKo (bindT _ _ _) _); (with_reducible refine Wp.xB ?_)) | ((with_reducible show OKo (bindTs _ _ _) _); (with_reducible refine Wp.xBs ?_)) | ((with_reducible show OKo (stN _ _ _) _); (with_reducible refine Wp.xN ?_)) | ((with_reducible show OK (evIt _ _ _) _ _); (with_reducible refine Wp.xIt ?_)) | ((with_reducible show OK (evOp _ _ _) _ _); (with_reducible refine Wp.xOp ?_)) | ((with_reducible show OKo (outsOf _ _) _); (with_reducible refine Wp.xOu ?_)) | ((with_reducible show Wp.FB _ _ _ _); (with_reducible refine Wp.xFB ?_)) | ((with_reducible show Wp.WB _ _ _ _ _); (with_reducible refine Wp.xWB ?_)) | ((with_reducible show SC _ _); (with_reducible refine Wp.sc ?_ ?_); (focus first | assumption | ((with_reducible apply mulOk_r); decide) | ((with_reducible apply mulOk_l); decide) | ((with_reducible apply divOk_of); (focus decide); decide) | decide | omega | exact of_decide_eq_true rfl | (show _ < 1000000; omega) | (refine ⟨(by show _ < 1000000; omega), (by show _ < 1000000; omega)⟩) | (with_reducible exact rfl) | exact ⟨rfl, rfl⟩ | exact rfl)) | ((with_reducible show BR (.bl true) _ _); (with_reducible refine Wp.br_t ?_)) | ((with_reducible show BR (.bl false) _ _); (with_reducible refine Wp.br_f ?_)) | ((with_reducible show BR (.bl (_ && _)) _ _); (with_reducible refine Wp.br_and ?_)) | ((with_reducible show BR (.bl (!_)) _ _); (with_reducible refine Wp.br_n ?_)) | ((with_reducible show BR (.bl (@decide _ _)) _ _); (with_reducible refine Wp.br_dt ?_ ?_); (focus first | assumption | decide | omega | exact rfl | exact of_decide_eq_true rfl)) | ((with_reducible show BR (.bl (@decide _ _)) _ _); (with_reducible refine Wp.br_df ?_ ?_); (focus first | assumption | decide | omega | exact rfl | exact of_decide_eq_true rfl)) | ((with_reducible show BR (.bl _) _ _); (with_reducible refine Wp.br_ct ?_ ?_); (focus first | assumption | exact rfl)) | ((with_reducible show BR (.bl _) _ _); (with_reducible refine Wp.br_cf ?_ ?_); (focus first | assumption | exact rfl)) | ((with_reducible show OK (R.bind (evE _ _ _) (fun d e1 => .ok [d] e1)) _ _); (with_reducible refine Wp.one ?_)) | ((with_reducible show OKo _ _); (show OKo (Option.some _) _); (with_reducible refine Wp.some_ ?_))))); try dsimp only))
def odds (t : Nat) (m : List Int) : List D := [.non, ZD m, .int 0, .str "1", .dct [], .tup [.int 0], .tup [.int ((t : Int) + 1)], .tup [.int 1, .int 1], .tup [.bl true], .tup [.non], .tup (m.map D.int ++ [.int 0]), .tup [.int 1, .int 2], if 1 < m.length then .tup (m.map D.int).reverse else .tup [.int 1, .int t]]
def isEr (r : FR) : Bool := match r with
  | .err 0 [] [] => true
  | _ => false
theorem isEr_eq {r : FR} (h : isEr r = true) : r = .err 0 [] [] := by
  unfold isEr at h
  split at h
  · rfl
  · cases h
def isOk (r : FR) : Bool := match r with
  | .ok .non [] => true
  | _ => false
theorem isOk_eq {r : FR} (h : isOk r = true) : r = .ok .non [] := by
  unfold isOk at h
  split at h
  · rfl
  · cases h
def chk9 (t : Nat) : Bool := (tab t).all fun p => isOk (sem T sub 9 [.int t, TD p.1]) && (odds t p.1).all fun v => isEr (sem T sub 9 [.int t, v])
def chkR (t : Nat) (p : List Int) : Bool := match rgo t 70 0 [(p, 0)] [p], wgo t 200 [(p, [])] [p] with
  | some R, some W => decide (R = W.map fun x => (x.1, (x.2.length : Int))) && decide (W.length ≤ 100) && (W.all fun x => decide (x.2.length ≤ 100) && (x.2.all fun l => decide (0 ≤ l) && decide (l ≤ (t : Int))) && decide (M (p ++ x.2) = x.1)) && ((tab t).all fun q => (getW W q.1).isSome)
  | _, _ => false
def chkRs (t : Nat) : Bool := (tab t).all fun p => chkR t p.1
structure F60 (t : Nat) : Prop where
  F : F11 t
  c9 : chk9 t = true
  r : chkRs t = true
theorem g1 : F60 1 := ⟨f1, by decide +kernel, by decide +kernel⟩
theorem g2 : F60 2 := ⟨f2, by decide +kernel, by decide +kernel⟩
theorem g3 : F60 3 := ⟨f3, by decide +kernel, by decide +kernel⟩
theorem g4 : F60 4 := ⟨f4, by decide +kernel, by decide +kernel⟩
theorem all_ch {α : Type} (f : α → Bool) : ∀ (m : Nat) (l : List α), l.length ≤ 2 * m → (∀ k, k < m → ((l.drop (2 * k)).take 2).all f = true) → l.all f = true
  | 0, l, h, _ => by
    have : l = [] := List.length_eq_zero_iff.mp (by omega)
    subst this
    rfl
  | m + 1, l, h, hk => by
    rw [← List.take_append_drop 2 l, List.all_append, Bool.and_eq_true]
    refine ⟨by simpa using hk 0 (by omega), all_ch f m (l.drop 2) (by simp; omega) fun k hkm => ?_⟩
    have := hk (k + 1) (by omega)
    rw [List.drop_drop]
    have e : 2 + 2 * k = 2 * (k + 1) := by omega
    rw [e]
    exact this
def ck5 (k : Nat) : Bool := (((tab 5).drop (2 * k)).take 2).all fun p => chkR 5 p.1
theorem ck5_0 : ck5 0 = true := by decide +kernel
theorem ck5_1 : ck5 1 = true := by decide +kernel
theorem ck5_2 : ck5 2 = true := by decide +kernel
theorem ck5_3 : ck5 3 = true := by decide +kernel
theorem ck5_4 : ck5 4 = true := by decide +kernel
theorem ck5_5 : ck5 5 = true := by decide +kernel
theorem ck5_6 : ck5 6 = true := by decide +kernel
theorem ck5_7 : ck5 7 = true := by decide +kernel
theorem ck5_8 : ck5 8 = true := by decide +kernel
theorem ck5_9 : ck5 9 = true := by decide +kernel
theorem ck5_10 : ck5 10 = true := by decide +kernel
theorem ck5_11 : ck5 11 = true := by decide +kernel
theorem ck5_12 : ck5 12 = true := by decide +kernel
theorem ck5_13 : ck5 13 = true := by decide +kernel
theorem ck5_14 : ck5 14 = true := by decide +kernel
theorem ck5_15 : ck5 15 = true := by decide +kernel
theorem ck5_all : ∀ k, k < 16 → ck5 k = true := fun k hk => match k, hk with
  | 0, _ => ck5_0
  | 1, _ => ck5_1
  | 2, _ => ck5_2
  | 3, _ => ck5_3
  | 4, _ => ck5_4
  | 5, _ => ck5_5
  | 6, _ => ck5_6
  | 7, _ => ck5_7
  | 8, _ => ck5_8
  | 9, _ => ck5_9
  | 10, _ => ck5_10
  | 11, _ => ck5_11
  | 12, _ => ck5_12
  | 13, _ => ck5_13
  | 14, _ => ck5_14
  | 15, _ => ck5_15
  | n + 16, h => absurd h (by omega)
theorem len5 : (tab 5).length ≤ 2 * 16 := by decide +kernel
theorem r5 : chkRs 5 = true := by
  have h := ck5_all
  have hl := len5
  unfold ck5 at h
  unfold chkRs
  generalize tab 5 = l at h hl ⊢
  exact all_ch _ 16 l hl h
theorem g5 : F60 5 := ⟨f5, by decide +kernel, r5⟩
def ck6 (k : Nat) : Bool := (((tab 6).drop (2 * k)).take 2).all fun p => chkR 6 p.1
theorem ck6_0 : ck6 0 = true := by decide +kernel
theorem ck6_1 : ck6 1 = true := by decide +kernel
theorem ck6_2 : ck6 2 = true := by decide +kernel
theorem ck6_3 : ck6 3 = true := by decide +kernel
theorem ck6_4 : ck6 4 = true := by decide +kernel
theorem ck6_5 : ck6 5 = true := by decide +kernel
theorem ck6_6 : ck6 6 = true := by decide +kernel
theorem ck6_7 : ck6 7 = true := by decide +kernel
theorem ck6_8 : ck6 8 = true := by decide +kernel
theorem ck6_9 : ck6 9 = true := by decide +kernel
theorem ck6_10 : ck6 10 = true := by decide +kernel
theorem ck6_11 : ck6 11 = true := by decide +kernel
theorem ck6_12 : ck6 12 = true := by decide +kernel
theorem ck6_13 : ck6 13 = true := by decide +kernel
theorem ck6_14 : ck6 14 = true := by decide +kernel
theorem ck6_15 : ck6 15 = true := by decide +kernel
theorem ck6_16 : ck6 16 = true := by decide +kernel
theorem ck6_17 : ck6 17 = true := by decide +kernel
theorem ck6_18 : ck6 18 = true := by decide +kernel
theorem ck6_19 : ck6 19 = true := by decide +kernel
theorem ck6_20 : ck6 20 = true := by decide +kernel
theorem ck6_21 : ck6 21 = true := by decide +kernel
theorem ck6_22 : ck6 22 = true := by decide +kernel
theorem ck6_23 : ck6 23 = true := by decide +kernel
theorem ck6_24 : ck6 24 = true := by decide +kernel
theorem ck6_25 : ck6 25 = true := by decide +kernel
theorem ck6_26 : ck6 26 = true := by decide +kernel
theorem ck6_27 : ck6 27 = true := by decide +kernel
theorem ck6_28 : ck6 28 = true := by decide +kernel
theorem ck6_29 : ck6 29 = true := by decide +kernel
theorem ck6_30 : ck6 30 = true := by decide +kernel
theorem ck6_31 : ck6 31 = true := by decide +kernel
theorem ck6_all : ∀ k, k < 32 → ck6 k = true := fun k hk => match k, hk with
  | 0, _ => ck6_0
  | 1, _ => ck6_1
  | 2, _ => ck6_2
  | 3, _ => ck6_3
  | 4, _ => ck6_4
  | 5, _ => ck6_5
  | 6, _ => ck6_6
  | 7, _ => ck6_7
  | 8, _ => ck6_8
  | 9, _ => ck6_9
  | 10, _ => ck6_10
  | 11, _ => ck6_11
  | 12, _ => ck6_12
  | 13, _ => ck6_13
  | 14, _ => ck6_14
  | 15, _ => ck6_15
  | 16, _ => ck6_16
  | 17, _ => ck6_17
  | 18, _ => ck6_18
  | 19, _ => ck6_19
  | 20, _ => ck6_20
  | 21, _ => ck6_21
  | 22, _ => ck6_22
  | 23, _ => ck6_23
  | 24, _ => ck6_24
  | 25, _ => ck6_25
  | 26, _ => ck6_26
  | 27, _ => ck6_27
  | 28, _ => ck6_28
  | 29, _ => ck6_29
  | 30, _ => ck6_30
  | 31, _ => ck6_31
  | n + 32, h => absurd h (by omega)
theorem len6 : (tab 6).length ≤ 2 * 32 := by decide +kernel
theorem r6 : chkRs 6 = true := by
  have h := ck6_all
  have hl := len6
  unfold ck6 at h
  unfold chkRs
  generalize tab 6 = l at h hl ⊢
  exact all_ch _ 32 l hl h
theorem g6 : F60 6 := ⟨f6, by decide +kernel, r6⟩
theorem gA (t : Nat) (h0 : 1 ≤ t) (h1 : t ≤ 6) : F60 t := by
  match t, h0, h1 with
  | 1, _, _ => exact g1
  | 2, _, _ => exact g2
  | 3, _, _ => exact g3
  | 4, _, _ => exact g4
  | 5, _, _ => exact g5
  | 6, _, _ => exact g6
end Lw
namespace Lw
open PySem Mi
local macro_rules | `(tactic| array_get_dec) => `(tactic| (first | ((with_reducible show OK (evE _ _ _) _ _); (with_reducible refine Wp.xE ?_)) | ((with_reducible show OK (evEs _ _ _) _ _); (with_reducible refine Wp.xEs ?_)) | ((with_reducible show OK (evS _ _ _ _) _ _); (with_reducible refine Wp.xS ?_)) | ((with_reducible show Wp.SQ _ _ _ _ _ _ _); (with_reducible refine Wp.xSQ ?_)) | ((with_reducible show OK (evHs _ _ _ _ _ _) _ _); (with_reducible refine Wp.xH ?_)) | ((with_reducible show ENV _ _); (with_reducible refine Wp.env (by dsimp only [st, gt, backE, wipeE]; try exact rfl) ?_)) | ((with_reducible show OKo (gt _ _) _); (show OKo (Option.some _) _); (with_reducible refine Wp.some_ ?_)) | ((with_reducible show OKo (evOp2 _ _ _) _); (with_reducible refine Wp.xO ?_)) | ((with_reducible show OKo (dsOf _) _); (with_reducible refine Wp.xDs ?_)) | ((with_reducible show OKo (arD _ _) _); (with_reducible refine Wp.xAr ?_)) | ((with_reducible show OKo (putO _ _ _) _); (with_reducible refine Wp.xPo ?_)) | ((with_reducible show OKo (evBi _ _) _); (with_reducible refine Wp.xBi ?_)) | ((with_reducible show OKo (bindT _ _ _) _); (with_reducible refine Wp.xB ?_)) | ((with_reducible show OKo (bindTs _ _ _) _); (with_reducible refine Wp.xBs ?_)) | ((with_reducible show OKo (stN _ _ _) _); (with_reducible refine Wp.xN ?_)) | ((with_reducible show OK (evIt _ _ _) _ _); (with_reducible refine Wp.xIt ?_)) | ((with_reducible show OK (evOp _ _ _) _ _); (with_reducible refine Wp.xOp ?_)) | ((with_reducible show OKo (outsOf _ _) _); (with_reducible refine Wp.xOu ?_)) | ((with_reducible show Wp.FB _ _ _ _); (with_reducible refine Wp.xFB ?_)) | ((with_reducible show Wp.WB _ _ _ _ _); (with_reducible refine Wp.xWB ?_)) | ((with_reducible show SC _ _); (with_reducible refine Wp.sc ?_ ?_); (focus first | assumption | ((with_reducible apply mulOk_r); decide) | ((with_reducible apply mulOk_l); decide) | ((with_reducible apply divOk_of); (focus decide); decide) | decide | omega | exact of_decide_eq_true rfl | (show _ < 1000000; omega) | (refine ⟨(by show _ < 1000000; omega), (by show _ < 1000000; omega)⟩) | (with_reducible exact rfl) | exact ⟨rfl, rfl⟩ | exact rfl)) | ((with_reducible show BR (.bl true) _ _); (with_reducible refine Wp.br_t ?_)) | ((with_reducible show BR (.bl false) _ _); (with_reducible refine Wp.br_f ?_)) | ((with_reducible show BR (.bl (_ && _)) _ _); (with_reducible refine Wp.br_and ?_)) | ((with_reducible show BR (.bl (!_)) _ _); (with_reducible refine Wp.br_n ?_)) | ((with_reducible show BR (.bl (@decide _ _)) _ _); (with_reducible refine Wp.br_dt ?_ ?_); (focus first | assumption | decide | omega | exact rfl | exact of_decide_eq_true rfl)) | ((with_reducible show BR (.bl (@decide _ _)) _ _); (with_reducible refine Wp.br_df ?_ ?_); (focus first | assumption | decide | omega | exact rfl | exact of_decide_eq_true rfl)) | ((with_reducible show BR (.bl _) _ _); (with_reducible refine Wp.br_ct ?_ ?_); (focus first | assumption | exact rfl)) | ((with_reducible show BR (.bl _) _ _); (with_reducible refine Wp.br_cf ?_ ?_); (focus first | assumption | exact rfl)) | ((with_reducible show OK (R.bind (evE _ _ _) (fun d e1 => .ok [d] e1)) _ _); (with_reducible refine Wp.one ?_)) | ((with_reducible show OKo _ _); (show OKo (Option.some _) _); (with_reducible refine Wp.some_ ?_))))
local macro_rules | `(tactic| array_mem_dec) => `(tactic| ((repeat (first | ((with_reducible show OK (evE _ _ _) _ _); (with_reducible refine Wp.xE ?_)) | ((with_reducible show OK (evEs _ _ _) _ _); (with_reducible refine Wp.xEs ?_)) | ((with_reducible show OK (evS _ _ _ _) _ _); (with_reducible refine Wp.xS ?_)) | ((with_reducible show Wp.SQ _ _ _ _ _ _ _); (with_reducible refine Wp.xSQ ?_)) | ((with_reducible show OK (evHs _ _ _ _ _ _) _ _); (with_reducible refine Wp.xH ?_)) | ((with_reducible show ENV _ _); (with_reducible refine Wp.env (by dsimp only [st, gt, backE, wipeE]; try exact rfl) ?_)) | ((with_reducible show OKo (gt _ _) _); (show OKo (Option.some _) _); (with_reducible refine Wp.some_ ?_)) | ((with_reducible show OKo (evOp2 _ _ _) _); (with_reducible refine Wp.xO ?_)) | ((with_reducible show OKo (dsOf _) _); (with_reducible refine Wp.xDs ?_)) | ((with_reducible show OKo (arD _ _) _); (with_reducible refine Wp.xAr ?_)) | ((with_reducible show OKo (putO _ _ _) _); (with_reducible refine Wp.xPo ?_)) | ((with_reducible show OKo (evBi _ _) _); (with_reducible refine Wp.xBi ?_)) | ((with_reducible show OKo (bindT _ _ _) _); (with_reducible refine Wp.xB ?_)) | ((with_reducible show OKo (bindTs _ _ _) _); (with_reducible refine Wp.xBs ?_)) | ((with_reducible show OKo (stN _ _ _) _); (with_reducible refine Wp.xN ?_)) | ((with_reducible show OK (evIt _ _ _) _ _); (with_reducible refine Wp.xIt ?_)) | ((with_reducible show OK (evOp _ _ _) _ _); (with_reducible refine Wp.xOp ?_)) | ((with_reducible show OKo (outsOf _ _) _); (with_reducible refine Wp.xOu ?_)) | ((with_reducible show Wp.FB _ _ _ _); (with_reducible refine Wp.xFB ?_)) | ((with_reducible show Wp.WB _ _ _ _ _); (with_reducible refine Wp.xWB ?_)) | ((with_reducible show SC _ _); (with_reducible refine Wp.sc ?_ ?_); (focus first | assumption | ((with_reducible apply mulOk_r); decide) | ((with_reducible apply mulOk_l); decide) | ((with_reducible apply divOk_of); (focus decide); decide) | decide | omega | exact of_decide_eq_true rfl | (show _ < 1000000; omega) | (refine ⟨(by show _ < 1000000; omega), (by show _ < 1000000; omega)⟩) | (with_reducible exact rfl) | exact ⟨rfl, rfl⟩ | exact rfl)) | ((with_reducible show BR (.bl true) _ _); (with_reducible refine Wp.br_t ?_)) | ((with_reducible show BR (.bl false) _ _); (with_reducible refine Wp.br_f ?_)) | ((with_reducible show BR (.bl (_ && _)) _ _); (with_reducible refine Wp.br_and ?_)) | ((with_reducible show BR (.bl (!_)) _ _); (with_reducible refine Wp.br_n ?_)) | ((with_reducible show BR (.bl (@decide _ _)) _ _); (with_reducible refine Wp.br_dt ?_ ?_); (focus first | assumption | decide | omega | exact rfl | exact of_decide_eq_true rfl)) | ((with_reducible show BR (.bl (@decide _ _)) _ _); (with_reducible refine Wp.br_df ?_ ?_); (focus first | assumption | decide | omega | exact rfl | exact of_decide_eq_true rfl)) | ((with_reducible show BR (.bl _) _ _); (with_reducible refine Wp.br_ct ?_ ?_); (focus first | assumption | exact rfl)) | ((with_reducible show BR (.bl _) _ _); (with_reducible refine Wp.br_cf ?_ ?_); (focus first | assumption | exact rfl)) | ((with_reducible show OK (R.bind (evE _ _ _) (fun d e1 => .ok [d] e1)) _ _); (with_reducible refine Wp.one ?_)) | ((with_reducible show OKo _ _); (show OKo (Option.some _) _); (with_reducible refine Wp.some_ ?_)))); try dsimp only))
local macro_rules | `(tactic| decreasing_trivial_pre_omega) => `(tactic| ((repeat ((fail_if_success (with_reducible show OK (evS _ _ (Sm.seq (Sm.ife _ _ _) _) _) _ _)); (first | ((with_reducible show OK (evE _ _ _) _ _); (with_reducible refine Wp.xE ?_)) | ((with_reducible show OK (evEs _ _ _) _ _); (with_reducible refine Wp.xEs ?_)) | ((with_reducible show OK (evS _ _ _ _) _ _); (with_reducible refine Wp.xS ?_)) | ((with_reducible show Wp.SQ _ _ _ _ _ _ _); (with_reducible refine Wp.xSQ ?_)) | ((with_reducible show OK (evHs _ _ _ _ _ _) _ _); (with_reducible refine Wp.xH ?_)) | ((with_reducible show ENV _ _); (with_reducible refine Wp.env (by dsimp only [st, gt, backE, wipeE]; try exact rfl) ?_)) | ((with_reducible show OKo (gt _ _) _); (show OKo (Option.some _) _); (with_reducible refine Wp.some_ ?_)) | ((with_reducible show OKo (evOp2 _ _ _) _); (with_reducible refine Wp.xO ?_)) | ((with_reducible show OKo (dsOf _) _); (with_reducible refine Wp.xDs ?_)) | ((with_reducible show OKo (arD _ _) _); (with_reducible refine Wp.xAr ?_)) | ((with_reducible show OKo (putO _ _ _) _); (with_reducible refine Wp.xPo ?_)) | ((with_reducible show OKo (evBi _ _) _); (with_reducible refine Wp.xBi ?_)) | ((with_reducible show OKo (bindT _ _ _) _); (with_reducible refine Wp.xB ?_)) | ((with_reducible show OKo (bindTs _ _ _) _); (with_reducible refine Wp.xBs ?_)) | ((with_reducible show OKo (stN _ _ _) _); (with_reducible refine Wp.xN ?_)) | ((with_reducible show OK (evIt _ _ _) _ _); (with_reducible refine Wp.xIt ?_)) | ((with_reducible show OK (evOp _ _ _) _ _); (with_reducible refine Wp.xOp ?_)) | ((with_reducible show OKo (outsOf _ _) _); (with_reducible refine Wp.xOu ?_)) | ((with_reducible show Wp.FB _ _ _ _); (with_reducible refine Wp.xFB ?_)) | ((with_reducible show Wp.WB _ _ _ _ _); (with_reducible refine Wp.xWB ?_)) | ((with_reducible show SC _ _); (with_reducible refine Wp.sc ?_ ?_); (focus first | assumption | ((with_reducible apply mulOk_r); decide) | ((with_reducible apply mulOk_l); decide) | ((with_reducible apply divOk_of); (focus decide); decide) | decide | omega | exact of_decide_eq_true rfl | (show _ < 1000000; omega) | (refine ⟨(by show _ < 1000000; omega), (by show _ < 1000000; omega)⟩) | (with_reducible exact rfl) | exact ⟨rfl, rfl⟩ | exact rfl)) | ((with_reducible show BR (.bl true) _ _); (with_reducible refine Wp.br_t ?_)) | ((with_reducible show BR (.bl false) _ _); (with_reducible refine Wp.br_f ?_)) | ((with_reducible show BR (.bl (_ && _)) _ _); (with_reducible refine Wp.br_and ?_)) | ((with_reducible show BR (.bl (!_)) _ _); (with_reducible refine Wp.br_n ?_)) | ((with_reducible show BR (.bl (@decide _ _)) _ _); (with_reducible refine Wp.br_dt ?_ ?_); (focus first | assumption | decide | omega | exact rfl | exact of_decide_eq_true rfl)) | ((with_reducible show BR (.bl (@decide _ _)) _ _); (with_reducible refine Wp.br_df ?_ ?_); (focus first | assumption | decide | omega | exact rfl | exact of_decide_eq_true rfl)) | ((with_reducible show BR (.bl _) _ _); (with_reducible refine Wp.br_ct ?_ ?_); (focus first | assumption | exact rfl)) | ((with_reducible show BR (.bl _) _ _); (with_reducible refine Wp.br_cf ?_ ?_); (focus first | assumption | exact rfl)) | ((with_reducible show OK (R.bind (evE _ _ _) (fun d e1 => .ok [d] e1)) _ _); (with_reducible refine Wp.one ?_)) | ((with_reducible show OKo _ _); (show OKo (Option.some _) _); (with_reducible refine Wp.some_ ?_))))); try dsimp only))
theorem toErr {r : FR} {c : Nat} {fs os : List D} (h : OKF r (fun _ _ => False) (fun c' fs' os' => c' = c ∧ fs' = fs ∧ os' = os)) : r = .err c fs os := by
  cases r with
  | ok => exact h.elim
  | err => rw [h.1, h.2.1, h.2.2]
  | bad => exact h.elim
theorem q9y {t : Nat} (G : F60 t) {p : List Int × Nat} (hp : p ∈ tab t) : sem T sub 9 [.int t, TD p.1] = .ok .non [] := by
  have h := List.all_eq_true.mp G.c9 p hp
  rw [Bool.and_eq_true] at h
  exact isOk_eq h.1
theorem q9n {t : Nat} (G : F60 t) {p : List Int × Nat} (hp : p ∈ tab t) {v : D} (hv : v ∈ odds t p.1) : sem T sub 9 [.int t, v] = .err 0 [] [] := by
  have h := List.all_eq_true.mp G.c9 p hp
  rw [Bool.and_eq_true] at h
  exact isEr_eq (List.all_eq_true.mp h.2 v hv)
structure Srch (t : Nat) (p : List Int) (W : Fw) : Prop where
  r : rgo t 70 0 [(p, 0)] [p] = some (W.map fun x => (x.1, (x.2.length : Int)))
  w : wgo t 200 [(p, [])] [p] = some W
  len : W.length ≤ 100
  ok : ∀ x ∈ W, x.2.length ≤ 100 ∧ good t x.2 ∧ M (p ++ x.2) = x.1
  all : ∀ q ∈ tab t, ∃ w, getW W q.1 = some w
theorem srch {t : Nat} (G : F60 t) {p : List Int × Nat} (hp : p ∈ tab t) : ∃ W, Srch t p.1 W := by
  have h : chkR t p.1 = true := List.all_eq_true.mp G.r p hp
  unfold chkR at h
  split at h
  case h_2 => cases h
  rename_i R W hR hW
  rw [Bool.and_eq_true, Bool.and_eq_true, Bool.and_eq_true] at h
  obtain ⟨⟨⟨h1, h2⟩, h3⟩, h4⟩ := h
  refine ⟨W, by rw [hR, of_decide_eq_true h1], hW, of_decide_eq_true h2, fun x hx => ?_, fun q hq => Option.isSome_iff_exists.mp (List.all_eq_true.mp h4 q hq)⟩
  have h5 := List.all_eq_true.mp h3 x hx
  rw [Bool.and_eq_true, Bool.and_eq_true, List.all_eq_true] at h5
  refine ⟨of_decide_eq_true h5.1.1, fun l hl => ?_, of_decide_eq_true h5.2⟩
  have h6 := h5.1.2 l hl
  rw [Bool.and_eq_true] at h6
  exact ⟨of_decide_eq_true h6.1, of_decide_eq_true h6.2⟩
theorem q15 {t : Nat} (ht : t < 7) (G : F60 t) {p q : List Int × Nat} (hp : p ∈ tab t) (hq : q ∈ tab t) {W : Fw} (S : Srch t p.1 W) {w : List Int} (hw : getW W q.1 = some w) : sem T sub 15 [.int t, TD p.1, TD q.1] = .ok (ZD w) [] := by
  refine Wp.toEq (Wp.fn (E := [some (.int t), some (TD p.1), some (TD q.1)]) (show T 15 = some ⟨_, _, _⟩ from rfl) rfl rfl ?_)
  array_mem_dec
  refine Wp.c_eq (by decide) (q9y G hp) ?_
  array_mem_dec
  refine Wp.c_eq (by decide) (q9y G hq) ?_
  array_mem_dec
  refine Wp.c_by (by decide) (q14 ht G.F hp S.w S.len fun x hx => (S.ok x hx).1) ?_
  rintro _ _ ⟨rfl, rfl⟩
  array_mem_dec
  refine Wp.some (idx_dW hw) ?_
  array_mem_dec
  exact ⟨rfl, rfl⟩
theorem q15a {t : Nat} {u v : D} (h : sem T sub 9 [.int t, u] = .err 0 [] []) : sem T sub 15 [.int t, u, v] = .err 0 [] [] := by
  refine toErr (Wp.fnX (E := [some (.int t), some u, some v]) (show T 15 = some ⟨_, _, _⟩ from rfl) rfl rfl ?_)
  array_mem_dec
  refine Wp.c_err (by decide) h ?_
  array_mem_dec
  exact ⟨rfl, rfl, rfl⟩
theorem q15b {t : Nat} {u v : D} (h0 : sem T sub 9 [.int t, u] = .ok .non []) (h : sem T sub 9 [.int t, v] = .err 0 [] []) : sem T sub 15 [.int t, u, v] = .err 0 [] [] := by
  refine toErr (Wp.fnX (E := [some (.int t), some u, some v]) (show T 15 = some ⟨_, _, _⟩ from rfl) rfl rfl ?_)
  array_mem_dec
  refine Wp.c_eq (by decide) h0 ?_
  array_mem_dec
  refine Wp.c_err (by decide) h ?_
  array_mem_dec
  exact ⟨rfl, rfl, rfl⟩
theorem q16 {t : Nat} {u v : D} {w : List Int} (h : sem T sub 15 [.int t, u, v] = .ok (ZD w) []) : sem T sub 16 [.int t, u, v] = .ok (.int w.length) [] := by
  refine Wp.toEq (Wp.fn (E := [some (.int t), some u, some v]) (show T 16 = some ⟨_, _, _⟩ from rfl) rfl rfl ?_)
  array_mem_dec
  refine Wp.c_eq (by decide) h ?_
  array_mem_dec
  rw [List.length_map]
  exact ⟨rfl, rfl⟩
theorem q16n {t : Nat} {u v : D} (h : sem T sub 15 [.int t, u, v] = .err 0 [] []) : sem T sub 16 [.int t, u, v] = .err 0 [] [] := by
  refine toErr (Wp.fnX (E := [some (.int t), some u, some v]) (show T 16 = some ⟨_, _, _⟩ from rfl) rfl rfl ?_)
  array_mem_dec
  refine Wp.c_err (by decide) h ?_
  array_mem_dec
  exact ⟨rfl, rfl, rfl⟩
theorem q17 {t : Nat} {way : Int} (hy : way = 0 ∨ way = 1) {u v : D} {w : List Int} (h : sem T sub 15 [.int t, u, v] = .ok (ZD w) []) : sem T sub 17 [.int way, .int t, u, v] = .ok (if way = 0 then .int w.length else ZD w) [] := by
  refine Wp.toEq (Wp.fn (E := [some (.int way), some (.int t), some u, some v, none]) (show T 17 = some ⟨_, _, _⟩ from rfl) rfl rfl ?_)
  rcases hy with rfl | rfl
  · array_mem_dec
    refine Wp.c_eq (by decide) (q16 h) ?_
    array_mem_dec
    exact ⟨rfl, rfl⟩
  · array_mem_dec
    refine Wp.c_eq (by decide) h ?_
    array_mem_dec
    exact ⟨rfl, rfl⟩
theorem q17n {t : Nat} {way : Int} (hy : way = 0 ∨ way = 1) {u v : D} (h : sem T sub 15 [.int t, u, v] = .err 0 [] []) : sem T sub 17 [.int way, .int t, u, v] = .ok (.str "memory") [] := by
  refine Wp.toEq (Wp.fn (E := [some (.int way), some (.int t), some u, some v, none]) (show T 17 = some ⟨_, _, _⟩ from rfl) rfl rfl ?_)
  rcases hy with rfl | rfl
  · array_mem_dec
    refine Wp.c_err (by decide) (q16n h) ?_
    array_mem_dec
    exact ⟨rfl, rfl⟩
  · array_mem_dec
    refine Wp.c_err (by decide) h ?_
    array_mem_dec
    exact ⟨rfl, rfl⟩
end Lw
namespace Lw
open PySem Mi
local macro_rules | `(tactic| array_get_dec) => `(tactic| (first | ((with_reducible show OK (evE _ _ _) _ _); (with_reducible refine Wp.xE ?_)) | ((with_reducible show OK (evEs _ _ _) _ _); (with_reducible refine Wp.xEs ?_)) | ((with_reducible show OK (evS _ _ _ _) _ _); (with_reducible refine Wp.xS ?_)) | ((with_reducible show Wp.SQ _ _ _ _ _ _ _); (with_reducible refine Wp.xSQ ?_)) | ((with_reducible show OK (evHs _ _ _ _ _ _) _ _); (with_reducible refine Wp.xH ?_)) | ((with_reducible show ENV _ _); (with_reducible refine Wp.env (by dsimp only [st, gt, backE, wipeE]; try exact rfl) ?_)) | ((with_reducible show OKo (gt _ _) _); (show OKo (Option.some _) _); (with_reducible refine Wp.some_ ?_)) | ((with_reducible show OKo (evOp2 _ _ _) _); (with_reducible refine Wp.xO ?_)) | ((with_reducible show OKo (dsOf _) _); (with_reducible refine Wp.xDs ?_)) | ((with_reducible show OKo (arD _ _) _); (with_reducible refine Wp.xAr ?_)) | ((with_reducible show OKo (putO _ _ _) _); (with_reducible refine Wp.xPo ?_)) | ((with_reducible show OKo (evBi _ _) _); (with_reducible refine Wp.xBi ?_)) | ((with_reducible show OKo (bindT _ _ _) _); (with_reducible refine Wp.xB ?_)) | ((with_reducible show OKo (bindTs _ _ _) _); (with_reducible refine Wp.xBs ?_)) | ((with_reducible show OKo (stN _ _ _) _); (with_reducible refine Wp.xN ?_)) | ((with_reducible show OK (evIt _ _ _) _ _); (with_reducible refine Wp.xIt ?_)) | ((with_reducible show OK (evOp _ _ _) _ _); (with_reducible refine Wp.xOp ?_)) | ((with_reducible show OKo (outsOf _ _) _); (with_reducible refine Wp.xOu ?_)) | ((with_reducible show Wp.FB _ _ _ _); (with_reducible refine Wp.xFB ?_)) | ((with_reducible show Wp.WB _ _ _ _ _); (with_reducible refine Wp.xWB ?_)) | ((with_reducible show SC _ _); (with_reducible refine Wp.sc ?_ ?_); (focus first | assumption | ((with_reducible apply mulOk_r); decide) | ((with_reducible apply mulOk_l); decide) | ((with_reducible apply divOk_of); (focus decide); decide) | decide | omega | exact of_decide_eq_true rfl | (show _ < 1000000; omega) | (refine ⟨(by show _ < 1000000; omega), (by show _ < 1000000; omega)⟩) | (with_reducible exact rfl) | exact ⟨rfl, rfl⟩ | exact rfl)) | ((with_reducible show BR (.bl true) _ _); (with_reducible refine Wp.br_t ?_)) | ((with_reducible show BR (.bl false) _ _); (with_reducible refine Wp.br_f ?_)) | ((with_reducible show BR (.bl (_ && _)) _ _); (with_reducible refine Wp.br_and ?_)) | ((with_reducible show BR (.bl (!_)) _ _); (with_reducible refine Wp.br_n ?_)) | ((with_reducible show BR (.bl (@decide _ _)) _ _); (with_reducible refine Wp.br_dt ?_ ?_); (focus first | assumption | decide | omega | exact rfl | exact of_decide_eq_true rfl)) | ((with_reducible show BR (.bl (@decide _ _)) _ _); (with_reducible refine Wp.br_df ?_ ?_); (focus first | assumption | decide | omega | exact rfl | exact of_decide_eq_true rfl)) | ((with_reducible show BR (.bl _) _ _); (with_reducible refine Wp.br_ct ?_ ?_); (focus first | assumption | exact rfl)) | ((with_reducible show BR (.bl _) _ _); (with_reducible refine Wp.br_cf ?_ ?_); (focus first | assumption | exact rfl)) | ((with_reducible show OK (R.bind (evE _ _ _) (fun d e1 => .ok [d] e1)) _ _); (with_reducible refine Wp.one ?_)) | ((with_reducible show OKo _ _); (show OKo (Option.some _) _); (with_reducible refine Wp.some_ ?_))))
local macro_rules | `(tactic| array_mem_dec) => `(tactic| ((repeat (first | ((with_reducible show OK (evE _ _ _) _ _); (with_reducible refine Wp.xE ?_)) | ((with_reducible show OK (evEs _ _ _) _ _); (with_reducible refine Wp.xEs ?_)) | ((with_reducible show OK (evS _ _ _ _) _ _); (with_reducible refine Wp.xS ?_)) | ((with_reducible show Wp.SQ _ _ _ _ _ _ _); (with_reducible refine Wp.xSQ ?_)) | ((with_reducible show OK (evHs _ _ _ _ _ _) _ _); (with_reducible refine Wp.xH ?_)) | ((with_reducible show ENV _ _); (with_reducible refine Wp.env (by dsimp only [st, gt, backE, wipeE]; try exact rfl) ?_)) | ((with_reducible show OKo (gt _ _) _); (show OKo (Option.some _) _); (with_reducible refine Wp.some_ ?_)) | ((with_reducible show OKo (evOp2 _ _ _) _); (with_reducible refine Wp.xO ?_)) | ((with_reducible show OKo (dsOf _) _); (with_reducible refine Wp.xDs ?_)) | ((with_reducible show OKo (arD _ _) _); (with_reducible refine Wp.xAr ?_)) | ((with_reducible show OKo (putO _ _ _) _); (with_reducible refine Wp.xPo ?_)) | ((with_reducible show OKo (evBi _ _) _); (with_reducible refine Wp.xBi ?_)) | ((with_reducible show OKo (bindT _ _ _) _); (with_reducible refine Wp.xB ?_)) | ((with_reducible show OKo (bindTs _ _ _) _); (with_reducible refine Wp.xBs ?_)) | ((with_reducible show OKo (stN _ _ _) _); (with_reducible refine Wp.xN ?_)) | ((with_reducible show OK (evIt _ _ _) _ _); (with_reducible refine Wp.xIt ?_)) | ((with_reducible show OK (evOp _ _ _) _ _); (with_reducible refine Wp.xOp ?_)) | ((with_reducible show OKo (outsOf _ _) _); (with_reducible refine Wp.xOu ?_)) | ((with_reducible show Wp.FB _ _ _ _); (with_reducible refine Wp.xFB ?_)) | ((with_reducible show Wp.WB _ _ _ _ _); (with_reducible refine Wp.xWB ?_)) | ((with_reducible show SC _ _); (with_reducible refine Wp.sc ?_ ?_); (focus first | assumption | ((with_reducible apply mulOk_r); decide) | ((with_reducible apply mulOk_l); decide) | ((with_reducible apply divOk_of); (focus decide); decide) | decide | omega | exact of_decide_eq_true rfl | (show _ < 1000000; omega) | (refine ⟨(by show _ < 1000000; omega), (by show _ < 1000000; omega)⟩) | (with_reducible exact rfl) | exact ⟨rfl, rfl⟩ | exact rfl)) | ((with_reducible show BR (.bl true) _ _); (with_reducible refine Wp.br_t ?_)) | ((with_reducible show BR (.bl false) _ _); (with_reducible refine Wp.br_f ?_)) | ((with_reducible show BR (.bl (_ && _)) _ _); (with_reducible refine Wp.br_and ?_)) | ((with_reducible show BR (.bl (!_)) _ _); (with_reducible refine Wp.br_n ?_)) | ((with_reducible show BR (.bl (@decide _ _)) _ _); (with_reducible refine Wp.br_dt ?_ ?_); (focus first | assumption | decide | omega | exact rfl | exact of_decide_eq_true rfl)) | ((with_reducible show BR (.bl (@decide _ _)) _ _); (with_reducible refine Wp.br_df ?_ ?_); (focus first | assumption | decide | omega | exact rfl | exact of_decide_eq_true rfl)) | ((with_reducible show BR (.bl _) _ _); (with_reducible refine Wp.br_ct ?_ ?_); (focus first | assumption | exact rfl)) | ((with_reducible show BR (.bl _) _ _); (with_reducible refine Wp.br_cf ?_ ?_); (focus first | assumption | exact rfl)) | ((with_reducible show OK (R.bind (evE _ _ _) (fun d e1 => .ok [d] e1)) _ _); (with_reducible refine Wp.one ?_)) | ((with_reducible show OKo _ _); (show OKo (Option.some _) _); (with_reducible refine Wp.some_ ?_)))); try dsimp only))
local macro_rules | `(tactic| decreasing_trivial_pre_omega) => `(tactic| ((repeat ((fail_if_success (with_reducible show OK (evS _ _ (Sm.seq (Sm.ife _ _ _) _) _) _ _)); (first | ((with_reducible show OK (evE _ _ _) _ _); (with_reducible refine Wp.xE ?_)) | ((with_reducible show OK (evEs _ _ _) _ _); (with_reducible refine Wp.xEs ?_)) | ((with_reducible show OK (evS _ _ _ _) _ _); (with_reducible refine Wp.xS ?_)) | ((with_reducible show Wp.SQ _ _ _ _ _ _ _); (with_reducible refine Wp.xSQ ?_)) | ((with_reducible show OK (evHs _ _ _ _ _ _) _ _); (with_reducible refine Wp.xH ?_)) | ((with_reducible show ENV _ _); (with_reducible refine Wp.env (by dsimp only [st, gt, backE, wipeE]; try exact rfl) ?_)) | ((with_reducible show OKo (gt _ _) _); (show OKo (Option.some _) _); (with_reducible refine Wp.some_ ?_)) | ((with_reducible show OKo (evOp2 _ _ _) _); (with_reducible refine Wp.xO ?_)) | ((with_reducible show OKo (dsOf _) _); (with_reducible refine Wp.xDs ?_)) | ((with_reducible show OKo (arD _ _) _); (with_reducible refine Wp.xAr ?_)) | ((with_reducible show OKo (putO _ _ _) _); (with_reducible refine Wp.xPo ?_)) | ((with_reducible show OKo (evBi _ _) _); (with_reducible refine Wp.xBi ?_)) | ((with_reducible show OKo (bindT _ _ _) _); (with_reducible refine Wp.xB ?_)) | ((with_reducible show OKo (bindTs _ _ _) _); (with_reducible refine Wp.xBs ?_)) | ((with_reducible show OKo (stN _ _ _) _); (with_reducible refine Wp.xN ?_)) | ((with_reducible show OK (evIt _ _ _) _ _); (with_reducible refine Wp.xIt ?_)) | ((with_reducible show OK (evOp _ _ _) _ _); (with_reducible refine Wp.xOp ?_)) | ((with_reducible show OKo (outsOf _ _) _); (with_reducible refine Wp.xOu ?_)) | ((with_reducible show Wp.FB _ _ _ _); (with_reducible refine Wp.xFB ?_)) | ((with_reducible show Wp.WB _ _ _ _ _); (with_reducible refine Wp.xWB ?_)) | ((with_reducible show SC _ _); (with_reducible refine Wp.sc ?_ ?_); (focus first | assumption | ((with_reducible apply mulOk_r); decide) | ((with_reducible apply mulOk_l); decide) | ((with_reducible apply divOk_of); (focus decide); decide) | decide | omega | exact of_decide_eq_true rfl | (show _ < 1000000; omega) | (refine ⟨(by show _ < 1000000; omega), (by show _ < 1000000; omega)⟩) | (with_reducible exact rfl) | exact ⟨rfl, rfl⟩ | exact rfl)) | ((with_reducible show BR (.bl true) _ _); (with_reducible refine Wp.br_t ?_)) | ((with_reducible show BR (.bl false) _ _); (with_reducible refine Wp.br_f ?_)) | ((with_reducible show BR (.bl (_ && _)) _ _); (with_reducible refine Wp.br_and ?_)) | ((with_reducible show BR (.bl (!_)) _ _); (with_reducible refine Wp.br_n ?_)) | ((with_reducible show BR (.bl (@decide _ _)) _ _); (with_reducible refine Wp.br_dt ?_ ?_); (focus first | assumption | decide | omega | exact rfl | exact of_decide_eq_true rfl)) | ((with_reducible show BR (.bl (@decide _ _)) _ _); (with_reducible refine Wp.br_df ?_ ?_); (focus first | assumption | decide | omega | exact rfl | exact of_decide_eq_true rfl)) | ((with_reducible show BR (.bl _) _ _); (with_reducible refine Wp.br_ct ?_ ?_); (focus first | assumption | exact rfl)) | ((with_reducible show BR (.bl _) _ _); (with_reducible refine Wp.br_cf ?_ ?_); (focus first | assumption | exact rfl)) | ((with_reducible show OK (R.bind (evE _ _ _) (fun d e1 => .ok [d] e1)) _ _); (with_reducible refine Wp.one ?_)) | ((with_reducible show OKo _ _); (show OKo (Option.some _) _); (with_reducible refine Wp.some_ ?_))))); try dsimp only))
theorem getK_dR (k : List Int) : ∀ f : Fd, getK (f.map fun x => (TD x.1, D.int x.2)) (TD k) = (f.find? fun x => decide (x.1 = k)).map fun x => D.int x.2
  | [] => rfl
  | x :: r => by
    show (if eqD (TD x.1) (TD k) = true then some (D.int x.2) else getK (r.map fun x => (TD x.1, D.int x.2)) (TD k)) = Option.map _ (List.find? _ (x :: r))
    rw [eq_TD, getK_dR k r, List.find?_cons]
    by_cases h : x.1 = k <;> simp [h]
theorem find_W (k w : List Int) : ∀ W : Fw, getW W k = some w → ((W.map fun x => (x.1, (x.2.length : Int))).find? fun x => decide (x.1 = k)) = some (k, (w.length : Int))
  | [], h => by cases h
  | x :: r, h => by
    have h : (if x.1 = k then some x.2 else getW r k) = some w := h
    rw [List.map_cons, List.find?_cons]
    by_cases hx : x.1 = k
    · rw [if_pos hx] at h
      cases h
      simp [hx]
    · rw [if_neg hx] at h
      simp only [hx, decide_false]
      exact find_W k w r h
theorem idx_dR {W : Fw} {k w : List Int} (h : getW W k = some w) : Mi.idxD (dR (W.map fun x => (x.1, (x.2.length : Int)))) (TD k) = some (.int w.length) := by
  show (if isTupD (TD k) && isKey (TD k) then getK ((W.map fun x => (x.1, (x.2.length : Int))).map fun x => (TD x.1, D.int x.2)) (TD k) else none) = _
  rw [key_TD, getK_dR, find_W k w W h]
  rfl
theorem shw100 : ((List.range 101).all fun n => shw SD (.int (n : Int)) && decide ((shown (.int (n : Int))).length < 1000)) = true := by decide +kernel
theorem shw_n {n : Nat} (h : n ≤ 100) : shw SD (.int (n : Int)) = true ∧ (shown (.int (n : Int))).length < 1000000 := by
  have h := List.all_eq_true.mp shw100 n (List.mem_range.mpr (by omega))
  rw [Bool.and_eq_true] at h
  exact ⟨h.1, by have := of_decide_eq_true h.2; omega⟩
theorem q18 (ns : List Int) (hl : ns.length ≤ 63) : OKF (sem T sub 18 [ZD ns]) (fun d os => d = .bl true ∧ os = []) NX := by
  refine Wp.fn (E := [some (ZD ns), none, none, none, none, none, none, none, none, none, none, none, none, none, none]) (show T 18 = some ⟨_, _, _⟩ from rfl) rfl rfl ?_
  array_mem_dec
  refine Wp.forM (fun done e => ∃ x1 x2 x3 x4 x5 x6 x7 x8 x9 x10 x11 x12 x13 x14, e = [some (ZD ns), x1, x2, x3, x4, x5, x6, x7, x8, x9, x10, x11, x12, x13, x14]) ⟨_, _, _, _, _, _, _, _, _, _, _, _, _, _, rfl⟩ ?_ ?_
  · rintro done k rest _ hdk ⟨x1, x2, x3, x4, x5, x6, x7, x8, x9, x10, x11, x12, x13, x14, rfl⟩
    have hk : k < 2 := by
      have : k ∈ List.range (max 1 (min 2 ((ns.map D.int).length : Int))).toNat := by rw [hdk]; simp
      have := List.mem_range.mp this
      omega
    array_mem_dec
    refine Wp.c_by (by decide) (q0 ns _ hl) ?_
    rintro _ _ ⟨f, rfl, rfl⟩
    array_mem_dec
    refine Wp.c_by (by decide) (q1 f _ (by omega) (by omega)) ?_
    rintro _ _ ⟨v, f1, rfl, rfl, hv0, hv1⟩
    array_mem_dec
    obtain ⟨t, ht⟩ : ∃ t : Nat, 1 + v = (t : Int) := ⟨(1 + v).toNat, by omega⟩
    rw [ht]
    have ht7 : t < 7 := by omega
    have G := gA t (by omega) (by omega)
    have hn := G.F.nil
    unfold chkNil at hn
    rw [Bool.and_eq_true, Bool.and_eq_true] at hn
    have hl0 : 0 < (msD t).length := by unfold msD; rw [List.length_map]; exact of_decide_eq_true hn.1.2
    have hl1 : (msD t).length < 100 := by unfold msD; rw [List.length_map]; exact of_decide_eq_true hn.2
    refine Wp.c_eq (by decide) G.F.lmem ?_
    array_mem_dec
    refine Wp.c_by (by decide) (q3 f1 (msD t) hl0 (by omega)) ?_
    rintro d _ ⟨hd, f2, rfl⟩
    obtain ⟨p, hp, rfl⟩ := List.mem_map.mp hd
    obtain ⟨W, S⟩ := srch G hp
    array_mem_dec
    refine Wp.c_by (by decide) (q6 ht7 G.F hp S.r (by rw [List.length_map]; exact S.len)) ?_
    rintro _ _ ⟨rfl, rfl⟩
    array_mem_dec
    refine Wp.forM (fun done e => ∃ f x1 x7 x8 x9 x10 x11 x12 x13 x14, e = [some (ZD ns), x1, some (FD f), some (.int t), some (.lst (msD t)), some (TD p.1), some (dR (W.map fun x => (x.1, (x.2.length : Int)))), x7, x8, x9, x10, x11, x12, x13, x14]) ⟨_, _, _, _, _, _, _, _, _, _, rfl⟩ ?_ ?_
    · rintro done2 turn rest2 _ hdt ⟨f3, x1, x7, x8, x9, x10, x11, x12, x13, x14, rfl⟩
      array_mem_dec
      refine Wp.sc (by show _ + 1 < 1000000; omega) ?_
      array_mem_dec
      refine Wp.c_by (by decide) (q3 f3 (msD t ++ [TD p.1]) (by simp) (by rw [List.length_append]; simp; omega)) ?_
      rintro d _ ⟨hd, f4, rfl⟩
      obtain ⟨q, hq, rfl⟩ : ∃ q ∈ tab t, d = TD q.1 := by
        rcases List.mem_append.mp hd with h | h
        · obtain ⟨q, hq, h⟩ := List.mem_map.mp h
          exact ⟨q, hq, h.symm⟩
        · exact ⟨p, hp, List.mem_singleton.mp h⟩
      obtain ⟨w, hw⟩ := S.all q hq
      have e15 := q15 ht7 G hp hq S hw
      obtain ⟨wl, wg, wM⟩ := S.ok _ (getW_mem _ _ _ hw)
      have wl : w.length ≤ 100 := wl
      have hwl : (w.map D.int).length ≤ 100 := by rw [List.length_map]; exact wl
      have sh : shw SD (.int (w.length : Int)) = true ∧ (shown (.int (w.length : Int))).length < LIM := shw_n wl
      array_mem_dec
      refine Wp.c_eq (by decide) (q17 (.inl rfl) e15) ?_
      rw [if_pos rfl]
      array_mem_dec
      refine Wp.some (idx_dR hw) ?_
      array_mem_dec
      refine Wp.forM (fun done e => ∃ x12 x13 x14, e = [some (ZD ns), x1, some (FD f4), some (.int t), some (.lst (msD t)), some (TD p.1), some (dR (W.map fun x => (x.1, (x.2.length : Int)))), some (.int (0 + turn)), x8, x9, x10, some (TD q.1), x12, x13, x14]) ⟨_, _, _, rfl⟩ ?_ ?_
      · rintro done3 ag rest3 _ hda ⟨x12, x13, x14, rfl⟩
        array_mem_dec
        refine Wp.c_eq (by decide) (q17 (.inr rfl) e15) ?_
        rw [if_neg (by decide)]
        array_mem_dec
        refine Wp.some (idx_dR hw) ?_
        array_mem_dec
        rw [List.length_map]
        array_mem_dec
        refine Wp.lcM (fun done out e => ∃ x14, e = [some (ZD ns), x1, some (FD f4), some (.int t), some (.lst (msD t)), some (TD p.1), some (dR (W.map fun x => (x.1, (x.2.length : Int)))), some (.int (0 + turn)), x8, x9, x10, some (TD q.1), some (.int (0 + ag)), some (ZD w), x14] ∧ out = []) ⟨_, rfl, rfl⟩ ?_ ?_
        · rintro dn l rs out _ hdl ⟨x14, rfl, rfl⟩
          obtain ⟨l0, l1⟩ := wg l (by rw [hdl]; simp)
          array_mem_dec
          exact ⟨_, rfl, rfl⟩
        · rintro out _ ⟨x14, rfl, rfl⟩
          array_mem_dec
          refine Wp.c_by (by decide) (q5 p.1 w (by have := (fix_get G.F hp).2.2; omega)) ?_
          rintro _ _ ⟨rfl, rfl⟩
          rw [wM]
          have s9 : shp SD (TD q.1) = true ∧ shp SD (TD q.1) = true := ⟨shp_TD _, shp_TD _⟩
          have e9 : eqD (TD q.1) (TD q.1) = true := by rw [eq_TD]; simp
          have l9 : lendD (TD q.1) = true := by
            show (false || (q.1.map D.int).all atom) = true
            rw [Bool.false_or, List.all_eq_true]
            intro d hd
            obtain ⟨i, _, rfl⟩ := List.mem_map.mp hd
            rfl
          array_mem_dec
          exact ⟨_, _, _, rfl⟩
      · rintro _ ⟨x12, x13, x14, rfl⟩
        array_mem_dec
        exact ⟨_, _, _, _, _, _, _, _, _, _, rfl⟩
    · rintro _ ⟨f3, x1, x7, x8, x9, x10, x11, x12, x13, x14, rfl⟩
      array_mem_dec
      have F := fix_get G.F hp
      have hpl : (p.1.map D.int).length ≤ 20 := by rw [List.length_map]; exact F.2.2
      refine Wp.sc (by show _ + 1 < 1000000; omega) ?_
      array_mem_dec
      have hO : OKo (some (1 : Int)) fun _ => True := trivial
      obtain ⟨L, hL⟩ : ∃ L : List D, L = [.non, ZD p.1, .int 0, .str "1", .dct [], .tup [.int 0], .tup [.int ((t : Int) + 1)], .tup [.int 1, .int 1], .tup [.bl true], .tup [.non], .tup (p.1.map D.int ++ [.int 0]), .tup [.int 1, .int 2]] := ⟨_, rfl⟩
      rw [← hL]
      have hLl : L.length = 12 := by rw [hL]; rfl
      have hOd : odds t p.1 = L ++ [if 1 < p.1.length then .tup (p.1.map D.int).reverse else .tup [.int 1, .int t]] := by rw [hL]; rfl
      refine Wp.br_c (fun h => ?_) (fun h => ?_)
      · have h2 : 1 < p.1.length := by have := of_decide_eq_true h; rw [List.length_map] at this; omega
        rw [if_pos h2] at hOd
        array_mem_dec
        refine Wp.sc (by rw [hLl]; show _ < 1000000; simp) ?_
        array_mem_dec
        refine Wp.c_by (by decide) (q3 f3 _ (by simp) (by rw [List.length_append, hLl]; simp)) ?_
        rintro bad _ ⟨hb, f9, rfl⟩
        have hbad : bad ∈ odds t p.1 := by
          rw [hOd]
          rcases List.mem_append.mp hb with h | h
          · exact List.mem_append_left _ h
          · exact List.mem_append_right _ (by simpa using h)
        have bq := q9n G hp hbad
        have py := q9y G hp
        array_mem_dec
        refine Wp.forI (fun done e => ∃ x10 x13, e = [some (ZD ns), x1, some (FD f9), some (.int t), some (.lst (msD t)), some (TD p.1), some (dR (W.map fun x => (x.1, (x.2.length : Int)))), x7, some (.lst L), some bad, x10, x11, x12, x13, x14]) ⟨_, _, rfl⟩ ?_ ?_
        · rintro done5 a rest5 _ hd5 ⟨x10, x13, rfl⟩
          have ha : a = .tup [bad, TD p.1] ∨ a = .tup [TD p.1, bad] ∨ a = .tup [bad, bad] := by
            have : a ∈ [D.tup [bad, TD p.1], .tup [TD p.1, bad], .tup [bad, bad]] := by rw [hd5]; simp
            simpa using this
          have h15 : ∃ u v, a = .tup [u, v] ∧ sem T sub 15 [.int t, u, v] = .err 0 [] [] := by
            rcases ha with rfl | rfl | rfl
            · exact ⟨_, _, rfl, q15a bq⟩
            · exact ⟨_, _, rfl, q15b py bq⟩
            · exact ⟨_, _, rfl, q15a bq⟩
          clear ha hd5
          obtain ⟨u, v, rfl, h15⟩ := h15
          array_mem_dec
          refine Wp.lcI (fun done out e => ∃ x13, e = [some (ZD ns), x1, some (FD f9), some (.int t), some (.lst (msD t)), some (TD p.1), some (dR (W.map fun x => (x.1, (x.2.length : Int)))), x7, some (.lst L), some bad, some (.tup [u, v]), x11, x12, x13, x14] ∧ out = done.map fun _ => D.str "memory") ⟨_, rfl, rfl⟩ ?_ ?_
          · rintro dn y rs out _ hdy ⟨x13, rfl, rfl⟩
            obtain ⟨i, rfl, hi⟩ : ∃ i : Int, y = .int i ∧ (i = 0 ∨ i = 1) := by
              have : y ∈ [D.int 0, D.int 1] := by rw [hdy]; simp
              rcases List.mem_cons.mp this with h | h
              · exact ⟨0, h, .inl rfl⟩
              · exact ⟨1, List.mem_singleton.mp h, .inr rfl⟩
            array_mem_dec
            refine Wp.c_eq (by decide) (q17n hi h15) ?_
            array_mem_dec
            exact ⟨_, rfl, by simp⟩
          · rintro out _ ⟨x13, rfl, rfl⟩
            have sm : shp SD (.lst [.str "memory", .str "memory"]) = true ∧ shp SD (.lst [.str "memory", .str "memory"]) = true := by decide +kernel
            have em : eqD (.lst [.str "memory", .str "memory"]) (.lst [.str "memory", .str "memory"]) = true := by decide +kernel
            rw [show [D.int 0, D.int 1].map (fun _ => D.str "memory") = [.str "memory", .str "memory"] from rfl]
            array_mem_dec
            exact ⟨_, _, rfl⟩
        · rintro _ ⟨x10, x13, rfl⟩
          array_mem_dec
          exact ⟨_, _, _, _, _, _, _, _, _, _, _, _, _, _, rfl⟩
      · have h2 : ¬ 1 < p.1.length := by have := of_decide_eq_false h; rw [List.length_map] at this; omega
        rw [if_neg h2] at hOd
        array_mem_dec
        refine Wp.sc (by rw [hLl]; show _ < 1000000; simp) ?_
        array_mem_dec
        refine Wp.c_by (by decide) (q3 f3 _ (by simp) (by rw [List.length_append, hLl]; simp)) ?_
        rintro bad _ ⟨hb, f9, rfl⟩
        have hbad : bad ∈ odds t p.1 := by
          rw [hOd]
          rcases List.mem_append.mp hb with h | h
          · exact List.mem_append_left _ h
          · exact List.mem_append_right _ (by simpa using h)
        have bq := q9n G hp hbad
        have py := q9y G hp
        array_mem_dec
        refine Wp.forI (fun done e => ∃ x10 x13, e = [some (ZD ns), x1, some (FD f9), some (.int t), some (.lst (msD t)), some (TD p.1), some (dR (W.map fun x => (x.1, (x.2.length : Int)))), x7, some (.lst L), some bad, x10, x11, x12, x13, x14]) ⟨_, _, rfl⟩ ?_ ?_
        · rintro done5 a rest5 _ hd5 ⟨x10, x13, rfl⟩
          have ha : a = .tup [bad, TD p.1] ∨ a = .tup [TD p.1, bad] ∨ a = .tup [bad, bad] := by
            have : a ∈ [D.tup [bad, TD p.1], .tup [TD p.1, bad], .tup [bad, bad]] := by rw [hd5]; simp
            simpa using this
          have h15 : ∃ u v, a = .tup [u, v] ∧ sem T sub 15 [.int t, u, v] = .err 0 [] [] := by
            rcases ha with rfl | rfl | rfl
            · exact ⟨_, _, rfl, q15a bq⟩
            · exact ⟨_, _, rfl, q15b py bq⟩
            · exact ⟨_, _, rfl, q15a bq⟩
          clear ha hd5
          obtain ⟨u, v, rfl, h15⟩ := h15
          array_mem_dec
          refine Wp.lcI (fun done out e => ∃ x13, e = [some (ZD ns), x1, some (FD f9), some (.int t), some (.lst (msD t)), some (TD p.1), some (dR (W.map fun x => (x.1, (x.2.length : Int)))), x7, some (.lst L), some bad, some (.tup [u, v]), x11, x12, x13, x14] ∧ out = done.map fun _ => D.str "memory") ⟨_, rfl, rfl⟩ ?_ ?_
          · rintro dn y rs out _ hdy ⟨x13, rfl, rfl⟩
            obtain ⟨i, rfl, hi⟩ : ∃ i : Int, y = .int i ∧ (i = 0 ∨ i = 1) := by
              have : y ∈ [D.int 0, D.int 1] := by rw [hdy]; simp
              rcases List.mem_cons.mp this with h | h
              · exact ⟨0, h, .inl rfl⟩
              · exact ⟨1, List.mem_singleton.mp h, .inr rfl⟩
            array_mem_dec
            refine Wp.c_eq (by decide) (q17n hi h15) ?_
            array_mem_dec
            exact ⟨_, rfl, by simp⟩
          · rintro out _ ⟨x13, rfl, rfl⟩
            have sm : shp SD (.lst [.str "memory", .str "memory"]) = true ∧ shp SD (.lst [.str "memory", .str "memory"]) = true := by decide +kernel
            have em : eqD (.lst [.str "memory", .str "memory"]) (.lst [.str "memory", .str "memory"]) = true := by decide +kernel
            rw [show [D.int 0, D.int 1].map (fun _ => D.str "memory") = [.str "memory", .str "memory"] from rfl]
            array_mem_dec
            exact ⟨_, _, rfl⟩
        · rintro _ ⟨x10, x13, rfl⟩
          array_mem_dec
          exact ⟨_, _, _, _, _, _, _, _, _, _, _, _, _, _, rfl⟩
  · rintro _ ⟨x1, x2, x3, x4, x5, x6, x7, x8, x9, x10, x11, x12, x13, x14, rfl⟩
    array_mem_dec
    exact ⟨rfl, rfl⟩
theorem sem_law (ns : List Int) (hl : ns.length ≤ 63) : sem T sub 18 [.lst (ns.map .int)] = .ok (.bl true) [] := Wp.toEq (q18 ns hl)
end Lw
namespace Lw
open PySem PySem.Spec PyProof.Rows L2 Mi
theorem all_mk {P : Program} {w : World} {K : PySem.W.Frag} {h : Heap} {mg : Str → Option Value} {fa f0 f1 f2 f3 f4 f5 f6 f7 f8 f9 f10 f11 f12 f13 f14 f15 f16 f17 f18 : Addr} (X : K.In h) (G : h.Ns mainGlobals mg) (hfa : mg "law" = some (.ref fa))
    {od0 an0 od1 an1 od2 an2 od3 an3 od4 an4 od5 an5 od6 an6 od7 an7 od8 an8 od9 an9 od10 an10 od11 an11 od12 an12 od13 an13 od14 an14 od15 an15 od16 an16 od17 an17 od18 an18 : Option Addr} {sl0 sl1 sl2 sl3 sl4 sl5 sl6 sl7 sl8 sl9 sl10 sl11 sl12 sl13 sl14 sl15 sl16 sl17 sl18 : Array (Option Value)} {oc0 kV0 dc0 pm0 cd0 ct0 oc1 kV1 dc1 pm1 cd1 ct1 oc2 kV2 dc2 pm2 cd2 ct2 oc3 kV3 dc3 pm3 cd3 ct3 oc4 kV4 dc4 pm4 cd4 ct4 oc5 kV5 dc5 pm5 cd5 ct5 oc6 kV6 dc6 pm6 cd6 ct6 oc7 kV7 dc7 pm7 cd7 ct7 oc8 kV8 dc8 pm8 cd8 ct8 oc9 kV9 dc9 pm9 cd9 ct9 oc10 kV10 dc10 pm10 cd10 ct10 oc11 kV11 dc11 pm11 cd11 ct11 oc12 kV12 dc12 pm12 cd12 ct12 oc13 kV13 dc13 pm13 cd13 ct13 oc14 kV14 dc14 pm14 cd14 ct14 oc15 kV15 dc15 pm15 cd15 ct15 oc16 kV16 dc16 pm16 cd16 ct16 oc17 kV17 dc17 pm17 cd17 ct17 oc18 kV18 dc18 pm18 cd18 ct18 : Value}
    (a0 : PySem.W.nsIn K mainGlobals "_law_feed" = some (some (.ref f0))) (l0 : K.lookup f0 = some ⟨oc0, od0, .func (PySem.W.fnOf "_law_feed" "_law_feed" (defArgs st0) (defBody st0) (defScope st0) .none kV0 dc0 pm0 an0 cd0 ct0), sl0⟩) (c0 : PySem.W.codeIn K cd0 "_law_feed" = true) (k0 : PySem.W.keepIn K (.ref f0) = true)
    (a1 : PySem.W.nsIn K mainGlobals "_law_memories" = some (some (.ref f1))) (l1 : K.lookup f1 = some ⟨oc1, od1, .func (PySem.W.fnOf "_law_memories" "_law_memories" (defArgs st1) (defBody st1) (defScope st1) .none kV1 dc1 pm1 an1 cd1 ct1), sl1⟩) (c1 : PySem.W.codeIn K cd1 "_law_memories" = true) (k1 : PySem.W.keepIn K (.ref f1) = true)
    (a2 : PySem.W.nsIn K mainGlobals "_law_take" = some (some (.ref f2))) (l2 : K.lookup f2 = some ⟨oc2, od2, .func (PySem.W.fnOf "_law_take" "_law_take" (defArgs st2) (defBody st2) (defScope st2) .none kV2 dc2 pm2 an2 cd2 ct2), sl2⟩) (c2 : PySem.W.codeIn K cd2 "_law_take" = true) (k2 : PySem.W.keepIn K (.ref f2) = true)
    (a3 : PySem.W.nsIn K mainGlobals "_law_pick" = some (some (.ref f3))) (l3 : K.lookup f3 = some ⟨oc3, od3, .func (PySem.W.fnOf "_law_pick" "_law_pick" (defArgs st3) (defBody st3) (defScope st3) .none kV3 dc3 pm3 an3 cd3 ct3), sl3⟩) (c3 : PySem.W.codeIn K cd3 "_law_pick" = true) (k3 : PySem.W.keepIn K (.ref f3) = true)
    (a4 : PySem.W.nsIn K mainGlobals "_law_memory_of" = some (some (.ref f4))) (l4 : K.lookup f4 = some ⟨oc4, od4, .func (PySem.W.fnOf "_law_memory_of" "_law_memory_of" (defArgs st4) (defBody st4) (defScope st4) .none kV4 dc4 pm4 an4 cd4 ct4), sl4⟩) (c4 : PySem.W.codeIn K cd4 "_law_memory_of" = true) (k4 : PySem.W.keepIn K (.ref f4) = true)
    (a5 : PySem.W.nsIn K mainGlobals "_law_walked" = some (some (.ref f5))) (l5 : K.lookup f5 = some ⟨oc5, od5, .func (PySem.W.fnOf "_law_walked" "_law_walked" (defArgs st5) (defBody st5) (defScope st5) .none kV5 dc5 pm5 an5 cd5 ct5), sl5⟩) (c5 : PySem.W.codeIn K cd5 "_law_walked" = true) (k5 : PySem.W.keepIn K (.ref f5) = true)
    (a6 : PySem.W.nsIn K mainGlobals "_law_rounds" = some (some (.ref f6))) (l6 : K.lookup f6 = some ⟨oc6, od6, .func (PySem.W.fnOf "_law_rounds" "_law_rounds" (defArgs st6) (defBody st6) (defScope st6) .none kV6 dc6 pm6 an6 cd6 ct6), sl6⟩) (c6 : PySem.W.codeIn K cd6 "_law_rounds" = true) (k6 : PySem.W.keepIn K (.ref f6) = true)
    (a7 : PySem.W.nsIn K mainGlobals "is_integer" = some (some (.ref f7))) (l7 : K.lookup f7 = some ⟨oc7, od7, .func (PySem.W.fnOf "is_integer" "is_integer" (defArgs st7) (defBody st7) (defScope st7) .none kV7 dc7 pm7 an7 cd7 ct7), sl7⟩) (c7 : PySem.W.codeIn K cd7 "is_integer" = true) (k7 : PySem.W.keepIn K (.ref f7) = true)
    (a8 : PySem.W.nsIn K mainGlobals "is_memory" = some (some (.ref f8))) (l8 : K.lookup f8 = some ⟨oc8, od8, .func (PySem.W.fnOf "is_memory" "is_memory" (defArgs st8) (defBody st8) (defScope st8) .none kV8 dc8 pm8 an8 cd8 ct8), sl8⟩) (c8 : PySem.W.codeIn K cd8 "is_memory" = true) (k8 : PySem.W.keepIn K (.ref f8) = true)
    (a9 : PySem.W.nsIn K mainGlobals "check_memory" = some (some (.ref f9))) (l9 : K.lookup f9 = some ⟨oc9, od9, .func (PySem.W.fnOf "check_memory" "check_memory" (defArgs st9) (defBody st9) (defScope st9) .none kV9 dc9 pm9 an9 cd9 ct9), sl9⟩) (c9 : PySem.W.codeIn K cd9 "check_memory" = true) (k9 : PySem.W.keepIn K (.ref f9) = true)
    (a10 : PySem.W.nsIn K mainGlobals "last_level" = some (some (.ref f10))) (l10 : K.lookup f10 = some ⟨oc10, od10, .func (PySem.W.fnOf "last_level" "last_level" (defArgs st10) (defBody st10) (defScope st10) .none kV10 dc10 pm10 an10 cd10 ct10), sl10⟩) (c10 : PySem.W.codeIn K cd10 "last_level" = true) (k10 : PySem.W.keepIn K (.ref f10) = true)
    (a11 : PySem.W.nsIn K mainGlobals "is_met" = some (some (.ref f11))) (l11 : K.lookup f11 = some ⟨oc11, od11, .func (PySem.W.fnOf "is_met" "is_met" (defArgs st11) (defBody st11) (defScope st11) .none kV11 dc11 pm11 an11 cd11 ct11), sl11⟩) (c11 : PySem.W.codeIn K cd11 "is_met" = true) (k11 : PySem.W.keepIn K (.ref f11) = true)
    (a12 : PySem.W.nsIn K mainGlobals "is_wiped" = some (some (.ref f12))) (l12 : K.lookup f12 = some ⟨oc12, od12, .func (PySem.W.fnOf "is_wiped" "is_wiped" (defArgs st12) (defBody st12) (defScope st12) .none kV12 dc12 pm12 an12 cd12 ct12), sl12⟩) (c12 : PySem.W.codeIn K cd12 "is_wiped" = true) (k12 : PySem.W.keepIn K (.ref f12) = true)
    (a13 : PySem.W.nsIn K mainGlobals "stepped_to" = some (some (.ref f13))) (l13 : K.lookup f13 = some ⟨oc13, od13, .func (PySem.W.fnOf "stepped_to" "stepped_to" (defArgs st13) (defBody st13) (defScope st13) .none kV13 dc13 pm13 an13 cd13 ct13), sl13⟩) (c13 : PySem.W.codeIn K cd13 "stepped_to" = true) (k13 : PySem.W.keepIn K (.ref f13) = true)
    (a14 : PySem.W.nsIn K mainGlobals "ways_from" = some (some (.ref f14))) (l14 : K.lookup f14 = some ⟨oc14, od14, .func (PySem.W.fnOf "ways_from" "ways_from" (defArgs st14) (defBody st14) (defScope st14) .none kV14 dc14 pm14 an14 cd14 ct14), sl14⟩) (c14 : PySem.W.codeIn K cd14 "ways_from" = true) (k14 : PySem.W.keepIn K (.ref f14) = true)
    (a15 : PySem.W.nsIn K mainGlobals "shortest_way" = some (some (.ref f15))) (l15 : K.lookup f15 = some ⟨oc15, od15, .func (PySem.W.fnOf "shortest_way" "shortest_way" (defArgs st15) (defBody st15) (defScope st15) .none kV15 dc15 pm15 an15 cd15 ct15), sl15⟩) (c15 : PySem.W.codeIn K cd15 "shortest_way" = true) (k15 : PySem.W.keepIn K (.ref f15) = true)
    (a16 : PySem.W.nsIn K mainGlobals "distance" = some (some (.ref f16))) (l16 : K.lookup f16 = some ⟨oc16, od16, .func (PySem.W.fnOf "distance" "distance" (defArgs st16) (defBody st16) (defScope st16) .none kV16 dc16 pm16 an16 cd16 ct16), sl16⟩) (c16 : PySem.W.codeIn K cd16 "distance" = true) (k16 : PySem.W.keepIn K (.ref f16) = true)
    (a17 : PySem.W.nsIn K mainGlobals "_law_told" = some (some (.ref f17))) (l17 : K.lookup f17 = some ⟨oc17, od17, .func (PySem.W.fnOf "_law_told" "_law_told" (defArgs st17) (defBody st17) (defScope st17) .none kV17 dc17 pm17 an17 cd17 ct17), sl17⟩) (c17 : PySem.W.codeIn K cd17 "_law_told" = true) (k17 : PySem.W.keepIn K (.ref f17) = true)
    (a18 : PySem.W.nsIn K mainGlobals "law" = some (some (.ref f18))) (l18 : K.lookup f18 = some ⟨oc18, od18, .func (PySem.W.fnOf "law" "law" (defArgs st18) (defBody st18) (defScope st18) .none kV18 dc18 pm18 an18 cd18 ct18), sl18⟩) (c18 : PySem.W.codeIn K cd18 "law" = true) (k18 : PySem.W.keepIn K (.ref f18) = true)
    {C0 : Addr} (xa0 : PySem.W.nsIn K mainGlobals "BadMemory" = some (some (.ref C0))) (xq0 : PySem.W.excIn K C0 [.type "ValueError", .type "Exception", .type "BaseException", .type "object"] "ValueError.__new__" = true) (xk0 : PySem.W.keepIn K (.ref C0) = true) (xb0 : PySem.W.subIn K (.ref C0) (.type "BaseException") = some true) (xt0 : PySem.W.typeIn K (.ref C0) = some (.type "type")) (xi0 : PySem.W.isClsIn K C0 = true) (xs0 : PySem.W.subIn K (.ref C0) (.ref C0) = some true)
    (z_len : PySem.W.nsIn K mainGlobals "len" = some none) (z_abs : PySem.W.nsIn K mainGlobals "abs" = some none) (z_int : PySem.W.nsIn K mainGlobals "int" = some none) (z_str : PySem.W.nsIn K mainGlobals "str" = some none) (z_repr : PySem.W.nsIn K mainGlobals "repr" = some none) (z_sum : PySem.W.nsIn K mainGlobals "sum" = some none) (z_max : PySem.W.nsIn K mainGlobals "max" = some none) (z_min : PySem.W.nsIn K mainGlobals "min" = some none) (z_list : PySem.W.nsIn K mainGlobals "list" = some none) (z_tuple : PySem.W.nsIn K mainGlobals "tuple" = some none) (z_isi : PySem.W.nsIn K mainGlobals "isinstance" = some none) (z_range : PySem.W.nsIn K mainGlobals "range" = some none) (z_enum : PySem.W.nsIn K mainGlobals "enumerate" = some none) (z_zip : PySem.W.nsIn K mainGlobals "zip" = some none) (z_sorted : PySem.W.nsIn K mainGlobals "sorted" = some none) (z_set : PySem.W.nsIn K mainGlobals "set" = some none) (z_dict : PySem.W.nsIn K mainGlobals "dict" = some none) (z_bool : PySem.W.nsIn K mainGlobals "bool" = some none) (z_all : PySem.W.nsIn K mainGlobals "all" = some none) :
    ∃ fd : FuncData, (∀ (s : Shared) (v : Value), BindsTo s fd ⟨[v], []⟩ [("script", v)]) ∧ ∀ base : Heap, K.In base → base.Ns mainGlobals mg → FnG P w K mg base 8 fa fd ["script"] (spF (BB K) (sem T sub 18) [false] [.s] .v) := by
  have e := hfa.symm.trans (PySem.W.mg_of X G a18)
  cases e
  have Z : Zz mg := ⟨PySem.W.mg_none_of X G z_len, PySem.W.mg_none_of X G z_abs, PySem.W.mg_none_of X G z_int, PySem.W.mg_none_of X G z_str, PySem.W.mg_none_of X G z_repr, PySem.W.mg_none_of X G z_sum, PySem.W.mg_none_of X G z_max, PySem.W.mg_none_of X G z_min, PySem.W.mg_none_of X G z_list, PySem.W.mg_none_of X G z_tuple, PySem.W.mg_none_of X G z_isi, PySem.W.mg_none_of X G z_range, PySem.W.mg_none_of X G z_enum, PySem.W.mg_none_of X G z_zip, PySem.W.mg_none_of X G z_sorted, PySem.W.mg_none_of X G z_set, PySem.W.mg_none_of X G z_dict, PySem.W.mg_none_of X G z_bool, PySem.W.mg_none_of X G z_all⟩
  have cA0 : clA K "BadMemory" = C0 := by unfold clA; rw [xa0]
  have EX0 : ExX K mg "BadMemory" := ⟨by rw [cA0]; exact PySem.W.mg_of X G xa0, by rw [cA0]; exact xq0, by rw [cA0]; exact xk0, by rw [cA0]; exact xb0, by rw [cA0]; exact xt0, by rw [cA0]; exact exm_own xb0 xi0 xt0 xs0⟩
  have U0 := fun_mk (st := st0) l0 c0 k0
  have X0 : DefX K mg "_law_feed" f0 _ st0 ["script", "k"] := ⟨U0, PySem.W.mg_of X G a0, k0, U0.binds (ps := ["script", "k"]) fun _ _ _ _ _ _ us hl => match us, hl with | [_, _], _ => rfl⟩
  have U1 := fun_mk (st := st1) l1 c1 k1
  have X1 : DefX K mg "_law_memories" f1 _ st1 ["top"] := ⟨U1, PySem.W.mg_of X G a1, k1, U1.binds (ps := ["top"]) fun _ _ _ _ _ _ us hl => match us, hl with | [_], _ => rfl⟩
  have U2 := fun_mk (st := st2) l2 c2 k2
  have X2 : DefX K mg "_law_take" f2 _ st2 ["feed", "size"] := ⟨U2, PySem.W.mg_of X G a2, k2, U2.binds (ps := ["feed", "size"]) fun _ _ _ _ _ _ us hl => match us, hl with | [_, _], _ => rfl⟩
  have U3 := fun_mk (st := st3) l3 c3 k3
  have X3 : DefX K mg "_law_pick" f3 _ st3 ["feed", "things"] := ⟨U3, PySem.W.mg_of X G a3, k3, U3.binds (ps := ["feed", "things"]) fun _ _ _ _ _ _ us hl => match us, hl with | [_, _], _ => rfl⟩
  have U4 := fun_mk (st := st4) l4 c4 k4
  have X4 : DefX K mg "_law_memory_of" f4 _ st4 ["levels"] := ⟨U4, PySem.W.mg_of X G a4, k4, U4.binds (ps := ["levels"]) fun _ _ _ _ _ _ us hl => match us, hl with | [_], _ => rfl⟩
  have U5 := fun_mk (st := st5) l5 c5 k5
  have X5 : DefX K mg "_law_walked" f5 _ st5 ["memory", "levels"] := ⟨U5, PySem.W.mg_of X G a5, k5, U5.binds (ps := ["memory", "levels"]) fun _ _ _ _ _ _ us hl => match us, hl with | [_, _], _ => rfl⟩
  have U6 := fun_mk (st := st6) l6 c6 k6
  have X6 : DefX K mg "_law_rounds" f6 _ st6 ["top", "first"] := ⟨U6, PySem.W.mg_of X G a6, k6, U6.binds (ps := ["top", "first"]) fun _ _ _ _ _ _ us hl => match us, hl with | [_, _], _ => rfl⟩
  have U7 := fun_mk (st := st7) l7 c7 k7
  have X7 : DefX K mg "is_integer" f7 _ st7 ["value", "least", "most"] := ⟨U7, PySem.W.mg_of X G a7, k7, U7.binds (ps := ["value", "least", "most"]) fun _ _ _ _ _ _ us hl => match us, hl with | [_, _, _], _ => rfl⟩
  have U8 := fun_mk (st := st8) l8 c8 k8
  have X8 : DefX K mg "is_memory" f8 _ st8 ["top", "value"] := ⟨U8, PySem.W.mg_of X G a8, k8, U8.binds (ps := ["top", "value"]) fun _ _ _ _ _ _ us hl => match us, hl with | [_, _], _ => rfl⟩
  have U9 := fun_mk (st := st9) l9 c9 k9
  have X9 : DefX K mg "check_memory" f9 _ st9 ["top", "memory"] := ⟨U9, PySem.W.mg_of X G a9, k9, U9.binds (ps := ["top", "memory"]) fun _ _ _ _ _ _ us hl => match us, hl with | [_, _], _ => rfl⟩
  have U10 := fun_mk (st := st10) l10 c10 k10
  have X10 : DefX K mg "last_level" f10 _ st10 ["memory"] := ⟨U10, PySem.W.mg_of X G a10, k10, U10.binds (ps := ["memory"]) fun _ _ _ _ _ _ us hl => match us, hl with | [_], _ => rfl⟩
  have U11 := fun_mk (st := st11) l11 c11 k11
  have X11 : DefX K mg "is_met" f11 _ st11 ["memory", "level", "is_rise"] := ⟨U11, PySem.W.mg_of X G a11, k11, U11.binds (ps := ["memory", "level", "is_rise"]) fun _ _ _ _ _ _ us hl => match us, hl with | [_, _, _], _ => rfl⟩
  have U12 := fun_mk (st := st12) l12 c12 k12
  have X12 : DefX K mg "is_wiped" f12 _ st12 ["memory", "level", "is_rise"] := ⟨U12, PySem.W.mg_of X G a12, k12, U12.binds (ps := ["memory", "level", "is_rise"]) fun _ _ _ _ _ _ us hl => match us, hl with | [_, _, _], _ => rfl⟩
  have U13 := fun_mk (st := st13) l13 c13 k13
  have X13 : DefX K mg "stepped_to" f13 _ st13 ["memory", "level"] := ⟨U13, PySem.W.mg_of X G a13, k13, U13.binds (ps := ["memory", "level"]) fun _ _ _ _ _ _ us hl => match us, hl with | [_, _], _ => rfl⟩
  have U14 := fun_mk (st := st14) l14 c14 k14
  have X14 : DefX K mg "ways_from" f14 _ st14 ["top", "memory"] := ⟨U14, PySem.W.mg_of X G a14, k14, U14.binds (ps := ["top", "memory"]) fun _ _ _ _ _ _ us hl => match us, hl with | [_, _], _ => rfl⟩
  have U15 := fun_mk (st := st15) l15 c15 k15
  have X15 : DefX K mg "shortest_way" f15 _ st15 ["top", "first", "second"] := ⟨U15, PySem.W.mg_of X G a15, k15, U15.binds (ps := ["top", "first", "second"]) fun _ _ _ _ _ _ us hl => match us, hl with | [_, _, _], _ => rfl⟩
  have U16 := fun_mk (st := st16) l16 c16 k16
  have X16 : DefX K mg "distance" f16 _ st16 ["top", "first", "second"] := ⟨U16, PySem.W.mg_of X G a16, k16, U16.binds (ps := ["top", "first", "second"]) fun _ _ _ _ _ _ us hl => match us, hl with | [_, _, _], _ => rfl⟩
  have U17 := fun_mk (st := st17) l17 c17 k17
  have X17 : DefX K mg "_law_told" f17 _ st17 ["way", "top", "first", "second"] := ⟨U17, PySem.W.mg_of X G a17, k17, U17.binds (ps := ["way", "top", "first", "second"]) fun _ _ _ _ _ _ us hl => match us, hl with | [_, _, _, _], _ => rfl⟩
  have U18 := fun_mk (st := st18) l18 c18 k18
  refine ⟨PySem.W.fnOf "law" "law" (defArgs st18) (defBody st18) (defScope st18) .none kV18 dc18 pm18 an18 cd18 ct18, fun s v => .of_eq rfl, fun base _ _ => ?_⟩
  have F0 := ok0 (P := P) (w := w) (base := base) Z U0
  have F1 := ok1 (P := P) (w := w) (base := base) Z U1
  have F2 := ok2 (P := P) (w := w) (base := base) Z U2
  have F3 := ok3 (P := P) (w := w) (base := base) Z U3 X2 F2
  have F4 := ok4 (P := P) (w := w) (base := base) Z U4
  have F5 := ok5 (P := P) (w := w) (base := base) Z U5 X4 F4
  have F6 := ok6 (P := P) (w := w) (base := base) Z U6 X5 F5
  have F7 := ok7 (P := P) (w := w) (base := base) Z U7
  have F8 := ok8 (P := P) (w := w) (base := base) Z U8 X7 F7
  have F9 := ok9 (P := P) (w := w) (base := base) Z U9 EX0 X8 F8
  have F10 := ok10 (P := P) (w := w) (base := base) Z U10
  have F11 := ok11 (P := P) (w := w) (base := base) Z U11
  have F12 := ok12 (P := P) (w := w) (base := base) Z U12 X11 F11
  have F13 := ok13 (P := P) (w := w) (base := base) Z U13 X10 F10 X12 F12
  have F14 := ok14 (P := P) (w := w) (base := base) Z U14 X13 F13
  have F15 := ok15 (P := P) (w := w) (base := base) Z U15 X9 F9 X14 F14
  have F16 := ok16 (P := P) (w := w) (base := base) Z U16 X15 F15
  have F17 := ok17 (P := P) (w := w) (base := base) Z U17 EX0 X16 F16 X15 F15
  have F18 := ok18 (P := P) (w := w) (base := base) Z U18 X0 F0 X2 F2 X1 F1 X3 F3 X6 F6 X17 F17 X5 F5
  exact F18
end Lw
open PySem PySem.W PyProof.Rows
set_option maxHeartbeats 0 in
theorem PySem.Challenge.cw_turnweights_k60_distances_and_shortest_w_holds : PySem.Challenge.rw_turnweights_k60_distances_and_shortest_w.Holds := by
  w_on; o_law; k_head; (case hw => w_witness2)
  k_fill
  refine Mi.walk_ofG (l := PySem.Challenge.rw_turnweights_k60_distances_and_shortest_w) (n := 63) (k := 8) (x := "script") (B := fun w => Lw.BB _) (fs := Mi.sem Lw.T Lw.sub 18) rfl (by decide) rfl ⟨rfl, by decide, by decide⟩ (fun w h Y => PySem.W.kIn_of Y) (fun w => rfl) ?F Lw.sem_law
  case F =>
    intro w mg fa h KX G hmg
    refine' Lw.all_mk KX G hmg ?a0 ?l0 ?c0 ?k0 ?a1 ?l1 ?c1 ?k1 ?a2 ?l2 ?c2 ?k2 ?a3 ?l3 ?c3 ?k3 ?a4 ?l4 ?c4 ?k4 ?a5 ?l5 ?c5 ?k5 ?a6 ?l6 ?c6 ?k6 ?a7 ?l7 ?c7 ?k7 ?a8 ?l8 ?c8 ?k8 ?a9 ?l9 ?c9 ?k9 ?a10 ?l10 ?c10 ?k10 ?a11 ?l11 ?c11 ?k11 ?a12 ?l12 ?c12 ?k12 ?a13 ?l13 ?c13 ?k13 ?a14 ?l14 ?c14 ?k14 ?a15 ?l15 ?c15 ?k15 ?a16 ?l16 ?c16 ?k16 ?a17 ?l17 ?c17 ?k17 ?a18 ?l18 ?c18 ?k18 ?xa0 ?xq0 ?xk0 ?xb0 ?xt0 ?xi0 ?xs0 ?z_len ?z_abs ?z_int ?z_str ?z_repr ?z_sum ?z_max ?z_min ?z_list ?z_tuple ?z_isi ?z_range ?z_enum ?z_zip ?z_sorted ?z_set ?z_dict ?z_bool ?z_all
    (case a0 => k_is); (case l0 => k_is); (case c0 => k_is); (case k0 => k_is); (case a1 => k_is); (case l1 => k_is); (case c1 => k_is); (case k1 => k_is); (case a2 => k_is); (case l2 => k_is); (case c2 => k_is); (case k2 => k_is); (case a3 => k_is); (case l3 => k_is); (case c3 => k_is); (case k3 => k_is); (case a4 => k_is); (case l4 => k_is); (case c4 => k_is); (case k4 => k_is); (case a5 => k_is); (case l5 => k_is); (case c5 => k_is); (case k5 => k_is); (case a6 => k_is); (case l6 => k_is); (case c6 => k_is); (case k6 => k_is); (case a7 => k_is); (case l7 => k_is); (case c7 => k_is); (case k7 => k_is); (case a8 => k_is); (case l8 => k_is); (case c8 => k_is); (case k8 => k_is); (case a9 => k_is); (case l9 => k_is); (case c9 => k_is); (case k9 => k_is); (case a10 => k_is); (case l10 => k_is); (case c10 => k_is); (case k10 => k_is); (case a11 => k_is); (case l11 => k_is); (case c11 => k_is); (case k11 => k_is); (case a12 => k_is); (case l12 => k_is); (case c12 => k_is); (case k12 => k_is); (case a13 => k_is); (case l13 => k_is); (case c13 => k_is); (case k13 => k_is); (case a14 => k_is); (case l14 => k_is); (case c14 => k_is); (case k14 => k_is); (case a15 => k_is); (case l15 => k_is); (case c15 => k_is); (case k15 => k_is); (case a16 => k_is); (case l16 => k_is); (case c16 => k_is); (case k16 => k_is); (case a17 => k_is); (case l17 => k_is); (case c17 => k_is); (case k17 => k_is); (case a18 => k_is); (case l18 => k_is); (case c18 => k_is); (case k18 => k_is); (case xa0 => k_is); (case xq0 => k_exc); (case xk0 => k_is); (case xb0 => k_is); (case xt0 => k_is); (case xi0 => k_is); (case xs0 => first | rfl | k_is); (case z_len => k_is); (case z_abs => k_is); (case z_int => k_is); (case z_str => k_is); (case z_repr => k_is); (case z_sum => k_is); (case z_max => k_is); (case z_min => k_is); (case z_list => k_is); (case z_tuple => k_is); (case z_isi => k_is); (case z_range => k_is); (case z_enum => k_is); (case z_zip => k_is); (case z_sorted => k_is); (case z_set => k_is); (case z_dict => k_is); (case z_bool => k_is); (case z_all => k_is)
