import PyProof.Rows.All
import Wide.All
import OpenK.AllK
import Wide.FinOn
import KE.SortData
import KE.DataEq
import KE.DataFind
import KE.DataMinMax
import KE.DataIsa
import KE.DataAny
import KE.KDictKeyed
import HandS.ForMost
import HandS.TupAny
import HandS.TupMul
import HandS.Wide
import HandS.TupLe
import HandS.Style
import HandS.Zip
import HandS.HeadEnd
import HandS.Defaults
import HandS.TupLen
import HandS.IsInst
import HandS.Gcd
import HandS.SortKw
import KE.KTupSum
import KE.KDictCopyH
import HandS.RaiseMore
import HandS.Strs
import KE.GoesMore
import HandS.DictComp
import KE.KStateDown
import HandS.Words
import HandS.Head0
import HandS.Head1
import HandS.Head2
import HandS.HeadHook1
import HandS.HeadHook2
import HandS.Conv
import KE.KDictPairs
import KE.KDictWalk
import HandS.Star
import PySem.Challenge.RW_makebook_k69_whole_like_makes
set_option Elab.async false
set_option linter.all false
set_option maxRecDepth 100000
set_option maxHeartbeats 0
section TFwA
namespace Fw
open PySem PySem.W

abbrev D := PyData
/-- what a name of a frame holds: data that nobody changes, a list or dict that this frame alone holds, the draws' state -/
inductive Sl where
  | d (x : D)
  | ol (xs : List D)
  | od (kvs : List (D × D))
  | st
/-- an expression's value: data, the own thing that name i holds, a new list, a new dict, the draws' state -/
inductive Rv where
  | d (x : D)
  | ow (i : Nat)
  | fl (xs : List D)
  | fd (kvs : List (D × D))
  | st
/-- the draws' state -/
structure DS where
  great : List Nat
  cells : List Nat
  rest : Nat
  turn : Nat
abbrev Env := List (Option Sl)
abbrev Cf := Env × Option DS
def M (α : Type) := Cf → Option (α × Cf)
def M.pure {α : Type} (a : α) : M α := fun c => some (a, c)
def M.bind {α β : Type} (m : M α) (f : α → M β) : M β := fun c => match m c with
  | some (a, c') => f a c'
  | none => none
instance : Monad M where
  pure := M.pure
  bind := M.bind
def stuck {α : Type} : M α := fun _ => none
def lift {α : Type} (o : Option α) : M α := fun c => match o with
  | some a => some (a, c)
  | none => none
def getE : M Env := fun c => some (c.1, c)
def setE (e : Env) : M Unit := fun c => some ((), (e, c.2))
def setSl (i : Nat) (s : Sl) : M Unit := fun c => if i < c.1.length then some ((), (c.1.set i (some s), c.2)) else none

inductive BOp where
  | add | sub | mul | fdiv | mod | pow
inductive COp where
  | eq | ne | lt | le | gt | ge | isin | notin | is | isnot
inductive Ty where
  | int | bool | str | tuple | list | dict
def line : Nat := sizeLine
def small (d : D) : Bool := d.plain && decide (d.depth ≤ 60)
def binD : BOp → D → D → Option Rv
  | .add, .int i, .int j => some (.d (.int (i + j)))
  | .sub, .int i, .int j => some (.d (.int (i - j)))
  | .mul, .int i, .int j => if i.natAbs.log2 + j.natAbs.log2 < 1000000 then some (.d (.int (i * j))) else none
  | .fdiv, .int i, .int j => if j ≠ 0 ∧ j.natAbs.log2 < 9000 then some (.d (.int (i.fdiv j))) else none
  | .mod, .int i, .int j => if j ≠ 0 then some (.d (.int (i.fmod j))) else none
  | .pow, .int i, .int j => if 0 ≤ j ∧ j ≤ 1000000 ∧ i.natAbs < 2 ^ 64 then some (.d (.int (i ^ j.toNat))) else none
  | .add, .list xs, .list ys => if xs.length + ys.length ≤ line then some (.fl (xs ++ ys)) else none
  | .add, .tuple xs, .tuple ys => if xs.length + ys.length ≤ line then some (.d (.tuple (xs ++ ys))) else none
  | .add, .str x, .str y => if x.length + y.length ≤ line then some (.d (.str (x ++ y))) else none
  | .mul, .list xs, .int k => if 0 ≤ k ∧ k ≤ 1000 ∧ xs.length ≤ 1000 then some (.fl (List.replicate k.toNat xs).flatten) else none
  | .mul, .tuple xs, .int k => if xs.isEmpty = false ∧ 2 ≤ k ∧ k ≤ 1000 ∧ xs.length ≤ 1000 then some (.d (.tuple (List.replicate k.toNat xs).flatten)) else none
  | _, _, _ => none
def memD (d : D) (xs : List D) : Bool := xs.any fun y => PyData.eqv y d
/-- keys that a dict may have: whole numbers and texts, or tuples of such (nested) -/
def keyM : D → Bool
  | .int _ => true
  | .str _ => true
  | _ => false
mutual
def toKey : D → Option NestedKey
  | .none => some .none
  | .int i => some (.num i)
  | .str x => some (.text x)
  | .tuple xs => match toKeys xs with
    | some ks => some (.tup ks)
    | none => none
  | .bool _ => none
  | .list _ => none
  | .dict _ => none
def toKeys : List D → Option (List NestedKey)
  | [] => some []
  | x :: xs => match toKey x, toKeys xs with
    | some k, some ks => some (k :: ks)
    | _, _ => none
end
def keyN : D → Bool
  | .tuple xs => (toKeys xs).isSome && decide ((PyData.tuple xs).depth ≤ 8)
  | _ => false
/-- the key goes with the dict's keys -/
def keyOk (kvs : List (D × D)) (k : D) : Bool := keyN k && kvs.all fun p => keyN p.1
def dGet : List (D × D) → D → Option D
  | [], _ => none
  | (a, v) :: r, k => if PyData.eqv a k = true then some v else dGet r k
def dHas (kvs : List (D × D)) (k : D) : Bool := kvs.any fun p => PyData.eqv p.1 k
def dPut (kvs : List (D × D)) (k v : D) : List (D × D) := if dHas kvs k = true then kvs.map (fun p => if PyData.eqv p.1 k = true then (p.1, v) else p) else kvs ++ [(k, v)]
def dPuts (kvs more : List (D × D)) : List (D × D) := more.foldl (fun a p => dPut a p.1 p.2) kvs
def keysOk (kvs : List (D × D)) : Bool := (kvs.all fun p => keyN p.1) || (kvs.all fun p => keyM p.1)
def cmpD : COp → D → D → Option Bool
  | .eq, a, b => if small a && small b then some (PyData.eqv a b) else none
  | .ne, a, b => if small a && small b then some (!PyData.eqv a b) else none
  | .lt, .int i, .int j => some (decide (i < j))
  | .le, .int i, .int j => some (decide (i ≤ j))
  | .gt, .int i, .int j => some (decide (j < i))
  | .ge, .int i, .int j => some (decide (j ≤ i))
  | .isin, a, .list xs => if small a && small (.list xs) then some (memD a xs) else none
  | .notin, a, .list xs => if small a && small (.list xs) then some (!memD a xs) else none
  | .isin, a, .tuple xs => if small a && small (.tuple xs) then some (memD a xs) else none
  | .notin, a, .tuple xs => if small a && small (.tuple xs) then some (!memD a xs) else none
  | .isin, a, .dict kvs => if keyOk kvs a then some (dHas kvs a) else none
  | .notin, a, .dict kvs => if keyOk kvs a then some (!dHas kvs a) else none
  | .is, .none, .none => some true
  | .is, .bool a, .bool b => some (a == b)
  | .is, .bool _, .none => some false
  | .is, .int _, .none => some false
  | .is, .str _, .none => some false
  | .is, .tuple _, .none => some false
  | .is, .list _, .none => some false
  | .is, .dict _, .none => some false
  | .isnot, .none, .none => some false
  | .isnot, .bool a, .bool b => some (!(a == b))
  | .isnot, .bool _, .none => some true
  | .isnot, .int _, .none => some true
  | .isnot, .str _, .none => some true
  | .isnot, .tuple _, .none => some true
  | .isnot, .list _, .none => some true
  | .isnot, .dict _, .none => some true
  | _, _, _ => none
/-- the place of an index -/
def placeD (n : Nat) (i : Int) : Option Nat := L2.ixN n i
def ixD : D → D → Option D
  | .list xs, .int i => L2.atI xs i
  | .tuple xs, .int i => L2.atI xs i
  | .dict kvs, k => if keyOk kvs k then dGet kvs k else none
  | _, _ => none
def ixR (x y : D) : Option Rv := match ixD x y with
  | some d => some (.d d)
  | none => none
def isTy : Ty → D → Bool
  | .int, .int _ => true
  | .int, .bool _ => true
  | .bool, .bool _ => true
  | .str, .str _ => true
  | .tuple, .tuple _ => true
  | .list, .list _ => true
  | .dict, .dict _ => true
  | _, _ => false
def intsD : List D → Option (List Int)
  | [] => some []
  | .int i :: r => match intsD r with
    | some is => some (i :: is)
    | none => none
  | _ :: _ => none
/-- its length fits a C long -/
def fitsB : D → Bool
  | .str x => decide (x.length ≤ line)
  | .list xs => decide (xs.length ≤ line)
  | .tuple xs => decide (xs.length ≤ line)
  | _ => true
/-- what can be sorted, of which the least is told -/
def alikeB (xs : List D) : Bool := xs.all fun x => xs.all fun y => alike x y
def isNone : D → Bool
  | .none => true
  | _ => false
def sortB (xs : List D) : Bool := alikeB xs && (xs.all fun d => decide (d.depth ≤ 50)) && ((xs.all fun d => match d with
  | .tuple (_ :: _) => true
  | _ => false) || (xs.all fun d => match d with
  | .none => false
  | .tuple _ => false
  | _ => true) || (decide (xs.length ≤ 1) && xs.all fun d => !isNone d)) && PyData.plainAll xs && decide (xs.length ≤ line)
def sortD (rev : Bool) (xs : List D) : Option (List D) := if sortB xs then some (msortQ xs (dataLe rev id)) else none
def leastB (xs : List D) : Bool := alikeB xs && (xs.all fun d => match d with
  | .none => false
  | _ => true) && decide (PyData.depthAll xs ≤ 50)
def seqD : D → Option (List D)
  | .list xs => some xs
  | .tuple xs => some xs
  | .dict kvs => some (kvs.map (·.1))
  | _ => none
def keysD : D → Option (List D)
  | .list xs => some xs
  | .dict kvs => some (kvs.map (·.1))
  | _ => none
def pairsD : List D → Option (List (D × D))
  | [] => some []
  | .tuple [k, v] :: r => match pairsD r with
    | some ps => some ((k, v) :: ps)
    | none => none
  | _ :: _ => none

inductive BI where
  | len | list | tuple | dict | sorted | sortedRev | sum | min | max | abs | int | all | any | repr | str | gcd
def biD : BI → List D → Option Rv
  | .len, [.list xs] => some (.d (.int xs.length))
  | .len, [.tuple xs] => some (.d (.int xs.length))
  | .len, [.dict kvs] => some (.d (.int kvs.length))
  | .len, [.str x] => if x.length ≤ line then some (.d (.int x.length)) else none
  | .list, [x] => match seqD x with
    | some xs => some (.fl xs)
    | none => none
  | .tuple, [.list xs] => some (.d (.tuple xs))
  | .tuple, [.tuple xs] => some (.d (.tuple xs))
  | .dict, [.list xs] => match pairsD xs with
    | some ps => if keysOk ps && decide (ps.length ≤ line) then some (.fd (dPuts [] ps)) else none
    | none => none
  | .sorted, [x] => match keysD x with
    | some xs => match sortD false xs with
      | some ys => some (.fl ys)
      | none => none
    | none => none
  | .sortedRev, [.list xs] => match sortD true xs with
      | some ys => some (.fl ys)
      | none => none
  | .sum, [.list xs] => match intsD xs with
    | some is => some (.d (.int is.sum))
    | none => none
  | .sum, [.tuple xs] => match intsD xs with
    | some is => some (.d (.int is.sum))
    | none => none
  | .min, [.int i, .int j] => some (.d (.int (if j < i then j else i)))
  | .max, [.int i, .int j] => some (.d (.int (if j > i then j else i)))
  | .min, [.list (x :: xs)] => if leastB (x :: xs) then some (.d (minD x xs)) else none
  | .abs, [.int i] => some (.d (.int (if i < 0 then -i else i)))
  | .int, [.int i] => some (.d (.int i))
  | .int, [.bool b] => some (.d (.int (if b then 1 else 0)))
  | .all, [.list xs] => if PyData.plainAll xs && xs.all fitsB then some (.d (.bool (xs.all PyData.truthy))) else none
  | .any, [.list xs] => if PyData.plainAll xs && xs.all fitsB then some (.d (.bool (xs.any PyData.truthy))) else none
  | .all, [.tuple xs] => if PyData.plainAll xs && xs.all fitsB then some (.d (.bool (xs.all PyData.truthy))) else none
  | .any, [.tuple xs] => if PyData.plainAll xs && xs.all fitsB then some (.d (.bool (xs.any PyData.truthy))) else none
  | .repr, [x] => if x.showable && x.plain && decide (x.depth ≤ 60) && decide (x.shown.length ≤ line) then some (.d (.str x.shown)) else none
  | .str, [.int i] => if i.natAbs.log2 < 1920 then some (.d (.str (toString i))) else none
  | .gcd, [.int i, .int j] => some (.d (.int (i.gcd j)))
  | _, _ => none

inductive IT where
  | nm (i : Nat)
  | tp (ts : List IT)
/-- the own thing becomes data that nobody changes -/
def freeze : Rv → M Sl
  | .d x => pure (.d x)
  | .fl xs => pure (.d (.list xs))
  | .fd kvs => pure (.d (.dict kvs))
  | .st => pure .st
  | .ow i => fun c => match c.1[i]? with
    | some (some (.ol xs)) => some (.d (.list xs), (c.1.set i (some (.d (.list xs))), c.2))
    | some (some (.od kvs)) => some (.d (.dict kvs), (c.1.set i (some (.d (.dict kvs))), c.2))
    | _ => none
def dataOf : Sl → M D
  | .d x => pure x
  | _ => stuck
/-- new things become data, the own ones stay -/
def settle : Rv → Rv
  | .fl xs => .d (.list xs)
  | .fd kvs => .d (.dict kvs)
  | r => r
def peek (e : Env) : Rv → Option D
  | .d x => some x
  | .fl xs => some (.list xs)
  | .fd kvs => some (.dict kvs)
  | .st => none
  | .ow i => match e[i]? with
    | some (some (.ol xs)) => some (.list xs)
    | some (some (.od kvs)) => some (.dict kvs)
    | _ => none
def peekM (r : Rv) : M D := fun c => match peek c.1 r with
  | some d => some (d, c)
  | none => none
def peekAll (e : Env) : List Rv → Option (List D)
  | [] => some []
  | r :: rs => match peek e r, peekAll e rs with
    | some d, some ds => some (d :: ds)
    | _, _ => none
def varV (i : Nat) : M Rv := fun c => match c.1[i]? with
  | some (some (.d x)) => some (.d x, c)
  | some (some (.ol _)) => some (.ow i, c)
  | some (some (.od _)) => some (.ow i, c)
  | some (some .st) => some (.st, c)
  | _ => none
mutual
def asgT : IT → D → Env → Option Env
  | .nm i, d, e => if i < e.length then some (e.set i (some (.d d))) else none
  | .tp ts, .tuple xs, e => asgTs ts xs e
  | .tp _, _, _ => none
def asgTs : List IT → List D → Env → Option Env
  | [], [], e => some e
  | t :: ts, x :: xs, e => match asgT t x e with
    | some e' => asgTs ts xs e'
    | none => none
  | _, _, _ => none
end
def asgM (t : IT) (d : D) : M Unit := fun c => match asgT t d c.1 with
  | some e => some ((), (e, c.2))
  | none => none
def wipeE (e : Env) : List Nat → Env
  | [] => e
  | v :: vs => (wipeE e vs).set v none
def rangeD (lo hi : Int) : List D := (List.range (hi - lo).toNat).map fun k => .int (lo + (k : Nat))
def zipD (xs ys : List D) : List D := (xs.zip ys).map fun p => .tuple [p.1, p.2]
def enumD (n : Nat) : List D → List D
  | [] => []
  | x :: xs => .tuple [.int n, x] :: enumD (n + 1) xs
/-- zip(*rows) -/
def heads : List (List D) → Option (List D × List (List D))
  | [] => some ([], [])
  | (x :: xs) :: r => match heads r with
    | some (h, t) => some (x :: h, xs :: t)
    | none => none
  | [] :: _ => none
def zipsD : Nat → List (List D) → List D
  | 0, _ => []
  | _ + 1, [] => []
  | n + 1, rows => match heads rows with
    | some (h, t) => .tuple h :: zipsD n t
    | none => []
def rowsD : List D → Option (List (List D))
  | [] => some []
  | .list xs :: r => match rowsD r with
    | some rs => some (xs :: rs)
    | none => none
  | .tuple xs :: r => match rowsD r with
    | some rs => some (xs :: rs)
    | none => none
  | _ :: _ => none
def bigI (i : Int) : Bool := decide (-(2 ^ 62) ≤ i) && decide (i < 2 ^ 62)
def boolM : Rv → M Bool
  | .d (.bool b) => pure b
  | _ => stuck
/-- a comprehension's turns: body is what an item gives -/
def turns (body : D → M (Option D)) : List D → M (List D)
  | [] => pure []
  | x :: xs => do
    let y ← body x
    let r ← turns body xs
    pure (match y with
      | some y => y :: r
      | none => r)
def turnsK (body : D → M (List D)) : List D → M (List D)
  | [] => pure []
  | x :: xs => do
    let y ← body x
    let r ← turnsK body xs
    pure (y ++ r)
def turnsD (body : D → M (D × D)) : List D → List (D × D) → M (List (D × D))
  | [], acc => pure acc
  | x :: xs, acc => do
    let p ← body x
    if keyOk acc p.1 && decide (acc.length < line) then turnsD body xs (dPut acc p.1 p.2) else stuck
/-- a block's own names: data is as before behind it, all else is forgotten -/
def keepD (e : Env) (v : Nat) : Option Sl := match e[v]? with
  | some (some (.d x)) => some (.d x)
  | _ => none
def restoreE (e0 : Env) : List Nat → Env → Env
  | [], e => e
  | v :: vs, e => (restoreE e0 vs e).set v (keepD e0 v)
/-- run within a block's own names -/
def within {α : Type} (vs : List Nat) (m : M α) : M α := fun c => match m (wipeE c.1 vs, c.2) with
  | some (a, (e, s)) => some (a, (restoreE c.1 vs e, s))
  | none => none
/-- one turn: the names wiped, the item stored -/
def fresh (vs : List Nat) (t : IT) (x : D) : M Unit := fun c => match asgT t x (wipeE c.1 vs) with
  | some e => some ((), (e, c.2))
  | none => none
/-- Python's cut of a list -/
def cutD {α : Type} (xs : List α) (lo hi : Option Int) : List α := (xs.drop (HT.sIx xs.length 0 lo)).take (HT.sIx xs.length xs.length hi - HT.sIx xs.length 0 lo)
def sliceD (x : D) (lo hi : Option Int) : Option Rv := match x with
  | .list xs => some (.fl (cutD xs lo hi))
  | .tuple xs => some (.d (.tuple (cutD xs lo hi)))
  | _ => none
def revD : D → Option Rv
  | .list xs => some (.fl xs.reverse)
  | _ => none
abbrev Fun := List Sl → Option DS → Option (Rv × Option DS)
def vM (m : M Rv) : M Rv := do
  let r ← m
  pure (settle r)
def sM (m : M Rv) : M Sl := do
  let r ← m
  freeze r
def dM (m : M Rv) : M D := do
  let r ← m
  let s ← freeze r
  dataOf s
inductive Oc where
  | nx
  | rt (r : Rv)
  | bk
  | ct
/-- what is handed back: an own thing leaves its frame -/
def retV : Rv → M Rv
  | .ow i => fun c => match c.1[i]? with
    | some (some (.ol xs)) => some (.fl xs, c)
    | some (some (.od kvs)) => some (.fd kvs, c)
    | _ => none
  | r => pure r
def slOf : Rv → Option Sl
  | .d x => some (.d x)
  | .fl xs => some (.ol xs)
  | .fd kvs => some (.od kvs)
  | .st => some .st
  | .ow _ => none
/-- an own thing that is kept elsewhere is data from then on -/
def keepM : Rv → M Rv
  | .ow i => do
    let s ← freeze (.ow i)
    let d ← dataOf s
    pure (.d d)
  | r => pure r
def storeM (i : Nat) (r : Rv) : M Unit := do
  let r ← keepM r
  match slOf r with
  | some s => setSl i s
  | none => stuck
def storesM : List Nat → List Rv → M Unit
  | [], [] => pure ()
  | i :: is, r :: rs => do
    storeM i r
    storesM is rs
  | _, _ => stuck
def setItemM (i : Nat) (k d : D) : M Unit := fun c => match c.1[i]? with
  | some (some (.ol xs)) => match k with
    | .int j => match placeD xs.length j with
      | some n => some ((), (c.1.set i (some (.ol (xs.set n d))), c.2))
      | none => none
    | _ => none
  | some (some (.od kvs)) => if keyOk kvs k && decide (kvs.length < line) then some ((), (c.1.set i (some (.od (dPut kvs k d))), c.2)) else none
  | _ => none
def forM (body : D → M Oc) : List D → M Oc
  | [] => pure .nx
  | x :: xs => do
    match ← body x with
    | .nx => forM body xs
    | .ct => forM body xs
    | .bk => pure .nx
    | .rt r => pure (.rt r)
def whlM (c : M Bool) (body : M Oc) : Nat → M Oc
  | 0 => stuck
  | n + 1 => do
    let k ← c
    if k then do
      match ← body with
      | .nx => whlM c body n
      | .ct => whlM c body n
      | .bk => pure .nx
      | .rt r => pure (.rt r)
    else pure .nx
def wFuel : Nat := 100000
def primes : List Nat := [2147483629, 2147483587, 2147483579, 2147483563]
def blendD (turn prime : Nat) : List Nat → Nat → Nat
  | [], b => b
  | c :: cs, b => blendD turn prime cs ((b * 48271 + c + turn) % prime)
def mixD (cells : List Nat) (turn : Nat) : List Nat → Nat → Nat
  | [], f => f
  | p :: ps, f => mixD cells turn ps (f * 2147483659 + (blendD (turn + 1) p cells (69621 * (turn + 1) + p / 41)) ^ 5 % p)
/-- the number that is drawn from next, and what is left behind it -/
def nextD (s : DS) : Nat × DS := if s.rest = 0 then (match s.great with
  | g :: gs => (g, { s with great := gs })
  | [] => (mixD s.cells s.turn primes 0, { s with turn := s.turn + 1 })) else (s.rest, s)
def drawD (s : DS) (room : Nat) : Nat × DS := ((nextD s).1 % room, { (nextD s).2 with rest := (nextD s).1 / room })
theorem drawD_lt (s : DS) {room : Nat} (h : 0 < room) : (drawD s room).1 < room := Nat.mod_lt _ h
def begunD (is : List Int) : DS := ⟨(is.filter fun i => decide (10 ^ 18 ≤ i.natAbs)).map fun i => i.natAbs - 10 ^ 18, is.map Int.natAbs, 0, 0⟩
end Fw
end TFwA
section TFwB
namespace Fw
open PySem PySem.Spec PyProof.Rows L2

/-- a dict's entries, its count of changes -/
structure DE where
  arr : Array DictEntry
  ep : Nat
abbrev DE.toList (e : DE) : List DictEntry := e.arr.toList
abbrev DE.size (e : DE) : Nat := e.arr.size
abbrev de0 : DE := ⟨#[], 0⟩
def dictO (a : Addr) (es : DE) : HO := .ext fun h => (a == sysModules) = false ∧ es.arr.size ≤ sizeLine ∧ ∃ o, h.get? a = some o ∧ o.ExactDict ∧ o.data = .dict es.arr es.ep
/-- a list that is read: tracked, frozen, or one of the module's own objects -/
def Lr (K : PySem.W.Frag) (F : Hp) (a : Addr) (vs : List V) : Prop := Rd F a (.lst vs) ∨ ∃ (its : List Value) (n : Nat), K.lookup a = some { cls := .type "list", data := .seq its.toArray n } ∧ Vals vs its ∧ vs.length ≤ sizeLine
/-- a tuple that is read, without attributes of its own: tracked with its object, or one of the module's own objects -/
def Tr (K : PySem.W.Frag) (F : Hp) (a : Addr) (vs : List V) : Prop := (∃ o : Obj, F a = some (.frz o (.tup vs)) ∧ o.dict = none) ∨
  ∃ (o : Obj) (its : Array Value) (n : Nat), K.lookup a = some o ∧ o.cls = .type "tuple" ∧ o.dict = none ∧ o.data = .seq its n ∧ its.size ≤ sizeLine ∧ Vals vs its.toList
abbrev Ent := NestedKey × Addr × Value
def entD (w : World) (x : Ent) : DictEntry := ⟨x.1.hash w, .ref x.2.1, x.2.2⟩
mutual
inductive Rp (w : World) (K : PySem.W.Frag) (F : Hp) : V → D → Prop
  | non : Rp w K F .non .none
  | bl (b : Bool) : Rp w K F (.bl b) (.bool b)
  | int (i : Int) : Rp w K F (.int i) (.int i)
  | str (x : Str) : Rp w K F (.str x) (.str x)
  | lst {a : Addr} {vs : List V} {ds : List D} : Lr K F a vs → RpA w K F vs ds → Rp w K F (.ref a) (.list ds)
  | tup {a : Addr} {vs : List V} {ds : List D} : Tr K F a vs → RpA w K F vs ds → Rp w K F (.ref a) (.tuple ds)
  | dct {a : Addr} {es : DE} {xs : List Ent} {kvs : List (D × D)} : F a = some (dictO a es) → es.toList = xs.map (entD w) → (xs.map (·.1)).Nodup → RpX w K F xs kvs → Rp w K F (.ref a) (.dict kvs)
inductive RpA (w : World) (K : PySem.W.Frag) (F : Hp) : List V → List D → Prop
  | nil : RpA w K F [] []
  | cons {v : V} {d : D} {vs : List V} {ds : List D} : Rp w K F v d → RpA w K F vs ds → RpA w K F (v :: vs) (d :: ds)
inductive RpX (w : World) (K : PySem.W.Frag) (F : Hp) : List Ent → List (D × D) → Prop
  | nil : RpX w K F [] []
  | cons {x : Ent} {v : V} {k d : D} {xs : List Ent} {kvs : List (D × D)} : toKey k = some x.1 → keyN k = true → Rp w K F (.ref x.2.1) k → RelV v x.2.2 → Rp w K F v d → RpX w K F xs kvs → RpX w K F (x :: xs) ((k, d) :: kvs)
end
section
variable {w : World} {K : PySem.W.Frag} {F F' H : Hp}
theorem rd_mono {a : Addr} {o : HO} (e : Same F F') (h : Rd F a o) : Rd F' a o := by
  rcases h with h | ⟨u, h⟩
  · exact .inl (e _ _ h)
  · exact .inr ⟨u, e _ _ h⟩
theorem lr_mono {a : Addr} {vs : List V} (e : Same F F') (h : Lr K F a vs) : Lr K F' a vs := by
  rcases h with h | h
  · exact .inl (rd_mono e h)
  · exact .inr h
theorem Lr.sql {a : Addr} {vs : List V} (h : Lr K F a vs) : SqL K F a vs := by
  rcases h with h | ⟨its, n, h1, h2, h3⟩
  · exact .inl h
  · exact .inr ⟨_, its.toArray, n, h1, rfl, rfl, rfl, by rw [List.size_toArray, ← h2.length]; exact h3, h2⟩
theorem Lr.of {a : Addr} {vs : List V} (h : F a = some (.lst vs)) : Lr K F a vs := .inl (.inl h)
theorem Tr.sq {a : Addr} {vs : List V} (h : Tr K F a vs) : SqT K F a vs := by
  rcases h with ⟨o, h, _⟩ | ⟨o, its, n, h1, h2, _, h3, h4, h5⟩
  · exact .inl (.inr ⟨o, h⟩)
  · exact .inr ⟨o, its, n, h1, h2, h3, h4, h5⟩
theorem tr_mono {a : Addr} {vs : List V} (e : Same F F') (h : Tr K F a vs) : Tr K F' a vs := by
  rcases h with ⟨o, h, d⟩ | h
  · exact .inl ⟨o, e _ _ h, d⟩
  · exact .inr h
theorem Tr.new {o : Obj} {a : Addr} {vs : List V} (h : F a = some (.frz o (.tup vs))) (d : o.dict = none) : Tr K F a vs := .inl ⟨o, h, d⟩
theorem sqL_mono {a : Addr} {vs : List V} (e : Same F F') (h : SqL K F a vs) : SqL K F' a vs := e.seq h
theorem sqT_mono {a : Addr} {vs : List V} (e : Same F F') (h : SqT K F a vs) : SqT K F' a vs := by
  rcases h with (h | ⟨o, h⟩) | h
  · exact .inl (.inl (e _ _ h))
  · exact .inl (.inr ⟨o, e _ _ h⟩)
  · exact .inr h
mutual
theorem Rp.mono (e : Same F F') : ∀ {d : D} {v : V}, Rp w K F v d → Rp w K F' v d
  | .none, _, .non => .non
  | .bool _, _, .bl b => .bl b
  | .int _, _, .int i => .int i
  | .str _, _, .str x => .str x
  | .list _, _, .lst h r => .lst (lr_mono e h) (RpA.mono e r)
  | .tuple _, _, .tup h r => .tup (tr_mono e h) (RpA.mono e r)
  | .dict _, _, .dct h h2 h3 r => .dct (e _ _ h) h2 h3 (RpX.mono e r)
theorem RpA.mono (e : Same F F') : ∀ {ds : List D} {vs : List V}, RpA w K F vs ds → RpA w K F' vs ds
  | [], _, .nil => .nil
  | _ :: _, _, .cons h r => .cons (Rp.mono e h) (RpA.mono e r)
theorem RpX.mono (e : Same F F') : ∀ {kvs : List (D × D)} {xs : List Ent}, RpX w K F xs kvs → RpX w K F' xs kvs
  | [], _, .nil => .nil
  | _ :: _, _, .cons h1 h2 h3 h4 h5 r => .cons h1 h2 (Rp.mono e h3) h4 (Rp.mono e h5) (RpX.mono e r)
end
theorem RpA.length : ∀ {vs : List V} {ds : List D}, RpA w K F vs ds → vs.length = ds.length
  | _, _, .nil => rfl
  | _, _, .cons _ r => congrArg (· + 1) (RpA.length r)
theorem RpA.append : ∀ {vs us : List V} {ds es : List D}, RpA w K F vs ds → RpA w K F us es → RpA w K F (vs ++ us) (ds ++ es)
  | _, _, _, _, .nil, s => s
  | _, _, _, _, .cons h r, s => .cons h (RpA.append r s)
theorem RpA.get : ∀ {vs : List V} {ds : List D}, RpA w K F vs ds → ∀ {i : Nat} {d : D}, ds[i]? = some d → ∃ v, vs[i]? = some v ∧ Rp w K F v d
  | _, _, .nil, i, d, h => by simp at h
  | _, _, .cons h r, 0, d, e => by simp at e; subst e; exact ⟨_, rfl, h⟩
  | _, _, .cons h r, i + 1, d, e => by
    obtain ⟨v, h1, h2⟩ := RpA.get r (i := i) (d := d) (by simpa using e)
    exact ⟨v, by simpa using h1, h2⟩
theorem RpA.getV : ∀ {vs : List V} {ds : List D}, RpA w K F vs ds → ∀ {i : Nat} {v : V}, vs[i]? = some v → ∃ d, ds[i]? = some d ∧ Rp w K F v d
  | _, _, .nil, i, v, h => by simp at h
  | _, _, .cons h r, 0, v, e => by simp at e; subst e; exact ⟨_, rfl, h⟩
  | _, _, .cons h r, i + 1, v, e => by
    obtain ⟨d, h1, h2⟩ := RpA.getV r (i := i) (v := v) (by simpa using e)
    exact ⟨d, by simpa using h1, h2⟩
theorem RpA.take : ∀ (n : Nat) {vs : List V} {ds : List D}, RpA w K F vs ds → RpA w K F (vs.take n) (ds.take n)
  | 0, _, _, _ => .nil
  | _ + 1, _, _, .nil => .nil
  | n + 1, _, _, .cons h r => .cons h (RpA.take n r)
theorem RpA.drop : ∀ (n : Nat) {vs : List V} {ds : List D}, RpA w K F vs ds → RpA w K F (vs.drop n) (ds.drop n)
  | 0, _, _, r => r
  | _ + 1, _, _, .nil => .nil
  | n + 1, _, _, .cons _ r => RpA.drop n r
theorem RpA.set {v : V} {d : D} (h : Rp w K F v d) : ∀ (n : Nat) {vs : List V} {ds : List D}, RpA w K F vs ds → RpA w K F (vs.set n v) (ds.set n d)
  | _, _, _, .nil => .nil
  | 0, _, _, .cons _ r => .cons h r
  | n + 1, _, _, .cons q r => .cons q (RpA.set h n r)
theorem RpA.eraseIdx : ∀ (n : Nat) {vs : List V} {ds : List D}, RpA w K F vs ds → RpA w K F (vs.eraseIdx n) (ds.eraseIdx n)
  | _, _, _, .nil => .nil
  | 0, _, _, .cons _ r => r
  | n + 1, _, _, .cons q r => .cons q (RpA.eraseIdx n r)
theorem RpA.reverse : ∀ {vs : List V} {ds : List D}, RpA w K F vs ds → RpA w K F vs.reverse ds.reverse
  | _, _, .nil => .nil
  | _, _, .cons h r => by rw [List.reverse_cons, List.reverse_cons]; exact (RpA.reverse r).append (.cons h .nil)
theorem RpA.dropLast {vs : List V} {ds : List D} (r : RpA w K F vs ds) : RpA w K F vs.dropLast ds.dropLast := by
  rw [List.dropLast_eq_take, List.dropLast_eq_take, r.length]
  exact r.take _
theorem RpA.rep {vs : List V} {ds : List D} (r : RpA w K F vs ds) : ∀ n : Nat, RpA w K F (List.replicate n vs).flatten (List.replicate n ds).flatten
  | 0 => .nil
  | n + 1 => by
    rw [List.replicate_succ, List.replicate_succ, List.flatten_cons, List.flatten_cons]
    exact r.append (RpA.rep r n)
theorem RpA.cut {vs : List V} {ds : List D} (r : RpA w K F vs ds) (lo hi : Option Int) : RpA w K F (cutV vs lo hi) (cutD ds lo hi) := by
  unfold cutV cutD
  rw [r.length]
  exact (r.drop _).take _
theorem RpA.ints : ∀ is : List Int, RpA w K F (is.map V.int) (is.map PyData.int)
  | [] => .nil
  | i :: is => .cons (.int i) (RpA.ints is)
theorem intsD_eq : ∀ {xs : List D} {is : List Int}, intsD xs = some is → xs = is.map PyData.int
  | [], is, h => by cases h; rfl
  | .int i :: r, is, h => by
    unfold intsD at h
    cases e : intsD r with
    | none => rw [e] at h; cases h
    | some js => rw [e] at h; cases h; rw [intsD_eq e]; rfl
  | .none :: _, _, h => by cases h
  | .bool _ :: _, _, h => by cases h
  | .str _ :: _, _, h => by cases h
  | .list _ :: _, _, h => by cases h
  | .tuple _ :: _, _, h => by cases h
  | .dict _ :: _, _, h => by cases h
theorem RpA.ofInts : ∀ {vs : List V} {is : List Int}, RpA w K F vs (is.map PyData.int) → vs = is.map V.int
  | _, [], .nil => rfl
  | _, i :: is, .cons h r => by
    cases h
    rw [RpA.ofInts r]
    rfl
end
section
variable {X : Cx} {pins : List (Addr × Obj)} {σ : L2.St} {H F : Hp} {s : Shared}
mutual
theorem Rp.reads (I : Inv X pins σ H s) (e : Same F H) : ∀ (d : D) (v : V) (u : Value), d.plain = true → Rp X.w X.K F v d → RelV v u → ∃ as, Reads s.heap u d as
  | .none, _, _, _, h, r => by
    cases h; cases r
    exact ⟨_, .none⟩
  | .bool b, _, _, _, h, r => by
    cases h; cases r
    exact ⟨_, .bool b⟩
  | .int i, _, _, _, h, r => by
    cases h
    obtain ⟨t, rfl⟩ := r
    exact ⟨_, .int i t⟩
  | .str x, _, _, _, h, r => by
    cases h
    obtain ⟨t, rfl⟩ := r
    exact ⟨_, .str x t⟩
  | .list ds, _, _, p, h, r => by
    cases h with
    | lst hs ha =>
      cases r
      obtain ⟨its, rv, ⟨o, n, ho, hc, _, hd⟩, _⟩ := I.list (lr_mono e hs).sql
      obtain ⟨as, hr⟩ := Rp.readsA I e ds _ its (by simpa [PyData.plain] using p) ha rv
      exact ⟨_, .list ho hc hd hr⟩
  | .tuple ds, _, _, p, h, r => by
    cases h with
    | tup hs ha =>
      cases r
      obtain ⟨its, rv, ⟨o, ho, hc, n, hd⟩, _⟩ := I.tuple (tr_mono e hs).sq
      obtain ⟨as, hr⟩ := Rp.readsA I e ds _ its (by simpa [PyData.plain] using p) ha rv
      exact ⟨_, .tuple ho hc hd hr⟩
  | .dict _, _, _, p, _, _ => by cases p
theorem Rp.readsA (I : Inv X pins σ H s) (e : Same F H) : ∀ (ds : List D) (vs : List V) (us : List Value), PyData.plainAll ds = true → RpA X.w X.K F vs ds → Vals vs us → ∃ as, ReadsAll s.heap us ds as
  | [], _, _, _, h, r => by
    cases h; cases r
    exact ⟨_, .nil⟩
  | d :: ds, _, _, p, h, r => by
    have p' : d.plain = true ∧ PyData.plainAll ds = true := by simpa [PyData.plainAll] using p
    cases h with
    | cons h1 h2 =>
      cases r with
      | cons r1 r2 =>
        obtain ⟨as, q1⟩ := Rp.reads I e d _ _ p'.1 h1 r1
        obtain ⟨bs, q2⟩ := Rp.readsA I e ds _ _ p'.2 h2 r2
        exact ⟨_, .cons q1 q2⟩
end
mutual
theorem Rp.nested (I : Inv X pins σ H s) (e : Same F H) : ∀ (d : D) (κ : NestedKey) (v : V) (u : Value), toKey d = some κ → Rp X.w X.K F v d → RelV v u → NestedIs s.heap κ u
  | .none, κ, _, _, k, h, r => by
    cases h; cases r; cases k
    exact .none
  | .bool b, κ, _, _, k, h, r => by cases k
  | .int i, κ, _, _, k, h, r => by
    cases h; cases k
    obtain ⟨t, rfl⟩ := r
    exact .int i t
  | .str x, κ, _, _, k, h, r => by
    cases h; cases k
    obtain ⟨t, rfl⟩ := r
    exact .text x t
  | .list ds, κ, _, _, k, h, r => by cases k
  | .tuple ds, κ, _, _, k, h, r => by
    cases h with
    | tup hs ha =>
      cases r
      obtain ⟨its, rv, ⟨o, ho, hc, n, hd⟩, _⟩ := I.tuple (tr_mono e hs).sq
      simp only [toKey] at k
      cases ek : toKeys ds with
      | none => rw [ek] at k; cases k
      | some ks =>
        rw [ek] at k; cases k
        exact .tup ho hc hd (by simpa using Rp.nestedA I e ds ks _ its ek ha rv)
  | .dict _, κ, _, _, k, _, _ => by cases k
theorem Rp.nestedA (I : Inv X pins σ H s) (e : Same F H) : ∀ (ds : List D) (κs : List NestedKey) (vs : List V) (us : List Value), toKeys ds = some κs → RpA X.w X.K F vs ds → Vals vs us → NestedAll s.heap κs us
  | [], _, _, _, k, h, r => by
    cases h; cases r; cases k
    exact .nil
  | d :: ds, _, _, _, k, h, r => by
    simp only [toKeys] at k
    cases e1 : toKey d with
    | none => rw [e1] at k; cases k
    | some κ =>
      cases e2 : toKeys ds with
      | none => rw [e1, e2] at k; cases k
      | some κs =>
        rw [e1, e2] at k; cases k
        cases h with
        | cons h1 h2 =>
          cases r with
          | cons r1 r2 => exact .cons (Rp.nested I e d κ _ _ e1 h1 r1) (Rp.nestedA I e ds κs _ _ e2 h2 r2)
end
end
end Fw
end TFwB
section TFwC
namespace Fw
open PySem PySem.Spec PyProof.Rows L2

abbrev SA := Option (Addr × Addr × Addr)
def SA.has (sa : SA) (b : Addr) : Prop := match sa with
  | some (x, g, _) => b = x ∨ b = g
  | none => False
def natsV (ns : List Nat) : List V := ns.map (fun n : Nat => V.int (Int.ofNat n))
/-- the draws' state: its dict and the list of the great ones are nobody else's; the list of the cells is never changed -/
def StOk (F H : Hp) (sa : SA) (ds : Option DS) : Prop := match sa, ds with
  | some (x, g, c), some s => H x = some (.dK [(.inr "great", .ref g), (.inr "cells", .ref c), (.inr "rest", .int (s.rest : Int)), (.inr "turn", .int (s.turn : Int))]) ∧ H g = some (.lst (natsV s.great)) ∧ F c = some (.lst (natsV s.cells)) ∧
    s.great.length ≤ 1000 ∧ s.cells.length ≤ 1000
  | none, none => True
  | _, _ => False
/-- the heap at the entry of the def, and what is frozen of it -/
structure Gh where
  F0 : Hp
  H0 : Hp
def LstO (w : World) (K : PySem.W.Frag) (F H : Hp) (a : Addr) (xs : List D) : Prop := ∃ vs, H a = some (.lst vs) ∧ RpA w K F vs xs
def DctO (w : World) (K : PySem.W.Frag) (F H : Hp) (a : Addr) (kvs : List (D × D)) : Prop := ∃ es xs, H a = some (dictO a es) ∧ es.toList = xs.map (entD w) ∧ (xs.map (·.1)).Nodup ∧ RpX w K F xs kvs
/-- nobody else has it: not frozen, not there at the entry, none of the draws' -/
structure Mine (g : Gh) (F : Hp) (sa : SA) (a : Addr) : Prop where
  f : F a = none
  h : g.H0 a = none
  s : ¬ sa.has a
def SlOk (w : World) (K : PySem.W.Frag) (g : Gh) (F H : Hp) (sa : SA) (v : V) : Sl → Prop
  | .d x => Rp w K F v x
  | .ol xs => ∃ a, v = .ref a ∧ LstO w K F H a xs ∧ Mine g F sa a
  | .od kvs => ∃ a, v = .ref a ∧ DctO w K F H a kvs ∧ Mine g F sa a
  | .st => ∃ t, sa = some t ∧ v = .ref t.1
def Own (env : Env) (i : Nat) : Prop := (∃ xs, env[i]? = some (some (.ol xs))) ∨ ∃ kvs, env[i]? = some (some (.od kvs))
structure EnvOk (w : World) (K : PySem.W.Frag) (g : Gh) (F H : Hp) (sa : SA) (σ : L2.St) (env : Env) (ds : Option DS) : Prop where
  sub : Same F H
  ext : Same g.F0 F
  keep : ∀ b o, g.H0 b = some o → ¬ sa.has b → H b = some o
  new : ∀ b, F b ≠ none → g.F0 b ≠ none ∨ g.H0 b = none
  len : env.length = σ.length
  slots : ∀ (i : Nat) (s : Sl), env[i]? = some (some s) → ∃ v, σ[i]? = some (some v) ∧ SlOk w K g F H sa v s
  inj : ∀ (i j : Nat) (v : V), Own env i → Own env j → σ[i]? = some (some v) → σ[j]? = some (some v) → i = j
  st : StOk F H sa ds
  saF : ∀ b, sa.has b → F b = none
/-- what a step may change -/
def Mut (σ : L2.St) (env : Env) (b : Addr) : Prop := ∃ i, Own env i ∧ σ[i]? = some (some (.ref b))
structure Step (σ : L2.St) (F H : Hp) (sa : SA) (env : Env) (F' H' : Hp) (sa' : SA) (env' : Env) : Prop where
  fr : ∀ b o, H b = some o → ¬ Mut σ env b → ¬ sa.has b → H' b = some o
  dom : ∀ b, H' b = none → H b = none
  ff : Same F F'
  fn : ∀ b, F' b ≠ none → F b ≠ none ∨ H b = none ∨ Mut σ env b ∨ sa.has b
  sa : sa' = sa ∨ (sa = none ∧ ∀ b, sa'.has b → H b = none ∨ Mut σ env b)
  own : ∀ i, Own env' i → Own env i
def RvOk (w : World) (K : PySem.W.Frag) (g : Gh) (F H : Hp) (sa : SA) (σ : L2.St) (env : Env) (v : V) : Rv → Prop
  | .d x => Rp w K F v x
  | .ow i => σ[i]? = some (some v)
  | .fl xs => ∃ a, v = .ref a ∧ LstO w K F H a xs ∧ Mine g F sa a ∧ ¬ Mut σ env a
  | .fd kvs => ∃ a, v = .ref a ∧ DctO w K F H a kvs ∧ Mine g F sa a ∧ ¬ Mut σ env a
  | .st => ∃ t, sa = some t ∧ v = .ref t.1
section
variable {w : World} {K : PySem.W.Frag} {g : Gh} {F H F' H' F'' H'' : Hp} {sa sa' sa'' : SA} {σ : L2.St} {env env' env'' : Env} {ds : Option DS} {a b : Addr} {v : V}
theorem Step.refl : Step σ F H sa env F H sa env := ⟨fun _ _ h _ _ => h, fun _ h => h, Same.refl F, fun _ h => .inl h, .inl rfl, fun _ h => h⟩
theorem Step.mut (p : Step σ F H sa env F' H' sa' env') : Mut σ env' b → Mut σ env b := fun ⟨i, h, e⟩ => ⟨i, p.own i h, e⟩
theorem Step.has (p : Step σ F H sa env F' H' sa' env') {o : HO} (h : H b = some o) (n : ¬ sa.has b) (nm : ¬ Mut σ env b) : ¬ sa'.has b := by
  rcases p.sa with e | ⟨e, q⟩
  · rw [e]; exact n
  · intro z
    rcases q b z with y | y
    · rw [y] at h; cases h
    · exact nm y
theorem Step.trans (p : Step σ F H sa env F' H' sa' env') (q : Step σ F' H' sa' env' F'' H'' sa'' env'') : Step σ F H sa env F'' H'' sa'' env'' := by
  refine ⟨fun b o h n1 n2 => q.fr b o (p.fr b o h n1 n2) (fun z => n1 (p.mut z)) (p.has h n2 n1), fun b h => p.dom b (q.dom b h), p.ff.trans q.ff, fun b h => ?_, ?_, fun i h => p.own i (q.own i h)⟩
  · rcases q.fn b h with z | z | z | z
    · exact p.fn b z
    · exact .inr (.inl (p.dom b z))
    · exact .inr (.inr (.inl (p.mut z)))
    · rcases p.sa with e | ⟨e, r⟩
      · rw [e] at z; exact .inr (.inr (.inr z))
      · rcases r b z with y | y
        · exact .inr (.inl y)
        · exact .inr (.inr (.inl y))
  · rcases q.sa with e | ⟨e, r⟩
    · rw [e]
      exact p.sa
    · have k : ∀ b, sa''.has b → H b = none ∨ Mut σ env b := fun b z => by
        rcases r b z with y | y
        · exact .inl (p.dom b y)
        · exact .inr (p.mut y)
      rcases p.sa with e2 | ⟨e2, r2⟩
      · exact .inr ⟨e2 ▸ e, k⟩
      · exact .inr ⟨e2, k⟩
theorem LstO.mono (h : LstO w K F H a xs) (e : Same F F') (eh : H' a = H a) : LstO w K F' H' a xs := by
  obtain ⟨vs, h1, h2⟩ := h
  exact ⟨vs, eh.trans h1, h2.mono e⟩
theorem DctO.mono (h : DctO w K F H a kvs) (e : Same F F') (eh : H' a = H a) : DctO w K F' H' a kvs := by
  obtain ⟨es, xs, h1, h2, h3, h4⟩ := h
  exact ⟨es, xs, eh.trans h1, h2, h3, h4.mono e⟩
theorem LstO.some (h : LstO w K F H a xs) : ∃ o, H a = some o := let ⟨_, h, _⟩ := h; ⟨_, h⟩
theorem DctO.some (h : DctO w K F H a kvs) : ∃ o, H a = some o := let ⟨_, _, h, _⟩ := h; ⟨_, h⟩
/-- an own thing that is not the frame's (a new one) stays so over a step -/
theorem Step.mine (p : Step σ F H sa env F' H' sa' env') {o : HO} (h : H a = Option.some o) (m : Mine g F sa a) (n : ¬ Mut σ env a) : Mine g F' sa' a ∧ H' a = Option.some o := by
  refine ⟨⟨?_, m.h, p.has h m.s n⟩, p.fr a o h n m.s⟩
  cases e : F' a with
  | none => rfl
  | some u =>
    rcases p.fn a (by rw [e]; simp) with z | z | z | z
    · exact absurd m.f z
    · rw [h] at z; cases z
    · exact absurd z n
    · exact absurd z m.s
theorem RvOk.step {r : Rv} (p : Step σ F H sa env F' H' sa' env') (h : RvOk w K g F H sa σ env v r) : RvOk w K g F' H' sa' σ env' v r := by
  cases r with
  | d x => exact Rp.mono p.ff h
  | ow i => exact h
  | fl xs =>
    obtain ⟨a, e, l, m, n⟩ := h
    obtain ⟨o, ho⟩ := l.some
    obtain ⟨m', h'⟩ := p.mine ho m n
    exact ⟨a, e, l.mono p.ff (h'.trans ho.symm), m', fun z => n (p.mut z)⟩
  | fd kvs =>
    obtain ⟨a, e, l, m, n⟩ := h
    obtain ⟨o, ho⟩ := l.some
    obtain ⟨m', h'⟩ := p.mine ho m n
    exact ⟨a, e, l.mono p.ff (h'.trans ho.symm), m', fun z => n (p.mut z)⟩
  | st =>
    obtain ⟨t, e, ev⟩ := h
    rcases p.sa with z | ⟨z, _⟩
    · exact ⟨t, z.trans e, ev⟩
    · rw [z] at e; cases e
end
/-- a new thing was not there ahead of the step -/
def RvNew (H : Hp) (v : V) : Rv → Prop
  | .fl _ => ∀ p, v = .ref p → H p = none
  | .fd _ => ∀ p, v = .ref p → H p = none
  | _ => True
def tE (w : World) (K : PySem.W.Frag) (m : M Rv) : TE := fun σ H Q => ∃ g F sa env ds rv env' ds', EnvOk w K g F H sa σ env ds ∧ m (env, ds) = some (rv, (env', ds')) ∧
  ∀ F' H' sa' v, EnvOk w K g F' H' sa' σ env' ds' → Step σ F H sa env F' H' sa' env' → RvOk w K g F' H' sa' σ env' v rv → RvNew H v rv → Q v H'
def tT (w : World) (K : PySem.W.Frag) (m : M Rv) : TT := fun σ H Q => ∃ g F sa env ds k env' ds', EnvOk w K g F H sa σ env ds ∧ m (env, ds) = some (.d (.bool k), (env', ds')) ∧
  ∀ F' H' sa', EnvOk w K g F' H' sa' σ env' ds' → Step σ F H sa env F' H' sa' env' → Q k H'
/-- data, a list of data -/
def tD (w : World) (K : PySem.W.Frag) (m : M D) : TE := fun σ H Q => ∃ g F sa env ds d env' ds', EnvOk w K g F H sa σ env ds ∧ m (env, ds) = some (d, (env', ds')) ∧
  ∀ F' H' sa' v, EnvOk w K g F' H' sa' σ env' ds' → Step σ F H sa env F' H' sa' env' → Rp w K F' v d → Q v H'
def tL (w : World) (K : PySem.W.Frag) (m : M (List D)) : TA := fun σ H Q => ∃ g F sa env ds d env' ds', EnvOk w K g F H sa σ env ds ∧ m (env, ds) = some (d, (env', ds')) ∧
  ∀ F' H' sa' vs, EnvOk w K g F' H' sa' σ env' ds' → Step σ F H sa env F' H' sa' env' → RpA w K F' vs d → Q vs H'
inductive RvsOk (w : World) (K : PySem.W.Frag) (g : Gh) (F H : Hp) (sa : SA) (σ : L2.St) (env : Env) : List V → List Rv → Prop
  | nil : RvsOk w K g F H sa σ env [] []
  | cons {v : V} {r : Rv} {vs : List V} {rs : List Rv} : RvOk w K g F H sa σ env v r → RvsOk w K g F H sa σ env vs rs → RvsOk w K g F H sa σ env (v :: vs) (r :: rs)
def tR (w : World) (K : PySem.W.Frag) (m : M (List Rv)) : TA := fun σ H Q => ∃ g F sa env ds d env' ds', EnvOk w K g F H sa σ env ds ∧ m (env, ds) = some (d, (env', ds')) ∧
  ∀ F' H' sa' vs, EnvOk w K g F' H' sa' σ env' ds' → Step σ F H sa env F' H' sa' env' → RvsOk w K g F' H' sa' σ env' vs d → Q vs H'
/-- arguments of a def: data, or the draws' state -/
def ArgOk (w : World) (K : PySem.W.Frag) (F : Hp) (sa : SA) (v : V) : Sl → Prop
  | .d x => Rp w K F v x
  | .st => ∃ t, sa = some t ∧ v = .ref t.1
  | _ => False
inductive ArgsOk (w : World) (K : PySem.W.Frag) (F : Hp) (sa : SA) : List V → List Sl → Prop
  | nil : ArgsOk w K F sa [] []
  | cons {v : V} {r : Sl} {vs : List V} {rs : List Sl} : ArgOk w K F sa v r → ArgsOk w K F sa vs rs → ArgsOk w K F sa (v :: vs) (r :: rs)
def tA (w : World) (K : PySem.W.Frag) (m : M (List Sl)) : TA := fun σ H Q => ∃ g F sa env ds d env' ds', EnvOk w K g F H sa σ env ds ∧ m (env, ds) = some (d, (env', ds')) ∧
  ∀ F' H' sa' vs, EnvOk w K g F' H' sa' σ env' ds' → Step σ F H sa env F' H' sa' env' → ArgsOk w K F' sa' vs d → Q vs H'
theorem pe_imp {X : Cx} {e : Expr} {t t' : TE} (h : PE X e t) (i : ∀ σ H Q, t' σ H Q → t σ H Q) : PE X e t' := ⟨fun pins s σ H Q I hw => h.run pins s σ H Q I (i _ _ _ hw)⟩
theorem pt_imp {X : Cx} {e : Expr} {t t' : TT} (h : PT X e t) (i : ∀ σ H Q, t' σ H Q → t σ H Q) : PT X e t' := ⟨fun pins s σ H Q I hw => h.run pins s σ H Q I (i _ _ _ hw)⟩
theorem pw_imp {X : Cx} {e : Expr} {t t' : TT} (h : PW X e t) (i : ∀ σ H Q, t' σ H Q → t σ H Q) : PW X e t' := ⟨fun wh pins s σ H Q I hw => h.run wh pins s σ H Q I (i _ _ _ hw)⟩
theorem pa_imp {X : Cx} {es : List Expr} {t t' : TA} (h : PA X es t) (i : ∀ σ H Q, t' σ H Q → t σ H Q) : PA X es t' := ⟨fun pos pins s σ H Q I hw => h.run pos pins s σ H Q I (i _ _ _ hw)⟩
theorem ps_imp {X : Cx} {st : Stmt} {t t' : TS} (h : PS X st t) (i : ∀ D σ H, t' D σ H → t D σ H) : PS X st t' := ⟨fun pins s σ H D I hw => h.run pins s σ H D I (i _ _ _ hw)⟩
theorem pss_imp {X : Cx} {st : List Stmt} {t t' : TS} (h : PSs X st t) (i : ∀ D σ H, t' D σ H → t D σ H) : PSs X st t' := ⟨fun pins s σ H D I hw => h.run pins s σ H D I (i _ _ _ hw)⟩
theorem bindM {α β : Type} {m : M α} {f : α → M β} {c c' : Cf} {b : β} (h : (m >>= f) c = some (b, c')) : ∃ a c1, m c = some (a, c1) ∧ f a c1 = some (b, c') := by
  have h1 : M.bind m f c = some (b, c') := h
  unfold M.bind at h1
  cases e : m c with
  | none => rw [e] at h1; cases h1
  | some p =>
    obtain ⟨a, c1⟩ := p
    rw [e] at h1
    exact ⟨a, c1, rfl, h1⟩
theorem pureM {α : Type} {a b : α} {c c' : Cf} (h : (pure a : M α) c = some (b, c')) : a = b ∧ c = c' := by
  have h1 : some (a, c) = some (b, c') := h
  cases h1
  exact ⟨rfl, rfl⟩
theorem liftM {α : Type} {o : Option α} {b : α} {c c' : Cf} (h : lift o c = some (b, c')) : o = some b ∧ c = c' := by
  unfold lift at h
  cases o with
  | none => cases h
  | some a => cases h; exact ⟨rfl, rfl⟩
theorem peekM_ {r : Rv} {d : D} {c c' : Cf} (h : peekM r c = some (d, c')) : peek c.1 r = some d ∧ c = c' := by
  unfold peekM at h
  cases e : peek c.1 r with
  | none => rw [e] at h; cases h
  | some x => rw [e] at h; cases h; exact ⟨rfl, rfl⟩
end Fw
end TFwC
section TFwD
namespace Fw
open PySem PySem.Spec PyProof.Rows L2
section
variable {w : World} {K : PySem.W.Frag} {g : Gh} {F H F' H' : Hp} {sa sa' : SA} {σ : L2.St} {env env' : Env} {ds : Option DS} {a b p : Addr} {v : V}
theorem StOk.has (h : StOk F H sa ds) (z : sa.has b) : ∃ o, H b = some o := by
  cases sa with
  | none => exact z.elim
  | some t =>
    obtain ⟨x, y, c⟩ := t
    cases ds with
    | none => exact h.elim
    | some s =>
      obtain ⟨h1, h2, h3, _⟩ := h
      rcases z with rfl | rfl
      · exact ⟨_, h1⟩
      · exact ⟨_, h2⟩
theorem StOk.at (h : StOk F H sa ds) (ff : Same F F') (k : ∀ b o, sa.has b → H b = some o → H' b = some o) : StOk F' H' sa ds := by
  cases sa with
  | none => cases ds <;> exact h
  | some t =>
    obtain ⟨x, y, c⟩ := t
    cases ds with
    | none => exact h
    | some s =>
      obtain ⟨h1, h2, h3, r⟩ := h
      exact ⟨k _ _ (.inl rfl) h1, k _ _ (.inr rfl) h2, ff _ _ h3, r⟩
theorem StOk.ff (h : StOk F H sa ds) (ff : Same F F') : StOk F' H sa ds := h.at ff fun _ _ _ q => q
theorem EnvOk.noSa (e : EnvOk w K g F H sa σ env ds) (h : H p = none) : ¬ sa.has p := fun z => by
  obtain ⟨o, q⟩ := e.st.has z
  rw [h] at q; cases q
theorem EnvOk.noF (e : EnvOk w K g F H sa σ env ds) (h : H p = none) : F p = none := by
  cases q : F p with
  | none => rfl
  | some o => rw [e.sub p o q] at h; cases h
theorem EnvOk.noH0 (e : EnvOk w K g F H sa σ env ds) (h : H p = none) : g.H0 p = none := by
  cases q : g.H0 p with
  | none => rfl
  | some o => rw [e.keep p o q (e.noSa h)] at h; cases h
theorem EnvOk.mine (e : EnvOk w K g F H sa σ env ds) (h : H p = none) : Mine g F sa p := ⟨e.noF h, e.noH0 h, e.noSa h⟩
theorem Own.lt {i : Nat} (h : Own env i) : i < env.length := by
  rcases h with ⟨xs, h⟩ | ⟨xs, h⟩
  · exact (List.getElem?_eq_some_iff.mp h).1
  · exact (List.getElem?_eq_some_iff.mp h).1
/-- what an own name holds -/
theorem EnvOk.own (e : EnvOk w K g F H sa σ env ds) {i : Nat} (h : Own env i) : ∃ a o, σ[i]? = some (some (.ref a)) ∧ H a = some o ∧ Mine g F sa a ∧ (∃ xs, o = .lst xs ∨ ∃ es, o = dictO a es) := by
  rcases h with ⟨xs, h⟩ | ⟨kvs, h⟩
  · obtain ⟨v, e1, a, rfl, ⟨vs, hv, _⟩, m⟩ := e.slots i _ h
    exact ⟨a, _, e1, hv, m, vs, .inl rfl⟩
  · obtain ⟨v, e1, a, rfl, ⟨es, xs, hv, _⟩, m⟩ := e.slots i _ h
    exact ⟨a, _, e1, hv, m, [], .inr ⟨es, rfl⟩⟩
theorem EnvOk.mut (e : EnvOk w K g F H sa σ env ds) (h : Mut σ env b) : ∃ o, H b = some o ∧ Mine g F sa b := by
  obtain ⟨i, hi, q⟩ := h
  obtain ⟨a, o, q2, h2, m, _⟩ := e.own hi
  rw [q] at q2
  cases q2
  exact ⟨o, h2, m⟩
theorem EnvOk.noMut (e : EnvOk w K g F H sa σ env ds) (h : H p = none) : ¬ Mut σ env p := fun z => by
  obtain ⟨o, q, _⟩ := e.mut z
  rw [h] at q; cases q
/-- over a change of the heap that keeps what is there, but the draws' (told anew) -/
theorem SlOk.keep {s : Sl} (h : SlOk w K g F H sa v s) (ff : Same F F') (hm : ∀ a o, H a = some o → Mine g F sa a → H' a = some o ∧ Mine g F' sa' a) (hs : ∀ t, sa = some t → sa' = some t) : SlOk w K g F' H' sa' v s := by
  cases s with
  | d x => exact Rp.mono ff h
  | ol xs =>
    obtain ⟨a, e, l, m⟩ := h
    obtain ⟨o, ho⟩ := l.some
    obtain ⟨h1, m1⟩ := hm a o ho m
    exact ⟨a, e, l.mono ff (h1.trans ho.symm), m1⟩
  | od xs =>
    obtain ⟨a, e, l, m⟩ := h
    obtain ⟨o, ho⟩ := l.some
    obtain ⟨h1, m1⟩ := hm a o ho m
    exact ⟨a, e, l.mono ff (h1.trans ho.symm), m1⟩
  | st =>
    obtain ⟨t, e, ev⟩ := h
    exact ⟨t, hs t e, ev⟩
/-- a new object is laid -/
theorem EnvOk.alloc (e : EnvOk w K g F H sa σ env ds) (h : H p = none) (o : HO) : EnvOk w K g F (upd H p o) sa σ env ds := by
  have k : ∀ b u, H b = some u → upd H p o b = some u := fun b u q => by rw [upd_ne (ne_of_none q h)]; exact q
  exact ⟨fun b u q => k b u (e.sub b u q), e.ext, fun b u q n => k b u (e.keep b u q n), e.new, e.len, fun i s q => by
    obtain ⟨v, e1, e2⟩ := e.slots i s q
    exact ⟨v, e1, e2.keep (Same.refl _) (fun a u q m => ⟨k a u q, m⟩) fun _ z => z⟩, e.inj, e.st.at (Same.refl _) fun b u _ q => k b u q, e.saF⟩
theorem step_alloc (h : H p = none) (o : HO) : Step σ F H sa env F (upd H p o) sa env :=
  ⟨fun b u q _ _ => by rw [upd_ne (ne_of_none q h)]; exact q, fun b q => by
    by_cases hb : b = p
    · subst hb; rw [upd_same] at q; cases q
    · rw [upd_ne hb] at q; exact q, Same.refl _, fun _ h => .inl h, .inl rfl, fun _ h => h⟩
theorem same_upd' {o : HO} (h : F p = none) : Same F (upd F p o) := fun b u q => by rw [upd_ne (ne_of_none q h)]; exact q
/-- a new thing is frozen -/
theorem EnvOk.freeze (e : EnvOk w K g F H sa σ env ds) {o : HO} (h : H p = some o) (m : Mine g F sa p) (n : ¬ Mut σ env p) : EnvOk w K g (upd F p o) H sa σ env ds := by
  have ff : Same F (upd F p o) := same_upd' m.f
  refine ⟨fun b u q => ?_, e.ext.trans ff, e.keep, fun b q => ?_, e.len, fun i s q => ?_, e.inj, e.st.ff ff, fun b z => ?_⟩
  · by_cases hb : b = p
    · subst hb; rw [upd_same] at q; cases q; exact h
    · rw [upd_ne hb] at q; exact e.sub b u q
  · by_cases hb : b = p
    · subst hb; exact .inr m.h
    · rw [upd_ne hb] at q; exact e.new b q
  · obtain ⟨v, e1, e2⟩ := e.slots i s q
    refine ⟨v, e1, ?_⟩
    have hn : ∀ a, σ[i]? = some (some (V.ref a)) → Own env i → a ≠ p := fun a h1 h2 z => n ⟨i, h2, by rw [← z]; exact h1⟩
    cases s with
    | d x => exact Rp.mono ff e2
    | ol xs =>
      obtain ⟨a, ea, l, m'⟩ := e2
      subst ea
      have na := hn a e1 (.inl ⟨xs, q⟩)
      exact ⟨a, rfl, l.mono ff rfl, ⟨by rw [upd_ne na]; exact m'.f, m'.h, m'.s⟩⟩
    | od xs =>
      obtain ⟨a, ea, l, m'⟩ := e2
      subst ea
      have na := hn a e1 (.inr ⟨xs, q⟩)
      exact ⟨a, rfl, l.mono ff rfl, ⟨by rw [upd_ne na]; exact m'.f, m'.h, m'.s⟩⟩
    | st => exact e2
  · by_cases hb : b = p
    · subst hb; exact absurd z m.s
    · rw [upd_ne hb]; exact e.saF b z
theorem Step.freeze (s : Step σ F H sa env F' H' sa' env') (h : H p = none) (o : HO) (n : F' p = none) : Step σ F H sa env (upd F' p o) H' sa' env' :=
  ⟨s.fr, s.dom, s.ff.trans (same_upd' n), fun b q => by
    by_cases hb : b = p
    · subst hb; exact .inr (.inl h)
    · rw [upd_ne hb] at q; exact s.fn b q, s.sa, s.own⟩
theorem getElem?_set_some {α : Type} {l : List α} {i j : Nat} {x y : α} (h : (l.set i x)[j]? = some y) : (i = j ∧ x = y ∧ i < l.length) ∨ (i ≠ j ∧ l[j]? = some y) := by
  by_cases e : i = j
  · subst e
    have hl : i < (l.set i x).length := (List.getElem?_eq_some_iff.mp h).1
    rw [List.length_set] at hl
    rw [List.getElem?_set_self hl] at h
    exact .inl ⟨rfl, Option.some.inj h, hl⟩
  · rw [List.getElem?_set_ne e] at h
    exact .inr ⟨e, h⟩
theorem Own.set {i j : Nat} {s : Sl} (h : Own (env.set i (some s)) j) (n : ∀ xs, s ≠ .ol xs) (n2 : ∀ xs, s ≠ .od xs) : i ≠ j ∧ Own env j := by
  rcases h with ⟨xs, h⟩ | ⟨xs, h⟩
  · rcases getElem?_set_some h with ⟨_, e, _⟩ | ⟨e, q⟩
    · exact absurd (Option.some.inj e) (n xs)
    · exact ⟨e, .inl ⟨xs, q⟩⟩
  · rcases getElem?_set_some h with ⟨_, e, _⟩ | ⟨e, q⟩
    · exact absurd (Option.some.inj e) (n2 xs)
    · exact ⟨e, .inr ⟨xs, q⟩⟩
theorem Own.set' {i j : Nat} {s : Sl} (h : Own (env.set i (some s)) j) (hi : Own env i) : Own env j := by
  by_cases e : i = j
  · subst e; exact hi
  · rcases h with ⟨xs, h⟩ | ⟨xs, h⟩
    · rw [List.getElem?_set_ne e] at h; exact .inl ⟨xs, h⟩
    · rw [List.getElem?_set_ne e] at h; exact .inr ⟨xs, h⟩
/-- an own thing is frozen: its name holds data from then on -/
theorem EnvOk.freezeOwn (e : EnvOk w K g F H sa σ env ds) {i : Nat} {d : D} {o : HO} (hi : Own env i) (hσ : σ[i]? = some (some (.ref p))) (h : H p = some o) (hr : Rp w K (upd F p o) (.ref p) d) : EnvOk w K g (upd F p o) H sa σ (env.set i (some (.d d))) ds := by
  obtain ⟨a, o', e1, h1, m, _⟩ := e.own hi
  rw [hσ] at e1
  cases e1
  rw [h] at h1
  cases h1
  have ff : Same F (upd F p o) := same_upd' m.f
  refine ⟨fun b u q => ?_, e.ext.trans ff, e.keep, fun b q => ?_, by rw [List.length_set]; exact e.len, fun j s q => ?_, fun j k v h1 h2 => ?_, e.st.ff ff, fun b z => ?_⟩
  · by_cases hb : b = p
    · subst hb; rw [upd_same] at q; cases q; exact h
    · rw [upd_ne hb] at q; exact e.sub b u q
  · by_cases hb : b = p
    · subst hb; exact .inr m.h
    · rw [upd_ne hb] at q; exact e.new b q
  · rcases getElem?_set_some q with ⟨rfl, es, _⟩ | ⟨ne, q⟩
    · cases es
      exact ⟨_, hσ, hr⟩
    · obtain ⟨v, e1, e2⟩ := e.slots j s q
      refine ⟨v, e1, ?_⟩
      have hn : ∀ a, σ[j]? = some (some (V.ref a)) → Own env j → a ≠ p := fun a h1 h2 z => ne (e.inj i j (.ref p) hi h2 hσ (by rw [← z]; exact h1))
      cases s with
      | d x => exact Rp.mono ff e2
      | ol xs =>
        obtain ⟨a, ea, l, m'⟩ := e2
        subst ea
        have na := hn a e1 (.inl ⟨xs, q⟩)
        exact ⟨a, rfl, l.mono ff rfl, ⟨by rw [upd_ne na]; exact m'.f, m'.h, m'.s⟩⟩
      | od xs =>
        obtain ⟨a, ea, l, m'⟩ := e2
        subst ea
        have na := hn a e1 (.inr ⟨xs, q⟩)
        exact ⟨a, rfl, l.mono ff rfl, ⟨by rw [upd_ne na]; exact m'.f, m'.h, m'.s⟩⟩
      | st => exact e2
  · exact e.inj j k v (h1.set (fun _ z => nomatch z) fun _ z => nomatch z).2 (h2.set (fun _ z => nomatch z) fun _ z => nomatch z).2
  · by_cases hb : b = p
    · subst hb; exact absurd z m.s
    · rw [upd_ne hb]; exact e.saF b z
theorem Step.freezeOwn (s : Step σ F H sa env F' H' sa' env') {i : Nat} {d : D} (hi : Own env' i) (hσ : σ[i]? = some (some (.ref p))) (o : HO) (n : F' p = none) : Step σ F H sa env (upd F' p o) H' sa' (env'.set i (some (.d d))) :=
  ⟨s.fr, s.dom, s.ff.trans (same_upd' n), fun b q => by
    by_cases hb : b = p
    · subst hb; exact .inr (.inr (.inl ⟨i, s.own i hi, hσ⟩))
    · rw [upd_ne hb] at q; exact s.fn b q, s.sa, fun j h => s.own j (h.set' hi)⟩
/-- an own thing is written -/
theorem EnvOk.write (e : EnvOk w K g F H sa σ env ds) {i : Nat} {s : Sl} {o : HO} (hi : Own env i) (hs : (∃ xs, s = .ol xs ∧ LstO w K F (upd H p o) p xs) ∨ ∃ kvs, s = .od kvs ∧ DctO w K F (upd H p o) p kvs) (hσ : σ[i]? = some (some (.ref p))) : EnvOk w K g F (upd H p o) sa σ (env.set i (some s)) ds := by
  obtain ⟨a, o', e1, h1, m, _⟩ := e.own hi
  rw [hσ] at e1
  cases e1
  refine ⟨fun b u q => ?_, e.ext, fun b u q n => ?_, e.new, by rw [List.length_set]; exact e.len, fun j s' q => ?_, fun j k v h1 h2 => ?_, e.st.at (Same.refl _) fun b u z q => ?_, e.saF⟩
  · rw [upd_ne (ne_of_none q m.f)]; exact e.sub b u q
  · rw [upd_ne (ne_of_none q m.h)]; exact e.keep b u q n
  · rcases getElem?_set_some q with ⟨rfl, es, _⟩ | ⟨ne, q⟩
    · cases es
      refine ⟨_, hσ, ?_⟩
      rcases hs with ⟨xs, rfl, l⟩ | ⟨xs, rfl, l⟩
      · exact ⟨p, rfl, l, m⟩
      · exact ⟨p, rfl, l, m⟩
    · obtain ⟨v, e1, e2⟩ := e.slots j s' q
      refine ⟨v, e1, ?_⟩
      have hn : ∀ a, σ[j]? = some (some (V.ref a)) → Own env j → a ≠ p := fun a h1 h2 z => ne (e.inj i j (.ref p) hi h2 hσ (by rw [← z]; exact h1))
      cases s' with
      | d x => exact e2
      | ol xs =>
        obtain ⟨a, ea, l, m'⟩ := e2
        subst ea
        exact ⟨a, rfl, l.mono (Same.refl _) (upd_ne (hn a e1 (.inl ⟨xs, q⟩))), m'⟩
      | od xs =>
        obtain ⟨a, ea, l, m'⟩ := e2
        subst ea
        exact ⟨a, rfl, l.mono (Same.refl _) (upd_ne (hn a e1 (.inr ⟨xs, q⟩))), m'⟩
      | st => exact e2
  · exact e.inj j k v (h1.set' hi) (h2.set' hi)
  · rw [upd_ne (show b ≠ p from fun z2 => m.s (by rw [← z2]; exact z))]; exact q
theorem Step.write (s : Step σ F H sa env F' H' sa' env') (e : EnvOk w K g F' H' sa' σ env' ds) {i : Nat} {sl : Sl} {o : HO} (hi : Own env' i) (hσ : σ[i]? = some (some (.ref p))) : Step σ F H sa env F' (upd H' p o) sa' (env'.set i (some sl)) := by
  refine ⟨fun b u q n1 n2 => ?_, fun b q => ?_, s.ff, s.fn, s.sa, fun j h => s.own j (h.set' hi)⟩
  · have nb : b ≠ p := fun z => n1 ⟨i, s.own i hi, by rw [z]; exact hσ⟩
    rw [upd_ne nb]; exact s.fr b u q n1 n2
  · by_cases hb : b = p
    · subst hb; rw [upd_same] at q; cases q
    · rw [upd_ne hb] at q; exact s.dom b q
/-- a name is stored -/
theorem EnvOk.store (e : EnvOk w K g F H sa σ env ds) {i : Nat} {s : Sl} (hi : i < env.length) (h : SlOk w K g F H sa v s) (hn : (∃ xs, s = .ol xs) ∨ (∃ xs, s = .od xs) → ∀ a, v = .ref a → ¬ Mut σ env a) : EnvOk w K g F H sa (σ.set i (some v)) (env.set i (some s)) ds := by
  have hl : i < σ.length := e.len ▸ hi
  refine ⟨e.sub, e.ext, e.keep, e.new, by rw [List.length_set, List.length_set]; exact e.len, fun j s' q => ?_, fun j k u h1 h2 q1 q2 => ?_, e.st, e.saF⟩
  · rcases getElem?_set_some q with ⟨rfl, es, _⟩ | ⟨ne, q⟩
    · cases es
      exact ⟨v, List.getElem?_set_self hl, h⟩
    · obtain ⟨u, e1, e2⟩ := e.slots j s' q
      exact ⟨u, by rw [List.getElem?_set_ne ne]; exact e1, e2⟩
  · -- two own names at one value
    have key : ∀ j k : Nat, j = i → k ≠ i → Own (env.set i (some s)) j → Own (env.set i (some s)) k → (σ.set i (some v))[j]? = some (some u) → (σ.set i (some v))[k]? = some (some u) → False := fun j k hj hk h1 h2 q1 q2 => by
      subst hj
      rw [List.getElem?_set_self hl] at q1
      rw [List.getElem?_set_ne (Ne.symm hk)] at q2
      cases q1
      have ok : Own env k := by
        rcases h2 with ⟨xs, h2⟩ | ⟨xs, h2⟩
        · rw [List.getElem?_set_ne (Ne.symm hk)] at h2; exact .inl ⟨xs, h2⟩
        · rw [List.getElem?_set_ne (Ne.symm hk)] at h2; exact .inr ⟨xs, h2⟩
      have os : (∃ xs, s = .ol xs) ∨ (∃ xs, s = .od xs) := by
        rcases h1 with ⟨xs, h1⟩ | ⟨xs, h1⟩
        · rcases getElem?_set_some h1 with ⟨_, z, _⟩ | ⟨z, _⟩
          · exact .inl ⟨xs, Option.some.inj z⟩
          · exact absurd rfl z
        · rcases getElem?_set_some h1 with ⟨_, z, _⟩ | ⟨z, _⟩
          · exact .inr ⟨xs, Option.some.inj z⟩
          · exact absurd rfl z
      obtain ⟨a, o, ea, _⟩ := e.own ok
      rw [q2] at ea
      cases ea
      exact hn os a rfl ⟨k, ok, q2⟩
    by_cases hj : j = i
    · by_cases hk : k = i
      · rw [hj, hk]
      · exact (key j k hj hk h1 h2 q1 q2).elim
    · by_cases hk : k = i
      · exact (key k j hk hj h2 h1 q2 q1).elim
      · have ok : ∀ {j : Nat}, j ≠ i → Own (env.set i (some s)) j → Own env j := fun {j} hj h => by
          rcases h with ⟨xs, h⟩ | ⟨xs, h⟩
          · rw [List.getElem?_set_ne (Ne.symm hj)] at h; exact .inl ⟨xs, h⟩
          · rw [List.getElem?_set_ne (Ne.symm hj)] at h; exact .inr ⟨xs, h⟩
        rw [List.getElem?_set_ne (Ne.symm hj)] at q1
        rw [List.getElem?_set_ne (Ne.symm hk)] at q2
        exact e.inj j k u (ok hj h1) (ok hk h2) q1 q2
end
end Fw
end TFwD
section TFwE
namespace Fw
open PySem PySem.Spec PyProof.Rows L2
abbrev SE (X : Cx) (x : Expr) (m : M Rv) : Prop := PE X x (tE X.w X.K m)
abbrev ST (X : Cx) (x : Expr) (m : M Rv) : Prop := PT X x (tT X.w X.K m)
abbrev SW (X : Cx) (x : Expr) (m : M Rv) : Prop := PW X x (tT X.w X.K m)
section
variable {w : World} {K : PySem.W.Frag} {g : Gh} {F H F' H' : Hp} {sa sa' : SA} {σ : L2.St} {env env' : Env} {ds ds' : Option DS} {a b p : Addr} {v u : V}
inductive Pk (w : World) (K : PySem.W.Frag) (F H : Hp) (v : V) (d : D) : Prop
  | d (h : Rp w K F v d)
  | l {a : Addr} {xs : List D} (e : v = .ref a) (ed : d = .list xs) (h : LstO w K F H a xs)
  | k {a : Addr} {kvs : List (D × D)} (e : v = .ref a) (ed : d = .dict kvs) (h : DctO w K F H a kvs)
theorem RvOk.peek (e : EnvOk w K g F H sa σ env ds) {r : Rv} {d : D} (h : RvOk w K g F H sa σ env v r) (q : peek env r = some d) : Pk w K F H v d := by
  cases r with
  | d x => cases q; exact .d h
  | fl xs =>
    cases q
    obtain ⟨a, ea, l, _⟩ := h
    exact .l ea rfl l
  | fd xs =>
    cases q
    obtain ⟨a, ea, l, _⟩ := h
    exact .k ea rfl l
  | st => cases q
  | ow i =>
    unfold Fw.peek at q
    simp only at q
    have hv : σ[i]? = some (some v) := h
    cases hs : env[i]? with
    | none => rw [hs] at q; cases q
    | some o =>
      cases o with
      | none => rw [hs] at q; cases q
      | some s =>
        rw [hs] at q
        cases s with
        | d x => cases q
        | st => cases q
        | ol xs =>
          cases q
          obtain ⟨v', e1, a, ea, l, _⟩ := e.slots i _ hs
          rw [hv] at e1
          cases e1
          exact .l ea rfl l
        | od xs =>
          cases q
          obtain ⟨v', e1, a, ea, l, _⟩ := e.slots i _ hs
          rw [hv] at e1
          cases e1
          exact .k ea rfl l
theorem Pk.rp (e : Same F H) {d : D} (h : Pk w K F H v d) : Rp w K H v d := by
  cases h with
  | d h => exact h.mono e
  | l ev ed h =>
    subst ev ed
    obtain ⟨vs, h1, h2⟩ := h
    exact .lst (.of h1) (h2.mono e)
  | k ev ed h =>
    subst ev ed
    obtain ⟨es, xs, h1, h2, h3, h4⟩ := h
    exact .dct h1 h2 h3 (h4.mono e)
theorem Pk.list (e : Same F H) {xs : List D} (h : Pk w K F H v (.list xs)) : ∃ a vs, v = .ref a ∧ Lr K H a vs ∧ RpA w K F vs xs := by
  cases h with
  | d h =>
    cases h with
    | lst h r => exact ⟨_, _, rfl, lr_mono e h, r⟩
  | l ev ed h =>
    cases ed
    obtain ⟨vs, h1, h2⟩ := h
    exact ⟨_, vs, ev, .of h1, h2⟩
  | k ev ed h => cases ed
theorem Pk.tuple (e : Same F H) {xs : List D} (h : Pk w K F H v (.tuple xs)) : ∃ a vs, v = .ref a ∧ SqT K H a vs ∧ RpA w K F vs xs ∧ Tr K F a vs := by
  cases h with
  | d h =>
    cases h with
    | tup h r => exact ⟨_, _, rfl, (tr_mono e h).sq, r, h⟩
  | l ev ed h => cases ed
  | k ev ed h => cases ed
theorem Pk.dict (e : Same F H) {kvs : List (D × D)} (h : Pk w K F H v (.dict kvs)) : ∃ a es xs, v = .ref a ∧ H a = some (dictO a es) ∧ es.toList = xs.map (entD w) ∧ (xs.map (·.1)).Nodup ∧ RpX w K F xs kvs := by
  cases h with
  | d h =>
    cases h with
    | dct h h2 h3 h4 => exact ⟨_, _, _, rfl, e _ _ h, h2, h3, h4⟩
  | l ev ed h => cases ed
  | k ev ed h =>
    cases ed
    obtain ⟨es, xs, h1, h2, h3, h4⟩ := h
    exact ⟨_, es, xs, ev, h1, h2, h3, h4⟩
theorem Pk.int {i : Int} (h : Pk w K F H v (.int i)) : v = .int i := by
  cases h with
  | d h => cases h; rfl
  | l ev ed h => cases ed
  | k ev ed h => cases ed
theorem Pk.str {i : Str} (h : Pk w K F H v (.str i)) : v = .str i := by
  cases h with
  | d h => cases h; rfl
  | l ev ed h => cases ed
  | k ev ed h => cases ed
theorem Pk.bool {i : Bool} (h : Pk w K F H v (.bool i)) : v = .bl i := by
  cases h with
  | d h => cases h; rfl
  | l ev ed h => cases ed
  | k ev ed h => cases ed
theorem Pk.non (h : Pk w K F H v .none) : v = .non := by
  cases h with
  | d h => cases h; rfl
  | l ev ed h => cases ed
  | k ev ed h => cases ed
theorem vM_ok {m : M Rv} {Q : VK} (h : tE w K (vM m) σ H Q) : tE w K m σ H Q := by
  obtain ⟨g, F, sa, env, ds, rv, env', ds', e, hm, k⟩ := h
  obtain ⟨r, c1, h1, h2⟩ := bindM hm
  obtain ⟨h3, h4⟩ := pureM h2
  subst h3
  obtain ⟨e1, d1⟩ := c1
  cases h4
  refine ⟨g, F, sa, env, ds, r, _, _, e, h1, fun F' H' sa' v e' s hv hn => ?_⟩
  cases r with
  | d x => exact k F' H' sa' v e' s hv hn
  | ow i => exact k F' H' sa' v e' s hv hn
  | st => exact k F' H' sa' v e' s hv hn
  | fl xs =>
    obtain ⟨a, rfl, ⟨vs, l1, l2⟩, m, n⟩ := hv
    have hp := hn a rfl
    refine k (upd F' a (.lst vs)) H' sa' _ (e'.freeze l1 m n) (s.freeze hp _ m.f) ?_ trivial
    exact .lst (.of upd_same) (l2.mono (same_upd' m.f))
  | fd xs =>
    obtain ⟨a, rfl, ⟨es, ys, l1, l2, l3, l4⟩, m, n⟩ := hv
    have hp := hn a rfl
    refine k (upd F' a (dictO a es)) H' sa' _ (e'.freeze l1 m n) (s.freeze hp _ m.f) ?_ trivial
    exact .dct upd_same l2 l3 (l4.mono (same_upd' m.f))
/-- freezing what a value holds -/
theorem frz_ok {r : Rv} {s : Sl} (e : EnvOk w K g F H sa σ env ds) {F0 H0 : Hp} {sa0 : SA} {env0 : Env} (p : Step σ F0 H0 sa0 env0 F H sa env) (hv : RvOk w K g F H sa σ env v r) (hn : RvNew H0 v r) (h : freeze r (env, ds) = some (s, (env', ds'))) :
    ∃ F', EnvOk w K g F' H sa σ env' ds' ∧ Step σ F0 H0 sa0 env0 F' H sa env' ∧ ArgOk w K F' sa v s := by
  cases r with
  | d x =>
    obtain ⟨h1, h2⟩ := pureM h
    cases h1; cases h2
    exact ⟨F, e, p, hv⟩
  | st =>
    obtain ⟨h1, h2⟩ := pureM h
    cases h1; cases h2
    exact ⟨F, e, p, hv⟩
  | fl xs =>
    obtain ⟨h1, h2⟩ := pureM h
    cases h1; cases h2
    obtain ⟨a, rfl, ⟨vs, l1, l2⟩, m, n⟩ := hv
    exact ⟨_, e.freeze l1 m n, p.freeze (hn a rfl) _ m.f, .lst (.of upd_same) (l2.mono (same_upd' m.f))⟩
  | fd xs =>
    obtain ⟨h1, h2⟩ := pureM h
    cases h1; cases h2
    obtain ⟨a, rfl, ⟨es, ys, l1, l2, l3, l4⟩, m, n⟩ := hv
    exact ⟨_, e.freeze l1 m n, p.freeze (hn a rfl) _ m.f, .dct upd_same l2 l3 (l4.mono (same_upd' m.f))⟩
  | ow i =>
    have hσ : σ[i]? = some (some v) := hv
    unfold freeze at h
    simp only at h
    cases hs : env[i]? with
    | none => rw [hs] at h; cases h
    | some o =>
      cases o with
      | none => rw [hs] at h; cases h
      | some sl =>
        rw [hs] at h
        cases sl with
        | d x => cases h
        | st => cases h
        | ol xs =>
          cases h
          obtain ⟨v', e1, a, ea, ⟨vs, l1, l2⟩, m⟩ := e.slots i _ hs
          rw [hσ] at e1
          cases e1
          subst ea
          have ho : Own env i := .inl ⟨xs, hs⟩
          have hr : Rp w K (upd F a (.lst vs)) (.ref a) (.list xs) := .lst (.of upd_same) (l2.mono (same_upd' m.f))
          exact ⟨_, e.freezeOwn ho hσ l1 hr, p.freezeOwn ho hσ _ m.f, hr⟩
        | od xs =>
          cases h
          obtain ⟨v', e1, a, ea, ⟨es, ys, l1, l2, l3, l4⟩, m⟩ := e.slots i _ hs
          rw [hσ] at e1
          cases e1
          subst ea
          have ho : Own env i := .inr ⟨xs, hs⟩
          have hr : Rp w K (upd F a (dictO a es)) (.ref a) (.dict xs) := .dct upd_same l2 l3 (l4.mono (same_upd' m.f))
          exact ⟨_, e.freezeOwn ho hσ l1 hr, p.freezeOwn ho hσ _ m.f, hr⟩
theorem dM_ok {m : M Rv} {Q : VK} (h : tD w K (dM m) σ H Q) : tE w K m σ H Q := by
  obtain ⟨g, F, sa, env, ds, d, env', ds', e, hm, k⟩ := h
  obtain ⟨r, c1, h1, h2⟩ := bindM hm
  obtain ⟨s, c2, h3, h4⟩ := bindM h2
  obtain ⟨e1, d1⟩ := c1
  obtain ⟨e2, d2⟩ := c2
  refine ⟨g, F, sa, env, ds, r, _, _, e, h1, fun F' H' sa' v e' st hv hn => ?_⟩
  obtain ⟨F2, e3, st2, ha⟩ := frz_ok e' st hv hn h3
  cases s with
  | d x =>
    obtain ⟨h5, h6⟩ := pureM h4
    cases h5; cases h6
    exact k F2 H' sa' v e3 st2 ha
  | ol xs => cases h4
  | od xs => cases h4
  | st => cases h4
theorem sM_ok {m : M Rv} {Q : VK} (h : ∃ g F sa env ds s env' ds', EnvOk w K g F H sa σ env ds ∧ sM m (env, ds) = some (s, (env', ds')) ∧
    ∀ F' H' sa' v, EnvOk w K g F' H' sa' σ env' ds' → Step σ F H sa env F' H' sa' env' → ArgOk w K F' sa' v s → Q v H') : tE w K m σ H Q := by
  obtain ⟨g, F, sa, env, ds, s, env', ds', e, hm, k⟩ := h
  obtain ⟨r, c1, h1, h3⟩ := bindM hm
  obtain ⟨e1, d1⟩ := c1
  refine ⟨g, F, sa, env, ds, r, _, _, e, h1, fun F' H' sa' v e' st hv hn => ?_⟩
  obtain ⟨F2, e3, st2, ha⟩ := frz_ok e' st hv hn h3
  exact k F2 H' sa' v e3 st2 ha
/-- a step ahead of another one -/
theorem tE_at {m : M Rv} {rv : Rv} {Q : VK} {H0 F0 : Hp} {sa0 : SA} {env0 : Env} (e : EnvOk w K g F H sa σ env ds) (p : Step σ F0 H0 sa0 env0 F H sa env) (hm : m (env, ds) = some (rv, (env', ds')))
    (k : ∀ F' H' sa' v, EnvOk w K g F' H' sa' σ env' ds' → Step σ F0 H0 sa0 env0 F' H' sa' env' → Step σ F H sa env F' H' sa' env' → RvOk w K g F' H' sa' σ env' v rv → RvNew H0 v rv → Q v H') : tE w K m σ H Q :=
  ⟨g, F, sa, env, ds, rv, env', ds', e, hm, fun F' H' sa' v e' s hv hn => k F' H' sa' v e' (p.trans s) s hv (by
    cases rv with
    | d x => trivial
    | ow i => trivial
    | st => trivial
    | fl xs => exact fun q z => p.dom q (hn q z)
    | fd xs => exact fun q z => p.dom q (hn q z))⟩
/-- two values, one behind the other -/
theorem two_ok {ma mb : M Rv} {R : V → V → Hp → Prop} {x y : Rv} {e1 e2 : Env} {d1 d2 : Option DS} (e : EnvOk w K g F H sa σ env ds) (h1 : vM ma (env, ds) = some (x, (e1, d1))) (h2 : vM mb (e1, d1) = some (y, (e2, d2)))
    (k : ∀ F' H' sa' u v, EnvOk w K g F' H' sa' σ e2 d2 → Step σ F H sa env F' H' sa' e2 → RvOk w K g F' H' sa' σ e2 u x → RvOk w K g F' H' sa' σ e2 v y → R u v H') :
    tE w K ma σ H (fun u H1 => tE w K mb σ H1 fun v H2 => R u v H2) := by
  refine vM_ok (tE_at e Step.refl h1 fun F1 H1 sa1 u e' s _ hu _ => ?_)
  exact vM_ok (tE_at e' s h2 fun F2 H2 sa2 v e'' s2 s3 hv _ => k F2 H2 sa2 u v e'' s2 (hu.step s3) hv)
/-- what is new at p -/
theorem new_fl {vs : List V} {xs : List D} (e : EnvOk w K g F H sa σ env ds) (h : H p = none) (r : RpA w K F vs xs) : RvOk w K g F (upd H p (.lst vs)) sa σ env (.ref p) (.fl xs) :=
  ⟨p, rfl, ⟨vs, upd_same, r⟩, e.mine h, e.noMut h⟩
/-- a new tuple: data at once -/
theorem new_tup {vs : List V} {xs : List D} {o : Obj} (hd : o.dict = none) {F0 H0 : Hp} {sa0 : SA} {env0 : Env} (e : EnvOk w K g F H sa σ env ds) (s : Step σ F0 H0 sa0 env0 F H sa env) (h : H p = none) (r : RpA w K F vs xs) :
    EnvOk w K g (upd F p (.frz o (.tup vs))) (upd H p (.frz o (.tup vs))) sa σ env ds ∧ Step σ F0 H0 sa0 env0 (upd F p (.frz o (.tup vs))) (upd H p (.frz o (.tup vs))) sa env ∧ Rp w K (upd F p (.frz o (.tup vs))) (.ref p) (.tuple xs) := by
  have m := e.mine h
  have e1 := e.alloc h (.frz o (.tup vs))
  refine ⟨e1.freeze upd_same m (e.noMut h), (s.trans (step_alloc h _)).freeze (s.dom p h) _ m.f, .tup (.new upd_same hd) (r.mono (same_upd' m.f))⟩
theorem new_lst {vs : List V} {xs : List D} {F0 H0 : Hp} {sa0 : SA} {env0 : Env} (e : EnvOk w K g F H sa σ env ds) (s : Step σ F0 H0 sa0 env0 F H sa env) (h : H p = none) (r : RpA w K F vs xs) :
    EnvOk w K g F (upd H p (.lst vs)) sa σ env ds ∧ Step σ F0 H0 sa0 env0 F (upd H p (.lst vs)) sa env ∧ RvOk w K g F (upd H p (.lst vs)) sa σ env (.ref p) (.fl xs) ∧ RvNew H0 (.ref p) (.fl xs) :=
  ⟨e.alloc h _, s.trans (step_alloc h _), new_fl e h r, fun q z => by cases z; exact s.dom p h⟩
end
section
variable {X : Cx}
theorem se_var {i : Nat} {x : Str} {pos : Pos} (hN : X.N[i]? = some x) (hv : Vis X.env.scope x) (hd : (x == ("__debug__" : Str)) = false) (hcd : (x == ("__classdict__" : Str)) = false) : SE X (.Name x pos) (varV i) := by
  refine pe_imp (pe_var hN hv hd hcd) fun σ H Q h => ?_
  obtain ⟨g, F, sa, env, ds, rv, env', ds', e, hm, k⟩ := h
  unfold varV at hm
  simp only at hm
  cases hs : env[i]? with
  | none => rw [hs] at hm; cases hm
  | some o =>
    cases o with
    | none => rw [hs] at hm; cases hm
    | some sl =>
      rw [hs] at hm
      obtain ⟨v, e1, e2⟩ := e.slots i _ hs
      refine ⟨v, e1, ?_⟩
      cases sl with
      | d x => cases hm; exact k F H sa v e Step.refl e2 trivial
      | ol xs => cases hm; exact k F H sa v e Step.refl e1 trivial
      | od xs => cases hm; exact k F H sa v e Step.refl e1 trivial
      | st => cases hm; exact k F H sa v e Step.refl e2 trivial
theorem se_data {x : Expr} {v : V} {d : D} (h : PE X x (tC v)) (r : ∀ F, Rp X.w X.K F v d) : SE X x (pure (.d d)) := by
  refine pe_imp h fun σ H Q h => ?_
  obtain ⟨g, F, sa, env, ds, rv, env', ds', e, hm, k⟩ := h
  obtain ⟨h1, h2⟩ := pureM hm
  cases h1; cases h2
  exact k F H sa v e Step.refl (r F) trivial
theorem se_int {i : Int} {j : Nat} {pos : Pos} : SE X (.Constant (.int i) j pos) (pure (.d (.int i))) := se_data pe_int fun _ => .int i
theorem se_bool {i : Bool} {j : Nat} {pos : Pos} : SE X (.Constant (.bool i) j pos) (pure (.d (.bool i))) := se_data pe_bl fun _ => .bl i
theorem se_none {j : Nat} {pos : Pos} : SE X (.Constant .none j pos) (pure (.d .none)) := se_data pe_non fun _ => .non
theorem se_str {i : Str} {j : Nat} {pos : Pos} : SE X (.Constant (.str i) j pos) (pure (.d (.str i))) := se_data pe_str fun _ => .str i
end
end Fw
end TFwE
section TFwF
namespace Fw
open PySem PySem.Spec PyProof.Rows L2
section
variable {X : Cx}
theorem Inv.lstR {pins : List (Addr × Obj)} {σ : L2.St} {H : Hp} {s : Shared} {l : Addr} {xs : List V} (I : Inv X pins σ H s) (h : Lr X.K H l xs) : xs.length ≤ sizeLine ∧ ∃ (its : List Value) (n : Nat), Vals xs its ∧ xs.length = its.length ∧ s.heap.get? l = some { cls := .type "list", data := .seq its.toArray n } := by
  rcases h with h | ⟨its, n, h1, h2, h3⟩
  · obtain ⟨z, its, n, r, e⟩ := h.ok I.hok
    exact ⟨z, its, n, r, r.length, e⟩
  · exact ⟨h3, its, n, h2, h2.length, I.kIn l _ h1⟩
def rCatR (K : PySem.W.Frag) : R2 := fun x y H Q => ∃ l b xs zs, x = .ref l ∧ y = .ref b ∧ Lr K H l xs ∧ Lr K H b zs ∧ xs.length + zs.length ≤ sizeLine ∧ ∀ p, H p = none → Q (.ref p) (upd H p (.lst (xs ++ zs)))
theorem op_catR : OpR X (binaryOp .Add) (rCatR X.K) := by
  intro pins s σ H x y v u Q I rx ry h
  obtain ⟨l, b, xs, zs, rfl, rfl, hl, hb, hz, q⟩ := h
  cases rx; cases ry
  obtain ⟨_, its, n, r, e1, e⟩ := Inv.lstR I hl
  obtain ⟨_, its2, n2, r2, e12, e2⟩ := Inv.lstR I hb
  refine PySem.P.add_list e e2 ?_ (by simp only [List.size_toArray]; omega)
  rw [show its.toArray ++ its2.toArray = (its ++ its2).toArray by simp]
  exact ⟨.ref _, _, I.lnew (t' := s.toks) (r.append r2) (by rw [List.length_append]; exact hz), rfl, q _ I.fresh⟩
theorem op_mulN : OpR X (binaryOp .Mult) (rI CMulW fun i j => .int (i * j)) := op_mulW
theorem op_fdivF : OpR X (binaryOp .FloorDiv) (rI (fun _ j => j ≠ 0 ∧ j.natAbs.log2 < 9000) fun i j => .int (i.fdiv j)) := opI fun _ _ _ _ _ _ _ hc q => floordiv_int hc.1 q (.inl (PyProof.noPylong_of_log2 hc.2))
def opOf : BOp → Operator
  | .add => .Add
  | .sub => .Sub
  | .mul => .Mult
  | .fdiv => .FloorDiv
  | .mod => .Mod
  | .pow => .Pow
end
section
variable {w : World} {K : PySem.W.Frag} {g : Gh} {F H F' H' : Hp} {sa sa' : SA} {σ : L2.St} {env env' : Env} {ds ds' : Option DS} {a b p : Addr} {v u : V}
/-- two values peeked at, one operation -/
def bin2 (ma mb : M Rv) (f : D → D → Option Rv) : M Rv := do
  let x ← vM ma
  let y ← vM mb
  let u ← peekM x
  let v ← peekM y
  lift (f u v)
theorem bin2_inv {ma mb : M Rv} {f : D → D → Option Rv} {c c' : Cf} {rv : Rv} (h : bin2 ma mb f c = some (rv, c')) : ∃ x y c1 d e, vM ma c = some (x, c1) ∧ vM mb c1 = some (y, c') ∧ peek c'.1 x = some d ∧ peek c'.1 y = some e ∧ f d e = some rv := by
  obtain ⟨x, c1, h1, h⟩ := bindM h
  obtain ⟨y, c2, h2, h⟩ := bindM h
  obtain ⟨d, c3, h3, h⟩ := bindM h
  obtain ⟨e, c4, h4, h⟩ := bindM h
  obtain ⟨h5, h6⟩ := liftM h
  obtain ⟨h7, h8⟩ := peekM_ h3
  subst h8
  obtain ⟨h9, h10⟩ := peekM_ h4
  subst h10
  subst h6
  exact ⟨x, y, c1, d, e, h1, h2, h7, h9, h5⟩
/-- the reading of two values from the one of the operation -/
theorem bin2_ok {ma mb : M Rv} {f : D → D → Option Rv} {r : R2} {Q : VK} (h : tE w K (bin2 ma mb f) σ H Q)
    (k : ∀ g F0 H0 sa0 env0 F H sa env ds x y d e rv, EnvOk w K g F H sa σ env ds → Step σ F0 H0 sa0 env0 F H sa env → Pk w K F H x d → Pk w K F H y e → f d e = some rv →
      (∀ F' H' sa' v, EnvOk w K g F' H' sa' σ env ds → Step σ F0 H0 sa0 env0 F' H' sa' env → RvOk w K g F' H' sa' σ env v rv → RvNew H0 v rv → Q v H') → r x y H Q) :
    tE w K ma σ H (fun u H1 => tE w K mb σ H1 fun v H2 => r u v H2 Q) := by
  obtain ⟨g, F, sa, env, ds, rv, env', ds', e, hm, q⟩ := h
  obtain ⟨x, y, ⟨e1, d1⟩, d, e2, h1, h2, h3, h4, h5⟩ := bin2_inv hm
  refine two_ok e h1 h2 fun F2 H2 sa2 u v e' s hu hv => ?_
  exact k g F H sa env F2 H2 sa2 env' ds' u v d e2 rv e' s (hu.peek e' h3) (hv.peek e' h4) h5 q
end
section
variable {X : Cx} {a b : Expr} {ma mb : M Rv} {pos : Pos}
theorem binD_sub {d e : D} {rv : Rv} (h : binD .sub d e = some rv) : ∃ i j, d = .int i ∧ e = .int j ∧ rv = .d (.int (i - j)) := by
  cases d <;> cases e <;> first | (cases h; exact ⟨_, _, rfl, rfl, rfl⟩) | cases h
theorem binD_mod {d e : D} {rv : Rv} (h : binD .mod d e = some rv) : ∃ i j, d = .int i ∧ e = .int j ∧ j ≠ 0 ∧ rv = .d (.int (i.fmod j)) := by
  cases d <;> cases e <;> first | cases h | skip
  rename_i i j
  have h1 : (if j ≠ 0 then some (Rv.d (.int (i.fmod j))) else none) = some rv := h
  by_cases c : j ≠ 0
  · rw [if_pos c] at h1; cases h1; exact ⟨_, _, rfl, rfl, c, rfl⟩
  · rw [if_neg c] at h1; cases h1
theorem binD_fdiv {d e : D} {rv : Rv} (h : binD .fdiv d e = some rv) : ∃ i j, d = .int i ∧ e = .int j ∧ (j ≠ 0 ∧ j.natAbs.log2 < 9000) ∧ rv = .d (.int (i.fdiv j)) := by
  cases d <;> cases e <;> first | cases h | skip
  rename_i i j
  have h1 : (if j ≠ 0 ∧ j.natAbs.log2 < 9000 then some (Rv.d (.int (i.fdiv j))) else none) = some rv := h
  by_cases c : j ≠ 0 ∧ j.natAbs.log2 < 9000
  · rw [if_pos c] at h1; cases h1; exact ⟨_, _, rfl, rfl, c, rfl⟩
  · rw [if_neg c] at h1; cases h1
theorem binD_pow {d e : D} {rv : Rv} (h : binD .pow d e = some rv) : ∃ i j, d = .int i ∧ e = .int j ∧ (0 ≤ j ∧ j ≤ 1000000 ∧ i.natAbs < 2 ^ 64) ∧ rv = .d (.int (i ^ j.toNat)) := by
  cases d <;> cases e <;> first | cases h | skip
  rename_i i j
  have h1 : (if 0 ≤ j ∧ j ≤ 1000000 ∧ i.natAbs < 2 ^ 64 then some (Rv.d (.int (i ^ j.toNat))) else none) = some rv := h
  by_cases c : 0 ≤ j ∧ j ≤ 1000000 ∧ i.natAbs < 2 ^ 64
  · rw [if_pos c] at h1; cases h1; exact ⟨_, _, rfl, rfl, c, rfl⟩
  · rw [if_neg c] at h1; cases h1
theorem binD_mul {d e : D} {rv : Rv} (h : binD .mul d e = some rv) : (∃ i j, d = .int i ∧ e = .int j ∧ i.natAbs.log2 + j.natAbs.log2 < 1000000 ∧ rv = .d (.int (i * j))) ∨
    (∃ xs k, d = .list xs ∧ e = .int k ∧ (0 ≤ k ∧ k ≤ 1000 ∧ xs.length ≤ 1000) ∧ rv = .fl (List.replicate k.toNat xs).flatten) ∨ (∃ xs k, d = .tuple xs ∧ e = .int k ∧ (xs.isEmpty = false ∧ 2 ≤ k ∧ k ≤ 1000 ∧ xs.length ≤ 1000) ∧ rv = .d (.tuple (List.replicate k.toNat xs).flatten)) := by
  cases d <;> cases e <;> first | cases h | skip
  · rename_i i j
    have h1 : (if i.natAbs.log2 + j.natAbs.log2 < 1000000 then some (Rv.d (.int (i * j))) else none) = some rv := h
    by_cases c : i.natAbs.log2 + j.natAbs.log2 < 1000000
    · rw [if_pos c] at h1; cases h1; exact .inl ⟨_, _, rfl, rfl, c, rfl⟩
    · rw [if_neg c] at h1; cases h1
  · rename_i xs k
    have h1 : (if 0 ≤ k ∧ k ≤ 1000 ∧ xs.length ≤ 1000 then some (Rv.fl (List.replicate k.toNat xs).flatten) else none) = some rv := h
    by_cases c : 0 ≤ k ∧ k ≤ 1000 ∧ xs.length ≤ 1000
    · rw [if_pos c] at h1; cases h1; exact .inr (.inl ⟨_, _, rfl, rfl, c, rfl⟩)
    · rw [if_neg c] at h1; cases h1
  · rename_i xs k
    have h1 : (if xs.isEmpty = false ∧ 2 ≤ k ∧ k ≤ 1000 ∧ xs.length ≤ 1000 then some (Rv.d (.tuple (List.replicate k.toNat xs).flatten)) else none) = some rv := h
    by_cases c : xs.isEmpty = false ∧ 2 ≤ k ∧ k ≤ 1000 ∧ xs.length ≤ 1000
    · rw [if_pos c] at h1; cases h1; exact .inr (.inr ⟨_, _, rfl, rfl, c, rfl⟩)
    · rw [if_neg c] at h1; cases h1
theorem binD_add {d e : D} {rv : Rv} (h : binD .add d e = some rv) : (∃ i j, d = .int i ∧ e = .int j ∧ rv = .d (.int (i + j))) ∨
    (∃ xs ys, d = .list xs ∧ e = .list ys ∧ xs.length + ys.length ≤ sizeLine ∧ rv = .fl (xs ++ ys)) ∨ (∃ xs ys, d = .tuple xs ∧ e = .tuple ys ∧ xs.length + ys.length ≤ sizeLine ∧ rv = .d (.tuple (xs ++ ys))) ∨
    (∃ x y : Str, d = .str x ∧ e = .str y ∧ x.length + y.length ≤ sizeLine ∧ rv = .d (.str (x ++ y))) := by
  cases d <;> cases e <;> first | cases h | skip
  · exact .inl ⟨_, _, rfl, rfl, rfl⟩
  · rename_i x y
    have h1 : (if x.length + y.length ≤ sizeLine then some (Rv.d (.str (x ++ y))) else none) = some rv := h
    by_cases c : x.length + y.length ≤ sizeLine
    · rw [if_pos c] at h1; cases h1; exact .inr (.inr (.inr ⟨_, _, rfl, rfl, c, rfl⟩))
    · rw [if_neg c] at h1; cases h1
  · rename_i x y
    have h1 : (if x.length + y.length ≤ sizeLine then some (Rv.fl (x ++ y)) else none) = some rv := h
    by_cases c : x.length + y.length ≤ sizeLine
    · rw [if_pos c] at h1; cases h1; exact .inr (.inl ⟨_, _, rfl, rfl, c, rfl⟩)
    · rw [if_neg c] at h1; cases h1
  · rename_i x y
    have h1 : (if x.length + y.length ≤ sizeLine then some (Rv.d (.tuple (x ++ y))) else none) = some rv := h
    by_cases c : x.length + y.length ≤ sizeLine
    · rw [if_pos c] at h1; cases h1; exact .inr (.inr (.inl ⟨_, _, rfl, rfl, c, rfl⟩))
    · rw [if_neg c] at h1; cases h1
def rRepR (K : PySem.W.Frag) : R2 := fun x y H Q => ∃ l k xs, x = .ref l ∧ y = .int k ∧ Lr K H l xs ∧ 0 ≤ k ∧ k ≤ 1000 ∧ xs.length ≤ 1000 ∧ ∀ p, H p = none → Q (.ref p) (upd H p (.lst (List.replicate k.toNat xs).flatten))
theorem rep_big (xs : List V) (k : Nat) (hk : k ≤ 1000) (hx : xs.length ≤ 1000) : xs.length * k ≤ sizeLine ∧ (List.replicate k xs).flatten.length ≤ sizeLine := by
  have h1 : xs.length * k ≤ 1000 * 1000 := Nat.mul_le_mul hx hk
  have h2 : (List.replicate k xs).flatten.length = k * xs.length := PyProof.Rows.lm_len_rep_flat ..
  rw [h2, sizeLine_eq, Nat.mul_comm k]
  omega
/-- a list times a whole number -/
theorem op_repR : OpR X (binaryOp .Mult) (rRepR X.K) := by
  intro pins s σ H x y v u Q I rx ry h
  obtain ⟨l, k, xs, rfl, rfl, hl, h0, h1, hz, q⟩ := h
  cases rx
  obtain ⟨t, rfl⟩ := ry
  obtain ⟨_, its, n, r, el, e⟩ := Inv.lstR I hl
  have hk : k.toNat ≤ 1000 := by omega
  obtain ⟨b1, b2⟩ := rep_big xs k.toNat hk hz
  have sz : its.toArray.size * k.toNat ≤ sizeLine := by rw [List.size_toArray, ← el]; exact b1
  have s24 : (sizeLine : Nat) ≤ (2 ^ 63 - 1) / 8 := by decide
  have h3 : ¬ (!Builtin.List.listFitsIndex k) = true := by rw [fitsIndex_both (by omega) (by omega)]; exact Bool.false_ne_true
  have h4 : ¬ its.toArray.size * k.toNat > (2 ^ 63 - 1) / 8 := by omega
  have h5 : ¬ Builtin.List.listTooLong (its.toArray.size * k.toNat) = true := by rw [notLongL sz]; exact Bool.false_ne_true
  have h6 : List.foldl (fun x1 x2 => x1 ++ x2) #[] (List.replicate (if its.toArray.isEmpty = true then 0 else k.toNat) its.toArray) = (List.replicate k.toNat its).flatten.toArray := by
    rw [size_rep]
    cases its with
    | nil => simp
    | cons a r' => rw [if_neg (by simp)]
  refine wpAny_binaryOp_repeat_ref (T := "list") (U := "int") (by decide) ⟨_, e, rfl⟩ (fun s' => typeIs_int s' k t) noFill_list_mul F.fills_int_mul F.slot_int_rmul repeat_list F.slot_int_index.lookup ?_
  refine call_meets F.slot_int_rmul (typeIs_int s k t) F.entry_int_rmul (F.args_int_rmul_2 _ _) (int___rmul___int_list k t l its.toArray n) ⟨e, rfl, ⟨_, e, rfl⟩, ?_⟩
  refine call_meets F.slot_list_mul ⟨_, e, rfl⟩ F.entry_list_mul (F.args_list_mul_2 _ _) (AutoListH.list___mul___list_int_3 l its.toArray n k t h3 h4 h5) ⟨e, ?_⟩
  rw [h6]
  exact ⟨.ref _, _, I.lnew (t' := s.toks) (r.rep k.toNat) b2, rfl, q _ I.fresh⟩
/-- t + u: a new tuple is told with its object -/
def rCatD (K : PySem.W.Frag) : R2 := fun x y H Q => ∃ a b xs ys, x = .ref a ∧ y = .ref b ∧ SqT K H a xs ∧ SqT K H b ys ∧ xs.length + ys.length ≤ sizeLine ∧
  (xs = [] → Q (.ref b) H) ∧ (xs ≠ [] → ys = [] → Q (.ref a) H) ∧ (xs ≠ [] → ys ≠ [] → ∀ p (o : Obj), o.dict = none → H p = none → Q (.ref p) (upd H p (.frz o (.tup (xs ++ ys)))))
theorem op_catD : OpR X (binaryOp .Add) (rCatD X.K) := by
  intro pins s σ H x y v u Q I rx ry h
  obtain ⟨a, b, xs, ys, rfl, rfl, ha, hb, hz, q0, q1, q2⟩ := h
  cases rx
  cases ry
  obtain ⟨its, r1, p1, _⟩ := I.tuple ha
  obtain ⟨its2, r2, p2, _⟩ := I.tuple hb
  by_cases hx : xs = []
  · subst hx
    cases r1
    exact cat_tup0 p1 p2 ⟨.ref b, H, I, rfl, q0 rfl⟩
  · refine HT.cat_tup p1 p2 (fun z => hx (r1.nil_iff.mp z)) (fun z => ⟨.ref a, H, I, rfl, q1 hx (r2.nil_iff.mp z)⟩) (fun z => ?_) (by rw [← r1.length, ← r2.length]; exact hz)
    have hp : H s.heap.objs.size = none := I.hok.fresh (Nat.le_refl _)
    refine ⟨.ref s.heap.objs.size, _, I.laid (t' := s.toks) (o := .frz _ (.tup (xs ++ ys))) (fun b ob q => Heap.get?_push_of_some _ q) (Nat.le_refl _) ?_, rfl, q2 hx (fun w => z (r2.nil_iff.mpr w)) _ { cls := .type "tuple", data := .seq (its ++ its2).toArray } rfl hp⟩
    exact ⟨Heap.get?_push_size _ rfl, by rw [List.length_append]; exact hz, _, r1.append r2, IsTup.new _ _⟩
/-- t * n -/
def rRepD (K : PySem.W.Frag) : R2 := fun x y H Q => ∃ (l : Addr) (k : Int) (xs : List V), x = .ref l ∧ y = .int k ∧ SqT K H l xs ∧ xs ≠ [] ∧ 2 ≤ k ∧ k ≤ 1000 ∧ xs.length ≤ 1000 ∧ ∀ p (o : Obj), o.dict = none → H p = none → Q (.ref p) (upd H p (.frz o (.tup (List.replicate k.toNat xs).flatten)))
theorem op_repD : OpR X (binaryOp .Mult) (rRepD X.K) := by
  intro pins s σ H x y v u Q I rx ry h
  obtain ⟨l, k, xs, rfl, rfl, hT, hne, h1, h2, hz, q⟩ := h
  cases rx
  obtain ⟨t, rfl⟩ := ry
  obtain ⟨its, r, ⟨⟨cls, dd, data, sl⟩, ho, hc, n, hd⟩, hs⟩ := I.tuple hT
  simp only at hc hd
  subst hc hd
  have lx : its.length = xs.length := r.length.symm
  have sx : its.toArray.size = xs.length := by rw [List.size_toArray, lx]
  have hn : its ≠ [] := fun e => hne (by
    rw [e] at lx
    exact List.eq_nil_of_length_eq_zero lx.symm)
  have em : its.toArray.isEmpty = false := by
    cases its with
    | nil => exact absurd rfl hn
    | cons a b => rfl
  have hm : ((its.toArray.size : Nat) : Int) * k ≤ 1000000 := by
    rw [sx]
    have a1 : ((xs.length : Nat) : Int) * k ≤ 1000 * k := Int.mul_le_mul_of_nonneg_right (by omega) (by omega)
    omega
  have fl : (List.replicate k.toNat its).flatten.length ≤ sizeLine := by
    rw [PyProof.Rows.lm_len_rep_flat, lx, sizeLine_eq]
    have a1 : k.toNat * xs.length ≤ 1000 * 1000 := Nat.mul_le_mul (by omega) hz
    omega
  have k0 : (decide (k < -(2 ^ 63)) || decide (k ≥ 2 ^ 63)) = false := by
    rw [decide_eq_false (by omega), decide_eq_false (by omega)]
    rfl
  have k1 : (its.toArray.isEmpty || k == 1) = false := by
    rw [em, Bool.false_or]
    exact beq_eq_false_iff_ne.mpr (by omega)
  have k2 : (decide (k ≤ 0) || its.toArray.isEmpty) = false := by
    rw [em, Bool.or_false]
    exact decide_eq_false (by omega)
  have k4 : Builtin.Tuple.tupleTooMany (((its.toArray.size : Nat) : Int) * k) = false := by
    unfold Builtin.Tuple.tupleTooMany
    rw [sizeLine_eq]
    exact decide_eq_false (by omega)
  refine wpAny_binaryOp_repeat_ref (T := "tuple") (U := "int") (by decide) ⟨_, ho, rfl⟩ (fun s' => typeIs_int s' k t) noFill_tuple_mul F.fills_int_mul F.slot_int_rmul repeat_tuple F.slot_int_index.lookup ?_
  refine call_meets F.slot_int_rmul (typeIs_int s k t) F.entry_int_rmul (F.args_int_rmul_2 _ _) (int_rmul_tuple k t l its.toArray n dd sl) ⟨ho, rfl, ⟨_, ho, rfl⟩, ?_⟩
  refine call_meets F.slot_tuple_mul ⟨_, ho, rfl⟩ F.entry_tuple_mul (F.args_tuple_mul_2 _ _) (tuple_mulW l its.toArray n dd sl k t k0 k1 k2 (by omega) k4 (by rw [size_rep, List.size_toArray]; exact fl)) ⟨ho, ?_⟩
  rw [size_rep]
  have hp : H s.heap.objs.size = none := I.hok.fresh (Nat.le_refl _)
  refine ⟨.ref s.heap.objs.size, _, I.laid (t' := s.toks) (o := .frz _ (.tup (List.replicate k.toNat xs).flatten)) (fun b ob q => Heap.get?_push_of_some _ q) (Nat.le_refl _) ?_, rfl, q _ { cls := .type "tuple", data := .seq (List.replicate k.toNat its).flatten.toArray } rfl hp⟩
  exact ⟨Heap.get?_push_size _ rfl, (rep_big xs k.toNat (by omega) hz).2, _, r.rep k.toNat, IsTup.new _ _⟩
def rAdd4 (K : PySem.W.Frag) : R2 := fun x y H Q => (rI0 (fun i j => .int (i + j)) x y H Q ∨ rCatR K x y H Q) ∨ (rCatD K x y H Q ∨ (∃ i j, x = V.str i ∧ y = V.str j ∧ i.length + j.length ≤ sizeLine ∧ Q (.str (i ++ j)) H))
theorem op_add4 : OpR X (binaryOp .Add) (rAdd4 X.K) := (op_add.or op_catR).or (op_catD.or op_add_str)
def rMul3 (K : PySem.W.Frag) : R2 := fun x y H Q => rI CMulW (fun i j => .int (i * j)) x y H Q ∨ (rRepR K x y H Q ∨ rRepD K x y H Q)
theorem op_mul3 : OpR X (binaryOp .Mult) (rMul3 X.K) := op_mulN.or (op_repR.or op_repD)
/-- an operation of two values -/
theorem se_bin (o : BOp) (ha : SE X a ma) (hb : SE X b mb) : SE X (.BinOp a (opOf o) b pos) (bin2 ma mb (binD o)) := by
  cases o with
  | add =>
    refine pe_imp (pe_op op_add4 ha hb) fun σ H Q h => bin2_ok h fun g F0 H0 sa0 env0 F H sa env ds x y d e rv eo s hx hy hf k => ?_
    rcases binD_add hf with ⟨i, j, rfl, rfl, rfl⟩ | ⟨xs, ys, rfl, rfl, hz, rfl⟩ | ⟨xs, ys, rfl, rfl, hz, rfl⟩ | ⟨i, j, rfl, rfl, hz, rfl⟩
    · exact .inl (.inl ⟨i, j, hx.int, hy.int, k F H sa _ eo s (.int _) trivial⟩)
    · obtain ⟨l, vs, rfl, h1, r1⟩ := hx.list eo.sub
      obtain ⟨m, us, rfl, h2, r2⟩ := hy.list eo.sub
      refine .inl (.inr ⟨l, m, vs, us, rfl, rfl, h1, h2, by rw [r1.length, r2.length]; exact hz, fun p hp => ?_⟩)
      obtain ⟨e1, s1, v1, n1⟩ := new_lst eo s hp (r1.append r2)
      exact k F _ sa _ e1 s1 v1 n1
    · obtain ⟨l, vs, rfl, h1, r1, f1⟩ := hx.tuple eo.sub
      obtain ⟨m, us, rfl, h2, r2, f2⟩ := hy.tuple eo.sub
      refine .inr (.inl ⟨l, m, vs, us, rfl, rfl, h1, h2, by rw [r1.length, r2.length]; exact hz, fun z => ?_, fun _ z => ?_, fun _ _ p o ho hp => ?_⟩)
      · subst z
        cases r1
        exact k F H sa _ eo s (.tup f2 r2) trivial
      · subst z
        cases r2
        rw [List.append_nil] at k
        exact k F H sa _ eo s (.tup f1 r1) trivial
      · obtain ⟨e1, s1, v1⟩ := new_tup ho eo s hp (r1.append r2)
        exact k _ _ sa _ e1 s1 v1 trivial
    · exact .inr (.inr ⟨i, j, hx.str, hy.str, hz, k F H sa _ eo s (.str _) trivial⟩)
  | sub =>
    refine pe_imp (pe_op op_sub ha hb) fun σ H Q h => bin2_ok h fun g F0 H0 sa0 env0 F H sa env ds x y d e rv eo s hx hy hf k => ?_
    obtain ⟨i, j, rfl, rfl, rfl⟩ := binD_sub hf
    exact ⟨i, j, hx.int, hy.int, k F H sa _ eo s (.int _) trivial⟩
  | mod =>
    refine pe_imp (pe_op op_modN ha hb) fun σ H Q h => bin2_ok h fun g F0 H0 sa0 env0 F H sa env ds x y d e rv eo s hx hy hf k => ?_
    obtain ⟨i, j, rfl, rfl, c, rfl⟩ := binD_mod hf
    exact ⟨i, j, hx.int, hy.int, c, k F H sa _ eo s (.int _) trivial⟩
  | fdiv =>
    refine pe_imp (pe_op op_fdivF ha hb) fun σ H Q h => bin2_ok h fun g F0 H0 sa0 env0 F H sa env ds x y d e rv eo s hx hy hf k => ?_
    obtain ⟨i, j, rfl, rfl, c, rfl⟩ := binD_fdiv hf
    exact ⟨i, j, hx.int, hy.int, c, k F H sa _ eo s (.int _) trivial⟩
  | pow =>
    refine pe_imp (pe_op op_pow ha hb) fun σ H Q h => bin2_ok h fun g F0 H0 sa0 env0 F H sa env ds x y d e rv eo s hx hy hf k => ?_
    obtain ⟨i, j, rfl, rfl, c, rfl⟩ := binD_pow hf
    exact ⟨i, j, hx.int, hy.int, c, k F H sa _ eo s (.int _) trivial⟩
  | mul =>
    refine pe_imp (pe_op op_mul3 ha hb) fun σ H Q h => bin2_ok h fun g F0 H0 sa0 env0 F H sa env ds x y d e rv eo s hx hy hf k => ?_
    rcases binD_mul hf with ⟨i, j, rfl, rfl, c, rfl⟩ | ⟨xs, j, rfl, rfl, ⟨c0, c1, c2⟩, rfl⟩ | ⟨xs, j, rfl, rfl, ⟨c0, c1, c2, c3⟩, rfl⟩
    · exact .inl ⟨i, j, hx.int, hy.int, c, k F H sa _ eo s (.int _) trivial⟩
    · obtain ⟨l, vs, rfl, h1, r1⟩ := hx.list eo.sub
      have ey := hy.int
      subst ey
      refine .inr (.inl ⟨l, j, vs, rfl, rfl, h1, c0, c1, by rw [r1.length]; exact c2, fun p hp => ?_⟩)
      obtain ⟨e1, s1, v1, n1⟩ := new_lst eo s hp (r1.rep j.toNat)
      exact k F _ sa _ e1 s1 v1 n1
    · obtain ⟨l, vs, rfl, h1, r1, f1⟩ := hx.tuple eo.sub
      have ey := hy.int
      subst ey
      refine .inr (.inr ⟨l, j, vs, rfl, rfl, h1, fun z => ?_, c1, c2, by rw [r1.length]; exact c3, fun p o ho hp => ?_⟩)
      · subst z; cases r1; cases c0
      · obtain ⟨e1, s1, v1⟩ := new_tup ho eo s hp (r1.rep j.toNat)
        exact k _ _ sa _ e1 s1 v1 trivial
end
end Fw
end TFwF
section TFwG
namespace Fw
open PySem PySem.Spec PyProof.Rows L2

mutual
theorem key_eqv : ∀ (a b : D) (x y : NestedKey), toKey a = some x → toKey b = some y → PyData.eqv a b = NestedKey.beq x y
  | .none, b, x, y, h1, h2 => by
    cases h1
    cases b with
    | none => cases h2; rfl
    | int j => cases h2; rfl
    | str j => cases h2; rfl
    | tuple ys => simp only [toKey] at h2; split at h2 <;> cases h2; rfl
    | bool _ => cases h2
    | list _ => cases h2
    | dict _ => cases h2
  | .int i, b, x, y, h1, h2 => by
    cases h1
    cases b with
    | none => cases h2; rfl
    | int j =>
      cases h2
      show (i == j) = decide (i = j)
      rw [Bool.beq_eq_decide_eq]
    | str j => cases h2; rfl
    | tuple ys => simp only [toKey] at h2; split at h2 <;> cases h2; rfl
    | bool _ => cases h2
    | list _ => cases h2
    | dict _ => cases h2
  | .str i, b, x, y, h1, h2 => by
    cases h1
    cases b with
    | none => cases h2; rfl
    | int j => cases h2; rfl
    | str j =>
      cases h2
      show (i == j) = decide (i = j)
      rw [Bool.beq_eq_decide_eq]
    | tuple ys => simp only [toKey] at h2; split at h2 <;> cases h2; rfl
    | bool _ => cases h2
    | list _ => cases h2
    | dict _ => cases h2
  | .tuple xs, b, x, y, h1, h2 => by
    simp only [toKey] at h1
    cases e1 : toKeys xs with
    | none => rw [e1] at h1; cases h1
    | some ks =>
      rw [e1] at h1
      cases h1
      cases b with
      | none => cases h2; rfl
      | int j => cases h2; rfl
      | str j => cases h2; rfl
      | bool _ => cases h2
      | list _ => cases h2
      | dict _ => cases h2
      | tuple ys =>
        simp only [toKey] at h2
        cases e2 : toKeys ys with
        | none => rw [e2] at h2; cases h2
        | some ls =>
          rw [e2] at h2
          cases h2
          show PyData.eqvAll xs ys = NestedKey.beqAll ks ls
          exact keys_eqv xs ys ks ls e1 e2
  | .bool _, _, _, _, h1, _ => by cases h1
  | .list _, _, _, _, h1, _ => by cases h1
  | .dict _, _, _, _, h1, _ => by cases h1
theorem keys_eqv : ∀ (as bs : List D) (xs ys : List NestedKey), toKeys as = some xs → toKeys bs = some ys → PyData.eqvAll as bs = NestedKey.beqAll xs ys
  | [], [], xs, ys, h1, h2 => by cases h1; cases h2; rfl
  | [], b :: bs, xs, ys, h1, h2 => by
    cases h1
    simp only [toKeys] at h2
    split at h2 <;> cases h2
    rfl
  | a :: as, [], xs, ys, h1, h2 => by
    cases h2
    simp only [toKeys] at h1
    split at h1 <;> cases h1
    rfl
  | a :: as, b :: bs, xs, ys, h1, h2 => by
    simp only [toKeys] at h1 h2
    split at h1
    · rename_i k ks e1 e2
      cases h1
      split at h2
      · rename_i l ls f1 f2
        cases h2
        show (PyData.eqv a b && PyData.eqvAll as bs) = (NestedKey.beq k l && NestedKey.beqAll ks ls)
        rw [key_eqv a b k l e1 f1, keys_eqv as bs ks ls e2 f2]
      · cases h2
    · cases h1
end
theorem key_dec {a b : D} {x y : NestedKey} (h1 : toKey a = some x) (h2 : toKey b = some y) : PyData.eqv a b = decide (x = y) := by
  rw [key_eqv a b x y h1 h2, NestedKey.decide_eq]
mutual
theorem key_depth : ∀ (a : D) (x : NestedKey), toKey a = some x → x.depth = a.depth
  | .none, x, h => by cases h; rfl
  | .int _, x, h => by cases h; rfl
  | .str _, x, h => by cases h; rfl
  | .tuple xs, x, h => by
    simp only [toKey] at h
    split at h
    · rename_i ks e
      cases h
      show NestedKey.depthAll ks + 1 = PyData.depthAll xs + 1
      rw [keys_depth xs ks e]
    · cases h
  | .bool _, _, h => by cases h
  | .list _, _, h => by cases h
  | .dict _, _, h => by cases h
theorem keys_depth : ∀ (as : List D) (xs : List NestedKey), toKeys as = some xs → NestedKey.depthAll xs = PyData.depthAll as
  | [], xs, h => by cases h; rfl
  | a :: as, xs, h => by
    simp only [toKeys] at h
    split at h
    · rename_i k ks e1 e2
      cases h
      show max (NestedKey.depth k) (NestedKey.depthAll ks) = max (PyData.depth a) (PyData.depthAll as)
      rw [key_depth a k e1, keys_depth as ks e2]
    · cases h
end
theorem keyN_key {k : D} (h : keyN k = true) : ∃ xs κ, k = .tuple xs ∧ toKey k = some κ ∧ κ.depth ≤ 8 := by
  cases k with
  | tuple xs =>
    have h1 : ((toKeys xs).isSome && decide ((PyData.tuple xs).depth ≤ 8)) = true := h
    rw [Bool.and_eq_true] at h1
    obtain ⟨ks, e⟩ := Option.isSome_iff_exists.mp h1.1
    have ek : toKey (.tuple xs) = some (.tup ks) := by simp only [toKey, e]
    refine ⟨xs, .tup ks, rfl, ek, ?_⟩
    rw [key_depth _ _ ek]
    exact of_decide_eq_true h1.2
  | _ => cases h
section
variable {w : World} {K : PySem.W.Frag} {F H : Hp}
theorem RpX.has {k : D} {κ : NestedKey} (hk : toKey k = some κ) : ∀ {xs : List Ent} {kvs : List (D × D)}, RpX w K F xs kvs → dHas kvs k = (atKey xs κ).isSome
  | _, _, .nil => rfl
  | _, _, .cons (x := x) (k := k') (d := d) (xs := xs) (kvs := kvs) h1 h2 h3 h4 h5 r => by
    have ih := RpX.has hk r
    unfold dHas at ih ⊢
    rw [List.any_cons, ih, key_dec h1 hk]
    unfold atKey
    rw [List.find?_cons]
    cases e : decide (x.1 = κ) with
    | true => simp
    | false => simp
theorem RpX.get {k : D} {κ : NestedKey} (hk : toKey k = some κ) : ∀ {xs : List Ent} {kvs : List (D × D)}, RpX w K F xs kvs → ∀ {d : D}, dGet kvs k = some d → ∃ p v, atKey xs κ = some p ∧ RelV v p.2 ∧ Rp w K F v d
  | _, _, .nil, d, h => by cases h
  | _, _, .cons (x := x) (v := v) (k := k') (d := d') (xs := xs) (kvs := kvs) h1 h2 h3 h4 h5 r, d, h => by
    unfold dGet at h
    rw [key_dec h1 hk] at h
    unfold atKey
    rw [List.find?_cons]
    cases e : decide (x.1 = κ) with
    | true =>
      rw [e, if_pos rfl] at h
      cases h
      exact ⟨_, v, rfl, h4, h5⟩
    | false =>
      rw [e, if_neg Bool.false_ne_true] at h
      exact RpX.get hk r h
theorem dGet_none {k : D} : ∀ {kvs : List (D × D)}, dGet kvs k = none ↔ dHas kvs k = false
  | [] => ⟨fun _ => rfl, fun _ => rfl⟩
  | (a, v) :: r => by
    unfold dGet dHas
    rw [List.any_cons]
    cases e : PyData.eqv a k with
    | true => simp
    | false =>
      rw [if_neg Bool.false_ne_true, Bool.false_or]
      exact dGet_none
end
section
variable {X : Cx} {pins : List (Addr × Obj)} {σ : L2.St} {H F : Hp} {s : Shared}
theorem Rp.key (I : Inv X pins σ H s) (e : Same F H) {k : D} {κ : NestedKey} {v : V} {u : Value} (hk : toKey k = some κ) (h : Rp X.w X.K F v k) (r : RelV v u) (hd : κ.depth ≤ 8) {a : Addr} (ea : u = .ref a) : (nestedKind X.prog X.w).is s.heap κ a := by
  subst ea
  exact ⟨Rp.nested I e k κ v _ hk h r, hd⟩
theorem RpX.is (I : Inv X pins σ H s) (e : Same F H) : ∀ {xs : List Ent} {kvs : List (D × D)}, RpX X.w X.K F xs kvs → ∀ x ∈ xs, (nestedKind X.prog X.w).is s.heap x.1 x.2.1
  | _, _, .nil, x, h => nomatch h
  | _, _, .cons h1 h2 h3 h4 h5 r, x, h => by
    rcases List.mem_cons.mp h with rfl | h
    · obtain ⟨_, κ, _, e1, e2⟩ := keyN_key h2
      rw [h1] at e1
      cases e1
      exact ⟨Rp.nested I e _ _ _ _ h1 h3 rfl, e2⟩
    · exact RpX.is I e r x h
/-- the dict as the library tells it -/
theorem dct_at (I : Inv X pins σ H s) (e : Same F H) {a : Addr} {es : DE} {xs : List Ent} {kvs : List (D × D)} (h : H a = some (dictO a es)) (he : es.toList = xs.map (entD X.w)) (nd : (xs.map (·.1)).Nodup) (r : RpX X.w X.K F xs kvs) :
    (a == sysModules) = false ∧ xs.length ≤ sizeLine ∧ s.heap.DictOfH (nestedKind X.prog X.w) a xs := by
  obtain ⟨⟨h1, h2, o, h3, h4, h5⟩, _⟩ := I.hok a _ h
  refine ⟨h1, ?_, o, es.arr, es.ep, h3, h4, h5, he, RpX.is I e r, nd⟩
  have := congrArg List.length he
  rw [List.length_map, Array.length_toList] at this
  omega
end
def cmpOf : COp → CmpOp
  | .eq => .Eq
  | .ne => .NotEq
  | .lt => .Lt
  | .le => .LtE
  | .gt => .Gt
  | .ge => .GtE
  | .isin => .In
  | .notin => .NotIn
  | .is => .Is
  | .isnot => .IsNot
def rCmp (w : World) (K : PySem.W.Frag) (o : COp) : R2 := fun x y H Q => ∃ d e k, Rp w K H x d ∧ Rp w K H y e ∧ cmpD o d e = some k ∧ Q (.bl k) H
theorem small_of {d : D} (h : small d = true) : d.plain = true ∧ d.depth ≤ 60 := by
  unfold small at h
  rw [Bool.and_eq_true] at h
  exact ⟨h.1, of_decide_eq_true h.2⟩
theorem ite_some {α : Type} {b : Bool} {a k : α} (h : (if b = true then some a else none) = some k) : b = true ∧ a = k := by
  cases b with
  | true => exact ⟨rfl, Option.some.inj h⟩
  | false => cases h
theorem and2 {a b : Bool} (h : (a && b) = true) : a = true ∧ b = true := Bool.and_eq_true_iff.mp h
section
variable {X : Cx}
theorem op_cmp (hu : X.A.units + 70 < cLine) (o : COp) : OpR X (compareOp (cmpOf o)) (rCmp X.w X.K o) := by
  intro pins s σ H x y v u Q I rx ry h
  obtain ⟨d, e, k, hx, hy, hk, q⟩ := h
  have fin : ∀ {b : Bool} {t : Nat}, b = k → EP X pins σ Q (.bool b) { s with toks := t } := fun {b t} e => by subst e; exact ⟨.bl b, H, I.tok t, rfl, q⟩
  have fin0 : ∀ {b : Bool}, b = k → EP X pins σ Q (.bool b) s := fun {b} e => by subst e; exact ⟨.bl b, H, I, rfl, q⟩
  have rd : ∀ {d : D} {x : V} {v : Value}, small d = true → Rp X.w X.K H x d → RelV x v → d.plain = true ∧ d.depth ≤ 60 ∧ ∃ as, Reads s.heap v d as := fun {d x v} hs hr r => by
    obtain ⟨h1, h2⟩ := small_of hs
    exact ⟨h1, h2, Rp.reads I (Same.refl H) d x v h1 hr r⟩
  cases o with
  | eq =>
    obtain ⟨h1, h2⟩ := ite_some hk
    obtain ⟨h3, h4⟩ := and2 h1
    obtain ⟨p1, d1, as, r1⟩ := rd h3 hx rx
    obtain ⟨p2, d2, bs, r2⟩ := rd h4 hy ry
    exact SeqAt.eq_plain r1 r2 p1 p2 (by omega) (fin0 h2)
  | ne =>
    obtain ⟨h1, h2⟩ := ite_some hk
    obtain ⟨h3, h4⟩ := and2 h1
    obtain ⟨p1, d1, as, r1⟩ := rd h3 hx rx
    obtain ⟨p2, d2, bs, r2⟩ := rd h4 hy ry
    exact SeqAt.ne_plain r1 r2 p1 p2 (by omega) (fin0 h2)
  | lt =>
    cases d <;> cases e <;> first | cases hk | skip
    cases hx; cases hy
    exact op_lt pins s σ H _ _ v u Q I rx ry ⟨_, _, rfl, rfl, q⟩
  | le =>
    cases d <;> cases e <;> first | cases hk | skip
    cases hx; cases hy
    exact op_le pins s σ H _ _ v u Q I rx ry ⟨_, _, rfl, rfl, q⟩
  | gt =>
    cases d <;> cases e <;> first | cases hk | skip
    cases hx; cases hy
    exact op_gt pins s σ H _ _ v u Q I rx ry ⟨_, _, rfl, rfl, q⟩
  | ge =>
    cases d <;> cases e <;> first | cases hk | skip
    cases hx; cases hy
    exact op_ge pins s σ H _ _ v u Q I rx ry ⟨_, _, rfl, rfl, q⟩
  | isin =>
    cases e <;> first | cases hk | skip
    · rename_i xs
      obtain ⟨h1, h2⟩ := ite_some hk
      obtain ⟨h3, h4⟩ := and2 h1
      obtain ⟨p1, d1, as, r1⟩ := rd h3 hx rx
      obtain ⟨p2, d2, bs, r2⟩ := rd h4 hy ry
      exact SeqAt.in_list_data r2 r1 (by simpa [PyData.plain] using p2) p1 (by omega) (fin0 h2)
    · rename_i xs
      obtain ⟨h1, h2⟩ := ite_some hk
      obtain ⟨h3, h4⟩ := and2 h1
      obtain ⟨p1, d1, as, r1⟩ := rd h3 hx rx
      obtain ⟨p2, d2, bs, r2⟩ := rd h4 hy ry
      exact SeqAt.in_tuple_data r2 r1 (by simpa [PyData.plain] using p2) p1 (by omega) (fin0 h2)
    · rename_i kvs
      obtain ⟨h1, h2⟩ := ite_some hk
      obtain ⟨h3, h4⟩ := and2 h1
      obtain ⟨ts, κ, ed, hκ, hd⟩ := keyN_key h3
      subst ed
      cases hx with
      | tup hs hr =>
        cases rx
        cases hy with
        | dct e1 e2 e3 e4 =>
          cases ry
          obtain ⟨m1, m2, m3⟩ := dct_at I (Same.refl H) e1 e2 e3 e4
          refine wpAny_in_heap (by show X.A.in1.units + 8 < cLine; simp only [Around.in1_units]; omega) (Rp.key I (Same.refl H) hκ (.tup hs hr) rfl hd rfl) m1 m3 (fin ?_)
          rw [← h2, e4.has hκ]
  | notin =>
    cases e <;> first | cases hk | skip
    · rename_i xs
      obtain ⟨h1, h2⟩ := ite_some hk
      obtain ⟨h3, h4⟩ := and2 h1
      obtain ⟨p1, d1, as, r1⟩ := rd h3 hx rx
      obtain ⟨p2, d2, bs, r2⟩ := rd h4 hy ry
      exact SeqAt.notIn_list_data r2 r1 (by simpa [PyData.plain] using p2) p1 (by omega) (fin0 h2)
    · rename_i xs
      obtain ⟨h1, h2⟩ := ite_some hk
      obtain ⟨h3, h4⟩ := and2 h1
      obtain ⟨p1, d1, as, r1⟩ := rd h3 hx rx
      obtain ⟨p2, d2, bs, r2⟩ := rd h4 hy ry
      exact SeqAt.notIn_tuple_data r2 r1 (by simpa [PyData.plain] using p2) p1 (by omega) (fin0 h2)
    · rename_i kvs
      obtain ⟨h1, h2⟩ := ite_some hk
      obtain ⟨h3, h4⟩ := and2 h1
      obtain ⟨ts, κ, ed, hκ, hd⟩ := keyN_key h3
      subst ed
      cases hx with
      | tup hs hr =>
        cases rx
        cases hy with
        | dct e1 e2 e3 e4 =>
          cases ry
          obtain ⟨m1, m2, m3⟩ := dct_at I (Same.refl H) e1 e2 e3 e4
          refine notIn_keyed (by show X.A.in1.units + 8 < cLine; simp only [Around.in1_units]; omega) (Rp.key I (Same.refl H) hκ (.tup hs hr) rfl hd rfl) m1 ⟨_, m3, rfl⟩ (fin ?_)
          rw [← h2, e4.has hκ, valueAt_pairsH, Option.isSome_map]
  | is =>
    cases d <;> cases e <;> first | cases hk | skip
    all_goals (cases hx <;> cases hy)
    all_goals first | exact op_isN pins s σ H _ _ v u Q I rx ry ⟨rfl, q⟩ | exact op_is_bl pins s σ H _ _ v u Q I rx ry ⟨_, _, rfl, rfl, by rw [← Bool.beq_eq_decide_eq]; exact q⟩
  | isnot =>
    cases d <;> cases e <;> first | cases hk | skip
    all_goals (cases hx <;> cases hy)
    all_goals first | exact op_notN pins s σ H _ _ v u Q I rx ry ⟨rfl, q⟩ | exact op_isnot_bl pins s σ H _ _ v u Q I rx ry ⟨_, _, rfl, rfl, by rw [← Bool.beq_eq_decide_eq]; exact q⟩
end
end Fw
end TFwG
section TFwH
namespace Fw
open PySem PySem.Spec PyProof.Rows L2
def cmp2 (ma mb : M Rv) (o : COp) : M Rv := do
  let x ← vM ma
  let y ← vM mb
  let u ← peekM x
  let v ← peekM y
  let k ← lift (cmpD o u v)
  pure (.d (.bool k))
def chn3 (ma mb mc : M Rv) (o p : COp) : M Rv := do
  let x ← vM ma
  let y ← vM mb
  let u ← peekM x
  let v ← peekM y
  let k ← lift (cmpD o u v)
  if k then do
    let z ← vM mc
    let v ← peekM y
    let w ← peekM z
    let l ← lift (cmpD p v w)
    pure (.d (.bool l))
  else pure (.d (.bool false))
def notB (ma : M Rv) : M Rv := do
  let k ← boolM (← ma)
  pure (.d (.bool (!k)))
def andB (ma mb : M Rv) : M Rv := do
  let k ← boolM (← ma)
  if k then mb else pure (.d (.bool false))
def orB (ma mb : M Rv) : M Rv := do
  let k ← boolM (← ma)
  if k then pure (.d (.bool true)) else mb
def iteB (mc ma mb : M Rv) : M Rv := do
  let k ← boolM (← mc)
  if k then ma else mb
theorem boolM_inv {r : Rv} {k : Bool} {c c' : Cf} (h : boolM r c = some (k, c')) : r = .d (.bool k) ∧ c = c' := by
  cases r with
  | d x =>
    cases x <;> first | cases h | skip
    exact ⟨rfl, rfl⟩
  | _ => cases h
theorem boolB {m : M Rv} {k : Bool} {c c' : Cf} (h : (do boolM (← m) : M Bool) c = some (k, c')) : m c = some (.d (.bool k), c') := by
  obtain ⟨r, c1, h1, h2⟩ := bindM h
  obtain ⟨h3, h4⟩ := boolM_inv h2
  rw [h1, h3, h4]
theorem cmp2_inv {ma mb : M Rv} {o : COp} {c c' : Cf} {rv : Rv} (h : cmp2 ma mb o c = some (rv, c')) : ∃ x y c1 d e k, vM ma c = some (x, c1) ∧ vM mb c1 = some (y, c') ∧ peek c'.1 x = some d ∧ peek c'.1 y = some e ∧ cmpD o d e = some k ∧ rv = .d (.bool k) := by
  obtain ⟨x, c1, h1, h⟩ := bindM h
  obtain ⟨y, c2, h2, h⟩ := bindM h
  obtain ⟨d, c3, h3, h⟩ := bindM h
  obtain ⟨e, c4, h4, h⟩ := bindM h
  obtain ⟨k, c5, h5, h⟩ := bindM h
  obtain ⟨h6, h7⟩ := pureM h
  obtain ⟨h8, h9⟩ := liftM h5
  obtain ⟨h10, h11⟩ := peekM_ h3
  subst h11
  obtain ⟨h12, h13⟩ := peekM_ h4
  subst h13 h9 h7
  exact ⟨x, y, c1, d, e, k, h1, h2, h10, h12, h8, h6.symm⟩
section
variable {w : World} {K : PySem.W.Frag} {g : Gh} {F H F' H' : Hp} {sa sa' : SA} {σ : L2.St} {env env' : Env} {ds ds' : Option DS} {a b p : Addr} {v u : V}
theorem cmp2_ok {ma mb : M Rv} {o : COp} {Q : VK} (h : tE w K (cmp2 ma mb o) σ H Q) : tE w K ma σ H (fun u H1 => tE w K mb σ H1 fun v H2 => rCmp w K o u v H2 Q) := by
  obtain ⟨g, F, sa, env, ds, rv, env', ds', e, hm, q⟩ := h
  obtain ⟨x, y, ⟨e1, d1⟩, d, e2, k, h1, h2, h3, h4, h5, h6⟩ := cmp2_inv hm
  subst h6
  refine two_ok e h1 h2 fun F2 H2 sa2 u v e' s hu hv => ?_
  exact ⟨d, e2, k, (hu.peek e' h3).rp e'.sub, (hv.peek e' h4).rp e'.sub, h5, q F2 H2 sa2 (.bl k) e' s (.bl k) trivial⟩
theorem cmp2_okT {ma mb : M Rv} {o : COp} {Q : Bool → Hp → Prop} (h : tT w K (cmp2 ma mb o) σ H Q) : tE w K ma σ H (fun u H1 => tE w K mb σ H1 fun v H2 => rCmp w K o u v H2 fun x H' => ∃ k, x = .bl k ∧ Q k H') := by
  obtain ⟨g, F, sa, env, ds, k, env', ds', e, hm, q⟩ := h
  refine cmp2_ok ⟨g, F, sa, env, ds, _, env', ds', e, hm, fun F' H' sa' v e' s hv _ => ?_⟩
  have hv : Rp w K F' v (.bool k) := hv
  cases hv
  exact ⟨k, rfl, q F' H' sa' e' s⟩
theorem tT_tE {m : M Rv} {Q : Bool → Hp → Prop} (h : tT w K m σ H Q) : tE w K m σ H fun x H' => ∃ k, x = .bl k ∧ Q k H' := by
  obtain ⟨g, F, sa, env, ds, k, env', ds', e, hm, q⟩ := h
  refine ⟨g, F, sa, env, ds, _, env', ds', e, hm, fun F' H' sa' v e' s hv _ => ?_⟩
  have hv : Rp w K F' v (.bool k) := hv
  cases hv
  exact ⟨k, rfl, q F' H' sa' e' s⟩
/-- a test, then what hangs on it -/
theorem tT_bind {m : M Rv} {f : Bool → M Rv} {Q : VK} (h : tE w K (do let k ← boolM (← m); f k) σ H Q) : tT w K m σ H fun k H1 => tE w K (f k) σ H1 Q := by
  obtain ⟨g, F, sa, env, ds, rv, env', ds', e, hm, q⟩ := h
  obtain ⟨r, c0, h0, hm⟩ := bindM hm
  obtain ⟨k, ⟨e1, d1⟩, h1, h2⟩ := bindM hm
  obtain ⟨h3, h4⟩ := boolM_inv h1
  subst h3
  subst h4
  refine ⟨g, F, sa, env, ds, k, e1, d1, e, h0, fun F' H' sa' e' s => ?_⟩
  exact tE_at e' s h2 fun F2 H2 sa2 v e2 s2 _ hv hn => q F2 H2 sa2 v e2 s2 hv hn
theorem tT_bindT {m : M Rv} {f : Bool → M Rv} {Q : Bool → Hp → Prop} (h : tT w K (do let k ← boolM (← m); f k) σ H Q) : tT w K m σ H fun k H1 => tT w K (f k) σ H1 Q := by
  obtain ⟨g, F, sa, env, ds, rv, env', ds', e, hm, q⟩ := h
  obtain ⟨r, c0, h0, hm⟩ := bindM hm
  obtain ⟨k, ⟨e1, d1⟩, h1, h2⟩ := bindM hm
  obtain ⟨h3, h4⟩ := boolM_inv h1
  subst h3
  subst h4
  refine ⟨g, F, sa, env, ds, k, e1, d1, e, h0, fun F' H' sa' e' s => ?_⟩
  exact ⟨g, F', sa', e1, d1, rv, env', ds', e', h2, fun F2 H2 sa2 e2 s2 => q F2 H2 sa2 e2 (s.trans s2)⟩
theorem tE_pure {r : Rv} {Q : VK} (h : tE w K (pure r) σ H Q) {x : D} (hr : r = .d x) {v : V} (hv : ∀ F, Rp w K F v x) : Q v H := by
  obtain ⟨g, F, sa, env, ds, rv, env', ds', e, hm, q⟩ := h
  obtain ⟨h1, h2⟩ := pureM hm
  cases h2
  subst h1
  subst hr
  exact q F H sa v e Step.refl (hv F) trivial
theorem tT_pure {k : Bool} {Q : Bool → Hp → Prop} (h : tT w K (pure (.d (.bool k))) σ H Q) : Q k H := by
  obtain ⟨g, F, sa, env, ds, l, env', ds', e, hm, q⟩ := h
  obtain ⟨h1, h2⟩ := pureM hm
  cases h2
  cases h1
  exact q F H sa e Step.refl
end
section
variable {X : Cx} {a b c : Expr} {ma mb mc : M Rv} {pos : Pos} {rest : List Expr}
theorem se_cmp (hu : X.A.units + 70 < cLine) (o : COp) (ha : SE X a ma) (hb : SE X b mb) (hm : behindInMarks (cmpOf o) b = false) : SE X (.Compare a [cmpOf o] [b] pos) (cmp2 ma mb o) :=
  pe_imp (pe_cmpR (op_cmp hu o) ha hb hm) fun _ _ _ h => cmp2_ok h
theorem st_cmp (hu : X.A.units + 70 < cLine) (o : COp) (ha : SE X a ma) (hb : SE X b mb) (hm : behindInMarks (cmpOf o) b = false) : ST X (.Compare a [cmpOf o] [b] pos) (cmp2 ma mb o) :=
  pt_imp (pt_cmpR (op_cmp hu o) ha hb hm) fun _ _ _ h => cmp2_okT h
/-- an expression of one truth, as a test -/
theorem st_val (h : SE X a ma) (he : ∀ whole, isTrue a X.env whole = (do let v ← whole; standAt a.pos; holding [v] (truthy v))) : ST X a ma :=
  pt_imp (pt_val h he) fun _ _ _ h => tT_tE h
theorem st_not (h : ST X a ma) : ST X (.UnaryOp .Not a pos) (notB ma) := pt_imp (pt_not h) fun σ H Q h => by
  have q := tT_bindT (f := fun k => pure (.d (.bool (!k)))) h
  obtain ⟨g, F, sa, env, ds, k, env', ds', e, hm, q⟩ := q
  exact ⟨g, F, sa, env, ds, k, env', ds', e, hm, fun F' H' sa' e' s => tT_pure (q F' H' sa' e' s)⟩
theorem se_not (h : SE X a ma) : SE X (.UnaryOp .Not a pos) (notB ma) := pe_imp (pe_not h) fun σ H Q h => by
  have q := tT_bind (f := fun k => pure (.d (.bool (!k)))) h
  obtain ⟨g, F, sa, env, ds, k, env', ds', e, hm, q⟩ := q
  refine ⟨g, F, sa, env, ds, _, env', ds', e, hm, fun F' H' sa' v e' s hv _ => ?_⟩
  have hv : Rp X.w X.K F' v (.bool k) := hv
  cases hv
  exact ⟨k, rfl, tE_pure (q F' H' sa' e' s) rfl fun _ => .bl _⟩
theorem sw_and1 (h : ST X a ma) : SW X (.BoolOp .And [a] pos) ma := pw_and1 h
theorem sw_or1 (h : ST X a ma) : SW X (.BoolOp .Or [a] pos) ma := pw_or1 h
theorem sw_and (ha : ST X a ma) (hb : SW X (.BoolOp .And (b :: rest) pos) mb) : SW X (.BoolOp .And (a :: b :: rest) pos) (andB ma mb) := pw_imp (pw_and ha hb) fun σ H Q h => by
  have q := tT_bindT (f := fun k => if k then mb else pure (.d (.bool false))) h
  obtain ⟨g, F, sa, env, ds, k, env', ds', e, hm, q⟩ := q
  refine ⟨g, F, sa, env, ds, k, env', ds', e, hm, fun F' H' sa' e' s => ?_⟩
  have q := q F' H' sa' e' s
  cases k with
  | true => exact iteT (q)
  | false => exact iteF (tT_pure q)
theorem sw_or (ha : ST X a ma) (hb : SW X (.BoolOp .Or (b :: rest) pos) mb) : SW X (.BoolOp .Or (a :: b :: rest) pos) (orB ma mb) := pw_imp (pw_or ha hb) fun σ H Q h => by
  have q := tT_bindT (f := fun k => if k then pure (.d (.bool true)) else mb) h
  obtain ⟨g, F, sa, env, ds, k, env', ds', e, hm, q⟩ := q
  refine ⟨g, F, sa, env, ds, k, env', ds', e, hm, fun F' H' sa' e' s => ?_⟩
  have q := q F' H' sa' e' s
  cases k with
  | false => exact iteF (q)
  | true => exact iteT (tT_pure q)
theorem se_one {op : BoolOp} (h : SE X a ma) : SE X (.BoolOp op [a] pos) ma := pe_one h
theorem se_and (ha : SE X a ma) (hb : SE X (.BoolOp .And (b :: rest) pos) mb) : SE X (.BoolOp .And (a :: b :: rest) pos) (andB ma mb) := pe_imp (pe_and ha hb) fun σ H Q h => by
  have q := tT_bind (f := fun k => if k then mb else pure (.d (.bool false))) h
  obtain ⟨g, F, sa, env, ds, k, env', ds', e, hm, q⟩ := q
  refine ⟨g, F, sa, env, ds, _, env', ds', e, hm, fun F' H' sa' v e' s hv _ => ?_⟩
  have hv : Rp X.w X.K F' v (.bool k) := hv
  cases hv
  have q := q F' H' sa' e' s
  refine ⟨k, rfl, ?_⟩
  cases k with
  | true => exact iteT (q)
  | false => exact iteF (tE_pure q rfl fun _ => .bl false)
theorem se_or (ha : SE X a ma) (hb : SE X (.BoolOp .Or (b :: rest) pos) mb) : SE X (.BoolOp .Or (a :: b :: rest) pos) (orB ma mb) := pe_imp (pe_or ha hb) fun σ H Q h => by
  have q := tT_bind (f := fun k => if k then pure (.d (.bool true)) else mb) h
  obtain ⟨g, F, sa, env, ds, k, env', ds', e, hm, q⟩ := q
  refine ⟨g, F, sa, env, ds, _, env', ds', e, hm, fun F' H' sa' v e' s hv _ => ?_⟩
  have hv : Rp X.w X.K F' v (.bool k) := hv
  cases hv
  have q := q F' H' sa' e' s
  refine ⟨k, rfl, ?_⟩
  cases k with
  | false => exact iteF (q)
  | true => exact iteT (tE_pure q rfl fun _ => .bl true)
theorem se_ite (hc : ST X c mc) (ha : SE X a ma) (hb : SE X b mb) : SE X (.IfExp c a b pos) (iteB mc ma mb) := pe_imp (pe_ifExp hc ha hb) fun σ H Q h => by
  have q := tT_bind (f := fun k => if k then ma else mb) h
  obtain ⟨g, F, sa, env, ds, k, env', ds', e, hm, q⟩ := q
  refine ⟨g, F, sa, env, ds, k, env', ds', e, hm, fun F' H' sa' e' s => ?_⟩
  have q := q F' H' sa' e' s
  cases k with
  | true => exact iteT (q)
  | false => exact iteF (q)
end
end Fw
end TFwH
section TFwI
namespace Fw
open PySem PySem.Spec PyProof.Rows L2
abbrev SL (X : Cx) (es : List Expr) (m : M (List D)) : Prop := PA X es (tL X.w X.K m)
abbrev SA' (X : Cx) (es : List Expr) (m : M (List Sl)) : Prop := PA X es (tA X.w X.K m)
abbrev SR (X : Cx) (es : List Expr) (m : M (List Rv)) : Prop := PA X es (tR X.w X.K m)
def consL (m : M Rv) (ms : M (List D)) : M (List D) := do
  let d ← dM m
  let ds ← ms
  pure (d :: ds)
def consA (m : M Rv) (ms : M (List Sl)) : M (List Sl) := do
  let s ← sM m
  let ss ← ms
  pure (s :: ss)
def consP (m : M Rv) (ms : M (List Rv)) : M (List Rv) := do
  let v ← vM m
  let vs ← ms
  pure (v :: vs)
section
variable {w : World} {K : PySem.W.Frag} {g : Gh} {F H F' H' : Hp} {sa sa' : SA} {σ : L2.St} {env env' : Env} {ds ds' : Option DS} {a b p : Addr} {v u : V}
theorem tL_nil {Q : List V → Hp → Prop} (h : tL w K (pure []) σ H Q) : Q [] H := by
  obtain ⟨g, F, sa, env, ds, d, env', ds', e, hm, q⟩ := h
  obtain ⟨h1, h2⟩ := pureM hm
  cases h1; cases h2
  exact q F H sa [] e Step.refl .nil
theorem tA_nil {Q : List V → Hp → Prop} (h : tA w K (pure []) σ H Q) : Q [] H := by
  obtain ⟨g, F, sa, env, ds, d, env', ds', e, hm, q⟩ := h
  obtain ⟨h1, h2⟩ := pureM hm
  cases h1; cases h2
  exact q F H sa [] e Step.refl .nil
theorem tR_nil {Q : List V → Hp → Prop} (h : tR w K (pure []) σ H Q) : Q [] H := by
  obtain ⟨g, F, sa, env, ds, d, env', ds', e, hm, q⟩ := h
  obtain ⟨h1, h2⟩ := pureM hm
  cases h1; cases h2
  exact q F H sa [] e Step.refl .nil
theorem tL_cons {m : M Rv} {ms : M (List D)} {Q : List V → Hp → Prop} (h : tL w K (consL m ms) σ H Q) : tE w K m σ H fun x H1 => tL w K ms σ H1 fun xs H2 => Q (x :: xs) H2 := by
  obtain ⟨g, F, sa, env, ds, rv, env', ds', e, hm, q⟩ := h
  obtain ⟨d, ⟨e1, d1⟩, h1, hm⟩ := bindM hm
  obtain ⟨ds2, ⟨e2, d2⟩, h2, hm⟩ := bindM hm
  obtain ⟨h3, h4⟩ := pureM hm
  cases h4
  subst h3
  refine dM_ok ⟨g, F, sa, env, ds, d, e1, d1, e, h1, fun F1 H1 sa1 v eo s hv => ?_⟩
  exact ⟨g, F1, sa1, e1, d1, ds2, env', ds', eo, h2, fun F2 H2 sa2 vs eo2 s2 hvs => q F2 H2 sa2 (v :: vs) eo2 (s.trans s2) (.cons (hv.mono s2.ff) hvs)⟩
theorem ArgOk.step {s : Sl} (p : Step σ F H sa env F' H' sa' env') (h : ArgOk w K F sa v s) : ArgOk w K F' sa' v s := by
  cases s with
  | d x => exact Rp.mono p.ff h
  | st =>
    obtain ⟨t, e, ev⟩ := h
    rcases p.sa with z | ⟨z, _⟩
    · exact ⟨t, z.trans e, ev⟩
    · rw [z] at e; cases e
  | ol xs => exact h
  | od xs => exact h
theorem tA_cons {m : M Rv} {ms : M (List Sl)} {Q : List V → Hp → Prop} (h : tA w K (consA m ms) σ H Q) : tE w K m σ H fun x H1 => tA w K ms σ H1 fun xs H2 => Q (x :: xs) H2 := by
  obtain ⟨g, F, sa, env, ds, rv, env', ds', e, hm, q⟩ := h
  obtain ⟨d, ⟨e1, d1⟩, h1, hm⟩ := bindM hm
  obtain ⟨ds2, ⟨e2, d2⟩, h2, hm⟩ := bindM hm
  obtain ⟨h3, h4⟩ := pureM hm
  cases h4
  subst h3
  refine sM_ok ⟨g, F, sa, env, ds, d, e1, d1, e, h1, fun F1 H1 sa1 v eo s hv => ?_⟩
  exact ⟨g, F1, sa1, e1, d1, ds2, env', ds', eo, h2, fun F2 H2 sa2 vs eo2 s2 hvs => q F2 H2 sa2 (v :: vs) eo2 (s.trans s2) (.cons (hv.step s2) hvs)⟩
theorem RvsOk.step {vs : List V} {rs : List Rv} (p : Step σ F H sa env F' H' sa' env') (h : RvsOk w K g F H sa σ env vs rs) : RvsOk w K g F' H' sa' σ env' vs rs := by
  induction h with
  | nil => exact .nil
  | cons h _ ih => exact .cons (h.step p) ih
theorem tR_cons {m : M Rv} {ms : M (List Rv)} {Q : List V → Hp → Prop} (h : tR w K (consP m ms) σ H Q) : tE w K m σ H fun x H1 => tR w K ms σ H1 fun xs H2 => Q (x :: xs) H2 := by
  obtain ⟨g, F, sa, env, ds, rv, env', ds', e, hm, q⟩ := h
  obtain ⟨d, ⟨e1, d1⟩, h1, hm⟩ := bindM hm
  obtain ⟨ds2, ⟨e2, d2⟩, h2, hm⟩ := bindM hm
  obtain ⟨h3, h4⟩ := pureM hm
  cases h4
  subst h3
  refine vM_ok (tE_at e Step.refl h1 fun F1 H1 sa1 v eo s _ hv _ => ?_)
  exact ⟨_, F1, sa1, e1, d1, ds2, env', ds', eo, h2, fun F2 H2 sa2 vs eo2 s2 hvs => q F2 H2 sa2 (v :: vs) eo2 (s.trans s2) (.cons (hv.step s2) hvs)⟩
end
def notStar : Expr → Bool
  | .Starred _ _ => false
  | _ => true
theorem star_plain {e : Expr} (h : notStar e = true) (es : List Expr) (env : PySem.Env) : starEach (e :: es) env = (false, eval e env) :: starEach es env := by
  cases e <;> first | rfl | cases h
section
variable {X : Cx} {e a b : Expr} {es : List Expr} {m ma mb : M Rv} {pos : Pos}
theorem sl_nil : SL X [] (pure []) := pa_imp pa_nil fun _ _ _ h => tL_nil h
theorem sa_nil : SA' X [] (pure []) := pa_imp pa_nil fun _ _ _ h => tA_nil h
theorem sr_nil : SR X [] (pure []) := pa_imp pa_nil fun _ _ _ h => tR_nil h
theorem sl_cons {ms : M (List D)} (h : SE X e m) (hr : SL X es ms) (hs : notStar e = true) : SL X (e :: es) (consL m ms) := pa_imp (pa_cons h hr (star_plain hs es X.env)) fun _ _ _ h => tL_cons h
theorem sa_cons {ms : M (List Sl)} (h : SE X e m) (hr : SA' X es ms) (hs : notStar e = true) : SA' X (e :: es) (consA m ms) := pa_imp (pa_cons h hr (star_plain hs es X.env)) fun _ _ _ h => tA_cons h
theorem sr_cons {ms : M (List Rv)} (h : SE X e m) (hr : SR X es ms) (hs : notStar e = true) : SR X (e :: es) (consP m ms) := pa_imp (pa_cons h hr (star_plain hs es X.env)) fun _ _ _ h => tR_cons h
def tupM (ms : M (List D)) : M Rv := do
  let ds ← ms
  if ds.length ≤ line then pure (.d (.tuple ds)) else stuck
def lstM (ms : M (List D)) : M Rv := do
  let ds ← ms
  if ds.length ≤ line then pure (.fl ds) else stuck
theorem iteM {α : Type} {p : Prop} [Decidable p] {m : M α} {c c' : Cf} {a : α} (h : (if p then m else stuck) c = some (a, c')) : p ∧ m c = some (a, c') := by
  by_cases hp : p
  · rw [if_pos hp] at h; exact ⟨hp, h⟩
  · rw [if_neg hp] at h; cases h
/-- a tuple's display: told with its object -/
def tTupD (t : TA) : TE := fun σ H Q => t σ H fun xs H1 => xs.length ≤ sizeLine ∧ ∀ p (o : Obj), o.dict = none → H1 p = none → Q (.ref p) (upd H1 p (.frz o (.tup xs)))
theorem pe_tupD {k : Nat} {t : TA} (h : PA X es t) : PE X (.Tuple es k pos) (tTupD t) := ⟨fun pins s σ H Q I hq => by
  refine wpAny_Tuple_spliced (thn (h.run pos pins s σ H _ I hq) fun us s1 hx => ?_)
  obtain ⟨xs, H1, I1, r, z, q⟩ := hx
  refine ⟨by rw [← r.length]; exact z, ?_⟩
  have hp : H1 s1.heap.objs.size = none := I1.hok.fresh (Nat.le_refl _)
  refine ⟨.ref s1.heap.objs.size, _, I1.laid (t' := s1.toks) (o := .frz _ (.tup xs)) (fun b u e => Heap.get?_push_of_some _ e) (Nat.le_refl _) ?_, rfl, q _ { cls := .type "tuple", data := .seq us.toArray } rfl hp⟩
  exact ⟨Heap.get?_push_size _ rfl, z, us, r, IsTup.new _ _⟩⟩
theorem se_tup {k : Nat} {ms : M (List D)} (h : SL X es ms) : SE X (.Tuple es k pos) (tupM ms) := pe_imp (pe_tupD h) fun σ H Q h => by
  obtain ⟨g, F, sa, env, ds, rv, env', ds', e, hm, q⟩ := h
  obtain ⟨d, ⟨e1, d1⟩, h1, hm⟩ := bindM hm
  obtain ⟨h2, h3⟩ := iteM hm
  obtain ⟨h4, h5⟩ := pureM h3
  obtain ⟨rfl, rfl⟩ := Prod.mk.inj h5
  subst h4
  refine ⟨g, F, sa, env, ds, d, e1, d1, e, h1, fun F1 H1 sa1 vs eo s hv => ⟨by rw [hv.length]; exact h2, fun p o ho hp => ?_⟩⟩
  obtain ⟨e2, s2, v2⟩ := new_tup ho eo s hp hv
  exact q _ _ sa1 _ e2 s2 v2 trivial
theorem se_lst {ms : M (List D)} (h : SL X es ms) : SE X (.List es pos) (lstM ms) := pe_imp (pe_lst h) fun σ H Q h => by
  obtain ⟨g, F, sa, env, ds, rv, env', ds', e, hm, q⟩ := h
  obtain ⟨d, ⟨e1, d1⟩, h1, hm⟩ := bindM hm
  obtain ⟨h2, h3⟩ := iteM hm
  obtain ⟨h4, h5⟩ := pureM h3
  obtain ⟨rfl, rfl⟩ := Prod.mk.inj h5
  subst h4
  refine ⟨g, F, sa, env, ds, d, e1, d1, e, h1, fun F1 H1 sa1 vs eo s hv => ⟨by rw [hv.length]; exact h2, fun p hp => ?_⟩⟩
  obtain ⟨e2, s2, v2, n2⟩ := new_lst eo s hp hv
  exact q _ _ sa1 _ e2 s2 v2 n2
def rIxDct (w : World) (K : PySem.W.Frag) : R2 := fun x y H Q => ∃ a es xs kvs ts κ p v, x = .ref a ∧ H a = some (dictO a es) ∧ es.toList = xs.map (entD w) ∧ (xs.map (·.1)).Nodup ∧ RpX w K H xs kvs ∧ Rp w K H y (.tuple ts) ∧ toKey (.tuple ts) = some κ ∧ κ.depth ≤ 8 ∧
  atKey xs κ = some p ∧ RelV v p.2 ∧ Q v H
theorem ix_dct (hu : X.A.units + 70 < cLine) : IxR X (rIxDct X.w X.K) := by
  intro value slice pins s σ H x y v u Q I rx ry h hs
  obtain ⟨a, es, xs, kvs, ts, κ, p, vv, rfl, e1, e2, e3, e4, hy, hκ, hd, hg, hv, q⟩ := h
  cases rx
  obtain ⟨m1, m2, m3⟩ := dct_at I (Same.refl H) e1 e2 e3 e4
  cases hy with
  | tup hs' hr =>
    cases ry
    refine tail_any m3.typeIs PySem.F.slot_dict_getitem.lookup (wpAny_getItem_heap (by show X.A.in1.units + 8 < cLine; simp only [Around.in1_units]; omega) (Rp.key I (Same.refl H) hκ (.tup hs' hr) rfl hd rfl) m3 hg ?_) hs
    exact ⟨vv, H, I.tok _, hv, q⟩
def rIx3 (w : World) (K : PySem.W.Frag) : R2 := fun x y H Q => rIxL K x y H Q ∨ (rIxT K x y H Q ∨ rIxDct w K x y H Q)
theorem ix_3 (hu : X.A.units + 70 < cLine) : IxR X (rIx3 X.w X.K) := ix_list.or (ix_tup.or (ix_dct hu))
theorem atI_rp {w : World} {K : PySem.W.Frag} {F : Hp} {vs : List V} {xs : List D} {i : Int} {d : D} (r : RpA w K F vs xs) (h : L2.atI xs i = some d) : ∃ v, L2.atI vs i = some v ∧ Rp w K F v d := by
  unfold L2.atI at h ⊢
  rw [r.length]
  cases e : ixN xs.length i with
  | none => rw [e] at h; cases h
  | some j =>
    rw [e] at h
    exact r.get h
theorem se_ix (hu : X.A.units + 70 < cLine) (ha : SE X a ma) (hb : SE X b mb) (hp : PlainIx b) : SE X (.Subscript a b pos) (bin2 ma mb ixR) := by
  refine pe_imp (pe_ix (ix_3 hu) ha hb hp) fun σ H Q h => bin2_ok h fun g F0 H0 sa0 env0 F H sa env ds x y d e rv eo s hx hy hf k => ?_
  have hf : (match ixD d e with
    | some d => some (Rv.d d)
    | none => none) = some rv := hf
  cases hd : ixD d e with
  | none => rw [hd] at hf; cases hf
  | some z =>
    rw [hd] at hf
    cases hf
    have fin : ∀ v, Rp X.w X.K F v z → Q v H := fun v hv => k F H sa v eo s hv trivial
    cases d with
    | list xs =>
      cases e <;> first | cases hd | skip
      obtain ⟨l, vs, rfl, h1, r1⟩ := hx.list eo.sub
      have ey := hy.int
      subst ey
      obtain ⟨v, hv, hr⟩ := atI_rp r1 hd
      exact .inl ⟨l, vs, _, v, rfl, rfl, h1.sql, hv, fin v hr⟩
    | tuple xs =>
      cases e <;> first | cases hd | skip
      obtain ⟨l, vs, rfl, h1, r1, _⟩ := hx.tuple eo.sub
      have ey := hy.int
      subst ey
      obtain ⟨v, hv, hr⟩ := atI_rp r1 hd
      exact .inr (.inl ⟨l, vs, _, v, rfl, rfl, h1, hv, fin v hr⟩)
    | dict kvs =>
      have hd : (if keyOk kvs e = true then dGet kvs e else none) = some z := hd
      by_cases c : keyOk kvs e = true
      · rw [if_pos c] at hd
        obtain ⟨c1, c2⟩ := and2 c
        obtain ⟨ts, κ, ek, hκ, hdp⟩ := keyN_key c1
        subst ek
        obtain ⟨l, es, xs, rfl, h1, h2, h3, h4⟩ := hx.dict eo.sub
        obtain ⟨p, v, g1, g2, g3⟩ := h4.get hκ hd
        exact .inr (.inr ⟨l, es, xs, kvs, ts, κ, p, v, rfl, h1, h2, h3, h4.mono eo.sub, hy.rp eo.sub, hκ, hdp, g1, g2, fin v g3⟩)
      · rw [if_neg c] at hd; cases hd
    | none => cases e <;> cases hd
    | bool _ => cases e <;> cases hd
    | int _ => cases e <;> cases hd
    | str _ => cases e <;> cases hd
abbrev SO (X : Cx) (e : Option Expr) (m : M (Option Int)) : Prop := PO X e fun σ H Q => ∃ g F sa env ds o env' ds', EnvOk X.w X.K g F H sa σ env ds ∧ m (env, ds) = some (o, (env', ds')) ∧
  ∀ F' H' sa', EnvOk X.w X.K g F' H' sa' σ env' ds' → Step σ F H sa env F' H' sa' env' → Q o H'
theorem po_imp {e : Option Expr} {t t' : TO} (h : PO X e t) (i : ∀ σ H Q, t' σ H Q → t σ H Q) : PO X e t' := ⟨fun pins s σ H Q I hw => h.run pins s σ H Q I (i _ _ _ hw)⟩
theorem so_none : SO X none (pure none) := po_imp po_none fun σ H Q h => by
  obtain ⟨g, F, sa, env, ds, o, env', ds', e, hm, q⟩ := h
  obtain ⟨h1, h2⟩ := pureM hm
  cases h1
  obtain ⟨rfl, rfl⟩ := Prod.mk.inj h2
  exact q F H sa e Step.refl
def partM (m : M Rv) : M (Option Int) := do
  match ← vM m with
  | .d (.int i) => pure (some i)
  | _ => stuck
theorem partM_inv {m : M Rv} {c c' : Cf} {o : Option Int} (h : partM m c = some (o, c')) : ∃ i, o = some i ∧ vM m c = some (.d (.int i), c') := by
  obtain ⟨r, c1, h1, h2⟩ := bindM h
  cases r with
  | d x =>
    cases x <;> first | cases h2 | skip
    exact ⟨_, rfl, h1⟩
  | _ => cases h2
theorem so_some {e : Expr} {m : M Rv} (h : SE X e m) : SO X (some e) (partM m) := po_imp (po_some h) fun σ H Q h => by
  obtain ⟨g, F, sa, env, ds, o, env', ds', e, hm, q⟩ := h
  obtain ⟨i, ei, h1⟩ := partM_inv hm
  subst ei
  refine vM_ok (tE_at e Step.refl h1 fun F1 H1 sa1 v eo s _ hv _ => ?_)
  have hv : Rp X.w X.K F1 v (.int i) := hv
  cases hv
  exact ⟨i, rfl, q F1 H1 sa1 eo s⟩
def slcM (ma : M Rv) (ml mh : M (Option Int)) : M Rv := do
  let x ← vM ma
  let l ← ml
  let h ← mh
  let u ← peekM x
  lift (sliceD u l h)
/-- t[lo:hi]: a new tuple is told with its object -/
def rSlD (K : PySem.W.Frag) : V → Option Int → Option Int → Hp → VK → Prop := fun x lo hi H Q => ∃ a xs, x = .ref a ∧ SqT K H a xs ∧
  (HT.sIx xs.length 0 lo = 0 ∧ HT.sIx xs.length xs.length hi = xs.length → Q (.ref a) H) ∧ (¬ (HT.sIx xs.length 0 lo = 0 ∧ HT.sIx xs.length xs.length hi = xs.length) → ∀ p (o : Obj), o.dict = none → H p = none → Q (.ref p) (upd H p (.frz o (.tup (cutV xs lo hi)))))
theorem sl_tupD : SlR X (rSlD X.K) := by
  intro pins s σ H x v vl vu lo hi sl Q I rx hs pl pu h
  obtain ⟨a, xs, rfl, hx, q1, q2⟩ := h
  cases rx
  obtain ⟨its, r, ht, hz⟩ := I.tuple hx
  have lx : its.toArray.size = xs.length := by rw [List.size_toArray]; exact r.length.symm
  refine ⟨"tuple", _, PyProof.Rows.slot_tuple_getitem.lookup, ht.typeIs, ?_⟩
  by_cases hw : HT.sIx xs.length 0 lo = 0 ∧ HT.sIx xs.length xs.length hi = xs.length
  · exact getItem_tuple_whole ht hs pl pu (by rw [lx]; exact hw) ⟨.ref a, H, I, rfl, q1 hw⟩
  · refine HT.getItem_tuple_cut ht hs pl pu (by rw [lx]; exact hw) ?_ (by rw [lx]; exact hz)
    rw [lx]
    have hp : H s.heap.objs.size = none := I.hok.fresh (Nat.le_refl _)
    refine ⟨.ref s.heap.objs.size, _, I.laid (t' := s.toks) (o := .frz _ (.tup (cutV xs lo hi))) (fun b ob q => Heap.get?_push_of_some _ q) (Nat.le_refl _) ?_, rfl, q2 hw _ { cls := .type "tuple", data := .seq ((its.drop (HT.sIx xs.length 0 lo)).take (HT.sIx xs.length xs.length hi - HT.sIx xs.length 0 lo)).toArray } rfl hp⟩
    exact ⟨Heap.get?_push_size _ rfl, Nat.le_trans (cutV_length xs lo hi) hz, _, (r.drop (HT.sIx xs.length 0 lo)).take (HT.sIx xs.length xs.length hi - HT.sIx xs.length 0 lo), IsTup.new _ _⟩
def rSl2 (K : PySem.W.Frag) : V → Option Int → Option Int → Hp → VK → Prop := fun x lo hi H Q => rSlL K x lo hi H Q ∨ rSlD K x lo hi H Q
theorem sl_2 : SlR X (rSl2 X.K) := SlR.or sl_list sl_tupD
theorem se_slc {lo hi : Option Expr} {ml mh : M (Option Int)} {p2 : Pos} (ha : SE X a ma) (hl : SO X lo ml) (hh : SO X hi mh) : SE X (.Subscript a (.Slice lo hi none p2) pos) (slcM ma ml mh) := by
  refine pe_imp (pe_slice sl_2 ha hl hh) fun σ H Q h => ?_
  obtain ⟨g, F, sa, env, ds, rv, env', ds', e, hm, q⟩ := h
  obtain ⟨x, ⟨e1, d1⟩, h1, hm⟩ := bindM hm
  obtain ⟨l, ⟨e2, d2⟩, h2, hm⟩ := bindM hm
  obtain ⟨u, ⟨e3, d3⟩, h3, hm⟩ := bindM hm
  obtain ⟨d, c4, h4, hm⟩ := bindM hm
  obtain ⟨h5, h6⟩ := liftM hm
  obtain ⟨h7, h8⟩ := peekM_ h4
  subst h8
  obtain ⟨rfl, rfl⟩ := Prod.mk.inj h6
  refine vM_ok (tE_at e Step.refl h1 fun F1 H1 sa1 v eo s _ hv _ => ?_)
  refine ⟨g, F1, sa1, e1, d1, l, e2, d2, eo, h2, fun F2 H2 sa2 eo2 s2 => ?_⟩
  refine ⟨g, F2, sa2, e2, d2, u, e3, d3, eo2, h3, fun F3 H3 sa3 eo3 s3 => ?_⟩
  have hv3 := (hv.step s2).step s3
  have st := (s.trans s2).trans s3
  have pk := hv3.peek eo3 h7
  cases d with
  | list xs =>
    cases h5
    obtain ⟨a, vs, rfl, r1, r2⟩ := pk.list eo3.sub
    refine .inl ⟨a, vs, rfl, r1.sql, fun p hp => ?_⟩
    obtain ⟨e5, s5, v5, n5⟩ := new_lst eo3 st hp (r2.cut l u)
    exact q _ _ _ _ e5 s5 v5 n5
  | tuple xs =>
    cases h5
    obtain ⟨a, vs, rfl, r1, r2, rf⟩ := pk.tuple eo3.sub
    refine .inr ⟨a, vs, rfl, r1, fun hw => ?_, fun _ p o ho hp => ?_⟩
    · refine q F3 H3 sa3 _ eo3 st ?_ trivial
      have hc : cutD xs l u = xs := by
        unfold cutD
        rw [r2.length] at hw
        rw [hw.1, hw.2, List.drop_zero, Nat.sub_zero]
        exact List.take_length
      rw [hc]
      exact .tup rf r2
    · obtain ⟨e5, s5, v5⟩ := new_tup ho eo3 st hp (r2.cut l u)
      exact q _ _ _ _ e5 s5 v5 trivial
  | none => cases h5
  | bool _ => cases h5
  | int _ => cases h5
  | str _ => cases h5
  | dict _ => cases h5
def revM (ma : M Rv) : M Rv := do
  let x ← vM ma
  let u ← peekM x
  lift (revD u)
theorem se_rev {k : Nat} {p1 p2 p3 : Pos} (ha : SE X a ma) : SE X (.Subscript a (.Slice none none (some (.UnaryOp .USub (.Constant (.int 1) k p1) p2)) p3) pos) (revM ma) := by
  refine pe_imp (pe_revL ha) fun σ H Q h => ?_
  obtain ⟨g, F, sa, env, ds, rv, env', ds', e, hm, q⟩ := h
  obtain ⟨x, ⟨e1, d1⟩, h1, hm⟩ := bindM hm
  obtain ⟨d, c4, h4, hm⟩ := bindM hm
  obtain ⟨h5, h6⟩ := liftM hm
  obtain ⟨h7, h8⟩ := peekM_ h4
  subst h8
  obtain ⟨rfl, rfl⟩ := Prod.mk.inj h6
  refine vM_ok (tE_at e Step.refl h1 fun F1 H1 sa1 v eo s _ hv _ => ?_)
  have pk := hv.peek eo h7
  cases d with
  | list xs =>
    cases h5
    obtain ⟨a, vs, rfl, r1, r2⟩ := pk.list eo.sub
    refine ⟨a, vs, rfl, r1.sql, fun p hp => ?_⟩
    obtain ⟨e5, s5, v5, n5⟩ := new_lst eo s hp r2.reverse
    exact q _ _ _ _ e5 s5 v5 n5
  | _ => cases h5
end
end Fw
end TFwI
section TFwJ
namespace Fw
open PySem PySem.Spec PyProof.Rows L2
section
variable {w : World} {K : PySem.W.Frag} {σ : L2.St} {H : Hp}
theorem chn3_ok {ma mb mc : M Rv} {o p : COp} {Q : VK} (h : tE w K (chn3 ma mb mc o p) σ H Q) : tE w K ma σ H fun x H1 => tE w K mb σ H1 fun y H2 => rCmp w K o x y H2 fun z H3 => ∃ k, z = .bl k ∧
    (if k = true then tE w K mc σ H3 fun w' H4 => rCmp w K p y w' H4 Q else Q (.bl false) H3) := by
  obtain ⟨g, F, sa, env, ds, rv, env', ds', e, hm, q⟩ := h
  obtain ⟨x, ⟨e1, d1⟩, h1, hm⟩ := bindM hm
  obtain ⟨y, ⟨e2, d2⟩, h2, hm⟩ := bindM hm
  obtain ⟨d, c3, h3, hm⟩ := bindM hm
  obtain ⟨f, c4, h4, hm⟩ := bindM hm
  obtain ⟨k, c5, h5, hm⟩ := bindM hm
  obtain ⟨h6, h7⟩ := liftM h5
  obtain ⟨h8, h9⟩ := peekM_ h3
  subst h9
  obtain ⟨h10, h11⟩ := peekM_ h4
  subst h11 h7
  refine two_ok e h1 h2 fun F2 H2 sa2 u v eo s hu hv => ?_
  refine ⟨d, f, k, (hu.peek eo h8).rp eo.sub, (hv.peek eo h10).rp eo.sub, h6, k, rfl, ?_⟩
  cases k with
  | false =>
    obtain ⟨h12, h13⟩ := pureM hm
    obtain ⟨rfl, rfl⟩ := Prod.mk.inj h13
    subst h12
    exact q F2 H2 sa2 _ eo s (.bl false) trivial
  | true =>
    obtain ⟨z, ⟨e6, d6⟩, h12, hm⟩ := bindM hm
    obtain ⟨d2', c7, h13, hm⟩ := bindM hm
    obtain ⟨f2, c8, h14, hm⟩ := bindM hm
    obtain ⟨l, c9, h15, hm⟩ := bindM hm
    obtain ⟨h16, h17⟩ := pureM hm
    obtain ⟨h18, h19⟩ := liftM h15
    obtain ⟨h20, h21⟩ := peekM_ h13
    subst h21
    obtain ⟨h22, h23⟩ := peekM_ h14
    subst h23 h19
    obtain ⟨rfl, rfl⟩ := Prod.mk.inj h17
    subst h16
    refine vM_ok (tE_at eo s h12 fun F3 H3 sa3 v' eo3 s3 s4 hz _ => ?_)
    exact ⟨d2', f2, l, ((hv.step s4).peek eo3 h20).rp eo3.sub, (hz.peek eo3 h22).rp eo3.sub, h18, q F3 H3 sa3 _ eo3 s3 (.bl l) trivial⟩
end
section
variable {X : Cx} {a b c : Expr} {ma mb mc : M Rv} {pos : Pos}
theorem se_chn (hu : X.A.units + 70 < cLine) (o p : COp) (ha : SE X a ma) (hb : SE X b mb) (hc : SE X c mc) (hm : lastMarks [cmpOf o, cmpOf p] [b, c] = false) : SE X (.Compare a [cmpOf o, cmpOf p] [b, c] pos) (chn3 ma mb mc o p) :=
  pe_imp (pe_chain (op_cmp hu o) (op_cmp hu p) ha hb hc hm) fun _ _ _ h => chn3_ok h
theorem st_chn (hu : X.A.units + 70 < cLine) (o p : COp) (ha : SE X a ma) (hb : SE X b mb) (hc : SE X c mc) (hm : lastMarks [cmpOf o, cmpOf p] [b, c] = false) : ST X (.Compare a [cmpOf o, cmpOf p] [b, c] pos) (chn3 ma mb mc o p) :=
  pt_imp (pt_chain (op_cmp hu o) (op_cmp hu p) ha hb hc hm) fun σ H Q h => by
    have q := chn3_ok (tT_tE h)
    exact q
end
end Fw
end TFwJ
section TFwK
namespace Fw
open PySem PySem.Spec PyProof.Rows L2
def SaR (g : Gh) (sa sa' : SA) : Prop := sa' = sa ∨ (sa = none ∧ ∀ b, sa'.has b → g.H0 b = none)
def RetOk (w : World) (K : PySem.W.Frag) (g : Gh) (F H : Hp) (sa : SA) (v : V) : Rv → Prop
  | .d x => Rp w K F v x
  | .ow _ => False
  | .fl xs => ∃ a, v = .ref a ∧ LstO w K F H a xs ∧ Mine g F sa a
  | .fd kvs => ∃ a, v = .ref a ∧ DctO w K F H a kvs ∧ Mine g F sa a
  | .st => ∃ t, sa = some t ∧ v = .ref t.1
def EndOk (w : World) (K : PySem.W.Frag) (g : Gh) (F H : Hp) (sa : SA) (D : Ends) (σ : L2.St) : Oc → Prop
  | .nx => D.nx σ H
  | .bk => D.bk σ H
  | .ct => D.ct σ H
  | .rt r => ∀ v, RetOk w K g F H sa v r → D.rt v H
def tS (w : World) (K : PySem.W.Frag) (m : M Oc) : TS := fun D σ H => ∃ g F sa env ds oc env' ds', EnvOk w K g F H sa σ env ds ∧ m (env, ds) = some (oc, (env', ds')) ∧
  ∀ F' H' sa' σ', EnvOk w K g F' H' sa' σ' env' ds' → Same F F' → SaR g sa sa' → EndOk w K g F' H' sa' D σ' oc
abbrev SS (X : Cx) (st : Stmt) (m : M Oc) : Prop := PS X st (tS X.w X.K m)
abbrev SB (X : Cx) (st : List Stmt) (m : M Oc) : Prop := PSs X st (tS X.w X.K m)
def seqM (m r : M Oc) : M Oc := do
  match ← m with
  | .nx => r
  | o => pure o
def setM (i : Nat) (m : M Rv) : M Oc := do
  let r ← m
  storeM i r
  pure .nx
def exM (m : M Rv) : M Oc := do
  let _ ← vM m
  pure .nx
def retM (m : M Rv) : M Oc := do
  let r ← m
  let r ← retV r
  pure (.rt r)
def retN : M Oc := pure (.rt (.d .none))
def ifM (c : M Rv) (a b : M Oc) : M Oc := do
  let k ← boolM (← c)
  if k then a else b
def whileM (c : M Rv) (b : M Oc) : M Oc := whlM (do boolM (← c)) b wFuel
section
variable {w : World} {K : PySem.W.Frag} {g : Gh} {F H F' H' F'' H'' : Hp} {sa sa' sa'' : SA} {σ σ' : L2.St} {env env' : Env} {ds ds' : Option DS} {a b p : Addr} {v u : V} {D : Ends}
theorem SaR.trans (h : SaR g sa sa') (h' : SaR g sa' sa'') : SaR g sa sa'' := by
  rcases h' with e | ⟨e, q⟩
  · rw [e]; exact h
  · rcases h with e2 | ⟨e2, _⟩
    · exact .inr ⟨e2 ▸ e, q⟩
    · exact .inr ⟨e2, q⟩
theorem Step.saR (s : Step σ F H sa env F' H' sa' env') (e : EnvOk w K g F H sa σ env ds) : SaR g sa sa' := by
  rcases s.sa with z | ⟨z, q⟩
  · exact .inl z
  · exact .inr ⟨z, fun b h => by
      rcases q b h with y | y
      · exact e.noH0 y
      · obtain ⟨_, _, m⟩ := e.mut y
        exact m.h⟩
theorem keepM_ok {r r' : Rv} {env0 : Env} {F0 H0 : Hp} {sa0 : SA} (e : EnvOk w K g F H sa σ env ds) (p : Step σ F0 H0 sa0 env0 F H sa env) (hv : RvOk w K g F H sa σ env v r) (h : keepM r (env, ds) = some (r', (env', ds'))) :
    ∃ F', EnvOk w K g F' H sa σ env' ds' ∧ Same F F' ∧ Step σ F0 H0 sa0 env0 F' H sa env' ∧ RvOk w K g F' H sa σ env' v r' ∧ (∀ i, r' ≠ .ow i) ∧ (RvNew H0 v r → RvNew H0 v r') := by
  cases r with
  | ow i =>
    obtain ⟨s, ⟨e1, d1⟩, h1, h⟩ := bindM h
    obtain ⟨d, c2, h2, h⟩ := bindM h
    obtain ⟨h3, h4⟩ := pureM h
    subst h3
    obtain ⟨F2, eo, st, ha⟩ := frz_ok e Step.refl hv (show RvNew H v (.ow i) from trivial) h1
    obtain ⟨F3, eo3, st3, ha3⟩ := frz_ok e p hv (show RvNew H0 v (.ow i) from trivial) h1
    cases s with
    | d x =>
      obtain ⟨h5, h6⟩ := pureM h2
      subst h5
      subst h6
      obtain ⟨rfl, rfl⟩ := Prod.mk.inj h4
      exact ⟨F2, eo, st.ff, p.trans st, ha, fun i z => (nomatch z), fun _ => trivial⟩
    | ol xs => cases h2
    | od xs => cases h2
    | st => cases h2
  | d x =>
    obtain ⟨h3, h4⟩ := pureM h
    subst h3
    obtain ⟨rfl, rfl⟩ := Prod.mk.inj h4
    exact ⟨F, e, Same.refl F, p, hv, fun i z => (nomatch z), fun q => q⟩
  | fl x =>
    obtain ⟨h3, h4⟩ := pureM h
    subst h3
    obtain ⟨rfl, rfl⟩ := Prod.mk.inj h4
    exact ⟨F, e, Same.refl F, p, hv, fun i z => (nomatch z), fun q => q⟩
  | fd x =>
    obtain ⟨h3, h4⟩ := pureM h
    subst h3
    obtain ⟨rfl, rfl⟩ := Prod.mk.inj h4
    exact ⟨F, e, Same.refl F, p, hv, fun i z => (nomatch z), fun q => q⟩
  | st =>
    obtain ⟨h3, h4⟩ := pureM h
    subst h3
    obtain ⟨rfl, rfl⟩ := Prod.mk.inj h4
    exact ⟨F, e, Same.refl F, p, hv, fun i z => (nomatch z), fun q => q⟩
/-- a value that is no own thing is stored -/
theorem store1_ok {r : Rv} {s : Sl} {i : Nat} (e : EnvOk w K g F H sa σ env ds) (hv : RvOk w K g F H sa σ env v r) (hs : slOf r = some s) (hi : i < env.length) : EnvOk w K g F H sa (σ.set i (some v)) (env.set i (some s)) ds := by
  cases r with
  | d x =>
    cases hs
    exact e.store hi hv fun z => by rcases z with ⟨_, z⟩ | ⟨_, z⟩ <;> cases z
  | fl x =>
    cases hs
    obtain ⟨a, ea, l, m, n⟩ := hv
    exact e.store hi ⟨a, ea, l, m⟩ fun _ b eb => by rw [ea] at eb; cases eb; exact n
  | fd x =>
    cases hs
    obtain ⟨a, ea, l, m, n⟩ := hv
    exact e.store hi ⟨a, ea, l, m⟩ fun _ b eb => by rw [ea] at eb; cases eb; exact n
  | st =>
    cases hs
    exact e.store hi hv fun z => by rcases z with ⟨_, z⟩ | ⟨_, z⟩ <;> cases z
  | ow i => cases hs
theorem setSl_inv {i : Nat} {s : Sl} {c c' : Cf} {x : Unit} (h : setSl i s c = some (x, c')) : i < c.1.length ∧ c' = (c.1.set i (some s), c.2) := by
  unfold setSl at h
  by_cases hi : i < c.1.length
  · rw [if_pos hi] at h; cases h; exact ⟨hi, rfl⟩
  · rw [if_neg hi] at h; cases h
theorem storeM_ok {r : Rv} {i : Nat} (e : EnvOk w K g F H sa σ env ds) (hv : RvOk w K g F H sa σ env v r) (h : storeM i r (env, ds) = some ((), (env', ds'))) : ∃ F', EnvOk w K g F' H sa (σ.set i (some v)) env' ds' ∧ Same F F' := by
  obtain ⟨r', ⟨e1, d1⟩, h1, h⟩ := bindM h
  obtain ⟨F2, eo, ff, _, hv2, _, _⟩ := keepM_ok e Step.refl hv h1
  cases hs : slOf r' with
  | none => rw [hs] at h; cases h
  | some s =>
    rw [hs] at h
    obtain ⟨hi, hc⟩ := setSl_inv h
    obtain ⟨rfl, rfl⟩ := Prod.mk.inj hc
    exact ⟨F2, store1_ok eo hv2 hs hi, ff⟩
theorem tS_seq {m r : M Oc} (h : tS w K (seqM m r) D σ H) : tSeq (tS w K m) (tS w K r) D σ H := by
  obtain ⟨g, F, sa, env, ds, oc, env', ds', e, hm, q⟩ := h
  obtain ⟨o, ⟨e1, d1⟩, h1, hm⟩ := bindM hm
  refine ⟨g, F, sa, env, ds, o, e1, d1, e, h1, fun F1 H1 sa1 σ1 eo ff sr => ?_⟩
  cases o with
  | nx => exact ⟨g, F1, sa1, e1, d1, oc, env', ds', eo, hm, fun F2 H2 sa2 σ2 e2 ff2 sr2 => q F2 H2 sa2 σ2 e2 (ff.trans ff2) (sr.trans sr2)⟩
  | rt r =>
    obtain ⟨h2, h3⟩ := pureM hm
    subst h2
    obtain ⟨rfl, rfl⟩ := Prod.mk.inj h3
    exact q F1 H1 sa1 σ1 eo ff sr
  | bk =>
    obtain ⟨h2, h3⟩ := pureM hm
    subst h2
    obtain ⟨rfl, rfl⟩ := Prod.mk.inj h3
    exact q F1 H1 sa1 σ1 eo ff sr
  | ct =>
    obtain ⟨h2, h3⟩ := pureM hm
    subst h2
    obtain ⟨rfl, rfl⟩ := Prod.mk.inj h3
    exact q F1 H1 sa1 σ1 eo ff sr
theorem tS_pure {o : Oc} (h : tS w K (pure o) D σ H) : ∃ g F sa env ds, EnvOk w K g F H sa σ env ds ∧ EndOk w K g F H sa D σ o := by
  obtain ⟨g, F, sa, env, ds, oc, env', ds', e, hm, q⟩ := h
  obtain ⟨h2, h3⟩ := pureM hm
  subst h2
  obtain ⟨rfl, rfl⟩ := Prod.mk.inj h3
  exact ⟨g, F, sa, env, ds, e, q F H sa σ e (Same.refl F) (.inl rfl)⟩
theorem retV_ok {r r' : Rv} (e : EnvOk w K g F H sa σ env ds) (hv : RvOk w K g F H sa σ env v r) (h : retV r (env, ds) = some (r', (env', ds'))) : env' = env ∧ ds' = ds ∧ RetOk w K g F H sa v r' := by
  cases r with
  | d x =>
    obtain ⟨h3, h4⟩ := pureM h
    subst h3
    obtain ⟨rfl, rfl⟩ := Prod.mk.inj h4
    exact ⟨rfl, rfl, hv⟩
  | st =>
    obtain ⟨h3, h4⟩ := pureM h
    subst h3
    obtain ⟨rfl, rfl⟩ := Prod.mk.inj h4
    exact ⟨rfl, rfl, hv⟩
  | fl xs =>
    obtain ⟨h3, h4⟩ := pureM h
    subst h3
    obtain ⟨rfl, rfl⟩ := Prod.mk.inj h4
    obtain ⟨a, ea, l, m, n⟩ := hv
    exact ⟨rfl, rfl, a, ea, l, m⟩
  | fd xs =>
    obtain ⟨h3, h4⟩ := pureM h
    subst h3
    obtain ⟨rfl, rfl⟩ := Prod.mk.inj h4
    obtain ⟨a, ea, l, m, n⟩ := hv
    exact ⟨rfl, rfl, a, ea, l, m⟩
  | ow i =>
    unfold retV at h
    simp only at h
    cases hs : env[i]? with
    | none => rw [hs] at h; cases h
    | some o =>
      cases o with
      | none => rw [hs] at h; cases h
      | some s =>
        rw [hs] at h
        have hσ : σ[i]? = some (some v) := hv
        obtain ⟨v', e1, e2⟩ := e.slots i _ hs
        rw [hσ] at e1
        cases e1
        cases s with
        | d x => cases h
        | st => cases h
        | ol xs => cases h; exact ⟨rfl, rfl, e2⟩
        | od xs => cases h; exact ⟨rfl, rfl, e2⟩
theorem tS_whl {c : M Bool} {cr : M Rv} {b : M Oc} {n : Nat} (hc : c = (do boolM (← cr))) (h : tS w K (whlM c b (n + 1)) D σ H) : tT w K cr σ H fun k H1 => if k = true then ∃ N : L2.St → Hp → Prop, (∀ σ' H', N σ' H' → ∃ m', m' < n + 1 ∧ tS w K (whlM c b m') D σ' H') ∧ tS w K b { D with nx := N, ct := N, bk := D.nx } σ H1 else D.nx σ H1 := by
  obtain ⟨g, F, sa, env, ds, oc, env', ds', e, hm, q⟩ := h
  obtain ⟨k, ⟨e1, d1⟩, h1, hm⟩ := bindM hm
  rw [hc] at h1
  have h1 := boolB h1
  refine ⟨g, F, sa, env, ds, k, e1, d1, e, h1, fun F1 H1 sa1 eo st => ?_⟩
  have sr := st.saR e
  cases k with
  | false =>
    obtain ⟨h2, h3⟩ := pureM hm
    subst h2
    obtain ⟨rfl, rfl⟩ := Prod.mk.inj h3
    exact iteF (q F1 H1 sa1 σ eo st.ff sr)
  | true =>
    obtain ⟨o, ⟨e2, d2⟩, h2, hm⟩ := bindM hm
    refine iteT ⟨fun σ' H' => tS w K (whlM c b n) D σ' H', fun σ' H' z => ⟨n, Nat.lt_succ_self n, z⟩, ?_⟩
    refine ⟨g, F1, sa1, e1, d1, o, e2, d2, eo, h2, fun F2 H2 sa2 σ2 e3 ff sr2 => ?_⟩
    cases o with
    | nx => exact ⟨g, F2, sa2, e2, d2, oc, env', ds', e3, hm, fun F3 H3 sa3 σ3 e4 ff2 sr3 => q F3 H3 sa3 σ3 e4 ((st.ff.trans ff).trans ff2) ((sr.trans sr2).trans sr3)⟩
    | ct => exact ⟨g, F2, sa2, e2, d2, oc, env', ds', e3, hm, fun F3 H3 sa3 σ3 e4 ff2 sr3 => q F3 H3 sa3 σ3 e4 ((st.ff.trans ff).trans ff2) ((sr.trans sr2).trans sr3)⟩
    | bk =>
      obtain ⟨h4, h5⟩ := pureM hm
      subst h4
      obtain ⟨rfl, rfl⟩ := Prod.mk.inj h5
      exact q F2 H2 sa2 σ2 e3 (st.ff.trans ff) (sr.trans sr2)
    | rt r =>
      obtain ⟨h4, h5⟩ := pureM hm
      subst h4
      obtain ⟨rfl, rfl⟩ := Prod.mk.inj h5
      exact q F2 H2 sa2 σ2 e3 (st.ff.trans ff) (sr.trans sr2)
end
section
variable {X : Cx} {e c : Expr} {st : Stmt} {rest sa sb : List Stmt} {m r mc : M Oc} {me : M Rv} {pos : Pos}
theorem sb_cons (h1 : SS X st m) (h2 : SB X rest r) : SB X (st :: rest) (seqM m r) := pss_imp (pss_cons h1 h2) fun _ _ _ h => tS_seq h
theorem sb_one (h1 : SS X st m) : SB X [st] m := pss_one h1
theorem sb_nil : SB X [] (pure .nx) := pss_imp pss_nil fun D σ H h => by
  obtain ⟨g, F, sa, env, ds, e, q⟩ := tS_pure h
  exact q
theorem sb_never {sts : List Stmt} : SB X sts stuck := pss_imp pss_never fun D σ H h => by
  obtain ⟨g, F, sa, env, ds, oc, env', ds', e, hm, q⟩ := h
  cases hm
theorem ss_never : SS X st stuck := ps_imp ps_never fun D σ H h => by
  obtain ⟨g, F, sa, env, ds, oc, env', ds', e, hm, q⟩ := h
  cases hm
theorem ss_pass : SS X (.Pass pos) (pure .nx) := ps_imp ps_pass fun D σ H h => by
  obtain ⟨g, F, sa, env, ds, e, q⟩ := tS_pure h
  exact q
theorem ss_break : SS X (.Break pos) (pure .bk) := ps_imp ps_break fun D σ H h => by
  obtain ⟨g, F, sa, env, ds, e, q⟩ := tS_pure h
  exact q
theorem ss_continue : SS X (.Continue pos) (pure .ct) := ps_imp ps_continue fun D σ H h => by
  obtain ⟨g, F, sa, env, ds, e, q⟩ := tS_pure h
  exact q
theorem ss_ret (he : SE X e me) : SS X (.Return (some e) pos) (retM me) := ps_imp (ps_ret he) fun D σ H h => by
  obtain ⟨g, F, sa, env, ds, oc, env', ds', e, hm, q⟩ := h
  obtain ⟨r, ⟨e1, d1⟩, h1, hm⟩ := bindM hm
  obtain ⟨r2, ⟨e2, d2⟩, h2, hm⟩ := bindM hm
  obtain ⟨h3, h4⟩ := pureM hm
  subst h3
  obtain ⟨rfl, rfl⟩ := Prod.mk.inj h4
  refine ⟨g, F, sa, env, ds, r, e1, d1, e, h1, fun F1 H1 sa1 v eo s hv _ => ?_⟩
  obtain ⟨rfl, rfl, hr⟩ := retV_ok eo hv h2
  exact q F1 H1 sa1 σ eo s.ff (s.saR e) v hr
theorem ss_retN : SS X (.Return none pos) retN := ps_imp ps_retN fun D σ H h => by
  obtain ⟨g, F, sa, env, ds, e, q⟩ := tS_pure h
  exact q .non .non
theorem ss_ex (he : SE X e me) (hs : swapsWith e none pos.line X.env = pure false) : SS X (.Expr e pos) (exM me) := ps_imp (ps_expr he hs) fun D σ H h => by
  obtain ⟨g, F, sa, env, ds, oc, env', ds', e, hm, q⟩ := h
  obtain ⟨r, ⟨e1, d1⟩, h1, hm⟩ := bindM hm
  obtain ⟨h3, h4⟩ := pureM hm
  subst h3
  obtain ⟨rfl, rfl⟩ := Prod.mk.inj h4
  exact vM_ok (tE_at e Step.refl h1 fun F1 H1 sa1 v eo s _ hv _ => q F1 H1 sa1 σ eo s.ff (s.saR e))
theorem ss_doc {x : Str} {j : Nat} {pos' : Pos} : SS X (.Expr (.Constant (.str x) j pos) pos') (pure .nx) := ps_imp ps_doc fun D σ H h => by
  obtain ⟨g, F, sa, env, ds, e, q⟩ := tS_pure h
  exact q
theorem ss_if {ma mb : M Oc} (hc : ST X c me) (ha : SB X sa ma) (hb : SB X sb mb) : SS X (.If c sa sb pos) (ifM me ma mb) := ps_imp (ps_if hc ha hb) fun D σ H h => by
  obtain ⟨g, F, sa, env, ds, oc, env', ds', e, hm, q⟩ := h
  obtain ⟨r, c1, h1, hm⟩ := bindM hm
  obtain ⟨k, ⟨e2, d2⟩, h2, hm⟩ := bindM hm
  obtain ⟨h3, h4⟩ := boolM_inv h2
  subst h3
  subst h4
  refine ⟨g, F, sa, env, ds, k, e2, d2, e, h1, fun F1 H1 sa1 eo s => ?_⟩
  have go : ∀ m : M Oc, m (e2, d2) = some (oc, (env', ds')) → tS X.w X.K m D σ H1 := fun m hm => ⟨g, F1, sa1, e2, d2, oc, env', ds', eo, hm, fun F2 H2 sa2 σ2 e3 ff sr => q F2 H2 sa2 σ2 e3 (s.ff.trans ff) ((s.saR e).trans sr)⟩
  cases k with
  | true => exact iteT (go ma hm)
  | false => exact iteF (go mb hm)
theorem ss_set {i : Nat} {x : Str} {pos' : Pos} (hN : X.N.Nodup) (hi : X.N[i]? = some x) (hx : Loc X.env.scope x) (he : SE X e me) (hs : swapsWith e (some (.Name x pos')) pos.line X.env = pure false) (hf : X.fn x = true ∨ X.env.scope.names.lookup x = some .local) :
    SS X (.Assign [.Name x pos'] e pos) (setM i me) := ps_imp (ps_set hN hi hx he hs hf) fun D σ H h => by
  obtain ⟨g, F, sa, env, ds, oc, env', ds', e, hm, q⟩ := h
  obtain ⟨r, ⟨e1, d1⟩, h1, hm⟩ := bindM hm
  obtain ⟨_, ⟨e2, d2⟩, h2, hm⟩ := bindM hm
  obtain ⟨h3, h4⟩ := pureM hm
  subst h3
  obtain ⟨rfl, rfl⟩ := Prod.mk.inj h4
  refine ⟨g, F, sa, env, ds, r, e1, d1, e, h1, fun F1 H1 sa1 v eo s hv _ => ?_⟩
  obtain ⟨F2, e3, ff⟩ := storeM_ok eo hv h2
  exact q F2 H1 sa1 _ e3 (s.ff.trans ff) (s.saR e)
theorem ss_while {mb : M Oc} (hp : PassesOwn (model X.prog X.w) X.A X.env X.xe) (hc : ST X c me) (hb : SB X sb mb) : SS X (.While c sb [] pos) (whileM me mb) := ps_imp (ps_while hp hc hb) fun D σ H h => by
  refine ⟨fun n σ H => tS X.w X.K (whlM (do boolM (← me)) mb n) D σ H, ⟨_, h⟩, fun n σ H h => ?_⟩
  cases n with
  | zero =>
    obtain ⟨g, F, sa, env, ds, oc, env', ds', e, hm, q⟩ := h
    cases hm
  | succ n => exact tS_whl rfl h
end
end Fw
end TFwK
section TFwL
namespace Fw
open PySem PySem.Spec PyProof.Rows L2
mutual
def tgIn (vs : List Nat) : IT → Bool
  | .nm i => vs.contains i
  | .tp ts => tgsIn vs ts
def tgsIn (vs : List Nat) : List IT → Bool
  | [] => true
  | t :: ts => tgIn vs t && tgsIn vs ts
end
theorem wipe_set_in {i : Nat} {x : Option V} {σ : L2.St} : ∀ {vs : List Nat}, i ∈ vs → wipe (σ.set i x) vs = wipe σ vs
  | [], h => nomatch h
  | v :: vs, h => by
    show (wipe (σ.set i x) vs).set v none = (wipe σ vs).set v none
    by_cases hv : i ∈ vs
    · rw [wipe_set_in hv]
    · rcases List.mem_cons.mp h with rfl | h
      · -- outside vs: the set is moved behind the wiping
        have e : ∀ {vs : List Nat}, i ∉ vs → wipe (σ.set i x) vs = (wipe σ vs).set i x := by
          intro vs hn
          induction vs with
          | nil => rfl
          | cons u us ih =>
            show (wipe (σ.set i x) us).set u none = ((wipe σ us).set u none).set i x
            rw [ih fun z => hn (List.mem_cons_of_mem _ z)]
            exact List.set_comm _ _ (fun z => hn (by rw [z]; exact List.mem_cons_self))
        rw [e hv, List.set_set]
      · exact absurd h hv
section
variable {w : World} {K : PySem.W.Frag} {g : Gh} {F H F' H' F'' H'' : Hp} {sa sa' sa'' : SA} {σ σ' : L2.St} {env env' : Env} {ds ds' : Option DS} {a b p : Addr} {v u : V}
/-- what is stored: data, or a tuple that is taken apart at once -/
def TgOk (w : World) (K : PySem.W.Frag) (F H : Hp) (v : V) (d : D) (t : IT) : Prop := Rp w K F v d ∨ (∃ ts, t = .tp ts) ∧ ∃ p vs ds, v = .ref p ∧ d = .tuple ds ∧ SqT K H p vs ∧ RpA w K F vs ds
theorem TgOk.nm {w : World} {K : PySem.W.Frag} {F H : Hp} {v : V} {d : D} {i : Nat} (h : TgOk w K F H v d (.nm i)) : Rp w K F v d := by
  rcases h with h | ⟨⟨ts, h⟩, _⟩
  · exact h
  · cases h
theorem TgOk.tp {w : World} {K : PySem.W.Frag} {F H : Hp} {v : V} {ds : List D} {t : IT} (e : Same F H) (h : TgOk w K F H v (.tuple ds) t) : ∃ p vs, v = .ref p ∧ SqT K H p vs ∧ RpA w K F vs ds := by
  rcases h with h | ⟨_, p, vs, ds', rfl, h1, h2, h3⟩
  · cases h with
    | tup h1 h2 => exact ⟨_, _, rfl, (tr_mono e h1).sq, h2⟩
  · cases h1
    exact ⟨p, vs, rfl, h2, h3⟩
def tG (w : World) (K : PySem.W.Frag) (t : IT) : TG := fun v σ H Q => ∃ g F sa env ds d env', EnvOk w K g F H sa σ env ds ∧ TgOk w K F H v d t ∧ asgT t d env = some env' ∧
  ∀ σ', EnvOk w K g F H sa σ' env' ds → (∀ vs, tgIn vs t = true → wipe σ' vs = wipe σ vs) → Q σ' H
def tGs (w : World) (K : PySem.W.Frag) (ts : List IT) : TGs := fun vs σ H Q => ∃ g F sa env ds xs env', EnvOk w K g F H sa σ env ds ∧ RpA w K F vs xs ∧ asgTs ts xs env = some env' ∧
  ∀ σ', EnvOk w K g F H sa σ' env' ds → (∀ vs, tgsIn vs ts = true → wipe σ' vs = wipe σ vs) → Q σ' H
end
abbrev SG (X : Cx) (x : Expr) (t : IT) : Prop := PG X x (tG X.w X.K t)
abbrev SGs (X : Cx) (xs : List Expr) (t : List IT) : Prop := PGs X xs (tGs X.w X.K t)
theorem pg_imp {X : Cx} {e : Expr} {t t' : TG} (h : PG X e t) (i : ∀ v σ H Q, t' v σ H Q → t v σ H Q) : PG X e t' := ⟨fun pins s σ H v u Q I r hw => h.run pins s σ H v u Q I r (i _ _ _ _ hw)⟩
theorem pgs_imp {X : Cx} {e : List Expr} {t t' : TGs} (h : PGs X e t) (i : ∀ v σ H Q, t' v σ H Q → t v σ H Q) : PGs X e t' := ⟨fun pins s σ H v u Q I r hw => h.run pins s σ H v u Q I r (i _ _ _ _ hw)⟩
section
variable {X : Cx} {e : Expr} {es : List Expr} {t : IT} {ts : List IT} {pos : Pos}
theorem sg_name {i : Nat} {x : Str} (hN : X.N.Nodup) (hi : X.N[i]? = some x) (hx : Loc X.env.scope x) (hf : X.fn x = true ∨ X.env.scope.names.lookup x = some .local) : SG X (.Name x pos) (.nm i) :=
  pg_imp (pg_name hN hi hx hf) fun v σ H Q h => by
    obtain ⟨g, F, sa, env, ds, d, env', e, hv, ha, q⟩ := h
    unfold asgT at ha
    by_cases hl : i < env.length
    · rw [if_pos hl] at ha
      cases ha
      refine q _ (e.store hl hv.nm fun z => by rcases z with ⟨_, z⟩ | ⟨_, z⟩ <;> cases z) fun vs hvs => ?_
      have hvs : vs.contains i = true := hvs
      exact wipe_set_in (by simpa using hvs)
    · rw [if_neg hl] at ha; cases ha
theorem sgs_nil : SGs X [] [] := pgs_imp pgs_nil fun v σ H Q h => by
  obtain ⟨g, F, sa, env, ds, d, env', e, hv, ha, q⟩ := h
  cases d with
  | nil => cases hv; cases ha; exact ⟨rfl, q σ e fun _ _ => rfl⟩
  | cons _ _ => cases ha
theorem sgs_cons (h : SG X e t) (hr : SGs X es ts) (hs : (assignEach (e :: es) X.env).map (·.2) = assign e X.env :: (assignEach es X.env).map (·.2)) : SGs X (e :: es) (t :: ts) := pgs_imp (pgs_cons h hr hs) fun v σ H Q h => by
  obtain ⟨g, F, sa, env, ds, d, env', e, hv, ha, q⟩ := h
  cases d with
  | nil => cases ha
  | cons d dr =>
    cases hv with
    | cons h1 h2 =>
      unfold asgTs at ha
      cases e1 : asgT t d env with
      | none => rw [e1] at ha; cases ha
      | some env1 =>
        rw [e1] at ha
        refine ⟨_, _, rfl, g, F, sa, env, ds, d, env1, e, .inl h1, e1, fun σ1 eo hw => ?_⟩
        refine ⟨g, F, sa, env1, ds, dr, env', eo, h2, ha, fun σ2 eo2 hw2 => q σ2 eo2 fun vs hvs => ?_⟩
        have hvs : (tgIn vs t && tgsIn vs ts) = true := hvs
        obtain ⟨h3, h4⟩ := and2 hvs
        rw [hw2 vs h4, hw vs h3]
theorem sg_tup {k : Nat} {n : Nat} (hc : X.calm = true) (h : SGs X es ts) (hn : (assignEach es X.env).length = n) (hl : ts.length = n) (hst : (assignEach es X.env).findIdx? (·.1) = none) : SG X (.Tuple es k pos) (.tp ts) := pg_imp (pg_tup hc h hn hst) fun v σ H Q h => by
  obtain ⟨g, F, sa, env, ds, d, env', e, hv, ha, q⟩ := h
  cases d with
  | tuple xs =>
    obtain ⟨p, vs, rfl, h1, h2⟩ := hv.tp e.sub
    · have ha : asgTs ts xs env = some env' := ha
      refine ⟨_, _, rfl, h1, ?_, g, F, sa, env, ds, xs, env', e, h2, ha, fun σ' eo hw => q σ' eo hw⟩
      rw [h2.length, ← hl]
      have key : ∀ (ts : List IT) (xs : List D) (env env' : Env), asgTs ts xs env = some env' → xs.length = ts.length := by
        intro ts
        induction ts with
        | nil => intro xs env env' h; cases xs with
          | nil => rfl
          | cons _ _ => cases h
        | cons t ts ih =>
          intro xs env env' h
          cases xs with
          | nil => cases h
          | cons x xs =>
            unfold asgTs at h
            cases e1 : asgT t x env with
            | none => rw [e1] at h; cases h
            | some env1 => rw [e1] at h; exact congrArg (· + 1) (ih xs env1 env' h)
      exact key ts xs env env' ha
  | none => cases ha
  | bool _ => cases ha
  | int _ => cases ha
  | str _ => cases ha
  | list _ => cases ha
  | dict _ => cases ha
end
def asgS (t : IT) (m : M Rv) : M Oc := do
  let d ← dM m
  asgM t d
  pure .nx
theorem asgM_inv {t : IT} {d : D} {c c' : Cf} {x : Unit} (h : asgM t d c = some (x, c')) : asgT t d c.1 = some c'.1 ∧ c'.2 = c.2 := by
  unfold asgM at h
  cases e : asgT t d c.1 with
  | none => rw [e] at h; cases h
  | some e1 => rw [e] at h; cases h; exact ⟨rfl, rfl⟩
section
variable {X : Cx} {e tg : Expr} {t : IT} {m : M Rv} {pos : Pos}
theorem ss_asg (he : SE X e m) (hg : SG X tg t) (hs : swapsWithSole [tg] e pos.line X.env = pure false) (hw : swappedStores [tg] e X.env = pure none) (h1 : (assignEach [tg] X.env).map (·.2) = [assign tg X.env]) : SS X (.Assign [tg] e pos) (asgS t m) :=
  ps_imp (ps_asg he hg hs hw h1) fun D σ H h => by
    obtain ⟨g, F, sa, env, ds, oc, env', ds', e, hm, q⟩ := h
    obtain ⟨d, ⟨e1, d1⟩, h1, hm⟩ := bindM hm
    obtain ⟨_, ⟨e2, d2⟩, h2, hm⟩ := bindM hm
    obtain ⟨h3, h4⟩ := pureM hm
    subst h3
    obtain ⟨rfl, rfl⟩ := Prod.mk.inj h4
    obtain ⟨h5, h6⟩ := asgM_inv h2
    have h6 : d2 = d1 := h6
    subst h6
    exact dM_ok ⟨g, F, sa, env, ds, d, e1, _, e, h1, fun F1 H1 sa1 v eo s hv => ⟨g, F1, sa1, e1, _, d, e2, eo, .inl hv, h5, fun σ' eo2 _ => q F1 H1 sa1 σ' eo2 s.ff (s.saR e)⟩⟩
end
def isTp : IT → Bool
  | .tp _ => true
  | .nm _ => false
/-- pr: it may be a pair that was just made -/
def YOk (w : World) (K : PySem.W.Frag) (pr : Bool) (F H : Hp) (v : V) (H' : Hp) (x : D) : Prop :=
  (H' = H ∧ Rp w K F v x) ∨ (pr = true ∧ ∃ p vs ds, H p = none ∧ H' = upd H p (.tup vs) ∧ v = .ref p ∧ x = .tuple ds ∧ RpA w K F vs ds) ∨
  ∃ p vs ds, ∃ o : Obj, o.dict = none ∧ H p = none ∧ H' = upd H p (.frz o (.tup vs)) ∧ v = .ref p ∧ x = .tuple ds ∧ RpA w K F vs ds
def WalkOk (w : World) (K : PySem.W.Frag) (pr : Bool) (J : It) (F : Hp) (xs : List D) : Prop :=
  ∀ F' H', Same F F' → Same F' H' → (∀ i x, xs[i]? = some x → J.go i H' ∧ ∀ v H'', J.yld i H' v H'' → YOk w K pr F' H' v H'' x) ∧ J.stop xs.length H'
def tI (w : World) (K : PySem.W.Frag) (pr : Bool) (m : M (List D)) : TI := fun σ H R => ∃ g F sa env ds xs env' ds', EnvOk w K g F H sa σ env ds ∧ m (env, ds) = some (xs, (env', ds')) ∧
  ∀ F' H' sa' J, EnvOk w K g F' H' sa' σ env' ds' → Step σ F H sa env F' H' sa' env' → WalkOk w K pr J F' xs → R J H'
abbrev SI (X : Cx) (tg it : Expr) (pr : Bool) (m : M (List D)) : Prop := PI X tg it (tI X.w X.K pr m)
theorem pi_imp {X : Cx} {tg e : Expr} {t t' : TI} (h : PI X tg e t) (i : ∀ σ H Q, t' σ H Q → t σ H Q) : PI X tg e t' := ⟨fun pins s σ H Q I hw => h.run pins s σ H Q I (i _ _ _ hw)⟩
section
variable {w : World} {K : PySem.W.Frag} {g : Gh} {F H F' H' F'' H'' : Hp} {sa sa' sa'' : SA} {σ σ' : L2.St} {env env' : Env} {ds ds' : Option DS} {a b p : Addr} {v u : V}
theorem YOk.en {t : IT} {pr : Bool} (e : EnvOk w K g F H sa σ env ds) {x : D} (h : YOk w K pr F H v H' x) (ht : pr = true → isTp t = true) : ∃ F3, EnvOk w K g F3 H' sa σ env ds ∧ Step σ F H sa env F3 H' sa env ∧ TgOk w K F3 H' v x t := by
  rcases h with ⟨rfl, r⟩ | ⟨hp0, p, vs, xs, hp, rfl, rfl, rfl, r⟩ | ⟨p, vs, xs, o, ho, hp, rfl, rfl, rfl, r⟩
  · exact ⟨F, e, Step.refl, .inl r⟩
  rotate_left
  · obtain ⟨e2, s2, v2⟩ := new_tup ho e Step.refl hp r
    exact ⟨_, e2, s2, .inl v2⟩
  · refine ⟨F, e.alloc hp _, step_alloc hp _, ?_⟩
    have h1 := ht hp0
    cases t with
    | nm _ => cases h1
    | tp ts => exact .inr ⟨⟨ts, rfl⟩, p, vs, xs, rfl, rfl, .inl (.inl upd_same), r⟩
theorem walk_list {pr : Bool} {xs : List D} (h : Rp w K F (.ref a) (.list xs)) : WalkOk w K pr (Itl K a) F xs := by
  intro F' H' h1 h2
  cases h with
  | lst hs hr =>
    have sq : ∀ {H}, Same F H → SqL K H a _ := fun z => (lr_mono z hs).sql
    refine ⟨fun i x hx => ?_, ⟨_, sq (h1.trans h2), by rw [hr.length]; exact Nat.le_refl _⟩⟩
    obtain ⟨v, hv, rv⟩ := hr.get hx
    refine ⟨⟨_, v, sq (h1.trans h2), hv⟩, fun u H'' hy => .inl ⟨hy.1, ?_⟩⟩
    have e := hy.2 _ (sq (h1.trans h2))
    rw [hv] at e
    cases e
    exact rv.mono h1
theorem walk_tup {pr : Bool} {xs : List D} (h : Rp w K F (.ref a) (.tuple xs)) : WalkOk w K pr (Itt K a) F xs := by
  intro F' H' h1 h2
  cases h with
  | tup hs hr =>
    have sq : ∀ {H}, Same F H → SqT K H a _ := fun z => (tr_mono z hs).sq
    refine ⟨fun i x hx => ?_, ⟨_, sq (h1.trans h2), by rw [hr.length]; exact Nat.le_refl _⟩⟩
    obtain ⟨v, hv, rv⟩ := hr.get hx
    refine ⟨⟨_, v, sq (h1.trans h2), hv⟩, fun u H'' hy => .inl ⟨hy.1, ?_⟩⟩
    have e := hy.2 _ (sq (h1.trans h2))
    rw [hv] at e
    cases e
    exact rv.mono h1
theorem walk_range {pr : Bool} (lo : Int) (hi : Int) : WalkOk w K pr (Itr lo (hi - lo).toNat) F (rangeD lo hi) := by
  intro F' H' h1 h2
  refine ⟨fun i x hx => ?_, ?_⟩
  · have hi : i < (hi - lo).toNat := by
      have := (List.getElem?_eq_some_iff.mp hx).1
      unfold rangeD at this
      rwa [List.length_map, List.length_range] at this
    have ex : x = .int (lo + (i : Nat)) := by
      unfold rangeD at hx
      rw [List.getElem?_map, List.getElem?_range hi] at hx
      cases hx
      rfl
    subst ex
    refine ⟨hi, fun v H'' hy => .inl ⟨hy.1, ?_⟩⟩
    rw [hy.2]
    exact .int _
  · unfold rangeD
    rw [List.length_map, List.length_range]
    exact Nat.le_refl _
end
def itS (m : M Rv) : M (List D) := do
  let d ← dM m
  match d with
  | .list xs => pure xs
  | _ => stuck
def itT (m : M Rv) : M (List D) := do
  let d ← dM m
  match d with
  | .tuple xs => pure xs
  | _ => stuck
def itR (m : M Rv) : M (List D) := do
  match ← vM m with
  | .d (.int n) => if bigI n then pure (rangeD 0 n) else stuck
  | _ => stuck
def itR2 (m n : M Rv) : M (List D) := do
  let x ← vM m
  let y ← vM n
  match x, y with
  | .d (.int m), .d (.int n) => if bigI m && bigI n then pure (rangeD m n) else stuck
  | _, _ => stuck
theorem bigI_of {i : Int} (h : bigI i = true) : -(2 ^ 62) ≤ i ∧ i < 2 ^ 62 := by
  unfold bigI at h
  obtain ⟨h1, h2⟩ := and2 h
  exact ⟨of_decide_eq_true h1, of_decide_eq_true h2⟩
section
variable {X : Cx} {tg e a b : Expr} {m ma mb : M Rv} {pos p : Pos}
theorem pi_or {tg it : Expr} {t u : TI} (h : PI X tg it t) (h2 : PI X tg it u) : PI X tg it (fun σ H R => t σ H R ∨ u σ H R) := ⟨fun pins s σ H R I hw => by
  rcases hw with hw | hw
  · exact h.run pins s σ H R I hw
  · exact h2.run pins s σ H R I hw⟩
/-- a list -/
theorem si_list {pr : Bool} (h : SE X e m) : SI X tg e pr (itS m) := pi_imp (pi_list h) fun σ H R h => by
  obtain ⟨g, F, sa, env, ds, xs, env', ds', e, hm, q⟩ := h
  obtain ⟨d, ⟨e1, d1⟩, h1, hm⟩ := bindM hm
  refine dM_ok ⟨g, F, sa, env, ds, d, e1, d1, e, h1, fun F1 H1 sa1 v eo s hv => ?_⟩
  cases d <;> first | cases hm | skip
  obtain ⟨a, rfl⟩ : ∃ a, v = .ref a := by cases hv; exact ⟨_, rfl⟩
  refine ⟨a, rfl, ?_, q F1 H1 sa1 _ eo s (walk_list hv)⟩
  cases hv with
  | lst hs hr => exact ⟨_, (lr_mono eo.sub hs).sql⟩
/-- a tuple -/
theorem si_tup {pr : Bool} (h : SE X e m) : SI X tg e pr (itT m) := pi_imp (pi_tup h) fun σ H R h => by
  obtain ⟨g, F, sa, env, ds, xs, env', ds', e, hm, q⟩ := h
  obtain ⟨d, ⟨e1, d1⟩, h1, hm⟩ := bindM hm
  refine dM_ok ⟨g, F, sa, env, ds, d, e1, d1, e, h1, fun F1 H1 sa1 v eo s hv => ?_⟩
  cases d <;> first | cases hm | skip
  obtain ⟨a, rfl⟩ : ∃ a, v = .ref a := by cases hv; exact ⟨_, rfl⟩
  refine ⟨a, rfl, ?_, q F1 H1 sa1 _ eo s (walk_tup hv)⟩
  cases hv with
  | tup hs hr => exact ⟨_, (tr_mono eo.sub hs).sq⟩
theorem si_range {pr : Bool} (hg : Gl X "range") (hn : X.mg "range" = none) (h : SE X a m) (hs : starEach [a] X.env = [(false, eval a X.env)]) : SI X tg (.Call (.Name "range" p) [a] [] pos) pr (itR m) := pi_imp (pi_range1 hg hn (pa_cons h pa_nil hs) hs) fun σ H R h => by
  obtain ⟨g, F, sa, env, ds, xs, env', ds', e, hm, q⟩ := h
  obtain ⟨r, ⟨e1, d1⟩, h1, hm⟩ := bindM hm
  refine vM_ok (tE_at e Step.refl h1 fun F1 H1 sa1 v eo s _ hv _ => ?_)
  cases r with
  | d x =>
    cases x with
    | int n =>
      obtain ⟨h2, h3⟩ := iteM hm
      obtain ⟨h4, h5⟩ := pureM h3
      subst h4
      obtain ⟨rfl, rfl⟩ := Prod.mk.inj h5
      have hv : Rp X.w X.K F1 v (.int n) := hv
      cases hv
      obtain ⟨b1, b2⟩ := bigI_of h2
      have wk := walk_range (pr := pr) (w := X.w) (K := X.K) (F := F1) 0 n
      rw [Int.sub_zero] at wk
      exact ⟨n, rfl, b1, b2, q F1 H1 sa1 _ eo s wk⟩
    | _ => cases hm
  | _ => cases hm
theorem si_range2 {pr : Bool} (hg : Gl X "range") (hn : X.mg "range" = none) (ha : SE X a ma) (hb : SE X b mb) (hs : starEach [a, b] X.env = [(false, eval a X.env), (false, eval b X.env)]) (hs2 : starEach [b] X.env = [(false, eval b X.env)]) :
    SI X tg (.Call (.Name "range" p) [a, b] [] pos) pr (itR2 ma mb) := pi_imp (pi_range2 hg hn (pa_cons ha (pa_cons hb pa_nil hs2) (by rw [hs, hs2])) hs hs2) fun σ H R h => by
  obtain ⟨g, F, sa, env, ds, xs, env', ds', e, hm, q⟩ := h
  obtain ⟨r, ⟨e1, d1⟩, h1, hm⟩ := bindM hm
  obtain ⟨r2, ⟨e2, d2⟩, h2, hm⟩ := bindM hm
  refine two_ok e h1 h2 fun F1 H1 sa1 u v eo s hu hv => ?_
  cases r with
  | d x =>
    cases x with
    | int i =>
      cases r2 with
      | d y =>
        cases y with
        | int j =>
          obtain ⟨h2, h3⟩ := iteM hm
          obtain ⟨h4, h5⟩ := pureM h3
          subst h4
          obtain ⟨rfl, rfl⟩ := Prod.mk.inj h5
          have hu : Rp X.w X.K F1 u (.int i) := hu
          have hv : Rp X.w X.K F1 v (.int j) := hv
          cases hu; cases hv
          obtain ⟨c1, c2⟩ := and2 h2
          obtain ⟨b1, b2⟩ := bigI_of c1
          obtain ⟨b3, b4⟩ := bigI_of c2
          exact ⟨i, j, rfl, ⟨b1, b2, b3, b4⟩, q F1 H1 sa1 _ eo s (walk_range i j)⟩
        | _ => cases hm
      | _ => cases hm
    | _ => cases hm
  | _ => cases hm
end
def forS (t : IT) (it : M (List D)) (b : M Oc) : M Oc := do
  let xs ← it
  forM (fun x => do
    asgM t x
    b) xs
section
variable {X : Cx} {tg it : Expr} {t : IT} {mi : M (List D)} {mb : M Oc} {body : List Stmt} {pos : Pos}
theorem ss_for {pr : Bool} (hp : PassesOwn (model X.prog X.w) X.A X.env X.xe) (hc : X.calm = true) (hi : SI X tg it pr mi) (ht : pr = true → isTp t = true) (hg : SG X tg t) (hb : SB X body mb) (hs : ∀ x, foldedSetIterable it X.env x = pure x) : SS X (.For tg it body [] pos) (forS t mi mb) :=
  ps_imp (ps_for hp hc hi hg hb hs) fun D σ H h => by
    obtain ⟨g, F, sa, env, ds, oc, env', ds', e, hm, q⟩ := h
    obtain ⟨xs, ⟨e1, d1⟩, h1, hm⟩ := bindM hm
    refine ⟨g, F, sa, env, ds, xs, e1, d1, e, h1, fun F1 H1 sa1 J eo s wk => ?_⟩
    -- the rest of the loop at turn i
    refine ⟨fun i m σ H => (i ≤ xs.length ∧ m = xs.length - i) ∧ ∃ F2 sa2 e2 d2, Same F1 F2 ∧ SaR g sa sa2 ∧ EnvOk X.w X.K g F2 H sa2 σ e2 d2 ∧ forM (fun x => do asgM t x; mb) (xs.drop i) (e2, d2) = some (oc, (env', ds')), ⟨_, ⟨Nat.zero_le _, rfl⟩, F1, sa1, e1, d1, Same.refl _, s.saR e, eo, hm⟩, ?_⟩
    rintro i m σ2 H2 ⟨⟨hile, rfl⟩, F2, sa2, e2, d2, ff, sr, eo2, hm2⟩
    obtain ⟨wg, ws⟩ := wk F2 H2 ff eo2.sub
    have fin : ∀ F' H' sa' σ', EnvOk X.w X.K g F' H' sa' σ' env' ds' → Same F2 F' → SaR g sa2 sa' → EndOk X.w X.K g F' H' sa' D σ' oc := fun F' H' sa' σ' eo' ff' sr' => q F' H' sa' σ' eo' ((s.ff.trans ff).trans ff') (sr.trans sr')
    by_cases hi : i < xs.length
    · obtain ⟨x, hx⟩ : ∃ x, xs[i]? = some x := ⟨xs[i], List.getElem?_eq_getElem hi⟩
      have hd : xs.drop i = x :: xs.drop (i + 1) := by
        rw [List.drop_eq_getElem_cons hi]
        congr 1
        have := List.getElem?_eq_getElem hi
        rw [hx] at this
        exact (Option.some.inj this).symm
      rw [hd] at hm2
      obtain ⟨o, ⟨e4, d4⟩, h2, h3⟩ := bindM hm2
      obtain ⟨_, ⟨e3, d3⟩, h4, h5⟩ := bindM h2
      obtain ⟨h6, h7⟩ := asgM_inv h4
      have h7 : d3 = d2 := h7
      subst h7
      obtain ⟨wg1, wg2⟩ := wg i x hx
      refine .inr ⟨wg1, fun σ' H' => ∃ m', m' < xs.length - i ∧ ((i + 1 ≤ xs.length ∧ m' = xs.length - (i + 1)) ∧ ∃ F2 sa2 e2 d2, Same F1 F2 ∧ SaR g sa sa2 ∧ EnvOk X.w X.K g F2 H' sa2 σ' e2 d2 ∧ forM (fun x => do asgM t x; mb) (xs.drop (i + 1)) (e2, d2) = some (oc, (env', ds'))), fun σ' H' z => z, fun v H' hy => ?_⟩
      obtain ⟨F3, eo3, s3, rv⟩ := (wg2 v H' hy).en eo2 ht
      refine ⟨g, F3, sa2, e2, _, x, e3, eo3, rv, h6, fun σ4 eo4 _ => ?_⟩
      refine ⟨g, F3, sa2, e3, _, o, e4, d4, eo4, h5, fun F5 H5 sa5 σ5 eo5 ff5 sr5 => ?_⟩
      have nxt : forM (fun x => do asgM t x; mb) (xs.drop (i + 1)) (e4, d4) = some (oc, (env', ds')) → ∃ m', m' < xs.length - i ∧ ((i + 1 ≤ xs.length ∧ m' = xs.length - (i + 1)) ∧ ∃ F2 sa2 e2 d2, Same F1 F2 ∧ SaR g sa sa2 ∧ EnvOk X.w X.K g F2 H5 sa2 σ5 e2 d2 ∧ forM (fun x => do asgM t x; mb) (xs.drop (i + 1)) (e2, d2) = some (oc, (env', ds'))) := fun z =>
        ⟨xs.length - (i + 1), by omega, ⟨hi, rfl⟩, F5, sa5, e4, d4, (ff.trans s3.ff).trans ff5, sr.trans sr5, eo5, z⟩
      cases o with
      | nx => exact nxt h3
      | ct => exact nxt h3
      | bk =>
        obtain ⟨h8, h9⟩ := pureM h3
        subst h8
        obtain ⟨rfl, rfl⟩ := Prod.mk.inj h9
        exact fin F5 H5 sa5 σ5 eo5 (s3.ff.trans ff5) sr5
      | rt r =>
        obtain ⟨h8, h9⟩ := pureM h3
        subst h8
        obtain ⟨rfl, rfl⟩ := Prod.mk.inj h9
        exact fin F5 H5 sa5 σ5 eo5 (s3.ff.trans ff5) sr5
    · have hl : xs.length ≤ i := Nat.le_of_not_lt hi
      have hil : i = xs.length := Nat.le_antisymm hile hl
      refine .inl ⟨by rw [hil]; exact ws, ?_⟩
      rw [List.drop_eq_nil_of_le hl] at hm2
      obtain ⟨h8, h9⟩ := pureM hm2
      subst h8
      obtain ⟨rfl, rfl⟩ := Prod.mk.inj h9
      exact fin F2 H2 sa2 σ2 eo2 (Same.refl _) (.inl rfl)
end
end Fw
end TFwL
section TFwM
namespace Fw
open PySem PySem.Spec PyProof.Rows L2
theorem wipeE_len (e : Env) : ∀ vs : List Nat, (wipeE e vs).length = e.length
  | [] => rfl
  | v :: vs => by unfold wipeE; rw [List.length_set, wipeE_len e vs]
theorem wipeE_out {e : Env} {i : Nat} : ∀ {vs : List Nat}, i ∉ vs → (wipeE e vs)[i]? = e[i]?
  | [], _ => rfl
  | v :: vs, h => by
    unfold wipeE
    rw [List.getElem?_set_ne (fun z => h (by rw [z]; exact List.mem_cons_self))]
    exact wipeE_out fun z => h (List.mem_cons_of_mem _ z)
theorem wipeE_some {e : Env} {i : Nat} {s : Sl} : ∀ {vs : List Nat}, (wipeE e vs)[i]? = some (some s) → e[i]? = some (some s) ∧ i ∉ vs
  | [], h => ⟨h, by simp⟩
  | v :: vs, h => by
    unfold wipeE at h
    by_cases hi : v = i
    · subst hi
      by_cases hl : v < (wipeE e vs).length
      · rw [List.getElem?_set_self hl] at h; cases h
      · rw [List.getElem?_eq_none (by simpa using hl)] at h; cases h
    · rw [List.getElem?_set_ne hi] at h
      obtain ⟨h1, h2⟩ := wipeE_some h
      exact ⟨h1, fun z => by rcases List.mem_cons.mp z with z | z; exact hi z.symm; exact h2 z⟩
theorem restoreE_len (e0 e : Env) : ∀ vs : List Nat, (restoreE e0 vs e).length = e.length
  | [] => rfl
  | v :: vs => by unfold restoreE; rw [List.length_set, restoreE_len e0 e vs]
theorem restoreE_out {e0 e : Env} {i : Nat} : ∀ {vs : List Nat}, i ∉ vs → (restoreE e0 vs e)[i]? = e[i]?
  | [], _ => rfl
  | v :: vs, h => by
    unfold restoreE
    rw [List.getElem?_set_ne (fun z => h (by rw [z]; exact List.mem_cons_self))]
    exact restoreE_out fun z => h (List.mem_cons_of_mem _ z)
theorem keepD_some {e0 : Env} {v : Nat} {s : Sl} (h : keepD e0 v = some s) : ∃ x, s = .d x ∧ e0[v]? = some (some (.d x)) := by
  unfold keepD at h
  cases e : e0[v]? with
  | none => rw [e] at h; cases h
  | some o =>
    cases o with
    | none => rw [e] at h; cases h
    | some s' =>
      rw [e] at h
      cases s' <;> first | cases h | skip
      exact ⟨_, rfl, rfl⟩
theorem restoreE_in {e0 e : Env} {i : Nat} {s : Sl} : ∀ {vs : List Nat}, i ∈ vs → (restoreE e0 vs e)[i]? = some (some s) → ∃ x, s = .d x ∧ e0[i]? = some (some (.d x))
  | [], h, _ => nomatch h
  | v :: vs, h, q => by
    unfold restoreE at q
    by_cases hv : v = i
    · subst hv
      by_cases hl : v < (restoreE e0 vs e).length
      · rw [List.getElem?_set_self hl] at q
        exact keepD_some (Option.some.inj q)
      · rw [List.getElem?_eq_none (by simpa using hl)] at q; cases q
    · rw [List.getElem?_set_ne hv] at q
      rcases List.mem_cons.mp h with z | z
      · exact absurd z.symm hv
      · exact restoreE_in z q
theorem wipe_idem (σ : L2.St) (vs : List Nat) : wipe (wipe σ vs) vs = wipe σ vs := by
  refine List.ext_getElem? fun i => ?_
  by_cases hi : i ∈ vs
  · have none_of : ∀ {τ : L2.St} {x : Option V}, (wipe τ vs)[i]? = some x → x = none := fun {τ x} h => by
      cases x with
      | none => rfl
      | some y => exact absurd hi (wipe_some h).2
    cases e1 : (wipe (wipe σ vs) vs)[i]? with
    | none =>
      have l1 := List.getElem?_eq_none_iff.mp e1
      rw [wipe_length, wipe_length] at l1
      rw [List.getElem?_eq_none (by rw [wipe_length]; exact l1)]
    | some x =>
      have l1 := (List.getElem?_eq_some_iff.mp e1).1
      rw [wipe_length] at l1
      cases e2 : (wipe σ vs)[i]? with
      | none =>
        have l2 := List.getElem?_eq_none_iff.mp e2
        omega
      | some y => rw [none_of e1, none_of e2]
  · rw [wipe_out hi]
theorem Own.some {env : Env} {i : Nat} (h : Own env i) : ∃ s, env[i]? = some (some s) ∧ ∀ x, s ≠ .d x := by
  rcases h with ⟨xs, h⟩ | ⟨xs, h⟩
  · exact ⟨_, h, fun x z => (nomatch z)⟩
  · exact ⟨_, h, fun x z => (nomatch z)⟩
theorem Own.same {env env' : Env} {i : Nat} (h : Own env i) (e : env'[i]? = env[i]?) : Own env' i := by
  unfold Own
  rw [e]
  exact h
theorem Own.wiped {env : Env} {vs : List Nat} {i : Nat} (h : Own (wipeE env vs) i) : Own env i ∧ i ∉ vs := by
  obtain ⟨s, e, _⟩ := h.some
  have q := (wipeE_some e).2
  exact ⟨h.same (wipeE_out q).symm, q⟩
theorem Own.restored {e0 env : Env} {vs : List Nat} {i : Nat} (h : Own (restoreE e0 vs env) i) : Own env i ∧ i ∉ vs := by
  obtain ⟨s, e, n⟩ := h.some
  have q : i ∉ vs := fun z => by
    obtain ⟨x, e1, _⟩ := restoreE_in z e
    exact n x e1
  exact ⟨h.same (restoreE_out q).symm, q⟩
mutual
theorem asgT_own : ∀ (t : IT) (d : D) (env env' : Env) {i : Nat}, asgT t d env = some env' → Own env' i → Own env i
  | .nm j, d, env, env', i, h, o => by
    unfold asgT at h
    by_cases hl : j < env.length
    · rw [if_pos hl] at h
      cases h
      exact (o.set (fun _ z => nomatch z) fun _ z => nomatch z).2
    · rw [if_neg hl] at h; cases h
  | .tp ts, .tuple xs, env, env', i, h, o => asgTs_own ts xs env env' h o
  | .tp ts, .none, _, _, _, h, _ => nomatch h
  | .tp ts, .bool _, _, _, _, h, _ => nomatch h
  | .tp ts, .int _, _, _, _, h, _ => nomatch h
  | .tp ts, .str _, _, _, _, h, _ => nomatch h
  | .tp ts, .list _, _, _, _, h, _ => nomatch h
  | .tp ts, .dict _, _, _, _, h, _ => nomatch h
theorem asgTs_own : ∀ (ts : List IT) (xs : List D) (env env' : Env) {i : Nat}, asgTs ts xs env = some env' → Own env' i → Own env i
  | [], [], env, env', i, h, o => by cases h; exact o
  | [], _ :: _, _, _, _, h, _ => nomatch h
  | _ :: _, [], _, _, _, h, _ => nomatch h
  | t :: ts, x :: xs, env, env', i, h, o => by
    unfold asgTs at h
    cases e1 : asgT t x env with
    | none => rw [e1] at h; cases h
    | some env1 =>
      rw [e1] at h
      exact asgT_own t x env env1 e1 (asgTs_own ts xs env1 env' h o)
end
section
variable {w : World} {K : PySem.W.Frag} {g : Gh} {F H F' H' F'' H'' : Hp} {sa sa' sa'' : SA} {σ σ' σ1 σ2 : L2.St} {env env' env1 env1' env2 env2' : Env} {ds ds' : Option DS} {a b p : Addr} {v u : V}
theorem Step.re (s : Step σ1 F H sa env1 F' H' sa' env1') (hm : ∀ b, Mut σ1 env1 b → Mut σ2 env2 b) (ho : ∀ i, Own env2' i → Own env2 i) : Step σ2 F H sa env2 F' H' sa' env2' :=
  ⟨fun b o h n1 n2 => s.fr b o h (fun z => n1 (hm b z)) n2, s.dom, s.ff, fun b h => by
    rcases s.fn b h with z | z | z | z
    · exact .inl z
    · exact .inr (.inl z)
    · exact .inr (.inr (.inl (hm b z)))
    · exact .inr (.inr (.inr z)), by
      rcases s.sa with e | ⟨e, q⟩
      · exact .inl e
      · exact .inr ⟨e, fun b z => by
          rcases q b z with y | y
          · exact .inl y
          · exact .inr (hm b y)⟩, ho⟩
theorem EnvOk.touch (e : EnvOk w K g F H sa σ env ds) (m : Mine g F sa p) (n : ¬ Mut σ env p) (o : HO) : EnvOk w K g F (upd H p o) sa σ env ds := by
  have ne_of : ∀ {b}, ¬ b = p → (upd H p o) b = H b := fun h => upd_ne h
  refine ⟨fun b u q => ?_, e.ext, fun b u q k => ?_, e.new, e.len, fun i s q => ?_, e.inj, e.st.at (Same.refl _) fun b u z q => ?_, e.saF⟩
  · rw [upd_ne (ne_of_none q m.f)]; exact e.sub b u q
  · rw [upd_ne (ne_of_none q m.h)]; exact e.keep b u q k
  · obtain ⟨v, e1, e2⟩ := e.slots i s q
    refine ⟨v, e1, ?_⟩
    cases s with
    | d x => exact e2
    | st => exact e2
    | ol xs =>
      obtain ⟨a, ea, l, m'⟩ := e2
      subst ea
      have na : a ≠ p := fun z => n ⟨i, .inl ⟨xs, q⟩, by rw [← z]; exact e1⟩
      exact ⟨a, rfl, l.mono (Same.refl _) (upd_ne na), m'⟩
    | od xs =>
      obtain ⟨a, ea, l, m'⟩ := e2
      subst ea
      have na : a ≠ p := fun z => n ⟨i, .inr ⟨xs, q⟩, by rw [← z]; exact e1⟩
      exact ⟨a, rfl, l.mono (Same.refl _) (upd_ne na), m'⟩
  · rw [upd_ne (show b ≠ p from fun z2 => m.s (by rw [← z2]; exact z))]; exact q
theorem Step.touch (s : Step σ F H sa env F' H' sa' env') (h : H p = none) (o : HO) : Step σ F H sa env F' (upd H' p o) sa' env' :=
  ⟨fun b u q n1 n2 => by rw [upd_ne (ne_of_none q h)]; exact s.fr b u q n1 n2, fun b q => by
    by_cases hb : b = p
    · subst hb; exact h
    · rw [upd_ne hb] at q; exact s.dom b q, s.ff, s.fn, s.sa, s.own⟩
theorem EnvOk.wipe (e : EnvOk w K g F H sa σ env ds) (vs : List Nat) : EnvOk w K g F H sa (L2.wipe σ vs) (wipeE env vs) ds :=
  ⟨e.sub, e.ext, e.keep, e.new, by rw [wipeE_len, wipe_length]; exact e.len, fun i s q => by
    obtain ⟨q1, q2⟩ := wipeE_some q
    obtain ⟨v, e1, e2⟩ := e.slots i s q1
    exact ⟨v, by rw [wipe_out q2]; exact e1, e2⟩, fun i j v h1 h2 q1 q2 => e.inj i j v h1.wiped.1 h2.wiped.1 (wipe_some q1).1 (wipe_some q2).1, e.st, e.saF⟩
/-- behind a block: its own names as they were -/
theorem EnvOk.restore {vs : List Nat} {ew : Env} {ds0 : Option DS} (e0 : EnvOk w K g F H sa σ env ds0) (ff : Same F F') (e : EnvOk w K g F' H' sa' (L2.wipe σ vs) (wipeE ew vs) ds) : EnvOk w K g F' H' sa' σ (restoreE env vs ew) ds :=
  ⟨e.sub, e.ext, e.keep, e.new, by
    rw [restoreE_len]
    have := e.len
    rw [wipeE_len, wipe_length] at this
    exact this, fun i s q => by
    by_cases hi : i ∈ vs
    · obtain ⟨x, rfl, q1⟩ := restoreE_in hi q
      obtain ⟨v, e1, e2⟩ := e0.slots i _ q1
      exact ⟨v, e1, Rp.mono ff e2⟩
    · rw [restoreE_out hi, ← wipeE_out hi] at q
      obtain ⟨v, e1, e2⟩ := e.slots i s q
      rw [wipe_out hi] at e1
      exact ⟨v, e1, e2⟩, fun i j v h1 h2 q1 q2 => by
    obtain ⟨a1, a2⟩ := h1.restored
    obtain ⟨b1, b2⟩ := h2.restored
    exact e.inj i j v (a1.same (wipeE_out a2)) (b1.same (wipeE_out b2)) (by rw [wipe_out a2]; exact q1) (by rw [wipe_out b2]; exact q2), e.st, e.saF⟩
/-- what a turn of a block may change is what the block may -/
theorem mut_turn {t : IT} {d : D} {vs : List Nat} {e2 e3 : Env} (ha : asgT t d (wipeE e2 vs) = some e3) (hw : L2.wipe σ' vs = L2.wipe σ vs) (h : Mut σ' e3 b) : Mut (L2.wipe σ vs) (wipeE e2 vs) b := by
  obtain ⟨i, ho, hi⟩ := h
  have o2 := asgT_own t d _ _ ha ho
  have n := o2.wiped.2
  exact ⟨i, o2, by rw [← hw, wipe_out n]; exact hi⟩
theorem mut_wipe {vs : List Nat} (h : Mut (L2.wipe σ vs) (wipeE env vs) b) : Mut σ env b := by
  obtain ⟨i, ho, hi⟩ := h
  exact ⟨i, ho.wiped.1, (wipe_some hi).1⟩
end
theorem within_inv {α : Type} {vs : List Nat} {m : M α} {c c' : Cf} {a : α} (h : within vs m c = some (a, c')) : ∃ ew, m (wipeE c.1 vs, c.2) = some (a, (ew, c'.2)) ∧ c'.1 = restoreE c.1 vs ew := by
  unfold within at h
  cases e : m (wipeE c.1 vs, c.2) with
  | none => rw [e] at h; cases h
  | some p =>
    obtain ⟨a1, ew, d1⟩ := p
    rw [e] at h
    cases h
    exact ⟨ew, rfl, rfl⟩
theorem fresh_inv {vs : List Nat} {t : IT} {d : D} {c c' : Cf} {x : Unit} (h : fresh vs t d c = some (x, c')) : asgT t d (wipeE c.1 vs) = some c'.1 ∧ c'.2 = c.2 := by
  unfold fresh at h
  cases e : asgT t d (wipeE c.1 vs) with
  | none => rw [e] at h; cases h
  | some e1 => rw [e] at h; cases h; exact ⟨rfl, rfl⟩
/-- one turn of a comprehension -/
def turnM (vs : List Nat) (t : IT) (mc me : M Rv) (x : D) : M (Option D) := do
  fresh vs t x
  let k ← boolM (← mc)
  if k then do
    let y ← dM me
    pure (some y)
  else pure none
def lcM (vs : List Nat) (t : IT) (mi : M (List D)) (mc me : M Rv) : M Rv := do
  let xs ← mi
  let ys ← within vs (turns (turnM vs t mc me) xs)
  if ys.length ≤ line then pure (.fl ys) else stuck
def yesM : M Rv := pure (.d (.bool true))
abbrev SC (X : Cx) (cs : List Expr) (m : M Rv) : Prop := PTs X cs (tT X.w X.K m)
section
variable {X : Cx} {c : Expr} {m : M Rv}
theorem pts_imp {cs : List Expr} {t t' : TT} (h : PTs X cs t) (i : ∀ σ H Q, t' σ H Q → t σ H Q) : PTs X cs t' := ⟨fun pins s σ H Q I hw => h.run pins s σ H Q I (i _ _ _ hw)⟩
theorem sc_nil : SC X [] yesM := pts_imp pts_nil fun σ H Q h => tT_pure h
theorem sc_one (h : ST X c m) : SC X [c] m := pts_one h
end
section
variable {w : World} {K : PySem.W.Frag} {σ : L2.St} {H : Hp} {Q : VK}
theorem dropd {xs : List D} {i : Nat} {x : D} (hi : i < xs.length) (hx : xs[i]? = some x) : xs.drop i = x :: xs.drop (i + 1) := by
  rw [List.drop_eq_getElem_cons hi]
  congr 1
  have := List.getElem?_eq_getElem hi
  rw [hx] at this
  exact (Option.some.inj this).symm
theorem lc_ok {pr : Bool} {vs : List Nat} {t : IT} {mi : M (List D)} {mc me : M Rv} (htv : tgIn vs t = true) (htp : pr = true → isTp t = true) (h : tE w K (lcM vs t mi mc me) σ H Q) : tLc (tI w K pr mi) (tG w K t) (tT w K mc) (tE w K me) vs σ H Q := by
  obtain ⟨g, F, sa, env, ds, rv, env', ds', e, hm, q⟩ := h
  obtain ⟨xs, ⟨e1, d1⟩, h1, hm⟩ := bindM hm
  obtain ⟨ys, ⟨e2, d2⟩, h2, hm⟩ := bindM hm
  obtain ⟨hz, h3⟩ := iteM hm
  obtain ⟨h4, h5⟩ := pureM h3
  subst h4
  obtain ⟨rfl, rfl⟩ := Prod.mk.inj h5
  obtain ⟨ew, h6, h7⟩ := within_inv h2
  have h7 : e2 = restoreE e1 vs ew := h7
  have h6 : turns (turnM vs t mc me) xs (wipeE e1 vs, d1) = some (ys, (ew, d2)) := h6
  refine ⟨g, F, sa, env, ds, xs, e1, d1, e, h1, fun F1 H1 sa1 J eo s wk D0 hD => ?_⟩
  have eD := eo.wipe vs
  have inv0 : EnvOk w K g F1 (upd H1 D0 (.lst [])) sa1 (wipe σ vs) (wipeE (wipeE e1 vs) vs) d1 := by
    have z := (eD.alloc hD (.lst [])).wipe vs
    rwa [wipe_idem] at z
  refine ⟨fun i m H' => (i ≤ xs.length ∧ m = xs.length - i) ∧ ∃ F2 sa2 e2 d2' acc accV yr, Same F1 F2 ∧ EnvOk w K g F2 H' sa2 (wipe σ vs) (wipeE e2 vs) d2' ∧ Step (wipe σ vs) F1 H1 sa1 (wipeE e1 vs) F2 H' sa2 (wipeE e2 vs) ∧
      turns (turnM vs t mc me) (xs.drop i) (e2, d2') = some (yr, (ew, d2)) ∧ ys = acc ++ yr ∧ H' D0 = some (.lst accV) ∧ RpA w K F2 accV acc ∧ Mine g F2 sa2 D0,
    ⟨_, ⟨Nat.zero_le _, rfl⟩, F1, sa1, wipeE e1 vs, d1, [], [], ys, Same.refl _, inv0, ?_, h6, rfl, upd_same, .nil, eo.mine hD⟩, ?_⟩
  · exact (step_alloc hD (.lst [])).re (fun _ z => z) fun i z => z.wiped.1
  rintro i m H2 ⟨⟨hile, rfl⟩, F2, sa2, e2, d2', acc, accV, yr, ff, eo2, st, hm2, ey, hDl, rA, mD⟩
  obtain ⟨wg, ws⟩ := wk F2 H2 ff eo2.sub
  have nD : ¬ Mut (wipe σ vs) (wipeE e2 vs) D0 := fun z => eD.noMut hD (st.mut z)
  by_cases hi : i < xs.length
  · obtain ⟨x, hx⟩ : ∃ x, xs[i]? = some x := ⟨xs[i], List.getElem?_eq_getElem hi⟩
    rw [dropd hi hx] at hm2
    obtain ⟨yo, ⟨e5, d5⟩, h8, hm3⟩ := bindM hm2
    obtain ⟨yr2, ⟨e6, d6⟩, h9, hm4⟩ := bindM hm3
    obtain ⟨h10, h11⟩ := pureM hm4
    obtain ⟨rfl, rfl⟩ := Prod.mk.inj h11
    obtain ⟨_, ⟨e3, d3⟩, h12, h13⟩ := bindM h8
    obtain ⟨h14, h15⟩ := fresh_inv h12
    have h14 : asgT t x (wipeE e2 vs) = some e3 := h14
    have h15 : d3 = d2' := h15
    subst h15
    obtain ⟨r7, c7, h16, h17⟩ := bindM h13
    obtain ⟨k, ⟨e7, d7⟩, h18, h19⟩ := bindM h17
    obtain ⟨h20, h21⟩ := boolM_inv h18
    subst h20
    subst h21
    obtain ⟨wg1, wg2⟩ := wg i x hx
    refine .inr ⟨wg1, fun H' => ∃ m', m' < xs.length - i ∧ ((i + 1 ≤ xs.length ∧ m' = xs.length - (i + 1)) ∧ ∃ F2 sa2 e2 d2' acc accV yr, Same F1 F2 ∧ EnvOk w K g F2 H' sa2 (wipe σ vs) (wipeE e2 vs) d2' ∧ Step (wipe σ vs) F1 H1 sa1 (wipeE e1 vs) F2 H' sa2 (wipeE e2 vs) ∧
      turns (turnM vs t mc me) (xs.drop (i + 1)) (e2, d2') = some (yr, (e6, d6)) ∧ ys = acc ++ yr ∧ H' D0 = some (.lst accV) ∧ RpA w K F2 accV acc ∧ Mine g F2 sa2 D0), fun H' z => z, fun v H3 hy => ?_⟩
    obtain ⟨F3, eo3, s3, rv⟩ := (wg2 v H3 hy).en eo2 htp
    obtain ⟨mD3, hD3⟩ := s3.mine hDl mD nD
    refine ⟨g, F3, sa2, wipeE e2 vs, _, x, e3, eo3, rv, h14, fun σ4 eo4 hw => ?_⟩
    have hw4 : wipe σ4 vs = wipe σ vs := by rw [hw vs htv, wipe_idem]
    refine ⟨hw4, ?_⟩
    have nD4 : ¬ Mut σ4 e3 D0 := fun z => nD (mut_turn h14 hw4 z)
    refine ⟨g, F3, sa2, e3, _, k, e7, d7, eo4, h16, fun F5 H5 sa5 eo5 s5 => ?_⟩
    obtain ⟨mD5, hD5⟩ := s5.mine hD3 mD3 nD4
    have ff5 := (ff.trans s3.ff).trans s5.ff
    -- a step of the turn, told in the block's terms
    have re : ∀ {F6 H6 sa6 e8}, Step σ4 F3 H3 sa2 e3 F6 H6 sa6 e8 → Step (wipe σ vs) F1 H1 sa1 (wipeE e1 vs) F6 H6 sa6 (wipeE e8 vs) := fun {F6 H6 sa6 e8} z =>
      (st.trans s3).trans (z.re (fun b zb => mut_turn h14 hw4 zb) fun j oj => asgT_own t x _ _ h14 (z.own j oj.wiped.1))
    have ew5 : ∀ {F6 H6 sa6 e8 d8}, EnvOk w K g F6 H6 sa6 σ4 e8 d8 → EnvOk w K g F6 H6 sa6 (wipe σ vs) (wipeE e8 vs) d8 := fun {F6 H6 sa6 e8 d8} z => by
      have z2 := z.wipe vs
      rwa [hw4] at z2
    cases k with
    | false =>
      obtain ⟨h22, h23⟩ := pureM h19
      subst h22
      obtain ⟨rfl, rfl⟩ := Prod.mk.inj h23
      have h10 : yr2 = yr := h10
      subst h10
      exact iteF ⟨_, by omega, ⟨hi, rfl⟩, F5, sa5, _, _, acc, accV, yr2, ff5, ew5 eo5, re s5, h9, ey, hD5, rA.mono (s3.ff.trans s5.ff), mD5⟩
    | true =>
      obtain ⟨y, ⟨e9, d9⟩, h22, h23⟩ := bindM h19
      obtain ⟨h24, h25⟩ := pureM h23
      subst h24
      obtain ⟨rfl, rfl⟩ := Prod.mk.inj h25
      have h10 : y :: yr2 = yr := h10
      subst h10
      have nD5 : ¬ Mut σ4 e7 D0 := fun z => nD4 (s5.mut z)
      refine iteT (dM_ok ⟨g, F5, sa5, e7, d7, y, e9, d9, eo5, h22, fun F6 H6 sa6 yv eo6 s6 hyv => ?_⟩)
      obtain ⟨mD6, hD6⟩ := s6.mine hD5 mD5 nD5
      have nD6 : ¬ Mut σ4 e9 D0 := fun z => nD5 (s6.mut z)
      have ff6 := ff5.trans s6.ff
      have lz : accV.length < sizeLine := by
        have h30 := congrArg List.length ey
        rw [List.length_append, List.length_cons] at h30
        have h31 : ys.length ≤ sizeLine := hz
        rw [rA.length]
        omega
      refine ⟨accV, hD6, lz, _, by omega, ⟨hi, rfl⟩, F6, sa6, e9, d9, acc ++ [y], accV ++ [yv], yr2, ff6, ?_, ?_, h9, ?_, upd_same, ?_, mD6⟩
      · have z := (ew5 eo6).touch mD6 (fun z => nD6 (by
          obtain ⟨j, oj, hj⟩ := z
          refine ⟨j, oj.wiped.1, ?_⟩
          rw [← hw4] at hj
          exact (wipe_some hj).1)) (.lst (accV ++ [yv]))
        exact z
      · exact (re (s5.trans s6)).touch hD _
      · rw [ey, List.append_assoc]; rfl
      · exact (rA.mono ((s3.ff.trans s5.ff).trans s6.ff)).append (.cons hyv .nil)
  · have hl : xs.length ≤ i := Nat.le_of_not_lt hi
    have hil : i = xs.length := Nat.le_antisymm hile hl
    refine .inl ⟨by rw [hil]; exact ws, ?_⟩
    rw [List.drop_eq_nil_of_le hl] at hm2
    obtain ⟨h8, h9⟩ := pureM hm2
    subst h8
    obtain ⟨rfl, rfl⟩ := Prod.mk.inj h9
    rw [List.append_nil] at ey
    subst ey
    subst h7
    have er := eo.restore ff eo2
    have nM : ¬ Mut σ (restoreE e1 vs e2) D0 := fun z => by
      obtain ⟨j, oj, hj⟩ := z
      obtain ⟨o1, o2⟩ := oj.restored
      exact nD ⟨j, o1.same (wipeE_out o2), by rw [wipe_out o2]; exact hj⟩
    refine q F2 H2 sa2 _ er ?_ ⟨D0, rfl, ⟨accV, hDl, rA⟩, mD, nM⟩ fun p z => ?_
    · refine s.trans (st.re (fun b zb => mut_wipe zb) fun j oj => ?_)
      obtain ⟨o1, o2⟩ := oj.restored
      exact (st.own j (o1.same (wipeE_out o2))).wiped.1
    · cases z
      exact s.dom _ hD
end
section
variable {X : Cx} {elt tg iter : Expr} {ifs : List Expr} {scope : Scope} {own : List (Str × Nat)} {pos : Pos} {mi : M (List D)} {t : IT} {mc me : M Rv}
theorem se_lc {pr : Bool} (hc : X.calm = true) (hN : X.N.Nodup) (hi : SI X tg iter pr mi) (ok : BlkOk X.N X.env.scope scope own) (htv : tgIn (own.map (·.2)) t = true) (htp : pr = true → isTp t = true)
    (hg : ∀ (s : Shared) (H : Hp) (C : Addr) (cl : List (Str × Addr)) (fp : List Addr), SG (X.blk s H scope (compEnvC scope cl C X.env) fp) tg t) (ht : ∀ (s : Shared) (H : Hp) (C : Addr) (cl : List (Str × Addr)) (fp : List Addr), SC (X.blk s H scope (compEnvC scope cl C X.env) fp) ifs mc)
    (he : ∀ (s : Shared) (H : Hp) (C : Addr) (cl : List (Str × Addr)) (fp : List Addr), SE (X.blk s H scope (compEnvC scope cl C X.env) fp) elt me) (hs : ∀ x, foldedSetIterable iter X.env x = pure x) :
    SE X (.ListComp elt [⟨tg, iter, ifs, 0⟩] scope pos) (lcM (own.map (·.2)) t mi mc me) :=
  pe_imp (pe_lc hc hN hi ok hg ht he hs) fun _ _ _ h => lc_ok htv htp h
theorem ss_setLc {pr : Bool} {i : Nat} {y : Str} {py spos : Pos} (hc : X.calm = true) (hN : X.N.Nodup) (hy : X.N[i]? = some y) (hyl : X.env.scope.names.lookup y = some .local)
    (hsw : swapsWith (.ListComp elt [⟨tg, iter, ifs, 0⟩] scope pos) (some (.Name y py)) spos.line X.env = pure true) (hi : SI X tg iter pr mi) (ok : BlkOk X.N X.env.scope scope own) (htv : tgIn (own.map (·.2)) t = true) (htp : pr = true → isTp t = true)
    (hg : ∀ (s : Shared) (H : Hp) (C : Addr) (cl : List (Str × Addr)) (fp : List Addr), SG (X.blk s H scope (compEnvC scope cl C X.env) fp) tg t) (ht : ∀ (s : Shared) (H : Hp) (C : Addr) (cl : List (Str × Addr)) (fp : List Addr), SC (X.blk s H scope (compEnvC scope cl C X.env) fp) ifs mc)
    (he : ∀ (s : Shared) (H : Hp) (C : Addr) (cl : List (Str × Addr)) (fp : List Addr), SE (X.blk s H scope (compEnvC scope cl C X.env) fp) elt me) (hs : ∀ x, foldedSetIterable iter X.env x = pure x) :
    SS X (.Assign [.Name y py] (.ListComp elt [⟨tg, iter, ifs, 0⟩] scope pos) spos) (setM i (lcM (own.map (·.2)) t mi mc me)) :=
  ps_imp (ps_setLc hc hN hy hyl hsw hi ok hg ht he hs) fun D σ H h => by
    refine lc_ok (mc := mc) (me := me) htv htp ?_
    obtain ⟨g, F, sa, env, ds, oc, env', ds', e, hm, q⟩ := h
    obtain ⟨r, ⟨e1, d1⟩, h1, hm⟩ := bindM hm
    obtain ⟨_, ⟨e2, d2⟩, h2, hm⟩ := bindM hm
    obtain ⟨h3, h4⟩ := pureM hm
    subst h3
    obtain ⟨rfl, rfl⟩ := Prod.mk.inj h4
    refine ⟨g, F, sa, env, ds, r, e1, d1, e, h1, fun F1 H1 sa1 v eo s hv _ => ?_⟩
    obtain ⟨F2, e3, ff⟩ := storeM_ok eo hv h2
    exact q F2 H1 sa1 _ e3 (s.ff.trans ff) (s.saR e)
end
end Fw
end TFwM
section TFwN
namespace Fw
open PySem PySem.Spec PyProof.Rows L2
abbrev SpG := List V → Hp → VK → Prop
/-- what a call leaves -/
structure Out (F H : Hp) (sa : SA) (F' H' : Hp) (sa' : SA) : Prop where
  ff : Same F F'
  sub : Same F' H'
  fr : ∀ b o, H b = some o → ¬ sa.has b → H' b = some o
  fn : ∀ b, F' b ≠ none → F b ≠ none ∨ H b = none
  sa : sa' = sa ∨ (sa = none ∧ ∀ b, sa'.has b → H b = none)
  saF : ∀ b, sa'.has b → F' b = none
def RetNew (w : World) (K : PySem.W.Frag) (F H F' H' : Hp) (sa' : SA) (v : V) : Rv → Prop
  | .d x => Rp w K F' v x
  | .ow _ => False
  | .fl xs => ∃ a, v = .ref a ∧ LstO w K F' H' a xs ∧ H a = none ∧ F' a = none ∧ ¬ sa'.has a
  | .fd kvs => ∃ a, v = .ref a ∧ DctO w K F' H' a kvs ∧ H a = none ∧ F' a = none ∧ ¬ sa'.has a
  | .st => ∃ t, sa' = some t ∧ v = .ref t.1
def spF (w : World) (K : PySem.W.Frag) (f : Fun) : SpG := fun vs H Q => ∃ F sa as ds r ds', Same F H ∧ ArgsOk w K F sa vs as ∧ StOk F H sa ds ∧ (∀ b, sa.has b → F b = none) ∧ f as ds = some (r, ds') ∧
  ∀ F' H' sa' v, Out F H sa F' H' sa' → StOk F' H' sa' ds' → RetNew w K F H F' H' sa' v r → Q v H'
structure FnG (P : Program) (w : World) (K : PySem.W.Frag) (mg : Str → Option Value) (base : Heap) (k : Nat) (f : Addr) (fd : FuncData) (ps : List Str) (sp : SpG) : Prop where
  len : ∀ vs H Q, sp vs H Q → vs.length = ps.length
  go : ∀ (A : Around) (out : List PySem.Env) (s : Shared) (H : Hp) (args : Args) (us : List Value) (vs : List V) (Q : VK), Room k A → A.guards = some [] → Env0 P w K mg base A out s H → BindsTo s fd args (ps.zip us) → Vals vs us → sp vs H Q →
    codeAny (model P w) A (.call (.ref f) args) (CR CX0 out P w H s Q E0) s
theorem FnG.mono {P : Program} {w : World} {K : PySem.W.Frag} {mg : Str → Option Value} {base : Heap} {j k : Nat} {f : Addr} {fd : FuncData} {ps : List Str} {sp : SpG} (F : FnG P w K mg base j f fd ps sp) (h : j ≤ k) : FnG P w K mg base k f fd ps sp :=
  ⟨F.len, fun A out s H args us vs Q hr => F.go A out s H args us vs Q (hr.mono h)⟩
section
variable {w : World} {K : PySem.W.Frag} {g : Gh} {F H F' H' : Hp} {sa sa' : SA} {σ : L2.St} {env : Env} {ds ds' : Option DS} {a b p : Addr} {v u : V}
theorem Out.has (o : Out F H sa F' H' sa') (n : ¬ sa.has b) {x : HO} (h : H b = some x) : ¬ sa'.has b := by
  rcases o.sa with e | ⟨e, q⟩
  · rw [e]; exact n
  · intro z; rw [q b z] at h; cases h
theorem Out.mine (o : Out F H sa F' H' sa') (m : Mine g F sa b) {x : HO} (h : H b = some x) : H' b = some x ∧ Mine g F' sa' b := by
  refine ⟨o.fr b x h m.s, ?_, m.h, o.has m.s h⟩
  cases e : F' b with
  | none => rfl
  | some y =>
    rcases o.fn b (by rw [e]; simp) with z | z
    · exact absurd m.f z
    · rw [h] at z; cases z
theorem EnvOk.after (e : EnvOk w K g F H sa σ env ds) (o : Out F H sa F' H' sa') (st : StOk F' H' sa' ds') : EnvOk w K g F' H' sa' σ env ds' := by
  refine ⟨o.sub, e.ext.trans o.ff, fun b x hb hn => ?_, fun b hb => ?_, e.len, fun i s hs => ?_, e.inj, st, o.saF⟩
  · have n : ¬ sa.has b := by
      rcases o.sa with z | ⟨z, _⟩
      · rw [← z]; exact hn
      · rw [z]; exact fun q => q
    exact o.fr b x (e.keep b x hb n) n
  · rcases o.fn b hb with z | z
    · exact e.new b z
    · exact .inr (e.noH0 z)
  · obtain ⟨v, e1, e2⟩ := e.slots i s hs
    refine ⟨v, e1, e2.keep o.ff (fun a x hx m => o.mine m hx) fun t ht => ?_⟩
    rcases o.sa with z | ⟨z, _⟩
    · exact z.trans ht
    · rw [z] at ht; cases ht
theorem Out.step (o : Out F H sa F' H' sa') (st : StOk F H sa ds) (st' : StOk F' H' sa' ds') : Step σ F H sa env F' H' sa' env := by
  refine ⟨fun b x hb _ n => o.fr b x hb n, fun b hb => ?_, o.ff, fun b hb => ?_, o.sa.imp id fun ⟨e, q⟩ => ⟨e, fun b z => .inl (q b z)⟩, fun _ h => h⟩
  · cases e : H b with
    | none => rfl
    | some x =>
      by_cases n : sa.has b
      · rcases o.sa with z | ⟨z, _⟩
        · obtain ⟨y, hy⟩ := st'.has (by rw [z]; exact n)
          rw [hb] at hy; cases hy
        · rw [z] at n; exact n.elim
      · rw [o.fr b x e n] at hb; cases hb
  · rcases o.fn b hb with z | z
    · exact .inl z
    · exact .inr (.inl z)
theorem RetNew.rv (e : EnvOk w K g F H sa σ env ds) {r : Rv} (h : RetNew w K F H F' H' sa' v r) : RvOk w K g F' H' sa' σ env v r ∧ RvNew H v r := by
  cases r with
  | d x => exact ⟨h, trivial⟩
  | ow i => exact h.elim
  | fl xs =>
    obtain ⟨a, ea, l, h1, h2, h3⟩ := h
    exact ⟨⟨a, ea, l, ⟨h2, e.noH0 h1, h3⟩, e.noMut h1⟩, fun p z => by rw [ea] at z; cases z; exact h1⟩
  | fd xs =>
    obtain ⟨a, ea, l, h1, h2, h3⟩ := h
    exact ⟨⟨a, ea, l, ⟨h2, e.noH0 h1, h3⟩, e.noMut h1⟩, fun p z => by rw [ea] at z; cases z; exact h1⟩
  | st => exact ⟨h, trivial⟩
end
def callM (f : Fun) (dfl : List D) (ms : M (List Sl)) : M Rv := do
  let as ← ms
  fun c => match f (as ++ dfl.map Sl.d) c.2 with
    | some (r, s) => some (r, (c.1, s))
    | none => none
theorem callM_inv {f : Fun} {dfl : List D} {ms : M (List Sl)} {c c' : Cf} {r : Rv} (h : callM f dfl ms c = some (r, c')) : ∃ as c1, ms c = some (as, c1) ∧ f (as ++ dfl.map Sl.d) c1.2 = some (r, c'.2) ∧ c'.1 = c1.1 := by
  obtain ⟨as, c1, h1, h2⟩ := bindM h
  refine ⟨as, c1, h1, ?_⟩
  cases e : f (as ++ dfl.map Sl.d) c1.2 with
  | none => rw [e] at h2; cases h2
  | some p =>
    obtain ⟨r1, s1⟩ := p
    rw [e] at h2
    cases h2
    exact ⟨rfl, rfl⟩
theorem ArgsOk.append {w : World} {K : PySem.W.Frag} {F : Hp} {sa : SA} {vs us : List V} {as bs : List Sl} (h : ArgsOk w K F sa vs as) (h2 : ArgsOk w K F sa us bs) : ArgsOk w K F sa (vs ++ us) (as ++ bs) := by
  induction h with
  | nil => exact h2
  | cons h _ ih => exact .cons h ih
theorem RpA.args {w : World} {K : PySem.W.Frag} {F : Hp} {sa : SA} : ∀ {vs : List V} {ds : List D}, RpA w K F vs ds → ArgsOk w K F sa vs (ds.map Sl.d)
  | _, _, .nil => .nil
  | _, _, .cons h r => .cons h (RpA.args r)
section
variable {X : Cx} {k : Nat} {f : Addr} {fd : FuncData} {ps : List Str} {sp : SpG} {dvs : List V} {ds : List Value} {x : Str} {p pos : Pos} {e : Expr} {es : List Expr} {t : TA} {fn : Fun} {dfl : List D} {ms : M (List Sl)}
theorem run_g {pins : List (Addr × Obj)} {σ : L2.St} {H : Hp} {s : Shared} {Q : VK} {us : List Value} {vs : List V} {args : Args} (G : FnG X.prog X.w X.K X.mg X.base k f fd ps sp) (hr : Room k X.A) (hgd : X.A.guards = some [])
    (I : Inv X pins σ H s) (hb : BindsTo s fd args (ps.zip us)) (r : Vals vs us) (h : sp vs H Q) : codeAny (model X.prog X.w) X.A (.call (.ref f) args) (fun r s' => ∃ u, r = .ok (.ret u) ∧ EP X pins σ Q u s') s := by
  refine codeAny_mono (G.go X.A X.stack s H args us vs Q hr hgd I.env0 hb r h) fun o s' hq => ?_
  cases o with
  | error e => exact False.elim hq
  | ok fl =>
    cases fl with
    | ret u => exact ⟨u, rfl, I.after hq⟩
    | next => exact False.elim hq
    | brk => exact False.elim hq
    | cont => exact False.elim hq
def tCallG (sp : SpG) (dvs : List V) (t : TA) : TE := fun σ H Q => t σ H fun vs H1 => sp (vs ++ dvs) H1 Q
theorem of_run {pins : List (Addr × Obj)} {σ : L2.St} {s : Shared} {Q : VK} {us : List Value} {kw : List (Str × Value)} (h : codeAny (model X.prog X.w) X.A (.call (.ref f) ⟨us, kw⟩) (fun r s' => ∃ u, r = .ok (.ret u) ∧ EP X pins σ Q u s') s) :
    wpAny (model X.prog X.w) X.A (call (.ref f) us kw) (EP X pins σ Q) X.xe s := by
  refine wpAny_call (codeAny_mono h fun o s' hq => ?_)
  obtain ⟨u, rfl, hq⟩ := hq
  exact hq
theorem pe_callG (G : FnG X.prog X.w X.K X.mg X.base k f fd ps sp) (hr : Room k X.A) (hgd : X.A.guards = some []) (hg : Gl X x) (hm : X.mg x = some (.ref f)) (hk : PySem.W.keepIn X.K (.ref f) = true) (hb : Binds X.K fd ps ds) (hd : Vals dvs ds)
    (ha : PA X (e :: es) t) (hdb : (x == ("__debug__" : Str)) = false) (he : starEach (e :: es) X.env = (false, eval e X.env) :: starEach es X.env) (hpl : (backTo pos (starEach es X.env)).any (·.1) = false) :
    PE X (.Call (.Name x p) (e :: es) [] pos) (tCallG sp dvs t) := ⟨fun pins s σ H Q I h => by
  refine wpAny_Call_Name_kw (ld_glob I hg hm ?_ hdb)
  refine PySem.W.callWith_K (h₀ := X.base) I.ok.mod.kin hk (thn (ha.run pos pins s σ H _ I h) fun us s1 hq => ?_) he hpl
  obtain ⟨vs, H1, I1, r, q⟩ := hq
  have r2 : Vals (vs ++ dvs) (us ++ ds) := r.append hd
  exact ⟨I1.kIn, of_run (run_g G hr hgd I1 (hb s1 us I1.kIn (by rw [← r2.length]; exact G.len _ _ _ q)) r2 q)⟩⟩
theorem tCallG_of {w : World} {K : PySem.W.Frag} {σ : L2.St} {H : Hp} {Q : VK} (hdv : ∀ F, RpA w K F dvs dfl) (h : tE w K (callM fn dfl ms) σ H Q) : tCallG (spF w K fn) dvs (tA w K ms) σ H Q := by
  obtain ⟨g, F, sa, env, ds, rv, env', ds', e, hm, q⟩ := h
  obtain ⟨as, ⟨e1, d1⟩, h1, h2, h3⟩ := callM_inv hm
  have h3 : env' = e1 := h3
  subst h3
  refine ⟨g, F, sa, env, ds, as, _, d1, e, h1, fun F1 H1 sa1 vs eo s hv => ?_⟩
  refine ⟨F1, sa1, as ++ dfl.map Sl.d, d1, rv, ds', eo.sub, hv.append (hdv F1).args, eo.st, eo.saF, h2, fun F2 H2 sa2 v o st r => ?_⟩
  obtain ⟨r1, r2⟩ := r.rv eo
  refine q F2 H2 sa2 v (eo.after o st) (s.trans (o.step eo.st st)) r1 ?_
  cases rv with
  | d x => trivial
  | ow i => trivial
  | st => trivial
  | fl xs => exact fun q z => s.dom q (r2 q z)
  | fd xs => exact fun q z => s.dom q (r2 q z)
/-- f(e, ..) -/
theorem se_call (G : FnG X.prog X.w X.K X.mg X.base k f fd ps (spF X.w X.K fn)) (hr : Room k X.A) (hgd : X.A.guards = some []) (hg : Gl X x) (hm : X.mg x = some (.ref f)) (hk : PySem.W.keepIn X.K (.ref f) = true) (hb : Binds X.K fd ps ds) (hd : Vals dvs ds) (hdv : ∀ F, RpA X.w X.K F dvs dfl)
    (ha : SA' X (e :: es) ms) (hdb : (x == ("__debug__" : Str)) = false) (he : starEach (e :: es) X.env = (false, eval e X.env) :: starEach es X.env) (hpl : (backTo pos (starEach es X.env)).any (·.1) = false) :
    SE X (.Call (.Name x p) (e :: es) [] pos) (callM fn dfl ms) := pe_imp (pe_callG G hr hgd hg hm hk hb hd ha hdb he hpl) fun _ _ _ h => tCallG_of hdv h
/-- f() -/
theorem se_call0 (G : FnG X.prog X.w X.K X.mg X.base k f fd ps (spF X.w X.K fn)) (hr : Room k X.A) (hgd : X.A.guards = some []) (hg : Gl X x) (hm : X.mg x = some (.ref f)) (hk : PySem.W.keepIn X.K (.ref f) = true) (hb : Binds X.K fd ps ds) (hd : Vals dvs ds) (hdv : ∀ F, RpA X.w X.K F dvs dfl)
    (hdb : (x == ("__debug__" : Str)) = false) : SE X (.Call (.Name x p) [] [] pos) (callM fn dfl (pure [])) := ⟨fun pins s σ H Q I h => by
  have h2 := tCallG_of hdv h
  have q : spF X.w X.K fn ([] ++ dvs) H Q := tA_nil h2
  refine wpAny_Call_Name_kw (ld_glob I hg hm ?_ hdb)
  have r2 : Vals ([] ++ dvs) ([] ++ ds) := hd
  exact PySem.W.callWith_K0 I.kIn hk (of_run (run_g G hr hgd I (hb s [] I.kIn (by rw [← r2.length]; exact G.len _ _ _ q)) r2 q))⟩
end
def runD (np nl : Nat) (body : M Oc) : Fun := fun as s => if as.length = np then match body (as.map some ++ List.replicate (nl - np) none, s) with
    | some (.rt r, (_, s')) => some (r, s')
    | some (.nx, (_, s')) => some (.d .none, s')
    | _ => none
  else none
theorem ArgsOk.len {w : World} {K : PySem.W.Frag} {F : Hp} {sa : SA} {vs : List V} {as : List Sl} (h : ArgsOk w K F sa vs as) : vs.length = as.length := by
  induction h with
  | nil => rfl
  | cons _ _ ih => exact congrArg (· + 1) ih
theorem ArgsOk.at {w : World} {K : PySem.W.Frag} {F : Hp} {sa : SA} {vs : List V} {as : List Sl} (h : ArgsOk w K F sa vs as) : ∀ {i : Nat} {s : Sl}, as[i]? = some s → ∃ v, vs[i]? = some v ∧ ArgOk w K F sa v s := by
  induction h with
  | nil => intro i s h; simp at h
  | cons h _ ih =>
    intro i s q
    cases i with
    | zero => simp at q; subst q; exact ⟨_, rfl, h⟩
    | succ i =>
      obtain ⟨v, h1, h2⟩ := ih (i := i) (s := s) (by simpa using q)
      exact ⟨v, by simpa using h1, h2⟩
theorem env_start {w : World} {K : PySem.W.Frag} {F H : Hp} {sa : SA} {vs : List V} {as : List Sl} {ds : Option DS} {N : List Str} {np : Nat} (hF : Same F H) (ha : ArgsOk w K F sa vs as) (st : StOk F H sa ds) (saF : ∀ b, sa.has b → F b = none) (hl : as.length = np) (hN : np ≤ N.length) :
    EnvOk w K ⟨F, H⟩ F H sa (L2.start N vs) (as.map some ++ List.replicate (N.length - np) none) ds := by
  have lv := ha.len
  have key : ∀ (i : Nat) (s : Sl), (as.map some ++ List.replicate (N.length - np) none)[i]? = some (some s) → as[i]? = some s := fun i s q => by
    by_cases hi : i < as.length
    · rw [List.getElem?_append_left (by simpa using hi), List.getElem?_map] at q
      cases e : as[i]? with
      | none => rw [e] at q; cases q
      | some z => rw [e] at q; cases q; rfl
    · rw [List.getElem?_append_right (by simpa using hi), List.getElem?_replicate] at q
      split at q <;> cases q
  have noOwn : ∀ i, ¬ Own (as.map some ++ List.replicate (N.length - np) none) i := fun i z => by
    rcases z with ⟨xs, z⟩ | ⟨xs, z⟩
    · obtain ⟨v, _, h2⟩ := ha.at (key i _ z)
      exact h2
    · obtain ⟨v, _, h2⟩ := ha.at (key i _ z)
      exact h2
  refine ⟨hF, Same.refl F, fun _ _ h _ => h, fun _ h => .inl h, ?_, fun i s q => ?_, fun i _ _ z => (noOwn i z).elim, st, saF⟩
  · unfold L2.start
    rw [List.length_append, List.length_append, List.length_map, List.length_map, List.length_replicate, List.length_replicate]
    omega
  · have q2 := key i s q
    obtain ⟨v, h1, h2⟩ := ha.at q2
    have hi : i < vs.length := (List.getElem?_eq_some_iff.mp h1).1
    refine ⟨v, ?_, ?_⟩
    · unfold L2.start
      rw [List.getElem?_append_left (by simpa using hi), List.getElem?_map, h1]
      rfl
    · cases s with
      | d x => exact h2
      | st => exact h2
      | ol _ => exact h2.elim
      | od _ => exact h2.elim
theorem ret_new {w : World} {K : PySem.W.Frag} {F H F' H' : Hp} {sa sa' : SA} {σ' : L2.St} {env' : Env} {ds' : Option DS} {v : V} {r : Rv} (e : EnvOk w K ⟨F, H⟩ F' H' sa' σ' env' ds') (sr : SaR ⟨F, H⟩ sa sa') (h : RetOk w K ⟨F, H⟩ F' H' sa' v r) :
    Out F H sa F' H' sa' ∧ RetNew w K F H F' H' sa' v r := by
  refine ⟨⟨e.ext, e.sub, fun b o hb n => e.keep b o hb ?_, fun b hb => e.new b hb, sr, e.saF⟩, ?_⟩
  · rcases sr with z | ⟨_, z⟩
    · rw [z]; exact n
    · intro q
      have hb : H b = some o := hb
      have z2 : H b = none := z b q
      rw [z2] at hb; cases hb
  · cases r with
    | d x => exact h
    | ow i => exact h
    | fl xs =>
      obtain ⟨a, ea, l, m⟩ := h
      exact ⟨a, ea, l, m.h, m.f, m.s⟩
    | fd xs =>
      obtain ⟨a, ea, l, m⟩ := h
      exact ⟨a, ea, l, m.h, m.f, m.s⟩
    | st => exact h
/-- the reading of a def's body at its entry -/
theorem tS_body {w : World} {K : PySem.W.Frag} {N : List Str} {np nl : Nat} {m : M Oc} {vs : List V} {H : Hp} {Q : VK} (hN : N.length = nl) (hp : np ≤ nl) (h : spF w K (runD np nl m) vs H Q) : tS w K m { nx := fun _ H' => Q .non H', rt := Q } (L2.start N vs) H := by
  obtain ⟨F, sa, as, ds, r, ds', hF, ha, st, saF, hf, q⟩ := h
  unfold runD at hf
  by_cases hl : as.length = np
  · rw [if_pos hl] at hf
    have eo := env_start (N := N) hF ha st saF hl (by omega)
    rw [hN] at eo
    cases e : m (as.map some ++ List.replicate (nl - np) none, ds) with
    | none => rw [e] at hf; cases hf
    | some p =>
      obtain ⟨oc, env', d'⟩ := p
      rw [e] at hf
      cases oc with
      | bk => cases hf
      | ct => cases hf
      | nx =>
        cases hf
        refine ⟨⟨F, H⟩, F, sa, _, ds, _, _, _, eo, e, fun F' H' sa' σ' e' ff sr => ?_⟩
        obtain ⟨o, rn⟩ := ret_new (r := .d .none) (v := .non) e' sr .non
        exact q F' H' sa' .non o e'.st rn
      | rt r =>
        cases hf
        refine ⟨⟨F, H⟩, F, sa, _, ds, _, _, _, eo, e, fun F' H' sa' σ' e' ff sr v hr => ?_⟩
        obtain ⟨o, rn⟩ := ret_new e' sr hr
        exact q F' H' sa' v o e'.st rn
  · rw [if_neg hl] at hf; cases hf
section
variable {P : Program} {w : World} {K : PySem.W.Frag} {mg : Str → Option Value} {base : Heap} {x qual : Str} {params : Arguments} {body : List Stmt} {scope : Scope} {dvs : List V} {kws : List (Str × V)} {f : Addr} {fd : FuncData}
/-- the context of a body -/
abbrev bX (P : Program) (w : World) (K : PySem.W.Frag) (mg : Str → Option Value) (base : Heap) (N : List Str) (qual : Str) (scope : Scope) (f : Addr) (cdv : Value) (A : Around) (out : List PySem.Env) (s : Shared) (H : Hp) : Cx :=
  (cxOf CX0 P w K mg base N qual scope f cdv A out s H E0).nox
/-- THE RULE: a def by its body -/
theorem fn_g {N ps : List Str} {k np nl : Nat} {m : M Oc} (F : FunD K x qual params body scope dvs kws f fd) (S : FnScope N ps scope) (hN : N.length = nl) (hp : ps.length = np)
    (hb : ∀ (cdv : Value) (A : Around) (out : List PySem.Env) (s : Shared) (H : Hp), Room k (A.deeper (envOfC qual scope s.heap.objs.size f cdv)) → A.guards = some [] → SB (bX P w K mg base N qual scope f cdv A out s H) body m) :
    FnG P w K mg base (k + 1) f fd ps (spF w K (runD np nl m)) := by
  have hpl : np ≤ nl := by
    have h := congrArg List.length S.pre
    rw [List.length_take, hN, hp] at h
    omega
  have hlen : ∀ (vs : List V) (H : Hp) (Q : VK), spF w K (runD np nl m) vs H Q → vs.length = ps.length := fun vs H Q h => by
    obtain ⟨F, sa, as, ds, r, ds', hF, ha, st, saF, hf, q⟩ := h
    unfold runD at hf
    by_cases hl : as.length = np
    · rw [ha.len, hl, hp]
    · rw [if_neg hl] at hf; cases hf
  obtain ⟨oc, od, dV, kV, doc, pm, an, cdv, ct, osl, hfd, lk, hcd, _, _⟩ := F.ex
  subst hfd
  refine ⟨hlen, fun A out s H args us vs Q hr hgd e0 hbind rv hsp => ?_⟩
  have inK : K.In s.heap := e0.mod.kin.keeps fun b o e => (e0.bs b o e).1
  have lim : s.heap.NoLimit := e0.mod.nolimit.keeps fun b o e => (e0.bs b o e).1
  have kinds : ∀ y ∈ ps.zip us, scope.names.lookup y.1 = some .local ∨ (scope.names.lookup y.1 = some .cell ∧ ((cellsFrom (s.heap.objs.size + 1) scope.names []).lookup y.1).isSome = true) := fun y hy => by
    obtain ⟨n, v⟩ := y
    rcases S.par n (List.of_mem_zip hy).1 with q | q
    · exact .inl q
    · exact .inr ⟨q, PySem.W.cellsFrom_some _ _ _ (.inl q)⟩
  refine codeAny_call_function hr.depth (inK _ _ lk) rfl S.co S.gen rfl (PySem.W.codeRec_of inK hcd) (hbind _ _ _ _ ?_)
  refine wpAny_newFunctionEnv_cells S.kind kinds fun env1 he s1 xc => ?_
  subst he
  refine ⟨lim.keeps xc.toInCall.keep, codeAny_func ?_⟩
  have I := inv_start (CX := CX0) (E := E0) S hr.hd e0 (hlen _ _ _ hsp) rv xc
  refine wpAny_mono ((hb cdv A out s H (hr.deeper _) hgd).run [] s1 _ H _ (I.wish _) (tS_body hN hpl hsp)) (fun fl s' hs => ?_) fun _ _ z => False.elim z
  have done : ∀ {σ' : L2.St} {H' : Hp} {v : V} {u : Value}, Inv (bX P w K mg base N qual scope f cdv A out s H) [] σ' H' s' → RelV v u → Q v H' → CE out P w H s Q u s' :=
    fun {σ' H' v u} J r q => ⟨v, H', J.os, J.bare, J.base, J.hok, r, q⟩
  cases fl with
  | ret u =>
    obtain ⟨v, σ', H', J, r, q⟩ := hs
    exact done J r q
  | next =>
    obtain ⟨σ', H', J, q⟩ := hs
    exact done (v := V.non) (u := Value.none) J rfl q
  | brk =>
    obtain ⟨_, _, _, q⟩ := hs
    exact False.elim q
  | cont =>
    obtain ⟨_, _, _, q⟩ := hs
    exact False.elim q
end
end Fw
end TFwN
section TFwO
namespace Fw
open PySem PySem.Spec PyProof.Rows L2
inductive Pks (w : World) (K : PySem.W.Frag) (F H : Hp) : List V → List D → Prop
  | nil : Pks w K F H [] []
  | cons {v : V} {d : D} {vs : List V} {ds : List D} : Pk w K F H v d → Pks w K F H vs ds → Pks w K F H (v :: vs) (d :: ds)
/-- what a built-in leaves: nothing changes but new objects -/
structure Out0 (F H F' H' : Hp) : Prop where
  ff : Same F F'
  sub : Same F' H'
  fr : Same H H'
  fn : ∀ b, F' b ≠ none → F b ≠ none ∨ H b = none
def RetNew0 (w : World) (K : PySem.W.Frag) (F H F' H' : Hp) (v : V) : Rv → Prop
  | .d x => Rp w K F' v x
  | .fl xs => ∃ a, v = .ref a ∧ LstO w K F' H' a xs ∧ H a = none ∧ F' a = none
  | .fd kvs => ∃ a, v = .ref a ∧ DctO w K F' H' a kvs ∧ H a = none ∧ F' a = none
  | _ => False
def rB (w : World) (K : PySem.W.Frag) (b : List D → Option Rv) : List V → Hp → VK → Prop := fun vs H Q => ∃ F ds rv, Same F H ∧ Pks w K F H vs ds ∧ b ds = some rv ∧ ∀ F' H' v, Out0 F H F' H' → RetNew0 w K F H F' H' v rv → Q v H'
def biM (b : List D → Option Rv) (ms : M (List Rv)) : M Rv := do
  let rs ← ms
  let e ← getE
  let ds ← lift (peekAll e rs)
  lift (b ds)
section
variable {w : World} {K : PySem.W.Frag} {g : Gh} {F H F' H' : Hp} {sa sa' : SA} {σ : L2.St} {env : Env} {ds ds' : Option DS} {a p : Addr} {v u : V}
theorem Out0.out (o : Out0 F H F' H') (e : EnvOk w K g F H sa σ env ds) : Out F H sa F' H' sa :=
  ⟨o.ff, o.sub, fun b x h _ => o.fr b x h, o.fn, .inl rfl, fun b hb => by
    cases q : F' b with
    | none => rfl
    | some y =>
      rcases o.fn b (by rw [q]; simp) with z | z
      · exact absurd (e.saF b hb) z
      · exact absurd hb (e.noSa z)⟩
theorem Out0.refl (h : Same F H) : Out0 F H F H := ⟨Same.refl F, h, Same.refl H, fun _ h => .inl h⟩
theorem Out0.new (h : Same F H) (hp : H p = none) (o : HO) : Out0 F H F (upd H p o) := ⟨Same.refl F, fun b x q => by
  have q2 := h b x q
  rw [upd_ne (ne_of_none q2 hp)]; exact q2, same_upd' hp, fun _ h => .inl h⟩
theorem noF_of (h : Same F H) (hp : H p = none) : F p = none := by
  cases e : F p with
  | none => rfl
  | some o => rw [h p o e] at hp; cases hp
theorem Out0.newF (h : Same F H) (hp : H p = none) (o : HO) : Out0 F H (upd F p o) (upd H p o) := ⟨same_upd' (noF_of h hp), fun b x q => by
  by_cases hb : b = p
  · subst hb; rw [upd_same] at q ⊢; exact q
  · rw [upd_ne hb] at q ⊢; exact h b x q, same_upd' hp, fun b q => by
  by_cases hb : b = p
  · subst hb; exact .inr hp
  · rw [upd_ne hb] at q; exact .inl q⟩
/-- a new list -/
theorem new0_fl {vs : List V} {xs : List D} (h : Same F H) (hp : H p = none) (r : RpA w K F vs xs) : RetNew0 w K F H F (upd H p (.lst vs)) (.ref p) (.fl xs) := ⟨p, rfl, ⟨vs, upd_same, r⟩, hp, noF_of h hp⟩
theorem new0_tup {vs : List V} {xs : List D} {o : Obj} (hd : o.dict = none) (h : Same F H) (hp : H p = none) (r : RpA w K F vs xs) : RetNew0 w K F H (upd F p (.frz o (.tup vs))) (upd H p (.frz o (.tup vs))) (.ref p) (.d (.tuple xs)) :=
  .tup (.new upd_same hd) (r.mono (same_upd' (noF_of h hp)))
theorem new0_fd {es : DE} {xs : List Ent} {kvs : List (D × D)} (h : Same F H) (hp : H p = none) (h1 : es.toList = xs.map (entD w)) (h2 : (xs.map (·.1)).Nodup) (r : RpX w K F xs kvs) : RetNew0 w K F H F (upd H p (dictO p es)) (.ref p) (.fd kvs) :=
  ⟨p, rfl, ⟨es, xs, upd_same, h1, h2, r⟩, hp, noF_of h hp⟩
theorem RetNew0.rv (e : EnvOk w K g F H sa σ env ds) (o : Out0 F H F' H') {r : Rv} (h : RetNew0 w K F H F' H' v r) : RetNew w K F H F' H' sa v r := by
  cases r with
  | d x => exact h
  | ow i => exact h.elim
  | fl xs =>
    obtain ⟨a, ea, l, h1, h2⟩ := h
    exact ⟨a, ea, l, h1, h2, e.noSa h1⟩
  | fd xs =>
    obtain ⟨a, ea, l, h1, h2⟩ := h
    exact ⟨a, ea, l, h1, h2, e.noSa h1⟩
  | st => exact h.elim
theorem RvsOk.peek (e : EnvOk w K g F H sa σ env ds) : ∀ {vs : List V} {rs : List Rv} {xs : List D}, RvsOk w K g F H sa σ env vs rs → peekAll env rs = some xs → Pks w K F H vs xs
  | _, _, xs, .nil, h => by cases h; exact .nil
  | _, _, xs, .cons (r := r) (rs := rs) h1 h2, h => by
    unfold peekAll at h
    cases q1 : Fw.peek env r with
    | none => rw [q1] at h; cases h
    | some d =>
      cases q2 : peekAll env rs with
      | none => rw [q1, q2] at h; cases h
      | some ds =>
        rw [q1, q2] at h
        cases h
        exact .cons (h1.peek e q1) (RvsOk.peek e h2 q2)
theorem bi_ok {b : List D → Option Rv} {ms : M (List Rv)} {Q : VK} (h : tE w K (biM b ms) σ H Q) : tCB (rB w K b) (tR w K ms) σ H Q := by
  obtain ⟨g, F, sa, env, ds, rv, env', ds', e, hm, q⟩ := h
  obtain ⟨rs, ⟨e1, d1⟩, h1, hm⟩ := bindM hm
  obtain ⟨ee, c2, h2, hm⟩ := bindM hm
  obtain ⟨xs, c3, h3, hm⟩ := bindM hm
  cases h2
  obtain ⟨h4, h5⟩ := liftM h3
  subst h5
  obtain ⟨h6, h7⟩ := liftM hm
  obtain ⟨rfl, rfl⟩ := Prod.mk.inj h7
  refine ⟨g, F, sa, env, ds, rs, e1, d1, e, h1, fun F1 H1 sa1 vs eo s hv => ?_⟩
  refine ⟨F1, xs, rv, eo.sub, hv.peek eo h4, h6, fun F2 H2 v o r => ?_⟩
  have o2 := o.out eo
  have st2 : StOk F2 H2 sa1 d1 := eo.st.at o.ff fun b x _ q => o.fr b x q
  obtain ⟨r1, r2⟩ := (r.rv eo o).rv eo
  refine q F2 H2 sa1 v (eo.after o2 st2) (s.trans (o2.step eo.st st2)) r1 ?_
  cases rv with
  | d x => trivial
  | ow i => trivial
  | st => trivial
  | fl xs => exact fun q z => s.dom q (r2 q z)
  | fd xs => exact fun q z => s.dom q (r2 q z)
end
section
variable {X : Cx} {b : List D → Option Rv} {ms : M (List Rv)} {id T : String} {x : Str} {p pos : Pos} {e : Expr} {es : List Expr}
theorem se_biB (hc : CallR X (.builtin id) (rB X.w X.K b)) (hg : Gl X x) (hm : X.mg x = none) (hv : bootBuiltins x = some (.builtin id)) (ha : SR X (e :: es) ms) (hn : x ≠ "__name__") (hdb : (x == ("__debug__" : Str)) = false)
    (he : starEach (e :: es) X.env = (false, eval e X.env) :: starEach es X.env) (hpl : (backTo pos (starEach es X.env)).any (·.1) = false) : SE X (.Call (.Name x p) (e :: es) [] pos) (biM b ms) :=
  pe_imp (pe_callB hc hg hm hv ha hn hdb he hpl) fun _ _ _ h => bi_ok h
theorem se_biT (hc : CallR X (.type T) (rB X.w X.K b)) (hg : Gl X x) (hm : X.mg x = none) (hv : bootBuiltins x = some (.type T)) (ha : SR X (e :: es) ms) (hn : x ≠ "__name__") (hdb : (x == ("__debug__" : Str)) = false)
    (he : starEach (e :: es) X.env = (false, eval e X.env) :: starEach es X.env) (hpl : (backTo pos (starEach es X.env)).any (·.1) = false) : SE X (.Call (.Name x p) (e :: es) [] pos) (biM b ms) :=
  pe_imp (pe_callTy hc hg hm hv ha hn hdb he hpl) fun _ _ _ h => bi_ok h
theorem se_biG (hc : CallR X (.builtin id) (rB X.w X.K b)) (hg : Gl X x) (hm : X.mg x = some (.builtin id)) (ha : SR X (e :: es) ms) (hdb : (x == ("__debug__" : Str)) = false)
    (he : starEach (e :: es) X.env = (false, eval e X.env) :: starEach es X.env) (hpl : (backTo pos (starEach es X.env)).any (·.1) = false) : SE X (.Call (.Name x p) (e :: es) [] pos) (biM b ms) :=
  pe_imp (pe_callBfun hc hg hm ha hdb he hpl) fun _ _ _ h => bi_ok h
end
section
variable {w : World} {K : PySem.W.Frag} {F H : Hp} {vs : List V}
theorem pks1 {d : D} (h : Pks w K F H vs [d]) : ∃ v, vs = [v] ∧ Pk w K F H v d := by
  cases h with
  | cons h1 h2 => cases h2; exact ⟨_, rfl, h1⟩
theorem pks2 {d e : D} (h : Pks w K F H vs [d, e]) : ∃ v u, vs = [v, u] ∧ Pk w K F H v d ∧ Pk w K F H u e := by
  cases h with
  | cons h1 h2 =>
    obtain ⟨u, rfl, h3⟩ := pks1 h2
    exact ⟨_, u, rfl, h1, h3⟩
end
section
variable {X : Cx}
theorem dct_raw {pins : List (Addr × Obj)} {σ : L2.St} {H : Hp} {s : Shared} {a : Addr} {es : DE} (I : Inv X pins σ H s) (h : H a = some (dictO a es)) : (a == sysModules) = false ∧ es.size ≤ sizeLine ∧ s.heap.DictRaw a es.arr es.ep := by
  obtain ⟨⟨h1, h2, o, h3⟩, _⟩ := I.hok a _ h
  exact ⟨h1, h2, o, h3⟩
theorem RpX.len {w : World} {K : PySem.W.Frag} {F : Hp} : ∀ {xs : List Ent} {kvs : List (D × D)}, RpX w K F xs kvs → xs.length = kvs.length
  | _, _, .nil => rfl
  | _, _, .cons _ _ _ _ _ r => congrArg (· + 1) (RpX.len r)
theorem ents_len {w : World} {es : Array DictEntry} {xs : List Ent} (h : es.toList = xs.map (entD w)) : es.size = xs.length := by
  have := congrArg List.length h
  rwa [List.length_map, Array.length_toList] at this
theorem cb_len : CallR X (.builtin "len") (rB X.w X.K (biD .len)) := by
  intro pins s σ H xs us Q I r h
  obtain ⟨F, ds, rv, hF, pk0, hb, k⟩ := h
  have fin : ∀ n : Nat, rv = .d (.int (n : Int)) → Q (.int (n : Int)) H := fun n e => k F H _ (Out0.refl hF) (by rw [e]; exact .int _)
  cases ds with
  | nil => cases hb
  | cons d dr =>
    cases dr with
    | cons _ _ => cases d <;> cases hb
    | nil =>
      obtain ⟨v, rfl, pk⟩ := pks1 pk0
      cases d with
      | list xs =>
        cases hb
        obtain ⟨a, vs, rfl, h1, h2⟩ := pk.list hF
        exact call_len_seq pins s σ H _ us Q I r ⟨a, vs, rfl, .inl h1.sql, by rw [h2.length]; exact fin _ rfl⟩
      | tuple xs =>
        cases hb
        obtain ⟨a, vs, rfl, h1, h2, _⟩ := pk.tuple hF
        exact call_len_seq pins s σ H _ us Q I r ⟨a, vs, rfl, .inr h1, by rw [h2.length]; exact fin _ rfl⟩
      | dict kvs =>
        cases hb
        obtain ⟨a, es, ys, rfl, h1, h2, h3, h4⟩ := pk.dict hF
        obtain ⟨u, rfl, rx⟩ := vals1 r
        cases rx
        obtain ⟨m1, m2, m3⟩ := dct_at I hF h1 h2 h3 h4
        have s63 : (sizeLine : Int) < 2 ^ 63 := by decide
        refine call_len_dictH m1 m3 (by omega) ⟨.int (ys.length : Int), H, I.tok _, ⟨_, rfl⟩, ?_⟩
        rw [h4.len]
        exact fin _ rfl
      | str x =>
        have hb : (if x.length ≤ sizeLine then some (Rv.d (.int x.length)) else none) = some rv := hb
        by_cases c : x.length ≤ sizeLine
        · rw [if_pos c] at hb
          cases hb
          obtain rfl := pk.str
          exact call_len_str pins s σ H _ us Q I r ⟨x, rfl, c, fin _ rfl⟩
        · rw [if_neg c] at hb; cases hb
      | none => cases hb
      | bool _ => cases hb
      | int _ => cases hb
/-- a dict's keys as values -/
theorem key_vals {w : World} {K : PySem.W.Frag} {F : Hp} : ∀ {xs : List Ent} {kvs : List (D × D)}, RpX w K F xs kvs → RpA w K F (xs.map fun x => V.ref x.2.1) (kvs.map (·.1)) ∧ Vals (xs.map fun x => V.ref x.2.1) (xs.map fun x => Value.ref x.2.1)
  | _, _, .nil => ⟨.nil, .nil⟩
  | _, _, .cons h1 h2 h3 h4 h5 r => by
    obtain ⟨i1, i2⟩ := key_vals r
    exact ⟨.cons h3 i1, .cons rfl i2⟩
theorem items_keys {es : Array DictEntry} {xs : List Ent} {w : World} {acc : Array Value} (he : es.toList = xs.map (entD w)) (h : ItemsOf (fun i v => ∃ hi : i < es.size, v = es[i].key) acc es.size) : acc.toList = xs.map fun x => Value.ref x.2.1 := by
  refine List.ext_getElem? fun i => ?_
  have sz := ents_len he
  by_cases hi : i < es.size
  · have h1 : acc.size = es.size := h.1
    have h2 := h.2 i acc[i] (by rw [Array.getElem?_eq_getElem (by omega)])
    obtain ⟨_, h2⟩ := h2
    rw [Array.getElem?_toList, Array.getElem?_eq_getElem (by omega), h2, List.getElem?_map]
    have h3 : es.toList[i]? = (xs.map (entD w))[i]? := by rw [he]
    rw [Array.getElem?_toList, Array.getElem?_eq_getElem hi, List.getElem?_map] at h3
    cases q : xs[i]? with
    | none => rw [q] at h3; cases h3
    | some y =>
      rw [q] at h3
      have h4 : es[i] = entD w y := Option.some.inj h3
      rw [h4]
      rfl
  · rw [Array.getElem?_toList, Array.getElem?_eq_none (by rw [h.1]; omega), List.getElem?_eq_none (by rw [List.length_map]; omega)]
theorem cb_list (hcalm : X.calm = true) : CallR X (.type "list") (rB X.w X.K (biD .list)) := by
  intro pins s σ H xs us Q I r h
  obtain ⟨F, ds, rv, hF, pk0, hb, k⟩ := h
  cases ds with
  | nil => cases hb
  | cons d dr =>
    cases dr with
    | cons _ _ => cases d <;> cases hb
    | nil =>
      obtain ⟨v, rfl, pk⟩ := pks1 pk0
      have hb : (match seqD d with
        | some xs => some (Rv.fl xs)
        | none => none) = some rv := hb
      cases d with
      | list xs =>
        cases hb
        obtain ⟨a, vs, rfl, h1, h2⟩ := pk.list hF
        exact call_list_of pins s σ H _ us Q I r ⟨a, vs, rfl, .inl h1.sql, fun l hl => k F _ _ (Out0.new hF hl _) (new0_fl hF hl h2)⟩
      | tuple xs =>
        cases hb
        obtain ⟨a, vs, rfl, h1, h2, _⟩ := pk.tuple hF
        exact call_list_of pins s σ H _ us Q I r ⟨a, vs, rfl, .inr h1, fun l hl => k F _ _ (Out0.new hF hl _) (new0_fl hF hl h2)⟩
      | dict kvs =>
        cases hb
        obtain ⟨a, es, ys, rfl, h1, h2, h3, h4⟩ := pk.dict hF
        obtain ⟨u, rfl, rx⟩ := vals1 r
        cases rx
        obtain ⟨m1, m2, m3⟩ := dct_raw I h1
        obtain ⟨k1, k2⟩ := key_vals h4
        refine PySem.W.kdl_call (PySem.KdlSrc.rawDict m1) (I.ok.hd hcalm) m3 m2 fun h' tk acc c' hk hD hacc => ?_
        have ea := items_keys h2 hacc
        have hl := I.hok.fresh (Nat.le_refl s.heap.objs.size)
        refine ⟨.ref s.heap.objs.size, upd H s.heap.objs.size (.lst (ys.map fun x => V.ref x.2.1)), I.laid (t' := tk) hk (Nat.le_refl _) ?_, rfl, k F _ _ (Out0.new hF hl _) (new0_fl hF hl k1)⟩
        exact ⟨by rw [List.length_map, ← ents_len h2]; exact m2, acc.toList, c', by rw [ea]; exact k2, by rw [Array.toArray_toList]; exact hD⟩
      | none => cases hb
      | bool _ => cases hb
      | int _ => cases hb
      | str _ => cases hb
/-- tuple(x): a new tuple is told with its object -/
theorem call_tupD : CallR X (.type "tuple") (fun xs H Q => ∃ p ys, xs = [.ref p] ∧ ((SqL X.K H p ys ∧ ∀ l (o : Obj), o.dict = none → H l = none → Q (.ref l) (upd H l (.frz o (.tup ys)))) ∨ (SqT X.K H p ys ∧ Q (.ref p) H))) := by
  intro pins s σ H xs us Q I r h
  obtain ⟨p, ys, rfl, h⟩ := h
  obtain ⟨u, rfl, rx⟩ := vals1 r
  cases rx
  rcases h with ⟨hq, q⟩ | ⟨hq, q⟩
  · obtain ⟨its, rv, pl, hz⟩ := I.list hq
    have lx := rv.length
    refine call_tuple_list pl.isList (fun h' kp => ?_) (by simp only [List.size_toArray]; omega)
    have I1 : Inv X pins σ H { s with heap := h' } := I.kept (t' := s.toks) kp
    have hp : H h'.objs.size = none := I1.hok.fresh (Nat.le_refl _)
    refine ⟨.ref h'.objs.size, _, I1.laid (t' := s.toks) (o := .frz _ (.tup ys)) (fun b o e => Heap.get?_push_of_some _ e) (Nat.le_refl _) ?_, rfl, q _ { cls := .type "tuple", data := .seq its.toArray } rfl hp⟩
    exact ⟨Heap.get?_push_size _ rfl, hz, its, rv, IsTup.new _ _⟩
  · obtain ⟨its, rv, pl, hz⟩ := I.tuple hq
    exact call_tuple_same pl ⟨.ref p, H, I, rfl, q⟩
theorem cb_tuple : CallR X (.type "tuple") (rB X.w X.K (biD .tuple)) := by
  intro pins s σ H xs us Q I r h
  obtain ⟨F, ds, rv, hF, pk0, hb, k⟩ := h
  cases ds with
  | nil => cases hb
  | cons d dr =>
    cases dr with
    | cons _ _ => cases d <;> cases hb
    | nil =>
      obtain ⟨v, rfl, pk⟩ := pks1 pk0
      cases d with
      | list xs =>
        cases hb
        obtain ⟨a, vs, rfl, h1, h2⟩ := pk.list hF
        exact call_tupD pins s σ H _ us Q I r ⟨a, vs, rfl, .inl ⟨h1.sql, fun l o ho hl => k _ _ _ (Out0.newF hF hl _) (new0_tup ho hF hl h2)⟩⟩
      | tuple xs =>
        cases hb
        obtain ⟨a, vs, rfl, h1, h2, h3⟩ := pk.tuple hF
        exact call_tupD pins s σ H _ us Q I r ⟨a, vs, rfl, .inr ⟨h1, k F H _ (Out0.refl hF) (.tup h3 h2)⟩⟩
      | none => cases hb
      | bool _ => cases hb
      | int _ => cases hb
      | str _ => cases hb
      | dict _ => cases hb
theorem ints_vals {w : World} {K : PySem.W.Frag} {F : Hp} {vs : List V} {xs : List D} {is : List Int} (h : RpA w K F vs xs) (e : intsD xs = some is) : vs = is.map V.int := by
  rw [intsD_eq e] at h
  exact h.ofInts
theorem cb_sum (hcalm : X.calm = true) : CallR X (.builtin "sum") (rB X.w X.K (biD .sum)) := by
  intro pins s σ H xs us Q I r h
  obtain ⟨F, ds, rv, hF, pk0, hb, k⟩ := h
  cases ds with
  | nil => cases hb
  | cons d dr =>
    cases dr with
    | cons _ _ => cases d <;> cases hb
    | nil =>
      obtain ⟨v, rfl, pk⟩ := pks1 pk0
      cases d with
      | list xs =>
        have hb : (match intsD xs with
          | some is => some (Rv.d (.int is.sum))
          | none => none) = some rv := hb
        cases e : intsD xs with
        | none => rw [e] at hb; cases hb
        | some is =>
          rw [e] at hb
          cases hb
          obtain ⟨a, vs, rfl, h1, h2⟩ := pk.list hF
          have ev := ints_vals h2 e
          subst ev
          exact cr_sum hcalm pins s σ H _ us Q I r ⟨a, is, rfl, h1.sql, k F H _ (Out0.refl hF) (.int _)⟩
      | tuple xs =>
        have hb : (match intsD xs with
          | some is => some (Rv.d (.int is.sum))
          | none => none) = some rv := hb
        cases e : intsD xs with
        | none => rw [e] at hb; cases hb
        | some is =>
          rw [e] at hb
          cases hb
          obtain ⟨a, vs, rfl, h1, h2, _⟩ := pk.tuple hF
          have ev := ints_vals h2 e
          subst ev
          obtain ⟨u, rfl, rx⟩ := vals1 r
          cases rx
          obtain ⟨its, rv, ht, _⟩ := I.tuple h1
          obtain ⟨ys, ey⟩ := rv.ints.allInts.items
          have hn : numsOf (intItems ys).toList = is := by rw [← ey]; exact rv.ints.numsOf
          rw [nums_intItems] at hn
          have ht2 : s.heap.IsTuple a its.toArray := ht
          rw [ey] at ht2
          refine PySem.W.ktm_sumG (I.ok.hd hcalm) ht2 fun h' tk t' hk => ?_
          rw [preSum_eq, List.take_of_length_le (by simp), hn]
          exact ⟨.int is.sum, H, I.kept hk, ⟨_, rfl⟩, k F H _ (Out0.refl hF) (.int _)⟩
      | none => cases hb
      | bool _ => cases hb
      | int _ => cases hb
      | str _ => cases hb
      | dict _ => cases hb
theorem cb_min2 (hcalm : X.calm = true) : CallR X (.builtin "min") (rB X.w X.K fun ds => match ds with
    | [.int i, .int j] => some (.d (.int (if j < i then j else i)))
    | _ => none) := by
  intro pins s σ H xs us Q I r h
  obtain ⟨F, ds, rv, hF, pk0, hb, k⟩ := h
  dsimp only at hb
  split at hb
  · rename_i i j
    cases hb
    obtain ⟨v, u, rfl, p1, p2⟩ := pks2 pk0
    obtain rfl := p1.int
    obtain rfl := p2.int
    exact call_min2 hcalm pins s σ H _ us Q I r ⟨i, j, rfl, k F H _ (Out0.refl hF) (.int _)⟩
  · cases hb
theorem cb_max2 (hcalm : X.calm = true) : CallR X (.builtin "max") (rB X.w X.K fun ds => match ds with
    | [.int i, .int j] => some (.d (.int (if j > i then j else i)))
    | _ => none) := by
  intro pins s σ H xs us Q I r h
  obtain ⟨F, ds, rv, hF, pk0, hb, k⟩ := h
  dsimp only at hb
  split at hb
  · rename_i i j
    cases hb
    obtain ⟨v, u, rfl, p1, p2⟩ := pks2 pk0
    obtain rfl := p1.int
    obtain rfl := p2.int
    exact call_max2 hcalm pins s σ H _ us Q I r ⟨i, j, rfl, k F H _ (Out0.refl hF) (.int _)⟩
  · cases hb
theorem cb_abs : CallR X (.builtin "abs") (rB X.w X.K (biD .abs)) := by
  intro pins s σ H xs us Q I r h
  obtain ⟨F, ds, rv, hF, pk0, hb, k⟩ := h
  cases ds with
  | nil => cases hb
  | cons d dr =>
    cases dr with
    | cons _ _ => cases d <;> cases hb
    | nil =>
      obtain ⟨v, rfl, pk⟩ := pks1 pk0
      cases d with
      | int i =>
        cases hb
        obtain rfl := pk.int
        exact call_abs pins s σ H _ us Q I r ⟨i, rfl, k F H _ (Out0.refl hF) (.int _)⟩
      | _ => cases hb
theorem cb_int : CallR X (.type "int") (rB X.w X.K (biD .int)) := by
  intro pins s σ H xs us Q I r h
  obtain ⟨F, ds, rv, hF, pk0, hb, k⟩ := h
  cases ds with
  | nil => cases hb
  | cons d dr =>
    cases dr with
    | cons _ _ => cases d <;> cases hb
    | nil =>
      obtain ⟨v, rfl, pk⟩ := pks1 pk0
      cases d with
      | int i =>
        cases hb
        obtain rfl := pk.int
        exact call_int1 pins s σ H _ us Q I r (.inl ⟨i, rfl, k F H _ (Out0.refl hF) (.int _)⟩)
      | bool i =>
        cases hb
        obtain rfl := pk.bool
        exact call_int1 pins s σ H _ us Q I r (.inr ⟨i, rfl, k F H _ (Out0.refl hF) (.int _)⟩)
      | _ => cases hb
theorem cb_gcd : CallR X (.builtin "math.gcd") (rB X.w X.K (biD .gcd)) := by
  intro pins s σ H xs us Q I r h
  obtain ⟨F, ds, rv, hF, pk0, hb, k⟩ := h
  cases ds with
  | nil => cases hb
  | cons d dr =>
    cases dr with
    | nil => cases d <;> cases hb
    | cons e er =>
      cases er with
      | cons _ _ => cases d <;> cases e <;> cases hb
      | nil =>
        cases d with
        | int i =>
          cases e with
          | int j =>
            cases hb
            obtain ⟨v, u, rfl, p1, p2⟩ := pks2 pk0
            obtain rfl := p1.int
            obtain rfl := p2.int
            exact cr_gcd pins s σ H _ us Q I r ⟨i, j, rfl, k F H _ (Out0.refl hF) (.int _)⟩
          | _ => cases hb
        | _ => cases hb
end
end Fw
end TFwO
section TFwP
namespace Fw
open PySem PySem.Spec PyProof.Rows L2
section
variable {X : Cx}
theorem fits_of {d : D} (h : fitsB d = true) : d.fits63 := by
  have s : (sizeLine : Int) < 2 ^ 63 := by decide
  cases d with
  | str x => have : x.length ≤ sizeLine := of_decide_eq_true h; show (x.length : Int) < 2 ^ 63; omega
  | list x => have : x.length ≤ sizeLine := of_decide_eq_true h; show (x.length : Int) < 2 ^ 63; omega
  | tuple x => have : x.length ≤ sizeLine := of_decide_eq_true h; show (x.length : Int) < 2 ^ 63; omega
  | none => trivial
  | bool _ => trivial
  | int _ => trivial
  | dict _ => trivial
/-- a list's items as data -/
theorem list_reads {pins : List (Addr × Obj)} {σ : L2.St} {H F : Hp} {s : Shared} {a : Addr} {vs : List V} {xs : List D} (I : Inv X pins σ H s) (hF : Same F H) (h1 : SqL X.K H a vs) (h2 : RpA X.w X.K F vs xs) (hp : PyData.plainAll xs = true) :
    ∃ (its : List Value) (as : List Addr), Vals vs its ∧ s.heap.IsList a its.toArray ∧ ReadsAll s.heap its xs as ∧ its.length = xs.length := by
  obtain ⟨its, rv, pl, _⟩ := I.list h1
  obtain ⟨as, hr⟩ := Rp.readsA I hF xs vs its hp h2 rv
  exact ⟨its, as, rv, pl.isList, hr, by rw [← rv.length, h2.length]⟩
theorem tup_reads {pins : List (Addr × Obj)} {σ : L2.St} {H F : Hp} {s : Shared} {a : Addr} {vs : List V} {xs : List D} (I : Inv X pins σ H s) (hF : Same F H) (h1 : SqT X.K H a vs) (h2 : RpA X.w X.K F vs xs) (hp : PyData.plainAll xs = true) :
    ∃ (its : List Value) (as : List Addr), Vals vs its ∧ s.heap.IsTuple a its.toArray ∧ ReadsAll s.heap its xs as ∧ its.length = xs.length := by
  obtain ⟨its, rv, pl, _⟩ := I.tuple h1
  obtain ⟨as, hr⟩ := Rp.readsA I hF xs vs its hp h2 rv
  exact ⟨its, as, rv, pl, hr, by rw [← rv.length, h2.length]⟩
theorem cb_any (hcalm : X.calm = true) : CallR X (.builtin "any") (rB X.w X.K (biD .any)) := by
  intro pins s σ H xs us Q I r h
  obtain ⟨F, ds, rv, hF, pk0, hb, k⟩ := h
  cases ds with
  | nil => cases hb
  | cons d dr =>
    cases dr with
    | cons _ _ => cases d <;> cases hb
    | nil =>
      obtain ⟨v, rfl, pk⟩ := pks1 pk0
      cases d with
      | list xs =>
        obtain ⟨c, hv⟩ := ite_some (show (if (PyData.plainAll xs && xs.all fitsB) = true then some (Rv.d (.bool (xs.any PyData.truthy))) else none) = some rv from hb)
        obtain ⟨c1, c2⟩ := and2 c
        subst hv
        obtain ⟨a, vs, rfl, h1, h2⟩ := pk.list hF
        obtain ⟨u, rfl, rx⟩ := vals1 r
        cases rx
        obtain ⟨its, as, _, hl, hr, _⟩ := list_reads I hF h1.sql h2 c1
        refine PySem.W.any_list_data (I.ok.hd hcalm) hl hr c1 (fun x hx => fits_of (List.all_eq_true.mp c2 x hx)) fun h' tk hk => ?_
        exact ⟨.bl _, H, I.kept hk, rfl, k F H _ (Out0.refl hF) (.bl _)⟩
      | tuple xs =>
        obtain ⟨c, hv⟩ := ite_some (show (if (PyData.plainAll xs && xs.all fitsB) = true then some (Rv.d (.bool (xs.any PyData.truthy))) else none) = some rv from hb)
        obtain ⟨c1, c2⟩ := and2 c
        subst hv
        obtain ⟨a, vs, rfl, h1, h2, _⟩ := pk.tuple hF
        obtain ⟨u, rfl, rx⟩ := vals1 r
        cases rx
        obtain ⟨its, as, _, hl, hr, _⟩ := tup_reads I hF h1 h2 c1
        refine PySem.W.any_tuple_data (I.ok.hd hcalm) hl hr c1 (fun x hx => fits_of (List.all_eq_true.mp c2 x hx)) fun h' tk hk => ?_
        exact ⟨.bl _, H, I.kept hk, rfl, k F H _ (Out0.refl hF) (.bl _)⟩
      | none => cases hb
      | bool _ => cases hb
      | int _ => cases hb
      | str _ => cases hb
      | dict _ => cases hb
theorem cb_all (hcalm : X.calm = true) : CallR X (.builtin "all") (rB X.w X.K (biD .all)) := by
  intro pins s σ H xs us Q I r h
  obtain ⟨F, ds, rv, hF, pk0, hb, k⟩ := h
  cases ds with
  | nil => cases hb
  | cons d dr =>
    cases dr with
    | cons _ _ => cases d <;> cases hb
    | nil =>
      obtain ⟨v, rfl, pk⟩ := pks1 pk0
      cases d with
      | list xs =>
        obtain ⟨c, hv⟩ := ite_some (show (if (PyData.plainAll xs && xs.all fitsB) = true then some (Rv.d (.bool (xs.all PyData.truthy))) else none) = some rv from hb)
        obtain ⟨c1, c2⟩ := and2 c
        subst hv
        obtain ⟨a, vs, rfl, h1, h2⟩ := pk.list hF
        obtain ⟨u, rfl, rx⟩ := vals1 r
        cases rx
        obtain ⟨its, as, _, hl, hr, _⟩ := list_reads I hF h1.sql h2 c1
        refine PySem.W.all_list_data (I.ok.hd hcalm) hl hr c1 (fun x hx => fits_of (List.all_eq_true.mp c2 x hx)) fun h' tk hk => ?_
        exact ⟨.bl _, H, I.kept hk, rfl, k F H _ (Out0.refl hF) (.bl _)⟩
      | tuple xs =>
        obtain ⟨c, hv⟩ := ite_some (show (if (PyData.plainAll xs && xs.all fitsB) = true then some (Rv.d (.bool (xs.all PyData.truthy))) else none) = some rv from hb)
        obtain ⟨c1, c2⟩ := and2 c
        subst hv
        obtain ⟨a, vs, rfl, h1, h2, _⟩ := pk.tuple hF
        obtain ⟨u, rfl, rx⟩ := vals1 r
        cases rx
        obtain ⟨its, as, _, hl, hr, _⟩ := tup_reads I hF h1 h2 c1
        refine PySem.W.all_tuple_data (I.ok.hd hcalm) hl hr c1 (fun x hx => fits_of (List.all_eq_true.mp c2 x hx)) fun h' tk hk => ?_
        exact ⟨.bl _, H, I.kept hk, rfl, k F H _ (Out0.refl hF) (.bl _)⟩
      | none => cases hb
      | bool _ => cases hb
      | int _ => cases hb
      | str _ => cases hb
      | dict _ => cases hb
open PySem.W in
theorem sorts_one {prog : Program} {w : World} {A : Around} {s : Shared} {vs : List Value} {ds : List PyData} (e : EachIs (fun v d => ∃ as, Reads s.heap v d as) vs ds) (hal : AllAlike ds) (hl : ds.length ≤ 1) (hn : ∀ d ∈ ds, d ≠ .none) (hu : ∀ d, d ∈ ds → A.units + d.depth < cLine) : SortsAt prog w A s (dataKind s.heap ds) vs := by
  refine ⟨fun v hv => ?_, general', ?_, fun h2 => ?_⟩
  · obtain ⟨d, hd, as, r⟩ := e.left v hv
    exact ⟨_, dataKind_some hal hd r⟩
  · intro E x y a b Q ha hb hq
    obtain ⟨d, as, hd, ra, rfl⟩ := dataKind_inv ha
    obtain ⟨d', as', hd', rb, rfl⟩ := dataKind_inv hb
    show wpAny _ _ (oneLt' false x y) _ _ _
    exact oneLt_alike (f := false) (fun z => nomatch z) ra rb (hal d hd d' hd') (hn d hd) (Nat.lt_of_le_of_lt (Nat.add_le_add_left (Nat.min_le_left _ _) _) (hu d hd)) hq
  · have h3 := e.length
    omega
open PySem.W in
theorem sortB_inv {xs : List D} (h : sortB xs = true) : AllAlike xs ∧ (∀ d ∈ xs, d.depth ≤ 50) ∧ (PySem.W.Sortable xs ∨ (xs.length ≤ 1 ∧ ∀ d ∈ xs, d ≠ .none)) ∧ PyData.plainAll xs = true ∧ xs.length ≤ sizeLine := by
  unfold sortB at h
  obtain ⟨h, h5⟩ := and2 h
  obtain ⟨h, h4⟩ := and2 h
  obtain ⟨h, h3⟩ := and2 h
  obtain ⟨h1, h2⟩ := and2 h
  refine ⟨fun d hd d' hd' => ?_, fun d hd => of_decide_eq_true (List.all_eq_true.mp h2 d hd), ?_, h4, of_decide_eq_true h5⟩
  · exact List.all_eq_true.mp (List.all_eq_true.mp h1 d hd) d' hd'
  · rw [Bool.or_eq_true, Bool.or_eq_true] at h3
    rcases h3 with (h3 | h3) | h3
    · refine .inl (.inl fun d hd => ?_)
      have := List.all_eq_true.mp h3 d hd
      cases d with
      | tuple ys => cases ys with
        | nil => cases this
        | cons y r => exact ⟨y, r, rfl⟩
      | _ => cases this
    · refine .inl (.inr fun d hd => ?_)
      have := List.all_eq_true.mp h3 d hd
      cases d with
      | none => cases this
      | tuple ys => cases this
      | bool _ => exact ⟨fun z => (nomatch z), fun _ z => (nomatch z)⟩
      | int _ => exact ⟨fun z => (nomatch z), fun _ z => (nomatch z)⟩
      | str _ => exact ⟨fun z => (nomatch z), fun _ z => (nomatch z)⟩
      | list _ => exact ⟨fun z => (nomatch z), fun _ z => (nomatch z)⟩
      | dict _ => exact ⟨fun z => (nomatch z), fun _ z => (nomatch z)⟩
    · obtain ⟨h6, h7⟩ := and2 h3
      refine .inr ⟨of_decide_eq_true h6, fun d hd => ?_⟩
      have := List.all_eq_true.mp h7 d hd
      rintro rfl
      cases this
theorem each_reads {h : Heap} : ∀ {vs : List Value} {ds : List D} {as : List Addr}, ReadsAll h vs ds as → PySem.W.EachIs (fun v d => ∃ as, Reads h v d as) vs ds
  | _, _, _, .nil => .nil
  | _, _, _, .cons h1 h2 => .cons ⟨_, h1⟩ (each_reads h2)
theorem each_rep {w : World} {K : PySem.W.Frag} {F : Hp} : ∀ {vs : List V} {us : List Value} {ds : List D}, Vals vs us → RpA w K F vs ds → PySem.W.EachIs (fun u d => ∃ v, RelV v u ∧ Rp w K F v d) us ds
  | _, _, _, .nil, .nil => .nil
  | _, _, _, .cons h1 h2, .cons r1 r2 => .cons ⟨_, h1, r1⟩ (each_rep h2 r2)
theorem of_each {w : World} {K : PySem.W.Frag} {F : Hp} : ∀ {us : List Value} {ds : List D}, PySem.W.EachIs (fun u d => ∃ v, RelV v u ∧ Rp w K F v d) us ds → ∃ vs, Vals vs us ∧ RpA w K F vs ds
  | _, _, .nil => ⟨[], .nil, .nil⟩
  | _, _, .cons h1 h2 => by
    obtain ⟨v, a, b⟩ := h1
    obtain ⟨vs, c, d⟩ := of_each h2
    exact ⟨v :: vs, .cons a c, .cons b d⟩
open PySem.W in
/-- what sorting needs in a later heap, and what it gives -/
theorem sort_core {A : Around} {pins : List (Addr × Obj)} {σ : L2.St} {H F : Hp} {s : Shared} {vs : List V} {its : List Value} {xs : List D} {h' : Heap} (rev : Bool) (I : Inv X pins σ H s) (hF : Same F H) (hv : Vals vs its) (h2 : RpA X.w X.K F vs xs) (hs : sortB xs = true) (hk : ∀ b o, s.heap.get? b = some o → h'.get? b = some o) (hu : A.units + 50 < cLine) :
    SortsAt X.prog X.w A { s with heap := h' } (dataKind h' xs) its ∧ ∃ out, Vals out (sortVals (dataKind h' xs) rev its its) ∧ RpA X.w X.K F out (xs.mergeSort (dataLe rev id)) ∧ its.length ≤ sizeLine := by
  obtain ⟨c1, c2, c3, c4, c5⟩ := sortB_inv hs
  obtain ⟨as, hr⟩ := Rp.readsA I hF xs vs its c4 h2 hv
  have er : EachIs (fun v d => ∃ as, Reads h' v d as) its xs := (each_reads hr).mono fun _ _ ⟨as, r⟩ => ⟨as, PyProof.Rows.Reads.keeps hk r⟩
  have hu2 : ∀ d, d ∈ xs → A.units + d.depth < cLine := fun d hd => by have := c2 d hd; omega
  refine ⟨?_, ?_⟩
  · rcases c3 with c3 | ⟨c6, c7⟩
    · exact SortsAt.data (s := { s with heap := h' }) er c1 c3 hu2
    · exact sorts_one (s := { s with heap := h' }) er c1 c6 c7 hu2
  · have z := sortVals_data (enc := id) (R := fun u d => ∃ v, RelV v u ∧ Rp X.w X.K F v d) rev (each_rep hv h2) er (by rw [List.map_id]; exact c1)
    rw [List.map_id] at z
    obtain ⟨out, h3, h4⟩ := of_each z
    exact ⟨out, h3, h4, by rw [← hv.length, h2.length]; exact c5⟩
theorem cb_sorted (hcalm : X.calm = true) (hu : X.A.units + 70 < cLine) : CallR X (.builtin "sorted") (rB X.w X.K (biD .sorted)) := by
  intro pins s σ H xs us Q I r h
  obtain ⟨F, ds, rv, hF, pk0, hb, k⟩ := h
  cases ds with
  | nil => cases hb
  | cons d dr =>
    cases dr with
    | cons _ _ => cases d <;> cases hb
    | nil =>
      obtain ⟨v, rfl, pk⟩ := pks1 pk0
      have hb : (match keysD d with
        | some xs => match sortD false xs with
          | some ys => some (Rv.fl ys)
          | none => none
        | none => none) = some rv := hb
      cases hq : keysD d with
      | none => rw [hq] at hb; cases hb
      | some xs =>
        rw [hq] at hb
        dsimp only at hb
        unfold sortD at hb
        rw [← PySem.W.msortQ_eq] at hb
        by_cases c : sortB xs = true
        · rw [if_pos c] at hb
          cases hb
          cases d with
          | list ys =>
            cases hq
            obtain ⟨a, vs, rfl, h1, h2⟩ := pk.list hF
            obtain ⟨u, rfl, rx⟩ := vals1 r
            cases rx
            obtain ⟨its, as, hv, hl, hr, hlen⟩ := list_reads I hF h1.sql h2 (sortB_inv c).2.2.2.1
            obtain ⟨S, out, o1, o2, o3⟩ := sort_core (A := X.A.in1.in1) (h' := PySem.W.sortingHeap (PySem.W.copyHeap s.heap its) (s.heap.objs.size + 1) its) false I hF hv h2 c (fun _ _ q => PySem.W.sorting_copy_old q) (by show X.A.units + 1 + 1 + 50 < cLine; omega)
            refine PySem.W.sorted_vals hl S o3 ?_
            obtain ⟨ep, hat⟩ := PyProof.Rows.sortedAll_at s.heap its (PySem.W.sortVals (PySem.W.dataKind (PySem.W.sortingHeap (PySem.W.copyHeap s.heap its) (s.heap.objs.size + 1) its) xs) false its its).toArray
            have hp := I.hok.fresh (Nat.le_succ s.heap.objs.size)
            refine ⟨.ref (s.heap.objs.size + 1), upd H (s.heap.objs.size + 1) (.lst out), I.laid (t' := s.toks) (fun b u q => PyProof.Rows.sortedAll_old q) (Nat.le_succ _) ?_, rfl, k F _ _ (Out0.new hF hp _) (new0_fl hF hp o2)⟩
            refine ⟨?_, _, ep, o1, hat⟩
            rw [o1.length, PySem.W.sortVals_length false rfl]
            exact o3
          | dict kvs =>
            cases hq
            obtain ⟨a, es, ys, rfl, h1, h2, h3, h4⟩ := pk.dict hF
            obtain ⟨u, rfl, rx⟩ := vals1 r
            cases rx
            obtain ⟨m1, m2, m3⟩ := dct_raw I h1
            obtain ⟨k1, k2⟩ := key_vals h4
            refine Calls.call_function_entry PyProof.Rows.kind_sorted PyProof.Rows.plain_sorted PyProof.Rows.entry_sorted (PyProof.Rows.args_sorted1 _) ?_
            unfold Builtin.«sorted»
            refine wpAny_bind (m := checkCount "sorted" 1 1 _) (wpAny_pure ?_)
            refine wpAny_bind (PySem.W.kdu_collect (A := X.A.in1) (PySem.KdlSrc.rawDict m1) (I.ok.hd hcalm) m3 m2 fun h' tk acc hk hacc => ?_)
            have ea := items_keys h2 hacc
            have I1 : Inv X pins σ H { s with heap := h', toks := tk } := I.kept hk
            have hv : Vals (ys.map fun x => V.ref x.2.1) acc.toList := by rw [ea]; exact k2
            have hsz : acc.toList.length ≤ sizeLine := by rw [ea, List.length_map, ← ents_len h2]; exact m2
            refine wpAny_bind (wpAny_newList ?_ hsz)
            have hoL : (h'.push (seqObj "list" acc.toList.toArray 0)).get? h'.objs.size = some (seqObj "list" acc.toList.toArray 0) := Heap.get?_push_size _ rfl
            show wpAny _ _ _ _ _ { s with heap := h'.push (seqObj "list" acc.toList.toArray 0), toks := tk }
            obtain ⟨S, out, o1, o2, o3⟩ := sort_core (A := X.A.in1.in1) (s := { s with heap := h', toks := tk }) (h' := PySem.W.sortingHeap (h'.push (seqObj "list" acc.toList.toArray 0)) h'.objs.size acc.toList) false I1 hF hv k1 c
              (fun b o q => PySem.W.sortingHeap_old (Nat.ne_of_lt (Heap.lt_size q)) (Heap.get?_push_of_some _ q)) (by show X.A.units + 1 + 1 + 50 < cLine; omega)
            refine wpAny_bind (wpAny_holding (wpAny_call_entry PyProof.Rows.slot_list_sort ⟨_, hoL, rfl⟩ PyProof.Rows.entry_list_sort
              (PySem.W.list_sort_vals (s := { s with heap := h'.push (seqObj "list" acc.toList.toArray 0), toks := tk }) hoL S o3 ⟨_, rfl, ?_⟩) (PyProof.Rows.args_list_sort _)))
            obtain ⟨e', he'⟩ := PyProof.Rows.sortedHeap_at (vs := acc.toList) (out := (PySem.W.sortVals (PySem.W.dataKind (PySem.W.sortingHeap (h'.push (seqObj "list" acc.toList.toArray 0)) h'.objs.size acc.toList) (kvs.map (·.1))) false acc.toList acc.toList).toArray) hoL
            have hp := I1.hok.fresh (Nat.le_refl h'.objs.size)
            refine wpAny_pure ⟨_, rfl, .ref h'.objs.size, upd H h'.objs.size (.lst out), I1.laid (t' := tk) (fun b u e => ?_) (Nat.le_refl _) ?_, rfl, k F _ _ (Out0.new hF hp _) (new0_fl hF hp o2)⟩
            · have hb : b < h'.objs.size := Heap.lt_size e
              rw [PyProof.Rows.sortedHeap_old (Nat.ne_of_lt hb) (by rw [size_push']; exact Nat.lt_succ_of_lt hb)]
              exact Heap.get?_push_of_some _ e
            · refine ⟨?_, _, e', o1, he'⟩
              rw [o1.length, PySem.W.sortVals_length false rfl]
              exact o3
          | tuple _ => cases hq
          | none => cases hq
          | bool _ => cases hq
          | int _ => cases hq
          | str _ => cases hq
        · rw [if_neg c] at hb; cases hb
end
end Fw
end TFwP
section TFwQ
namespace Fw
open PySem PySem.Spec PyProof.Rows L2
mutual
theorem no_dict : ∀ d : D, d.plain = true → d.hasDict = false
  | .none, _ => rfl
  | .bool _, _ => rfl
  | .int _, _ => rfl
  | .str _, _ => rfl
  | .list xs, h => no_dicts xs (by simpa [PyData.plain] using h)
  | .tuple xs, h => no_dicts xs (by simpa [PyData.plain] using h)
  | .dict _, h => nomatch h
theorem no_dicts : ∀ ds : List D, PyData.plainAll ds = true → PyData.hasDictAll ds = false
  | [], _ => rfl
  | d :: ds, h => by
    have h2 : d.plain = true ∧ PyData.plainAll ds = true := by simpa [PyData.plainAll] using h
    show (d.hasDict || PyData.hasDictAll ds) = false
    rw [no_dict d h2.1, no_dicts ds h2.2]
    rfl
end
section
variable {X : Cx}
theorem cb_sortedRev : CallRK X (.builtin "sorted") [Str.ofString "reverse"] (fun vs zs H Q => zs = [.bl true] ∧ X.A.units + 70 < cLine ∧ rB X.w X.K (biD .sortedRev) vs H Q) := by
  intro pins s σ H xs zs us ws Q I r rz h
  obtain ⟨rfl, hu, F, ds, rv, hF, pk0, hb, k⟩ := h
  obtain ⟨w1, rfl, e1⟩ := vals1 rz
  obtain rfl : w1 = Value.bool true := e1
  cases ds with
  | nil => cases hb
  | cons d dr =>
    cases dr with
    | cons _ _ => cases d <;> cases hb
    | nil =>
      obtain ⟨v, rfl, pk⟩ := pks1 pk0
      cases d with
      | list ys =>
        have hb : (match sortD true ys with
          | some ys => some (Rv.fl ys)
          | none => none) = some rv := hb
        unfold sortD at hb
        rw [← PySem.W.msortQ_eq] at hb
        by_cases c : sortB ys = true
        · rw [if_pos c] at hb
          cases hb
          obtain ⟨a, vs, rfl, h1, h2⟩ := pk.list hF
          obtain ⟨u, rfl, rx⟩ := vals1 r
          cases rx
          obtain ⟨its, as, hv, hl, hr, hlen⟩ := list_reads I hF h1.sql h2 (sortB_inv c).2.2.2.1
          obtain ⟨S, out, o1, o2, o3⟩ := sort_core (A := X.A.in1.in1) (h' := PySem.W.sortingHeap (PySem.W.copyHeap s.heap its) (s.heap.objs.size + 1) its) true I hF hv h2 c (fun _ _ q => PySem.W.sorting_copy_old q) (by show X.A.units + 1 + 1 + 50 < cLine; omega)
          refine PySem.W.sorted_rev_vals (b := true) hl S o3 ?_
          obtain ⟨ep, hat⟩ := PyProof.Rows.sortedAll_at s.heap its (PySem.W.sortVals (PySem.W.dataKind (PySem.W.sortingHeap (PySem.W.copyHeap s.heap its) (s.heap.objs.size + 1) its) ys) true its its).toArray
          have hp := I.hok.fresh (Nat.le_succ s.heap.objs.size)
          refine ⟨.ref (s.heap.objs.size + 1), upd H (s.heap.objs.size + 1) (.lst out), I.laid (t' := s.toks) (fun b u q => PyProof.Rows.sortedAll_old q) (Nat.le_succ _) ?_, rfl, k F _ _ (Out0.new hF hp _) (new0_fl hF hp o2)⟩
          refine ⟨?_, _, ep, o1, hat⟩
          rw [o1.length, PySem.W.sortVals_length true rfl]
          exact o3
        · rw [if_neg c] at hb; cases hb
      | _ => cases hb
theorem se_sortedRev {p pos kp cp : Pos} {cj : Nat} {e : Expr} {ms : M (List Rv)} (hu : X.A.units + 70 < cLine) (hg : Gl X "sorted") (hm : X.mg "sorted" = none) (ha : SR X [e] ms)
    (he : backTo pos (starEach [e] X.env) = (false, eval e X.env) :: backTo pos (starEach [] X.env)) (hpl : (backTo pos (starEach [e] X.env)).any (·.1) = false) :
    SE X (.Call (.Name "sorted" p) [e] [⟨some "reverse", .Constant (.bool true) cj cp, kp⟩] pos) (biM (biD .sortedRev) ms) :=
  pe_imp (pe_callBK cb_sortedRev hg hm boot_sorted ha (pk_cons pe_bl pk_nil) (by decide) (by decide) he hpl rfl rfl rfl) fun σ H Q h => by
    have q := bi_ok h
    obtain ⟨g, F, sa, env, ds, d, env', ds', e, hm, k⟩ := q
    exact ⟨g, F, sa, env, ds, d, env', ds', e, hm, fun F' H' sa' vs eo s hv => ⟨rfl, hu, k F' H' sa' vs eo s hv⟩⟩
def tyName : Ty → String
  | .int => "int"
  | .bool => "bool"
  | .str => "str"
  | .tuple => "tuple"
  | .list => "list"
  | .dict => "dict"
def tyVal : D → Value
  | .none => .type "NoneType"
  | .bool _ => .type "bool"
  | .int _ => .type "int"
  | .str _ => .type "str"
  | .list _ => .type "list"
  | .tuple _ => .type "tuple"
  | .dict _ => .type "dict"
theorem kit_d {pins : List (Addr × Obj)} {σ : L2.St} {H : Hp} {s : Shared} (I : Inv X pins σ H s) {v : V} {u : Value} {d : D} (h : Rp X.w X.K H v d) (r : RelV v u) : ∃ P : Heap → Prop, PySem.W.KitX X.K u (tyVal d) P ∧ P s.heap ∧ u ≠ .builtin "__main__.__loader__#opaque" := by
  cases h with
  | non => cases r; exact ⟨_, PySem.W.kitx_none, True.intro, fun z => (nomatch z)⟩
  | bl y => cases r; exact ⟨_, PySem.W.kitx_bool, True.intro, fun z => (nomatch z)⟩
  | int i => obtain ⟨t, rfl⟩ := r; exact ⟨_, PySem.W.kitx_int, True.intro, fun z => (nomatch z)⟩
  | str i => obtain ⟨t, rfl⟩ := r; exact ⟨_, PySem.W.kitx_str, True.intro, fun z => (nomatch z)⟩
  | lst h1 h2 =>
    cases r
    obtain ⟨_, its, n, _, _, e⟩ := Inv.lstR I h1
    exact ⟨_, PySem.W.kitx_list, ⟨_, e, rfl⟩, fun z => (nomatch z)⟩
  | tup h1 h2 =>
    cases r
    obtain ⟨its, rv, ⟨o, ho, hc, n, hd⟩, _⟩ := I.tuple h1.sq
    exact ⟨_, PySem.W.kitx_tuple, ⟨o, ho, hc⟩, fun z => (nomatch z)⟩
  | dct h1 h2 h3 h4 =>
    cases r
    obtain ⟨_, _, o, e1, e2, _⟩ := dct_raw I h1
    exact ⟨_, PySem.W.kitx_dict, ⟨o, e1, e2.1⟩, fun z => (nomatch z)⟩
theorem kit_tys : ∀ (t : Ty) (d : D), kitB (match tyVal d with
    | .type n => n
    | _ => "") (tyName t) = some (isTy t d) := by
  intro t d
  cases t <;> cases d <;> (first | rfl | decide +kernel)
theorem kit_one {K : PySem.W.Frag} (t : Ty) (d : D) : PySem.W.kitOne K (tyVal d) (.type (tyName t)) = some (isTy t d) := by
  have h := kit_tys t d
  cases d <;> exact kit_ty h
theorem kit_any {K : PySem.W.Frag} (d : D) : ∀ ts : List Ty, PySem.W.kitAny K (tyVal d) (ts.map fun t => Value.type (tyName t)) = some (ts.any fun t => isTy t d)
  | [] => rfl
  | t :: ts => by
    rw [List.map_cons, List.any_cons]
    refine kitAny_cons (kit_one t d) (fun h => ?_) fun h => by rw [h]; rfl
    rw [h, kit_any d ts]
    rfl
/-- a built-in type's name -/
def tysE (es : List Expr) (ts : List Ty) (X : Cx) : Prop := PA X es fun _ H Q => Q (ts.map fun t => V.ty (tyName t)) H
theorem ty_nil : tysE [] [] X := pa_nil
theorem ty_cons {x : Str} {p : Pos} {es : List Expr} {ts : List Ty} (t : Ty) (hg : Gl X x) (hm : X.mg x = none) (hv : bootBuiltins x = some (.type (tyName t))) (hn : x ≠ "__name__") (hd : (x == ("__debug__" : Str)) = false) (hr : tysE es ts X) : tysE (.Name x p :: es) (t :: ts) X :=
  pa_imp (pa_cons (pe_bltn (v := .ty (tyName t)) hg hm hv rfl hn hd) hr rfl) fun _ _ _ h => h
def isiM (ts : List Ty) (m : M Rv) : M Rv := do
  let x ← vM m
  let u ← peekM x
  pure (.d (.bool (ts.any fun t => isTy t u)))
theorem isi_inv {ts : List Ty} {m : M Rv} {c c' : Cf} {rv : Rv} (h : isiM ts m c = some (rv, c')) : ∃ x d, vM m c = some (x, c') ∧ peek c'.1 x = some d ∧ rv = .d (.bool (ts.any fun t => isTy t d)) := by
  obtain ⟨x, c1, h1, h⟩ := bindM h
  obtain ⟨d, c2, h2, h⟩ := bindM h
  obtain ⟨h3, h4⟩ := pureM h
  obtain ⟨h5, h6⟩ := peekM_ h2
  subst h6 h4
  exact ⟨x, d, h1, h5, h3.symm⟩
def rIs1 (w : World) (K : PySem.W.Frag) (ts : List Ty) : List V → Hp → VK → Prop := fun vs H Q => ∃ v d, Rp w K H v d ∧ ((∃ t, ts = [t] ∧ vs = [v, .ty (tyName t)]) ∨ ∃ tp, vs = [v, .ref tp] ∧ H tp = some (.tup (ts.map fun t => V.ty (tyName t)))) ∧ Q (.bl (ts.any fun t => isTy t d)) H
theorem tys_vals : ∀ {ts : List Ty} {us : List Value}, Vals (ts.map fun t => V.ty (tyName t)) us → us = ts.map fun t => Value.type (tyName t)
  | [], _, .nil => rfl
  | _ :: _, _, .cons h r => by rw [List.map_cons, tys_vals r]; cases h; rfl
theorem cb_isi (ts : List Ty) : CallR X (.builtin "isinstance") (rIs1 X.w X.K ts) := by
  intro pins s σ H xs us Q I r h
  obtain ⟨v, d, hr, hc, q⟩ := h
  rcases hc with ⟨t, rfl, rfl⟩ | ⟨tp, rfl, hT⟩
  · obtain ⟨u1, u2, rfl, r1, r2⟩ := vals2 r
    cases (show u2 = Value.type (tyName t) from r2)
    obtain ⟨P, Z, p, hx⟩ := kit_d I hr r1
    have e := kit_any (K := X.K) d [t]
    have e1 : PySem.W.kitOne X.K (tyVal d) (.type (tyName t)) = some ([t].any fun t => isTy t d) := by
      rw [kit_one]
      simp
    exact PySem.W.kia_one Z I.kIn p e1 hx fun tk => ⟨.bl _, H, I.tok tk, rfl, q⟩
  · obtain ⟨u1, u2, rfl, r1, r2⟩ := vals2 r
    cases (show u2 = Value.ref tp from r2)
    obtain ⟨P, Z, p, hx⟩ := kit_d I hr r1
    obtain ⟨_, its, rv, o, h1, h2, n, h3⟩ := (show ObjOk X.prog X.w H s.heap tp (.tup (ts.map fun t => V.ty (tyName t))) from I.hok tp _ hT)
    have e3 := tys_vals rv
    subst e3
    obtain ⟨oc, od, dt, sl⟩ := o
    simp only at h2 h3
    subst h2 h3
    exact PySem.W.kia_tup Z I.kIn p h1 (kit_any d ts) hx fun tk => ⟨.bl _, H, I.tok tk, rfl, q⟩
/-- isinstance(e, T) -/
theorem se_isi {p pos : Pos} {e te : Expr} {m : M Rv} (t : Ty) (hg : Gl X "isinstance") (hm : X.mg "isinstance" = none) (he : SE X e m) (ht : tysE [te] [t] X) (hs : starEach [e, te] X.env = (false, eval e X.env) :: starEach [te] X.env) (hpl : (backTo pos (starEach [te] X.env)).any (·.1) = false) :
    SE X (.Call (.Name "isinstance" p) [e, te] [] pos) (isiM [t] m) := pe_imp (pe_callB (cb_isi [t]) hg hm boot_isinstance (pa_cons he ht hs) (by decide) (by decide) hs hpl) fun σ H Q h => by
  obtain ⟨g, F, sa, env, ds, rv, env', ds', e, hm, q⟩ := h
  obtain ⟨x, d, h1, h2, h3⟩ := isi_inv hm
  subst h3
  exact vM_ok (tE_at e Step.refl h1 fun F1 H1 sa1 v eo s _ hv _ => ⟨v, d, (hv.peek eo h2).rp eo.sub, .inl ⟨t, rfl, rfl⟩, q F1 H1 sa1 _ eo s (.bl _) trivial⟩)
/-- isinstance(e, (T, ..)) -/
theorem se_isiT {p pos p2 : Pos} {e : Expr} {tes : List Expr} {kk : Nat} {m : M Rv} (ts : List Ty) (hl : ts.length ≤ 10) (hg : Gl X "isinstance") (hm : X.mg "isinstance" = none) (he : SE X e m) (ht : tysE tes ts X) (hs : starEach [e, .Tuple tes kk p2] X.env = (false, eval e X.env) :: starEach [.Tuple tes kk p2] X.env) (hpl : (backTo pos (starEach [.Tuple tes kk p2] X.env)).any (·.1) = false) :
    SE X (.Call (.Name "isinstance" p) [e, .Tuple tes kk p2] [] pos) (isiM ts m) := pe_imp (pe_callB (cb_isi ts) hg hm boot_isinstance (pa_cons he (pa_cons (pe_tup ht) pa_nil rfl) hs) (by decide) (by decide) hs hpl) fun σ H Q h => by
  obtain ⟨g, F, sa, env, ds, rv, env', ds', e, hm, q⟩ := h
  obtain ⟨x, d, h1, h2, h3⟩ := isi_inv hm
  subst h3
  refine vM_ok (tE_at e Step.refl h1 fun F1 H1 sa1 v eo s _ hv _ => ⟨?_, fun tp hp => ?_⟩)
  · rw [List.length_map]
    exact Nat.le_trans hl (by decide)
  · have hr := (hv.peek eo h2).rp eo.sub
    refine ⟨v, d, hr.mono (same_upd' hp), .inr ⟨tp, rfl, upd_same⟩, ?_⟩
    exact q F1 _ sa1 _ (eo.alloc hp _) (s.trans (step_alloc hp _)) (.bl _) trivial
theorem cb_repr (hgd : X.A.guards = some []) (hu : X.A.units + 70 < cLine) : CallR X (.builtin "repr") (rB X.w X.K (biD .repr)) := by
  intro pins s σ H xs us Q I r h
  obtain ⟨F, ds, rv, hF, pk0, hb, k⟩ := h
  cases ds with
  | nil => cases hb
  | cons d dr =>
    cases dr with
    | cons _ _ => cases d <;> cases hb
    | nil =>
      obtain ⟨v, rfl, pk⟩ := pks1 pk0
      obtain ⟨c, hv⟩ := ite_some (show (if (d.showable && d.plain && decide (d.depth ≤ 60) && decide (d.shown.length ≤ sizeLine)) = true then some (Rv.d (.str d.shown)) else none) = some rv from hb)
      obtain ⟨c, c4⟩ := and2 c
      obtain ⟨c, c3⟩ := and2 c
      obtain ⟨c1, c2⟩ := and2 c
      have c4 : d.shown.length ≤ sizeLine := of_decide_eq_true c4
      have c3 : d.depth ≤ 60 := of_decide_eq_true c3
      subst hv
      obtain ⟨u, rfl, rx⟩ := vals1 r
      obtain ⟨as, rd⟩ := Rp.reads I (Same.refl H) d v u c2 (pk.rp hF) rx
      have qq : Q (.str d.shown) H := k F H _ (Out0.refl hF) (.str _)
      have big : ∀ a, u = .ref a → wpAny (model X.prog X.w) X.A (call (.builtin "repr") [u]) (EP X pins σ Q) X.xe s := fun a ea => by
        subst ea
        refine repr_of_reads' rd c1 (fun z => ?_) hgd (by omega) (fun _ _ q => q) (fun h' u tk hk => ⟨.str d.shown, H, I.kept hk, ⟨_, rfl⟩, qq⟩) c4
        exact absurd z (by rw [no_dict d c2]; decide)
      cases rd with
      | none => exact PySem.P.repr_of_none ⟨.str _, H, I.tok _, ⟨_, rfl⟩, qq⟩
      | bool b => exact PySem.P.repr_of_bool ⟨.str _, H, I.tok _, ⟨_, rfl⟩, qq⟩
      | int i t => exact PySem.P.repr_of_int (by simpa [PyData.showable] using c1) ⟨.str _, H, I.tok _, ⟨_, rfl⟩, qq⟩
      | str y t => exact PySem.P.repr_of_str ⟨.str _, H, I.tok _, ⟨_, rfl⟩, qq⟩ c4
      | list h1 h2 h3 h4 => exact big _ rfl
      | tuple h1 h2 h3 h4 => exact big _ rfl
      | dict h1 h2 h3 h4 h5 => exact big _ rfl
theorem cb_str : CallR X (.type "str") (rB X.w X.K (biD .str)) := by
  intro pins s σ H xs us Q I r h
  obtain ⟨F, ds, rv, hF, pk0, hb, k⟩ := h
  cases ds with
  | nil => cases hb
  | cons d dr =>
    cases dr with
    | cons _ _ => cases d <;> cases hb
    | nil =>
      obtain ⟨v, rfl, pk⟩ := pks1 pk0
      cases d with
      | int i =>
        have hb : (if i.natAbs.log2 < 1920 then some (Rv.d (.str (toString i))) else none) = some rv := hb
        by_cases c : i.natAbs.log2 < 1920
        · rw [if_pos c] at hb
          cases hb
          obtain rfl := pk.int
          exact call_str_int pins s σ H _ us Q I r ⟨i, rfl, c, k F H _ (Out0.refl hF) (.str _)⟩
        · rw [if_neg c] at hb; cases hb
      | _ => cases hb
end
end Fw
end TFwQ
section TFwR
namespace Fw
open PySem PySem.Spec PyProof.Rows L2
def ckL (r : Rv) : M Unit := fun c => match r with
  | .ow i => match c.1[i]? with
    | some (some (.ol _)) => some ((), c)
    | _ => none
  | _ => none
def updL (f : List D → Option (List D × D)) (r : Rv) : M Rv := fun c => match r with
  | .ow i => match c.1[i]? with
    | some (some (.ol xs)) => match f xs with
      | some (ys, d) => some (.d d, (c.1.set i (some (.ol ys)), c.2))
      | none => none
    | _ => none
  | _ => none
def meL (f : List D → List D → Option (List D × D)) (mo : M Rv) (ms : M (List D)) : M Rv := do
  let x ← vM mo
  ckL x
  let ds ← ms
  updL (f ds) x
theorem ckL_inv {r : Rv} {c c' : Cf} {x : Unit} (h : ckL r c = some (x, c')) : ∃ i xs, r = .ow i ∧ c.1[i]? = some (some (.ol xs)) ∧ c' = c := by
  cases r with
  | ow i =>
    unfold ckL at h
    simp only at h
    cases e : c.1[i]? with
    | none => rw [e] at h; cases h
    | some o =>
      cases o with
      | none => rw [e] at h; cases h
      | some s =>
        rw [e] at h
        cases s with
        | ol xs => cases h; exact ⟨i, xs, rfl, e, rfl⟩
        | _ => cases h
  | _ => cases h
theorem updL_inv {f : List D → Option (List D × D)} {i : Nat} {c c' : Cf} {r : Rv} (h : updL f (.ow i) c = some (r, c')) : ∃ xs ys d, c.1[i]? = some (some (.ol xs)) ∧ f xs = some (ys, d) ∧ r = .d d ∧ c' = (c.1.set i (some (.ol ys)), c.2) := by
  unfold updL at h
  simp only at h
  cases e : c.1[i]? with
  | none => rw [e] at h; cases h
  | some o =>
    cases o with
    | none => rw [e] at h; cases h
    | some s =>
      rw [e] at h
      cases s with
      | ol xs =>
        simp only at h
        cases q : f xs with
        | none => rw [q] at h; cases h
        | some p =>
          obtain ⟨ys, d⟩ := p
          rw [q] at h
          cases h
          exact ⟨xs, ys, d, rfl, q, rfl, rfl⟩
      | _ => cases h
/-- the rule of a method, told for lists of data -/
def MeOk (w : World) (K : PySem.W.Frag) (f : List D → List D → Option (List D × D)) (r : V → List V → Hp → VK → Prop) : Prop :=
  ∀ (F H : Hp) (a : Addr) (vs us : List V) (xs ds ys : List D) (d : D) (Q : VK), Same F H → H a = some (.lst vs) → F a = none → RpA w K F vs xs → RpA w K F us ds → f ds xs = some (ys, d) →
    (∀ vs' v, RpA w K F vs' ys → Rp w K F v d → Q v (upd H a (.lst vs'))) → r (.ref a) us H Q
section
variable {X : Cx} {o e : Expr} {es : List Expr} {name : Str} {apos cpos : Pos} {id : String} {r : V → List V → Hp → VK → Prop} {f : List D → List D → Option (List D × D)} {mo : M Rv} {ms : M (List D)}
theorem meL_ok {σ : L2.St} {H : Hp} {Q : VK} (hf : MeOk X.w X.K f r) (h : tE X.w X.K (meL f mo ms) σ H Q) : tE X.w X.K mo σ H fun x H1 => tyV X.K "list" x H1 ∧ tL X.w X.K ms σ H1 fun xs H2 => r x xs H2 Q := by
  obtain ⟨g, F, sa, env, ds, rv, env', ds', e, hm, q⟩ := h
  obtain ⟨x, ⟨e1, d1⟩, h1, hm1⟩ := bindM hm
  obtain ⟨_, c2, h2, hm2⟩ := bindM hm1
  obtain ⟨xs, ⟨e3, d3⟩, h3, hm3⟩ := bindM hm2
  obtain ⟨i, ys, rfl, h4, rfl⟩ := ckL_inv h2
  obtain ⟨zs, zs', d, h5, h6, h7, h8⟩ := updL_inv hm3
  subst h7
  obtain ⟨rfl, rfl⟩ := Prod.mk.inj h8
  refine vM_ok (tE_at e Step.refl h1 fun F1 H1 sa1 v eo s _ hv _ => ?_)
  have hσ : σ[i]? = some (some v) := hv
  obtain ⟨v1, g1, a, rfl, ⟨vs, l1, l2⟩, m1⟩ := eo.slots i _ h4
  rw [hσ] at g1
  cases g1
  refine ⟨.inl ⟨rfl, vs, SqL.of l1⟩, g, F1, sa1, e1, d1, xs, e3, _, eo, h3, fun F2 H2 sa2 us eo2 s2 hus => ?_⟩
  obtain ⟨v2, g2, a2, ea2, ⟨vs2, l3, l4⟩, m2⟩ := eo2.slots i _ h5
  rw [hσ] at g2
  cases g2
  cases ea2
  refine hf F2 H2 a vs2 us zs xs zs' d Q eo2.sub l3 m2.f l4 hus h6 fun vs' v hvs hv => ?_
  have ho : Own e3 i := .inl ⟨zs, h5⟩
  refine q F2 _ sa2 v (eo2.write (s := .ol zs') ho (.inl ⟨zs', rfl, vs', upd_same, hvs⟩) hσ) ((s.trans s2).write eo2 ho hσ) hv trivial
theorem se_meL (slot : Slot "list" name id) (hty : typeOf (.builtin id) = pure (.type "method_descriptor")) (hm : MtR X id r) (hf : MeOk X.w X.K f r) (ho : SE X o mo) (ha : SL X (e :: es) ms)
    (hbase : attributeBase o name X.env (eval o X.env) = eval o X.env)
    (hfew : ((backTo cpos (starEach (e :: es) X.env)).all (fun x => !x.1) && (backToKw cpos (keywordEach [] X.env)).all (fun x => x.1.isSome)
      && decide ((e :: es).length + ([] : List Keyword).length + (if ([] : List Keyword).isEmpty then 0 else 1) < 30)) = true)
    (hline : (apos.endLine == cpos.line) = true) (hs : starEach (e :: es) X.env = (false, eval e X.env) :: starEach es X.env) (hpl : (backTo cpos (starEach es X.env)).any (·.1) = false) :
    SE X (.Call (.Attribute o name apos) (e :: es) [] cpos) (meL f mo ms) := pe_imp (pe_bm F.plainAttrs_list slot hty hm ho ha hbase hfew hline hs hpl) fun σ H Q h => meL_ok hf h
theorem se_meL0 (slot : Slot "list" name id) (hty : typeOf (.builtin id) = pure (.type "method_descriptor")) (hm : MtR X id r) (hf : MeOk X.w X.K f r) (ho : SE X o mo)
    (hbase : attributeBase o name X.env (eval o X.env) = eval o X.env) (hline : (apos.endLine == cpos.line) = true) :
    SE X (.Call (.Attribute o name apos) [] [] cpos) (meL f mo (pure [])) := pe_imp (pe_bm0 F.plainAttrs_list slot hty hm ho hbase hline) fun σ H Q h => by
  obtain ⟨g, F, sa, env, ds, d, env', ds', e, hm, k⟩ := meL_ok hf h
  exact ⟨g, F, sa, env, ds, d, env', ds', e, hm, fun F' H' sa' v eo s hv hn => ⟨(k F' H' sa' v eo s hv hn).1, tL_nil (k F' H' sa' v eo s hv hn).2⟩⟩
end
def fAppend : List D → List D → Option (List D × D)
  | [d], xs => if xs.length < line then some (xs ++ [d], .none) else none
  | _, _ => none
def fExtend : List D → List D → Option (List D × D)
  | [.list ys], xs => if xs.length + ys.length ≤ line then some (xs ++ ys, .none) else none
  | _, _ => none
def fPop : List D → List D → Option (List D × D)
  | [], xs => match xs[xs.length - 1]? with
    | some y => some (xs.dropLast, y)
    | none => none
  | _, _ => none
def fRemove : List D → List D → Option (List D × D)
  | [d], xs => if small d && small (.list xs) then match PySem.SeqAt.dataPlace xs d with
    | some k => some (xs.eraseIdx k, .none)
    | none => none else none
  | _, _ => none
section
variable {w : World} {K : PySem.W.Frag}
theorem rpA1 {F : Hp} {us : List V} {d : D} (h : RpA w K F us [d]) : ∃ u, us = [u] ∧ Rp w K F u d := by
  cases h with
  | cons h1 h2 => cases h2; exact ⟨_, rfl, h1⟩
theorem me_append : MeOk w K fAppend rAppend := by
  intro F H a vs us xs ds ys d Q hF ha hn r1 r2 hf k
  cases ds with
  | nil => cases hf
  | cons y dr =>
    cases dr with
    | cons _ _ => cases hf
    | nil =>
      have hf : (if xs.length < sizeLine then some (xs ++ [y], PyData.none) else none) = some (ys, d) := hf
      by_cases c : xs.length < sizeLine
      · rw [if_pos c] at hf
        cases hf
        obtain ⟨u, rfl, hu⟩ := rpA1 r2
        exact ⟨a, vs, u, rfl, rfl, ha, by rw [r1.length]; exact c, k _ _ (r1.append (.cons hu .nil)) .non⟩
      · rw [if_neg c] at hf; cases hf
def rExtD (K : PySem.W.Frag) : V → List V → Hp → VK → Prop := fun x vs H Q => ∃ l b xs zs, x = .ref l ∧ vs = [.ref b] ∧ H l = some (.lst xs) ∧ Lr K H b zs ∧ xs.length + zs.length ≤ sizeLine ∧ Q .non (upd H l (.lst (xs ++ zs)))
theorem mt_extD {X : Cx} : MtR X "list.extend" (rExtD X.K) := by
  intro pins s σ H x vs v us Q I rx rv h
  obtain ⟨l, b, xs, zs, rfl, rfl, hH, hB, hz, q⟩ := h
  cases rx
  obtain ⟨u, rfl, ru⟩ := rv.one
  cases ru
  obtain ⟨z, its, n, r, hl, e⟩ := I.lstM hH
  obtain ⟨z2, its2, n2, r2, hl2, e2⟩ := Inv.lstR I hB
  have hsz : its.toArray.size + its2.toArray.size ≤ sizeLine := by rw [List.size_toArray, List.size_toArray]; omega
  have nl : ¬ (!its.toArray.isEmpty && Builtin.List.listTooLong (its.toArray.size + its2.toArray.size)) = true := by
    rw [notLongL hsz, Bool.and_false]
    exact Bool.false_ne_true
  refine call_meets F.slot_list_extend ⟨_, e, rfl⟩ F.entry_list_extend (F.args_list_extend_2 _ _)
    (AutoSeq1.list_extend_list_list_0 l its.toArray n b its2.toArray n2 nl (by rw [List.size_toArray]; omega) (by omega)) ⟨e, e2, ?_⟩
  exact ⟨.non, _, I.lset (its' := its ++ its2) hH e (by simp) (r.append r2) (by rw [List.length_append]; omega), rfl, q⟩
theorem me_extend : MeOk w K fExtend (rExtD K) := by
  intro F H a vs us xs ds ys d Q hF ha hn r1 r2 hf k
  cases ds with
  | nil => cases hf
  | cons y dr =>
    cases dr with
    | cons _ _ => cases y <;> cases hf
    | nil =>
      cases y <;> first | cases hf | skip
      rename_i zs
      have hf : (if xs.length + zs.length ≤ sizeLine then some (xs ++ zs, PyData.none) else none) = some (ys, d) := hf
      by_cases c : xs.length + zs.length ≤ sizeLine
      · rw [if_pos c] at hf
        cases hf
        obtain ⟨u, rfl, hu⟩ := rpA1 r2
        cases hu with
        | lst h1 h2 => exact ⟨a, _, vs, _, rfl, rfl, ha, lr_mono hF h1, by rw [r1.length, h2.length]; exact c, k _ _ (r1.append h2) .non⟩
      · rw [if_neg c] at hf; cases hf
theorem me_pop : MeOk w K fPop rPop := by
  intro F H a vs us xs ds ys d Q hF ha hn r1 r2 hf k
  cases ds with
  | cons _ _ => cases hf
  | nil =>
    cases r2
    have hf : (match xs[xs.length - 1]? with
      | some y => some (xs.dropLast, y)
      | none => none) = some (ys, d) := hf
    cases e : xs[xs.length - 1]? with
    | none => rw [e] at hf; cases hf
    | some y =>
      rw [e] at hf
      cases hf
      obtain ⟨v, hv, rv⟩ := r1.get e
      exact ⟨a, vs, v, rfl, rfl, ha, by rw [r1.length]; exact hv, k _ _ r1.dropLast rv⟩
def rRemD (w : World) (K : PySem.W.Frag) (u : Nat) : V → List V → Hp → VK → Prop := fun x vs H Q => ∃ a xs y zs d j, x = .ref a ∧ vs = [y] ∧ H a = some (.lst xs) ∧ RpA w K H xs zs ∧ Rp w K H y d ∧ small d = true ∧ small (.list zs) = true ∧ PySem.SeqAt.dataPlace zs d = some j ∧ u + 70 < cLine ∧ Q .non (upd H a (.lst (xs.eraseIdx j)))
theorem mt_remD {X : Cx} : MtR X "list.remove" (rRemD X.w X.K X.A.units) := by
  intro pins s σ H x vs v us Q I rx rv h
  obtain ⟨a, xs, y, zs, d, j, rfl, rfl, ha, r1, r2, s1, s2, hp, hu, q⟩ := h
  cases rx
  obtain ⟨u, rfl, ru⟩ := rv.one
  obtain ⟨z, its, n, r, hl, e⟩ := I.lstM ha
  obtain ⟨p1, d1⟩ := small_of s1
  obtain ⟨p2, d2⟩ := small_of s2
  have p2 : PyData.plainAll zs = true := by simpa [PyData.plain] using p2
  obtain ⟨as, q1⟩ := Rp.readsA I (Same.refl H) zs xs its p2 r1 r
  obtain ⟨bs, q2⟩ := Rp.reads I (Same.refl H) d y u p1 r2 ru
  refine PySem.SeqAt.remove_list_data (j := j) (vs := its.toArray) ⟨_, e, rfl, n, rfl⟩ q1 q2 p2 p1 (by omega) hp (by rw [List.size_toArray, ← hl]; exact z) ?_
  refine ⟨.non, _, I.lset (its' := its.eraseIdx j) (t' := s.toks) ha e ?_ (r.eraseIdx j) ?_, rfl, q⟩
  · show its.toArray.eraseIdxIfInBounds j = (its.eraseIdx j).toArray
    rw [List.eraseIdxIfInBounds_toArray]
  · have := len_erase xs j
    omega
theorem me_remove {u : Nat} (hu : u + 70 < cLine) : MeOk w K fRemove (rRemD w K u) := by
  intro F H a vs us xs ds ys d Q hF ha hn r1 r2 hf k
  cases ds with
  | nil => cases hf
  | cons y dr =>
    cases dr with
    | cons _ _ => cases hf
    | nil =>
      have hf : (if (small y && small (.list xs)) = true then match PySem.SeqAt.dataPlace xs y with
        | some k => some (xs.eraseIdx k, PyData.none)
        | none => none else none) = some (ys, d) := hf
      by_cases c : (small y && small (.list xs)) = true
      · rw [if_pos c] at hf
        obtain ⟨c1, c2⟩ := and2 c
        cases e : PySem.SeqAt.dataPlace xs y with
        | none => rw [e] at hf; cases hf
        | some j =>
          rw [e] at hf
          cases hf
          obtain ⟨v, rfl, hv⟩ := rpA1 r2
          exact ⟨a, vs, v, xs, y, j, rfl, rfl, ha, r1.mono hF, hv.mono hF, c1, c2, e, hu, k _ _ (r1.eraseIdx j) .non⟩
      · rw [if_neg c] at hf; cases hf
end
/-- o.m(e, ..) of a tuple or list that is read: what it answers -/
def meR (f : D → List D → Option D) (mo : M Rv) (ms : M (List D)) : M Rv := do
  let x ← vM mo
  let ds ← ms
  let u ← peekM x
  match f u ds with
  | some d => pure (.d d)
  | none => stuck
def fIndexT : D → List D → Option D
  | .tuple xs, [d] => if small d && small (.tuple xs) then match PySem.SeqAt.dataPlace xs d with
    | some k => some (.int k)
    | none => none else none
  | _, _ => none
def rIdxT (w : World) (K : PySem.W.Frag) (u : Nat) : V → List V → Hp → VK → Prop := fun x vs H Q => ∃ a xs y zs d j, x = .ref a ∧ vs = [y] ∧ SqT K H a xs ∧ RpA w K H xs zs ∧ Rp w K H y d ∧ small d = true ∧ small (.tuple zs) = true ∧ PySem.SeqAt.dataPlace zs d = some j ∧ u + 70 < cLine ∧ Q (.int (j : Nat)) H
theorem mt_idxT {X : Cx} : MtR X "tuple.index" (rIdxT X.w X.K X.A.units) := by
  intro pins s σ H x vs v us Q I rx rv h
  obtain ⟨a, xs, y, zs, d, j, rfl, rfl, ha, r1, r2, s1, s2, hp, hu, q⟩ := h
  cases rx
  obtain ⟨u, rfl, ru⟩ := vals1 rv
  obtain ⟨its, r, ⟨⟨cls, dd, dt, sl⟩, ho, hc, n, hd⟩, hz⟩ := I.tuple ha
  simp only at hc hd
  subst hc
  subst hd
  obtain ⟨p1, d1⟩ := small_of s1
  obtain ⟨p2, d2⟩ := small_of s2
  have p2 : PyData.plainAll zs = true := by simpa [PyData.plain] using p2
  obtain ⟨as, q1⟩ := Rp.readsA I (Same.refl H) zs xs its p2 r1 r
  obtain ⟨bs, q2⟩ := Rp.reads I (Same.refl H) d y u p1 r2 ru
  have dz : (PyData.tuple zs).depth = PyData.depthAll zs + 1 := rfl
  obtain ⟨hj, hit, hno⟩ := PySem.SeqAt.hit_at (vs := its.toArray) q1 p2 hp
  refine call_meets PySem.F.slot_tuple_index ⟨_, ho, rfl⟩ PySem.F.entry_tuple_index (PySem.F.args_tuple_index_2 _ _) (TI.tuple_indexAt a its.toArray n dd sl u _ j hj hit hno) ⟨ho, PySem.SeqAt.items_plain q1 q2 p2 p1 (by omega), ?_⟩
  exact ⟨.int (j : Nat), H, I.tok _, ⟨_, rfl⟩, q⟩
section
variable {X : Cx} {o e : Expr} {es : List Expr} {apos cpos : Pos} {mo : M Rv} {ms : M (List D)}
/-- a method of a tuple -/
theorem pe_bmT {name : Str} {id : String} {r : V → List V → Hp → VK → Prop} {t : TA} {to : TE} (slot : Slot "tuple" name id) (hty : typeOf (.builtin id) = pure (.type "method_descriptor")) (hm : MtR X id r) (ho : PE X o to) (ha : PA X (e :: es) t)
    (hbase : attributeBase o name X.env (eval o X.env) = eval o X.env)
    (hfew : ((backTo cpos (starEach (e :: es) X.env)).all (fun x => !x.1) && (backToKw cpos (keywordEach [] X.env)).all (fun x => x.1.isSome)
      && decide ((e :: es).length + ([] : List Keyword).length + (if ([] : List Keyword).isEmpty then 0 else 1) < 30)) = true)
    (hline : (apos.endLine == cpos.line) = true) (hs : starEach (e :: es) X.env = (false, eval e X.env) :: starEach es X.env) (hpl : (backTo cpos (starEach es X.env)).any (·.1) = false) :
    PE X (.Call (.Attribute o name apos) (e :: es) [] cpos) (fun σ H Q => to σ H fun x H1 => (∃ a xs, x = .ref a ∧ Tr X.K H1 a xs) ∧ t σ H1 fun xs H2 => r x xs H2 Q) := ⟨fun pins s σ H Q I h => by
  refine wpAny_Call_method_late hbase hfew hline rfl (thn (ho.run pins s σ H _ I h) fun v s1 hx => ?_)
  obtain ⟨x, H1, I1, r1, ⟨a, xs, rfl, hT⟩, q1⟩ := hx
  cases r1
  have ob : ∃ ob, s1.heap.get? a = some ob ∧ ob.cls = .type "tuple" ∧ ob.dict = none := by
    rcases hT with ⟨ob, h1, h2⟩ | ⟨ob, its, n, h1, h2, h3, _⟩
    · obtain ⟨e1, _, its, _, o2, e2, c2, _⟩ := I1.hok a _ h1
      rw [e1] at e2
      cases e2
      exact ⟨ob, e1, c2, h2⟩
    · exact ⟨ob, I1.kIn a ob h1, h2, h3⟩
  obtain ⟨ob, g1, g2, g3⟩ := ob
  refine ⟨"tuple", id, F.plainAttrs_tuple, slot, hty, ⟨ob, g1, g2⟩, fun b eb => by cases eb; exact ⟨ob, g1, g3⟩, ?_⟩
  have hA := ha.run cpos pins s1 σ H1 _ I1 q1
  rw [hs] at hA ⊢
  refine Calls.callWith_builtin (by show (false || (backTo cpos (starEach es X.env)).any (·.1)) = false; rw [hpl]; rfl) (Calls.evalArgs_plain (thn hA fun us s2 hy => ?_))
  obtain ⟨vs, H2, I2, r2, q2⟩ := hy
  exact hm pins s2 σ H2 (.ref a) vs (.ref a) us Q I2 rfl r2 q2⟩
/-- t.index(e) -/
theorem se_indexT (hu : X.A.units + 70 < cLine) (ho : SE X o mo) (ha : SL X (e :: es) ms)
    (hbase : attributeBase o "index" X.env (eval o X.env) = eval o X.env)
    (hfew : ((backTo cpos (starEach (e :: es) X.env)).all (fun x => !x.1) && (backToKw cpos (keywordEach [] X.env)).all (fun x => x.1.isSome)
      && decide ((e :: es).length + ([] : List Keyword).length + (if ([] : List Keyword).isEmpty then 0 else 1) < 30)) = true)
    (hline : (apos.endLine == cpos.line) = true) (hs : starEach (e :: es) X.env = (false, eval e X.env) :: starEach es X.env) (hpl : (backTo cpos (starEach es X.env)).any (·.1) = false) :
    SE X (.Call (.Attribute o "index" apos) (e :: es) [] cpos) (meR fIndexT mo ms) := pe_imp (pe_bmT PySem.F.slot_tuple_index PySem.F.type_tuple_index mt_idxT ho ha hbase hfew hline hs hpl) fun σ H Q h => by
  obtain ⟨g, F, sa, env, ds, rv, env', ds', e, hm, q⟩ := h
  obtain ⟨x, ⟨e1, d1⟩, h1, hm⟩ := bindM hm
  obtain ⟨xs, ⟨e3, d3⟩, h3, hm⟩ := bindM hm
  obtain ⟨d, c4, h4, hm⟩ := bindM hm
  obtain ⟨h5, h6⟩ := peekM_ h4
  subst h6
  cases hf : fIndexT d xs with
  | none => rw [hf] at hm; cases hm
  | some z =>
    rw [hf] at hm
    obtain ⟨h7, h8⟩ := pureM hm
    subst h7
    obtain ⟨rfl, rfl⟩ := Prod.mk.inj h8
    cases d <;> first | cases hf | skip
    rename_i ts
    cases xs with
    | nil => cases hf
    | cons y yr =>
      cases yr with
      | cons _ _ => cases hf
      | nil =>
        have hf : (if (small y && small (.tuple ts)) = true then match PySem.SeqAt.dataPlace ts y with
          | some k => some (PyData.int k)
          | none => none else none) = some z := hf
        by_cases c : (small y && small (.tuple ts)) = true
        · rw [if_pos c] at hf
          obtain ⟨c1, c2⟩ := and2 c
          cases hp : PySem.SeqAt.dataPlace ts y with
          | none => rw [hp] at hf; cases hf
          | some j =>
            rw [hp] at hf
            cases hf
            refine vM_ok (tE_at e Step.refl h1 fun F1 H1 sa1 v eo s _ hv _ => ?_)
            -- what is peeked at is data already
            have hd : x = .d (.tuple ts) := by
              cases x with
              | d u => cases h5; rfl
              | fl _ => cases h5
              | fd _ => cases h5
              | st => cases h5
              | ow i =>
                unfold Fw.peek at h5
                simp only at h5
                split at h5 <;> cases h5
            subst hd
            have hv : Rp X.w X.K F1 v (.tuple ts) := hv
            cases hv with
            | tup t1 t2 =>
              refine ⟨⟨_, _, rfl, tr_mono eo.sub t1⟩, g, F1, sa1, e1, d1, [y], e3, d3, eo, h3, fun F2 H2 sa2 us eo2 s2 hus => ?_⟩
              obtain ⟨u, rfl, hu1⟩ := rpA1 hus
              exact ⟨_, _, u, ts, y, j, rfl, rfl, (tr_mono (s2.ff.trans eo2.sub) t1).sq, t2.mono (s2.ff.trans eo2.sub), hu1.mono eo2.sub, c1, c2, hp, hu, q F2 H2 sa2 _ eo2 (s.trans s2) (.int _) trivial⟩
        · rw [if_neg c] at hf; cases hf
end
end Fw
end TFwR
section TFwS
namespace Fw
open PySem PySem.Spec PyProof.Rows L2
section
variable {w : World} {K : PySem.W.Frag} {F H : Hp}
theorem RpX.putAll {k d : D} {κ : NestedKey} {u : Value} {v : V} (hk : toKey k = some κ) (hv : RelV v u) (hd : Rp w K F v d) : ∀ {xs : List Ent} {kvs : List (D × D)}, RpX w K F xs kvs → RpX w K F (xs.map (putAt κ u)) (kvs.map fun p => if PyData.eqv p.1 k = true then (p.1, d) else p)
  | _, _, .nil => .nil
  | _, _, .cons (x := x) (k := k') (d := d') (xs := xs) (kvs := kvs) h1 h2 h3 h4 h5 r => by
    rw [List.map_cons, List.map_cons]
    have ih := RpX.putAll hk hv hd r
    unfold putAt
    by_cases c : x.1 = κ
    · have e : PyData.eqv k' k = true := by rw [key_dec h1 hk]; exact decide_eq_true c
      rw [if_pos c, if_pos e]
      exact .cons h1 h2 h3 hv hd ih
    · have e : ¬ PyData.eqv k' k = true := by rw [key_dec h1 hk]; simpa using c
      rw [if_neg c, if_neg e]
      exact .cons h1 h2 h3 h4 h5 ih
theorem RpX.append {xs ys : List Ent} {kvs mvs : List (D × D)} (h : RpX w K F xs kvs) (h2 : RpX w K F ys mvs) : RpX w K F (xs ++ ys) (kvs ++ mvs) := by
  cases h with
  | nil => exact h2
  | cons a1 a2 a3 a4 a5 r => exact .cons a1 a2 a3 a4 a5 (RpX.append r h2)
theorem RpX.put {k d : D} {κ : NestedKey} {b : Addr} {u : Value} {v : V} (hk : toKey k = some κ) (hkn : keyN k = true) (hb : Rp w K F (.ref b) k) (hv : RelV v u) (hd : Rp w K F v d) {xs : List Ent} {kvs : List (D × D)} (r : RpX w K F xs kvs) : RpX w K F (storedH xs κ b u) (dPut kvs k d) := by
  unfold dPut storedH
  rw [r.has hk]
  by_cases c : (atKey xs κ).isSome = true
  · rw [if_pos c, if_pos c]
    exact r.putAll hk hv hd
  · rw [if_neg c, if_neg c]
    exact r.append (.cons hk hkn hb hv hd .nil)
theorem stored_len (xs : List Ent) (κ : NestedKey) (b : Addr) (u : Value) : (storedH xs κ b u).length ≤ xs.length + 1 := by
  unfold storedH
  by_cases c : (atKey xs κ).isSome = true
  · rw [if_pos c, List.length_map]; omega
  · rw [if_neg c, List.length_append]; exact Nat.le_refl _
def rSetD (w : World) (K : PySem.W.Frag) : TSet := fun o i v H Q => ∃ a es xs kvs k κ b, o = .ref a ∧ H a = some (dictO a es) ∧ es.toList = xs.map (entD w) ∧ (xs.map (·.1)).Nodup ∧ RpX w K H xs kvs ∧ i = .ref b ∧ Rp w K H (.ref b) k ∧ toKey k = some κ ∧ κ.depth ≤ 8 ∧ es.arr.size < sizeLine ∧
  ∀ u es', RelV v u → es'.toList = (storedH xs κ b u).map (entD w) → ((storedH xs κ b u).map (·.1)).Nodup → Q (upd H a (dictO a es'))
theorem set_dct {X : Cx} (hu : X.A.units + 70 < cLine) : PSet X (rSetD X.w X.K) := by
  intro pins s σ H o i v ov iv u Q I ro ri rv h
  obtain ⟨a, es, xs, kvs, k, κ, b, rfl, h1, h2, h3, h4, rfl, h5, h6, h7, h8, q⟩ := h
  cases ro
  cases ri
  obtain ⟨m1, m2, m3⟩ := dct_at I (Same.refl H) h1 h2 h3 h4
  refine wpAny_setItem_heap (knd := nestedKind X.prog X.w) (by show X.A.in1.units + 8 < cLine; simp only [Around.in1_units]; omega) (Rp.key I (Same.refl H) h6 h5 rfl h7 rfl) m3 (fun h' hD sb => ?_) m2
  obtain ⟨o, es', ep, g1, g2, g3, g4, g5, g6⟩ := hD
  have sz : es'.size ≤ sizeLine := by
    have e1 := ents_len (w := X.w) g4
    have e2 := stored_len xs κ b u
    have e3 := ents_len h2
    omega
  refine ⟨upd H a (dictO a ⟨es', ep⟩), I.write (x := a) (e := a) (by rw [h1]; trivial) (.inl rfl) (fun c o' hc e => (sb.2 c hc).trans e) ⟨o, g1⟩ ?_, q u ⟨es', ep⟩ rv g4 g6⟩
  exact ⟨⟨m1, sz, o, g1, g2, g3⟩, ⟨o, g1⟩, fun h1' h2' hφ hk => by
    obtain ⟨f1, f2, o1, f3, f4, f5⟩ := hφ
    exact ⟨f1, f2, o1, hk _ f3, f4, f5⟩⟩
def rSet2 (w : World) (K : PySem.W.Frag) : TSet := fun o i v H Q => rSetL o i v H Q ∨ rSetD w K o i v H Q
theorem set_2 {X : Cx} (hu : X.A.units + 70 < cLine) : PSet X (rSet2 X.w X.K) := by
  intro pins s σ H o i v ov iv u Q I ro ri rv h
  rcases h with h | h
  · exact set_list pins s σ H o i v ov iv u Q I ro ri rv h
  · exact set_dct hu pins s σ H o i v ov iv u Q I ro ri rv h
end
def ckO (i : Nat) : M Unit := fun c => match c.1[i]? with
  | some (some (.ol _)) => some ((), c)
  | some (some (.od _)) => some ((), c)
  | _ => none
theorem ckO_inv {i : Nat} {c c' : Cf} {x : Unit} (h : ckO i c = some (x, c')) : Own c.1 i ∧ c' = c := by
  unfold ckO at h
  cases e : c.1[i]? with
  | none => rw [e] at h; cases h
  | some o =>
    cases o with
    | none => rw [e] at h; cases h
    | some s =>
      rw [e] at h
      cases s with
      | ol xs => cases h; exact ⟨.inl ⟨xs, e⟩, rfl⟩
      | od xs => cases h; exact ⟨.inr ⟨xs, e⟩, rfl⟩
      | d _ => cases h
      | st => cases h
def setXM (i : Nat) (mk me : M Rv) : M Oc := do
  let d ← dM me
  ckO i
  let k ← dM mk
  setItemM i k d
  pure .nx
section
variable {w : World} {K : PySem.W.Frag} {g : Gh} {F H F' H' F0 H0 : Hp} {sa sa' sa0 : SA} {σ σ' : L2.St} {env env' env0 : Env} {ds ds' : Option DS} {a b p : Addr} {v u : V}
/-- the store: what is asked, what holds behind it -/
theorem setItem_ok {i : Nat} {k d : D} {uk ud : V} {Q : Hp → Prop} (e : EnvOk w K g F H sa σ env ds) (hk : Rp w K F uk k) (hd : Rp w K F ud d) (h : setItemM i k d (env, ds) = some ((), (env', ds')))
    (q : ∀ H', EnvOk w K g F H' sa σ env' ds' → Q H') : ∃ o, σ[i]? = some (some o) ∧ rSet2 w K o uk ud H Q := by
  unfold setItemM at h
  simp only at h
  cases hs : env[i]? with
  | none => rw [hs] at h; cases h
  | some o =>
    cases o with
    | none => rw [hs] at h; cases h
    | some sl =>
      rw [hs] at h
      cases sl with
      | d x => cases h
      | st => cases h
      | ol xs =>
        cases k <;> first | cases h | skip
        rename_i j
        simp only at h
        cases hp : placeD xs.length j with
        | none => rw [hp] at h; cases h
        | some n =>
          rw [hp] at h
          cases h
          obtain ⟨v1, g1, a, rfl, ⟨vs, l1, l2⟩, m⟩ := e.slots i _ hs
          cases hk
          refine ⟨_, g1, .inl ⟨a, vs, j, n, rfl, rfl, l1, by rw [l2.length]; exact hp, q _ ?_⟩⟩
          exact e.write (.inl ⟨xs, hs⟩) (.inl ⟨_, rfl, _, upd_same, l2.set hd n⟩) g1
      | od kvs =>
        simp only at h
        by_cases c : (keyOk kvs k && decide (kvs.length < line)) = true
        · rw [if_pos c] at h
          cases h
          obtain ⟨c1, c2⟩ := and2 c
          obtain ⟨c3, c4⟩ := and2 c1
          have c2 : kvs.length < sizeLine := of_decide_eq_true c2
          obtain ⟨v1, g1, a, rfl, ⟨es, xs, l1, l2, l3, l4⟩, m⟩ := e.slots i _ hs
          obtain ⟨ts, κ, rfl, hκ, hdp⟩ := keyN_key c3
          obtain ⟨b, rfl⟩ : ∃ b, uk = .ref b := by cases hk; exact ⟨_, rfl⟩
          refine ⟨_, g1, .inr ⟨a, es, xs, kvs, _, κ, b, rfl, l1, l2, l3, l4.mono e.sub, rfl, hk.mono e.sub, hκ, hdp, by rw [ents_len l2, l4.len]; exact c2, fun u es' hu h1 h2 => q _ ?_⟩⟩
          exact e.write (.inr ⟨kvs, hs⟩) (.inr ⟨_, rfl, es', _, upd_same, h1, h2, l4.put hκ c3 hk hu hd⟩) g1
        · rw [if_neg c] at h; cases h
end
section
variable {X : Cx} {e k : Expr} {me mk : M Rv} {pos tpos px : Pos} {x : Str} {i : Nat}
theorem ss_setX (hu : X.A.units + 70 < cLine) (hN : X.N[i]? = some x) (hv : Vis X.env.scope x) (hd : (x == ("__debug__" : Str)) = false) (hcd : (x == ("__classdict__" : Str)) = false) (hk : SE X k mk) (he : SE X e me)
    (ha : ∀ v, assign (.Subscript (.Name x px) k tpos) X.env v = (do
      let ov ← holding [v] (eval (.Name x px) X.env)
      let iv ← holding [v, ov] (eval k X.env)
      standAt tpos
      holding [v, ov, iv] (setItem ov iv v)
      release [v, ov, iv] []))
    (hs : swapsWithSole [.Subscript (.Name x px) k tpos] e pos.line X.env = pure false) (hw : swappedStores [.Subscript (.Name x px) k tpos] e X.env = pure none)
    (h1 : (assignEach [.Subscript (.Name x px) k tpos] X.env).map (·.2) = [assign (.Subscript (.Name x px) k tpos) X.env]) :
    SS X (.Assign [.Subscript (.Name x px) k tpos] e pos) (setXM i mk me) := ps_imp (ps_asg he (pg_sub (pe_var hN hv hd hcd) hk (set_2 hu) ha) hs hw h1) fun D σ H h => by
  obtain ⟨g, F, sa, env, ds, oc, env', ds', e, hm, q⟩ := h
  obtain ⟨d, ⟨e1, d1⟩, h1, hm1⟩ := bindM hm
  obtain ⟨_, c5, h6, hm4⟩ := bindM hm1
  obtain ⟨kd, ⟨e2, d2⟩, h2, hm2⟩ := bindM hm4
  obtain ⟨_, ⟨e3, d3⟩, h3, hm3⟩ := bindM hm2
  obtain ⟨h4, h5⟩ := pureM hm3
  subst h4
  obtain ⟨rfl, rfl⟩ := Prod.mk.inj h5
  obtain ⟨own1, rfl⟩ := ckO_inv h6
  refine dM_ok ⟨g, F, sa, env, ds, d, e1, d1, e, h1, fun F1 H1 sa1 v eo s hv => ?_⟩
  obtain ⟨a, o, g1, g2, _⟩ := eo.own own1
  refine ⟨_, g1, dM_ok ⟨g, F1, sa1, e1, d1, kd, e2, d2, eo, h2, fun F2 H2 sa2 kv eo2 s2 hkv => ?_⟩⟩
  obtain ⟨o2, g3, hset⟩ := setItem_ok (Q := fun H' => D.nx σ H') eo2 hkv (hv.mono s2.ff) h3 fun H' eo3 => q F2 H' sa2 σ eo3 (s.ff.trans s2.ff) ((s.saR e).trans (s2.saR eo))
  rw [g1] at g3
  cases g3
  exact hset
end
/-- a value that is kept -/
def keptM (m : M Rv) : M Rv := do
  let r ← m
  keepM r
def put1 (i : Nat) (r : Rv) : M Unit := match slOf r with
  | some s => setSl i s
  | none => stuck
def par2M (i j : Nat) (ma mb : M Rv) : M Oc := do
  let x ← keptM ma
  let y ← keptM mb
  put1 i x
  put1 j y
  pure .nx
theorem put1_inv {i : Nat} {r : Rv} {c c' : Cf} {x : Unit} (h : put1 i r c = some (x, c')) : ∃ s, slOf r = some s ∧ i < c.1.length ∧ c' = (c.1.set i (some s), c.2) := by
  unfold put1 at h
  cases e : slOf r with
  | none => rw [e] at h; cases h
  | some s =>
    rw [e] at h
    obtain ⟨h1, h2⟩ := setSl_inv h
    exact ⟨s, rfl, h1, h2⟩
section
variable {w : World} {K : PySem.W.Frag} {g : Gh} {F H F' H' F0 H0 : Hp} {sa sa' sa0 : SA} {σ σ' : L2.St} {env env' env0 : Env} {ds ds' : Option DS} {a b p : Addr} {v u : V}
/-- a kept value: evaluated, and the own thing behind it frozen -/
theorem kept_ok {m : M Rv} {r : Rv} {Q : VK} (e : EnvOk w K g F H sa σ env ds) (h : keptM m (env, ds) = some (r, (env', ds')))
    (k : ∀ F' H' sa' v, EnvOk w K g F' H' sa' σ env' ds' → Step σ F H sa env F' H' sa' env' → RvOk w K g F' H' sa' σ env' v r → (∀ i, r ≠ .ow i) → RvNew H v r → Q v H') : tE w K m σ H Q := by
  obtain ⟨r0, ⟨e1, d1⟩, h1, h2⟩ := bindM h
  refine ⟨g, F, sa, env, ds, r0, e1, d1, e, h1, fun F1 H1 sa1 v eo s hv hn => ?_⟩
  obtain ⟨F2, e2, _, s2, hv2, hne, hnn⟩ := keepM_ok eo s hv h2
  exact k F2 H1 sa1 v e2 s2 hv2 hne (hnn hn)
theorem Mut.set {i : Nat} {s : Sl} (hl : i < σ.length) (h : Mut (σ.set i (some v)) (env.set i (some s)) b) : Mut σ env b ∨ v = .ref b := by
  obtain ⟨j, o, e⟩ := h
  by_cases hj : i = j
  · subst hj
    rw [List.getElem?_set_self hl] at e
    cases e
    exact .inr rfl
  · rw [List.getElem?_set_ne hj] at e
    refine .inl ⟨j, ?_, e⟩
    rcases o with ⟨xs, o⟩ | ⟨xs, o⟩
    · rw [List.getElem?_set_ne hj] at o; exact .inl ⟨xs, o⟩
    · rw [List.getElem?_set_ne hj] at o; exact .inr ⟨xs, o⟩
end
section
variable {X : Cx} {a b : Expr} {ma mb : M Rv} {pos px py pt pt2 : Pos} {x y : Str} {i j kt k2 : Nat}
/-- two values one behind the other, then stored: the reading of both -/
theorem par2_ok {w : World} {K : PySem.W.Frag} {σ : L2.St} {H : Hp} {D : Ends} (h : tS w K (par2M i j ma mb) D σ H) : tE w K ma σ H fun u H1 => tE w K mb σ H1 fun v H2 => D.nx ((σ.set i (some u)).set j (some v)) H2 := by
  obtain ⟨g, F, sa, env, ds, oc, env', ds', e, hm, q⟩ := h
  obtain ⟨x, ⟨e1, d1⟩, h1, hm1⟩ := bindM hm
  obtain ⟨y, ⟨e2, d2⟩, h2, hm2⟩ := bindM hm1
  obtain ⟨_, ⟨e3, d3⟩, h3, hm3⟩ := bindM hm2
  obtain ⟨_, ⟨e4, d4⟩, h4, hm4⟩ := bindM hm3
  obtain ⟨h5, h6⟩ := pureM hm4
  subst h5
  obtain ⟨rfl, rfl⟩ := Prod.mk.inj h6
  obtain ⟨s1, f1, f2, f3⟩ := put1_inv h3
  obtain ⟨s2, f4, f5, f6⟩ := put1_inv h4
  obtain ⟨rfl, rfl⟩ := Prod.mk.inj f3
  obtain ⟨rfl, rfl⟩ := Prod.mk.inj f6
  refine kept_ok e h1 fun F1 H1 sa1 u eo1 st1 hu hune hun => ?_
  refine kept_ok eo1 h2 fun F2 H2 sa2 v eo2 st2 hv hvne hvn => ?_
  have hu2 := hu.step st2
  have eo3 := store1_ok eo2 hu2 f1 f2
  have hl : i < σ.length := eo2.len ▸ f2
  -- the second value in the new frame
  have hv3 : RvOk w K g F2 H2 sa2 (σ.set i (some u)) (e2.set i (some s1)) v y := by
    have key : ∀ p, v = .ref p → H1 p = none → ¬ Mut σ e2 p → ¬ Mut (σ.set i (some u)) (e2.set i (some s1)) p := fun p ev hp n z => by
      rcases z.set hl with z | z
      · exact n z
      · -- the first value stood there already
        subst z
        cases x with
        | d dx =>
          -- stored as data: no own thing
          cases f1
          obtain ⟨k, o, ek⟩ := (show Mut (σ.set i (some (V.ref p))) (e2.set i (some (Sl.d dx))) p from ‹_›)
          have hk := o.set (fun _ z => nomatch z) fun _ z => nomatch z
          rw [List.getElem?_set_ne hk.1] at ek
          exact n ⟨k, hk.2, ek⟩
        | ow i => exact hune i rfl
        | st =>
          cases f1
          obtain ⟨k, o, ek⟩ := (show Mut (σ.set i (some (V.ref p))) (e2.set i (some Sl.st)) p from ‹_›)
          have hk := o.set (fun _ z => nomatch z) fun _ z => nomatch z
          rw [List.getElem?_set_ne hk.1] at ek
          exact n ⟨k, hk.2, ek⟩
        | fl xs =>
          obtain ⟨a, ea, l, _⟩ := hu
          cases ea
          obtain ⟨o, ho⟩ := l.some
          rw [hp] at ho; cases ho
        | fd xs =>
          obtain ⟨a, ea, l, _⟩ := hu
          cases ea
          obtain ⟨o, ho⟩ := l.some
          rw [hp] at ho; cases ho
    cases y with
    | d dy => exact hv
    | ow k => exact (hvne k rfl).elim
    | st => exact hv
    | fl ys =>
      obtain ⟨p, ev, l, m, n⟩ := hv
      exact ⟨p, ev, l, m, key p ev (hvn p ev) n⟩
    | fd ys =>
      obtain ⟨p, ev, l, m, n⟩ := hv
      exact ⟨p, ev, l, m, key p ev (hvn p ev) n⟩
  exact q F2 H2 sa2 _ (store1_ok eo3 hv3 f4 f5) (st1.ff.trans st2.ff) ((st1.saR e).trans (st2.saR eo1))
theorem ss_par2 (hc : X.calm = true) (hN : X.N.Nodup) (hi : X.N[i]? = some x) (hj : X.N[j]? = some y) (hij : i ≠ j)
    (hx : X.env.scope.names.lookup x = some .local) (hy : X.env.scope.names.lookup y = some .local) (ha : SE X a ma) (hb : SE X b mb) (hs1 : notStar a = true) (hs2 : notStar b = true)
    (hw : swappedStores [.Tuple [.Name x px, .Name y py] kt pt] (.Tuple [a, b] k2 pt2) X.env = pure (some [x, y]))
    (hs : swapsWithSole [.Tuple [.Name x px, .Name y py] kt pt] (.Tuple [a, b] k2 pt2) pos.line X.env = pure false) :
    SS X (.Assign [.Tuple [.Name x px, .Name y py] kt pt] (.Tuple [a, b] k2 pt2) pos) (par2M i j ma mb) :=
  ps_imp (ps_par hc hN hi hj hij hx hy (pa_cons ha (pa_cons hb pa_nil (star_plain hs2 [] X.env)) (star_plain hs1 [b] X.env)) hw hs) fun D σ H h => by
    have q := par2_ok h
    obtain ⟨g, F, sa, env, ds, r, env', ds', e, hm, k⟩ := q
    refine ⟨g, F, sa, env, ds, r, env', ds', e, hm, fun F' H' sa' v eo s hv hn => ?_⟩
    obtain ⟨g2, F2, sa2, env2, ds2, r2, env2', ds2', e2, hm2, k2⟩ := k F' H' sa' v eo s hv hn
    exact ⟨g2, F2, sa2, env2, ds2, r2, env2', ds2', e2, hm2, fun F3 H3 sa3 v3 eo3 s3 hv3 hn3 => ⟨v, v3, rfl, k2 F3 H3 sa3 v3 eo3 s3 hv3 hn3⟩⟩
/-- a, b = x, y where the pair is made: names that are cells -/
theorem ss_par2T {k3 : Nat} (hc : X.calm = true) (hN : X.N.Nodup) (hi : X.N[i]? = some x) (hj : X.N[j]? = some y)
    (hx : Loc X.env.scope x) (hy : Loc X.env.scope y) (hfx : X.fn x = true ∨ X.env.scope.names.lookup x = some .local) (hfy : X.fn y = true ∨ X.env.scope.names.lookup y = some .local)
    (ha : SE X a ma) (hb : SE X b mb) (hs1 : notStar a = true) (hs2 : notStar b = true)
    (hn : (assignEach [.Name x px, .Name y py] X.env).length = 2) (hst : (assignEach [.Name x px, .Name y py] X.env).findIdx? (·.1) = none)
    (hn1 : (assignEach [.Name x px, .Name y py] X.env).map (·.2) = assign (.Name x px) X.env :: (assignEach [.Name y py] X.env).map (·.2)) (hn2 : (assignEach [.Name y py] X.env).map (·.2) = assign (.Name y py) X.env :: (assignEach [] X.env).map (·.2))
    (hs : swapsWithSole [.Tuple [.Name x px, .Name y py] kt pt] (.Tuple [a, b] k2 pt2) pos.line X.env = pure false) (hw : swappedStores [.Tuple [.Name x px, .Name y py] kt pt] (.Tuple [a, b] k2 pt2) X.env = pure none)
    (h1 : (assignEach [.Tuple [.Name x px, .Name y py] kt pt] X.env).map (·.2) = [assign (.Tuple [.Name x px, .Name y py] kt pt) X.env]) :
    SS X (.Assign [.Tuple [.Name x px, .Name y py] kt pt] (.Tuple [a, b] k2 pt2) pos) (par2M i j ma mb) :=
  ps_imp (ps_asg (pe_tup (pa_cons ha (pa_cons hb pa_nil (star_plain hs2 [] X.env)) (star_plain hs1 [b] X.env)))
    (pg_tup hc (pgs_cons (pg_name hN hi hx hfx) (pgs_cons (pg_name hN hj hy hfy) pgs_nil hn2) hn1) hn hst) hs hw h1) fun D σ H h => by
    -- the pair is laid behind both values: nothing of ours
    obtain ⟨g, F, sa, env, ds, oc, env', ds', e, hm, q⟩ := h
    have h2 : tS X.w X.K (par2M i j ma mb) { D with nx := fun σ' H' => ∀ p, H' p = none → ∀ vs, D.nx σ' (upd H' p (.tup vs)) } σ H := by
      obtain ⟨oc', henv⟩ : oc = .nx ∧ True := by
        obtain ⟨x1, c1, h1, hm1⟩ := bindM hm
        obtain ⟨y1, c2, h2, hm2⟩ := bindM hm1
        obtain ⟨_, c3, h3, hm3⟩ := bindM hm2
        obtain ⟨_, c4, h4, hm4⟩ := bindM hm3
        obtain ⟨h5, h6⟩ := pureM hm4
        exact ⟨h5.symm, trivial⟩
      subst oc'
      exact ⟨g, F, sa, env, ds, _, env', ds', e, hm, fun F' H' sa' σ' eo ff sr p hp vs => q F' (upd H' p (.tup vs)) sa' σ' (eo.alloc hp _) ff sr⟩
    obtain ⟨g, F, sa, env, ds, r, env', ds', e, hm, k⟩ := par2_ok h2
    refine ⟨g, F, sa, env, ds, r, env', ds', e, hm, fun F' H' sa' v eo s hv hn => ?_⟩
    obtain ⟨g2, F2, sa2, env2, ds2, r2, env2', ds2', e2, hm2, k2⟩ := k F' H' sa' v eo s hv hn
    refine ⟨g2, F2, sa2, env2, ds2, r2, env2', ds2', e2, hm2, fun F3 H3 sa3 v3 eo3 s3 hv3 hn3 => ⟨by show 2 ≤ sizeLine; decide, fun p hp => ?_⟩⟩
    refine ⟨p, [v, v3], rfl, .inl (.inl upd_same), rfl, v, [v3], rfl, v3, [], rfl, rfl, ?_⟩
    exact k2 F3 H3 sa3 v3 eo3 s3 hv3 hn3 p hp [v, v3]
end
end Fw
end TFwS
section TFwT
namespace Fw
open PySem PySem.Spec PyProof.Rows L2
/-- what is walked: a list or a tuple -/
inductive Sd where
  | l
  | t
def SqS (sd : Sd) (K : PySem.W.Frag) (H : Hp) (a : Addr) (xs : List V) : Prop := match sd with
  | .l => SqL K H a xs
  | .t => SqT K H a xs
def AtS (sd : Sd) (a : Addr) (items : Array Value) (h : Heap) : Prop := match sd with
  | .l => h.IsList a items
  | .t => h.IsTuple a items
def ItS (sd : Sd) (h : Heap) (it a : Addr) (i : Nat) : Prop := match sd with
  | .l => h.IsListIter it a i
  | .t => h.IsTupleIter it a i
def obS (sd : Sd) (a : Addr) : Obj := match sd with
  | .l => { cls := .type "list_iterator", data := .fields #[.ref a, .int 0 0] }
  | .t => { cls := .type "tuple_iterator", data := .fields #[.ref a, .int 0 0] }
theorem begins_s (sd : Sd) (a : Addr) (items : Array Value) : Begins (.ref a) (obS sd a) (AtS sd a items) := by
  cases sd with
  | l => exact begins_list a items
  | t => exact begins_tuple a items
theorem draws_s {prog : Program} {w : World} {A : Around} (hh : A.handled = none) (sd : Sd) (it a : Addr) (hne : a ≠ it) (items : Array Value) : Draws prog w A it [it, a] items.size (fun i v => items[i]? = some v) (fun i h => ItS sd h it a i ∧ AtS sd a items h) := by
  cases sd with
  | l => exact .list hh it a hne items
  | t => exact .tuple hh it a hne items
theorem ItS.obj {sd : Sd} {h : Heap} {it a : Addr} {i : Nat} (x : ItS sd h it a i) : ∃ o, h.get? it = some o ∧ ∀ v, o.data ≠ .cell v := by
  cases sd with
  | l => obtain ⟨o, e, _, d⟩ := x; exact ⟨o, e, fun v q => by rw [d] at q; cases q⟩
  | t => obtain ⟨o, e, _, d⟩ := x; exact ⟨o, e, fun v q => by rw [d] at q; cases q⟩
theorem ItS.keep {sd : Sd} {h h' : Heap} {it a : Addr} {i : Nat} (x : ItS sd h it a i) (k : ∀ o, h.get? it = some o → h'.get? it = some o) : ItS sd h' it a i := by
  cases sd with
  | l => exact Heap.IsListIter.at x k
  | t => exact Heap.IsTupleIter.at x k
theorem ItS.first {sd : Sd} {h : Heap} {it a : Addr} (e : h.get? it = some (obS sd a)) : ItS sd h it a 0 := by
  cases sd with
  | l => exact ⟨_, e, rfl, rfl⟩
  | t => exact ⟨_, e, rfl, rfl⟩
section
variable {X : Cx} {pins : List (Addr × Obj)} {σ : L2.St} {H : Hp} {s : Shared} {a : Addr} {xs ys : List V}
theorem seq_s (I : Inv X pins σ H s) (sd : Sd) (h : SqS sd X.K H a xs) : ∃ its : List Value, Vals xs its ∧ AtS sd a its.toArray s.heap ∧ a < s.heap.objs.size := by
  cases sd with
  | l =>
    obtain ⟨its, rv, p, _⟩ := I.list h
    exact ⟨its, rv, p.isList, p.lt⟩
  | t =>
    obtain ⟨its, rv, p, _⟩ := I.tuple h
    exact ⟨its, rv, p, p.lt⟩
theorem seq_inj (I : Inv X pins σ H s) (sd : Sd) (h : SqS sd X.K H a xs) (h' : SqS sd X.K H a ys) : xs = ys := by
  cases sd with
  | l => exact I.list_inj h h'
  | t => exact I.tuple_inj h h'
end
/-- the items at a and b in new pairs -/
def ItzS (s1 s2 : Sd) (K : PySem.W.Frag) (a b : Addr) : It :=
  ⟨fun i H => ∃ (xs ys : List V) (x y : V), SqS s1 K H a xs ∧ SqS s2 K H b ys ∧ xs[i]? = some x ∧ ys[i]? = some y,
    fun i H v H' => ∃ T x y, v = .ref T ∧ H T = none ∧ H' = upd H T (.tup [x, y]) ∧ (∀ xs, SqS s1 K H a xs → xs[i]? = some x) ∧ ∀ ys, SqS s2 K H b ys → ys[i]? = some y,
    fun i H => ∃ xs ys : List V, SqS s1 K H a xs ∧ SqS s2 K H b ys ∧ i = min xs.length ys.length⟩
/-- the cells lie apart -/
structure ZipAp (z TI TO i1 i2 a b : Addr) : Prop where
  A : ZipApart z TI TO i1 i2 a b
  tia : TI ≠ a
  tib : TI ≠ b
  ab1 : i1 ≠ b
  ab2 : i2 ≠ a
theorem ZipAp.sep {z TI TO i1 i2 a b : Addr} (D : ZipAp z TI TO i1 i2 a b) : ZipSep2 z TI TO i1 i2 [i1, a] [i2, b] where
  TIz := D.A.TIz
  TOz := D.A.TOz
  TITO := D.A.TITO
  TIi1 := D.A.TIi1
  mem1 := by simp
  zf1 := by simp only [List.mem_cons, List.not_mem_nil, or_false, not_or]; exact ⟨fun e => D.A.i1z e.symm, fun e => D.A.l1z e.symm⟩
  Tf1 := by simp only [List.mem_cons, List.not_mem_nil, or_false, not_or]; exact ⟨D.A.TOi1, fun e => D.A.l1TO e.symm⟩
  TIi2 := D.A.TIi2
  mem2 := by simp
  zf2 := by simp only [List.mem_cons, List.not_mem_nil, or_false, not_or]; exact ⟨fun e => D.A.i2z e.symm, fun e => D.A.l2z e.symm⟩
  Tf2 := by simp only [List.mem_cons, List.not_mem_nil, or_false, not_or]; exact ⟨D.A.TOi2, fun e => D.A.l2TO e.symm⟩
  sep1_2 := by simp only [List.mem_cons, List.not_mem_nil, or_false, not_or]; exact ⟨D.A.i12, D.ab1⟩
  sep2_1 := by simp only [List.mem_cons, List.not_mem_nil, or_false, not_or]; exact ⟨fun e => D.A.i12 e.symm, D.ab2⟩
theorem turn_zipS {P : Program} {w : World} {K : PySem.W.Frag} {elts : List Expr} {kk : Nat} {tpos : Pos} {s1 s2 : Sd} {a b z TI TO i1 i2 : Addr} (D : ZipAp z TI TO i1 i2 a b) :
    Turn P w K (.Tuple elts kk tpos) (ItzS s1 s2 K a b) [z, TI, TO, i1, i2] z (fun i h => IsZip h z TI TO .none ∧ IsTupOf2 h TI (.ref i1) (.ref i2) ∧ (∃ x y, IsTupOf2 h TO x y) ∧ ItS s1 h i1 a i ∧ ItS s2 h i2 b i) where
  mem := by simp
  obj := fun i h st c hc => by
    obtain ⟨hz, hTI, ⟨x, y, hTO⟩, h1, h2⟩ := st
    have e' : c = z ∨ c = TI ∨ c = TO ∨ c = i1 ∨ c = i2 := by simpa using hc
    rcases e' with rfl | rfl | rfl | rfl | rfl
    · exact ⟨_, hz, fun v q => nomatch q⟩
    · exact ⟨_, hTI, fun v q => nomatch q⟩
    · exact ⟨_, hTO, fun v q => nomatch q⟩
    · exact h1.obj
    · exact h2.obj
  keep := fun i h h' st k => by
    obtain ⟨hz, hTI, ⟨x, y, hTO⟩, h1, h2⟩ := st
    exact ⟨k z (by simp) _ hz, k TI (by simp) _ hTI, ⟨x, y, k TO (by simp) _ hTO⟩, h1.keep fun o q => k i1 (by simp) o q, h2.keep fun o q => k i2 (by simp) o q⟩
  item := by
    intro X hP hw hK hc i pins s σ H E I hf st hg
    subst hP hw hK
    obtain ⟨hz, hTI, ⟨x0, y0, hTO⟩, h1, h2⟩ := st
    obtain ⟨xs, ys, x, y, hqx, hqy, hx, hy⟩ := hg
    obtain ⟨its, rv, p1, _⟩ := seq_s I s1 hqx
    obtain ⟨its2, rv2, p2, _⟩ := seq_s I s2 hqy
    obtain ⟨u, hu, ru⟩ := rv.get hx
    obtain ⟨u2, hu2, ru2⟩ := rv2.get hy
    have hzl : z < s.heap.objs.size := Heap.lt_size hz
    have l1 : i < its.toArray.size := by rw [List.size_toArray]; exact (List.getElem?_eq_some_iff.mp hu).1
    have l2 : i < its2.toArray.size := by rw [List.size_toArray]; exact (List.getElem?_eq_some_iff.mp hu2).1
    have hh : X.A.in1.handled = none := I.ok.hd hc
    refine wpAny_pyNext_zipD2_item D.sep (draws_s hh s1 i1 a (fun e => D.A.l1i1 e) its.toArray) (draws_s hh s2 i2 b (fun e => D.A.l2i2 e) its2.toArray) hz hTI hTO ⟨h1, p1⟩ ⟨h2, p2⟩ l1 l2 fun x1 x2 h' tk q1 q2 z' TO' st1 st2 hT hsz hk => ?_
    have e1 : x1 = u := by
      rw [List.getElem?_toArray, hu] at q1
      exact (Option.some.inj q1).symm
    have e2 : x2 = u2 := by
      rw [List.getElem?_toArray, hu2] at q2
      exact (Option.some.inj q2).symm
    subst e1 e2
    refine ⟨_, rfl, wpAny_letOwnedTupleGo_zip (s := { s with heap := h', toks := tk }) z' fun h'' z'' sb => ?_⟩
    have hT2 : h''.get? s.heap.objs.size = some { cls := .type "tuple", data := .seq #[x1, x2] } := (sb.2 _ (Nat.ne_of_gt hzl)).trans hT
    have new : ObjOk X.prog X.w (upd H s.heap.objs.size (.tup [x, y])) h'' s.heap.objs.size (.tup [x, y]) :=
      ⟨by show 2 ≤ sizeLine; decide, [x1, x2], .cons ru (.cons ru2 .nil), ⟨_, hT2, rfl, _, rfl⟩⟩
    have I1 : Inv X pins σ (upd H s.heap.objs.size (.tup [x, y])) { s with heap := h'', toks := tk } :=
      I.turnedNew (t' := tk) (ch := [z, TI, TO, i1, i2]) (fun c o hb q => (sb.2 c (fun q' => hb (by simp [q']))).trans (hk c o (fun q' => hb (by simp [q'])) (fun q' => hb (by simp [q'])) (fun q' => hb (by simp [q'])) (fun q' => hb (by simp [q'])) q)) hf (Nat.le_refl _) new
    refine ⟨.ref s.heap.objs.size, _, I1, rfl, ⟨_, x, y, rfl, I.hok.fresh (Nat.le_refl _), rfl, fun l hl => by rw [seq_inj I s1 hl hqx]; exact hx, fun l hl => by rw [seq_inj I s2 hl hqy]; exact hy⟩, ⟨z'', ?_, ⟨x1, x2, ?_⟩, ?_, ?_⟩, fun c hcm => ?_⟩
    · exact (sb.2 _ D.A.TIz).trans (hk _ _ D.A.TIz D.A.TITO D.A.TIi1 D.A.TIi2 hTI)
    · exact (sb.2 _ D.A.TOz).trans TO'
    · exact st1.1.keep fun o q => (sb.2 _ D.A.i1z).trans q
    · exact st2.1.keep fun o q => (sb.2 _ D.A.i2z).trans q
    · have hlt : c < s.heap.objs.size := by
        have e' : c = z ∨ c = TI ∨ c = TO ∨ c = i1 ∨ c = i2 := by simpa using hcm
        rcases e' with rfl | rfl | rfl | rfl | rfl
        · exact hzl
        · exact Heap.lt_size hTI
        · exact Heap.lt_size hTO
        · obtain ⟨_, e1, _⟩ := h1.obj; exact Heap.lt_size e1
        · obtain ⟨_, e2, _⟩ := h2.obj; exact Heap.lt_size e2
      rw [upd_ne (Nat.ne_of_lt hlt)]
      exact (hf c hcm).1
  done := by
    intro X hP hw hK hc i pins s σ H E I hf st hg
    subst hP hw hK
    obtain ⟨hz, hTI, ⟨x0, y0, hTO⟩, h1, h2⟩ := st
    obtain ⟨xs, ys, hqx, hqy, hend⟩ := hg
    obtain ⟨its, rv, p1, _⟩ := seq_s I s1 hqx
    obtain ⟨its2, rv2, p2, _⟩ := seq_s I s2 hqy
    have l1 := rv.length
    have l2 := rv2.length
    have hh : X.A.in1.handled = none := I.ok.hd hc
    refine wpAny_pyNext_zipD2_end D.sep (draws_s hh s1 i1 a (fun e => D.A.l1i1 e) its.toArray) (draws_s hh s2 i2 b (fun e => D.A.l2i2 e) its2.toArray) hz hTI hTO ⟨h1, p1⟩ ⟨h2, p2⟩ (by rw [List.size_toArray]; omega) (by rw [List.size_toArray]; omega) (by rw [List.size_toArray, List.size_toArray]; omega) fun h' tk hk => ⟨rfl, I.turnedL (t' := tk) (ch := [z, TI, TO, i1, i2]) (fun c o hb q =>
      hk c o (fun q' => hb (by simp [q'])) (fun q' => hb (by simp [q'])) (fun q' => hb (by simp [q'])) (fun q' => hb (by simp [q'])) q) hf⟩
  self := fun A i s Q E st h => wpAny_pyIter_zip st.1 h
theorem zip_ap (n a b : Nat) (h1 : a < n) (h2 : b < n) : ZipAp (n + 4) (n + 2) (n + 3) n (n + 1) a b := by
  refine ⟨PySem.W.ktu_apart n a b h1 h2, ?_, ?_, ?_, ?_⟩
  · exact fun e => absurd (show n + 2 = a from e) (by omega)
  · exact fun e => absurd (show n + 2 = b from e) (by omega)
  · exact fun e => absurd (show n = b from e) (by omega)
  · exact fun e => absurd (show n + 1 = a from e) (by omega)
def iZipS (K : PySem.W.Frag) (ta : TA) : TI := fun σ H R => ta σ H fun vs H1 => ∃ s1 s2 a b xs ys, vs = [.ref a, .ref b] ∧ SqS s1 K H1 a xs ∧ SqS s2 K H1 b ys ∧ R (ItzS s1 s2 K a b) H1
theorem pi_zipS {X : Cx} {e e2 : Expr} {ta : TA} {p pos tpos : Pos} {elts : List Expr} {kk : Nat} (hg : Gl X "zip") (hm : X.mg "zip" = none) (ha : PA X [e, e2] ta)
    (hs : starEach [e, e2] X.env = (false, eval e X.env) :: starEach [e2] X.env) (hpl : (backTo pos (starEach [e2] X.env)).any (·.1) = false) :
    PI X (.Tuple elts kk tpos) (.Call (.Name "zip" p) [e, e2] [] pos) (iZipS X.K ta) := ⟨fun pins s σ H R I h => by
  refine Call_ (ld_blt I hg hm PyProof.Rows.boot_zip (PyProof.Rows.callWith_type1 (thn (ha.run pos pins s σ H _ I h) fun us s1 hx => ?_) hs hpl))
  obtain ⟨vs, H1, I1, r1, d1, d2, a, b, xs, ys, rfl, hqx, hqy, q⟩ := hx
  obtain ⟨u1, u2, rfl, q1, q2⟩ := vals2 r1
  cases q1
  cases q2
  obtain ⟨its, rv, p1, la⟩ := seq_s I1 d1 hqx
  obtain ⟨its2, rv2, p2, lb⟩ := seq_s I1 d2 hqy
  refine zip_begins2 (begins_s d1 a its.toArray) (begins_s d2 b its2.toArray) p1 p2 fun h' hz hTI hTO g1 g2 hsz hk => wpAny_pyIter_zip hz ?_
  have I2 : Inv X pins σ H1 { s1 with heap := h' } := I1.kept (t' := s1.toks) hk
  refine ⟨s1.heap.objs.size + 4, [s1.heap.objs.size + 4, s1.heap.objs.size + 2, s1.heap.objs.size + 3, s1.heap.objs.size, s1.heap.objs.size + 1], _, _, H1, rfl, I2, turn_zipS (zip_ap s1.heap.objs.size a b la lb), ⟨hz, hTI, ⟨_, _, hTO⟩, .first g1, .first g2⟩, fun c hcm => ?_, q⟩
  have e' : c = s1.heap.objs.size + 4 ∨ c = s1.heap.objs.size + 2 ∨ c = s1.heap.objs.size + 3 ∨ c = s1.heap.objs.size ∨ c = s1.heap.objs.size + 1 := by simpa using hcm
  have hle : s1.heap.objs.size ≤ c := by
    rcases e' with z | z | z | z | z
    · rw [z]; exact Nat.le_add_right _ _
    · rw [z]; exact Nat.le_add_right _ _
    · rw [z]; exact Nat.le_add_right _ _
    · rw [z]; exact Nat.le_refl _
    · rw [z]; exact Nat.le_add_right _ _
  exact I1.fpOk hle (I1.hok.fresh hle)⟩
def seqLT : D → Option (List D)
  | .list xs => some xs
  | .tuple xs => some xs
  | _ => none
def itZ (ma mb : M Rv) : M (List D) := do
  let x ← dM ma
  let y ← dM mb
  match seqLT x, seqLT y with
  | some xs, some ys => pure (zipD xs ys)
  | _, _ => stuck
theorem rp_seq {w : World} {K : PySem.W.Frag} {F : Hp} {v : V} {d : D} {xs : List D} (h : Rp w K F v d) (e : seqLT d = some xs) : ∃ sd a vs, v = .ref a ∧ (∀ H, Same F H → SqS sd K H a vs) ∧ RpA w K F vs xs := by
  cases h with
  | lst h1 h2 => cases e; exact ⟨.l, _, _, rfl, fun H q => (lr_mono q h1).sql, h2⟩
  | tup h1 h2 => cases e; exact ⟨.t, _, _, rfl, fun H q => (tr_mono q h1).sq, h2⟩
  | non => cases e
  | bl _ => cases e
  | int _ => cases e
  | str _ => cases e
  | dct _ _ _ _ => cases e
theorem walk_zip {w : World} {K : PySem.W.Frag} {F : Hp} {s1 s2 : Sd} {a b : Addr} {vs us : List V} {xs ys : List D} (h1 : ∀ H, Same F H → SqS s1 K H a vs) (h2 : ∀ H, Same F H → SqS s2 K H b us) (r1 : RpA w K F vs xs) (r2 : RpA w K F us ys) : WalkOk w K true (ItzS s1 s2 K a b) F (zipD xs ys) := by
  intro F' H' f1 f2
  have q1 := h1 H' (f1.trans f2)
  have q2 := h2 H' (f1.trans f2)
  have lz : (zipD xs ys).length = min xs.length ys.length := by unfold zipD; rw [List.length_map, List.length_zip]
  refine ⟨fun i x hx => ?_, ⟨vs, us, q1, q2, by rw [lz, r1.length, r2.length]⟩⟩
  have hi := (List.getElem?_eq_some_iff.mp hx).1
  rw [lz] at hi
  have l1 : i < xs.length := by omega
  have l2 : i < ys.length := by omega
  obtain ⟨v, hv, rv⟩ := r1.get (List.getElem?_eq_getElem l1)
  obtain ⟨u, hu, ru⟩ := r2.get (List.getElem?_eq_getElem l2)
  refine ⟨⟨vs, us, v, u, q1, q2, hv, hu⟩, fun y H'' hy => .inr (.inl ⟨rfl, ?_⟩)⟩
  obtain ⟨T, x', y', rfl, hT, rfl, g1, g2⟩ := hy
  have e1 := g1 vs q1
  rw [hv] at e1
  cases e1
  have e2 := g2 us q2
  rw [hu] at e2
  cases e2
  refine ⟨T, [v, u], [xs[i], ys[i]], hT, rfl, rfl, ?_, .cons (rv.mono f1) (.cons (ru.mono f1) .nil)⟩
  unfold zipD at hx
  have hz : (xs.zip ys)[i]? = some (xs[i], ys[i]) := List.getElem?_zip_eq_some.mpr ⟨List.getElem?_eq_getElem l1, List.getElem?_eq_getElem l2⟩
  rw [List.getElem?_map, hz] at hx
  exact (Option.some.inj hx).symm
theorem si_zip {X : Cx} {a b : Expr} {ma mb : M Rv} {p pos tpos : Pos} {elts : List Expr} {kk : Nat} (hg : Gl X "zip") (hn : X.mg "zip" = none) (ha : SE X a ma) (hb : SE X b mb)
    (hs : starEach [a, b] X.env = (false, eval a X.env) :: starEach [b] X.env) (hs2 : starEach [b] X.env = (false, eval b X.env) :: starEach [] X.env) (hpl : (backTo pos (starEach [b] X.env)).any (·.1) = false) :
    SI X (.Tuple elts kk tpos) (.Call (.Name "zip" p) [a, b] [] pos) true (itZ ma mb) := pi_imp (pi_zipS hg hn (pa_cons ha (pa_cons hb pa_nil hs2) hs) hs hpl) fun σ H R h => by
  obtain ⟨g, F, sa, env, ds, xs, env', ds', e, hm, q⟩ := h
  obtain ⟨x, ⟨e1, d1⟩, h1, hm1⟩ := bindM hm
  obtain ⟨y, ⟨e2, d2⟩, h2, hm2⟩ := bindM hm1
  refine dM_ok ⟨g, F, sa, env, ds, x, e1, d1, e, h1, fun F1 H1 sa1 u eo s hu => ?_⟩
  refine dM_ok ⟨g, F1, sa1, e1, d1, y, e2, d2, eo, h2, fun F2 H2 sa2 v eo2 s2 hv => ?_⟩
  cases ex : seqLT x with
  | none => rw [ex] at hm2; cases hm2
  | some as =>
    cases ey : seqLT y with
    | none => rw [ex, ey] at hm2; cases hm2
    | some bs =>
      rw [ex, ey] at hm2
      obtain ⟨h4, h5⟩ := pureM hm2
      subst h4
      obtain ⟨rfl, rfl⟩ := Prod.mk.inj h5
      obtain ⟨sd1, a1, vs1, rfl, f1, r1⟩ := rp_seq (hu.mono s2.ff) ex
      obtain ⟨sd2, a2, vs2, rfl, f2, r2⟩ := rp_seq hv ey
      exact ⟨sd1, sd2, a1, a2, vs1, vs2, rfl, f1 _ eo2.sub, f2 _ eo2.sub, q F2 H2 sa2 _ eo2 (s.trans s2) (walk_zip f1 f2 r1 r2)⟩
end Fw
end TFwT
section TFwU
namespace Fw
open PySem PySem.Spec PyProof.Rows L2
section
variable {X : Cx} {pins : List (Addr × Obj)} {σ : L2.St} {H : Hp} {s : Shared}
theorem dict_empty (I : Inv X pins σ H s) {H' : Hp} : ObjOk X.prog X.w H' (s.heap.push { cls := .type "dict", data := .dict #[] }) s.heap.objs.size (dictO s.heap.objs.size de0) :=
  ⟨⟨beq_eq_false_iff_ne.mpr (Ne.symm (Nat.ne_of_lt I.big)), Nat.zero_le _, _, Heap.get?_push_size _ rfl, ⟨rfl, rfl, rfl⟩, rfl⟩, ⟨_, Heap.get?_push_size _ rfl⟩, fun h1 h2 hφ hk => by
    obtain ⟨f1, f2, o1, f3, f4, f5⟩ := hφ
    exact ⟨f1, f2, o1, hk _ f3, f4, f5⟩⟩
theorem dictSet_ok {E : Value → Shared → Prop} {y z : V} {u r : Value} {a : Addr} {Q : Hp → Prop} (hu : X.A.units + 70 < cLine) (I : Inv X pins σ H s) (ry : RelV y u) (rz : RelV z r) (h : rSetD X.w X.K (.ref a) y z H Q) :
    wpAny (model X.prog X.w) X.A (dictSet a u r) (fun _ s' => ∃ H', Inv X pins σ H' s' ∧ Q H') E s := by
  obtain ⟨a', es, xs, kvs, k, κ, b, ea, h1, h2, h3, h4, rfl, h5, h6, h7, h8, q⟩ := h
  cases ea
  cases ry
  obtain ⟨m1, m2, m3⟩ := dct_at I (Same.refl H) h1 h2 h3 h4
  refine wpAny_dictSet_heap (hsz := m2) (knd := nestedKind X.prog X.w) (by show X.A.units + 8 < cLine; omega) (Rp.key I (Same.refl H) h6 h5 rfl h7 rfl) m3 fun h' hD sb => ?_
  obtain ⟨o, es', ep, g1, g2, g3, g4, g5, g6⟩ := hD
  have sz : es'.size ≤ sizeLine := by
    have e1 := ents_len (w := X.w) g4
    have e2 := stored_len xs κ b r
    have e3 := ents_len h2
    omega
  refine ⟨upd H a (dictO a ⟨es', ep⟩), I.write (x := a) (e := a) (by rw [h1]; trivial) (.inl rfl) (fun c o' hc e => (sb.2 c hc).trans e) ⟨o, g1⟩ ?_, q r ⟨es', ep⟩ rz g4 g6⟩
  exact ⟨⟨m1, sz, o, g1, g2, g3⟩, ⟨o, g1⟩, fun h1' h2' hφ hk => by
    obtain ⟨f1, f2, o1, f3, f4, f5⟩ := hφ
    exact ⟨f1, f2, o1, hk _ f3, f4, f5⟩⟩
end
section
variable {X : Cx}
/-- {k: v for target in iter if ..}, the keys tuples -/
def tDcH (w : World) (K : PySem.W.Frag) (wi : TI) (g : TG) (tt : TT) (tk tv : TE) (vs : List Nat) : TE := fun σ H Q => wi σ H fun J H1 => ∀ D, H1 D = none → ∃ W : Nat → Nat → Hp → Prop, (∃ m, W 0 m (upd H1 D (dictO D de0))) ∧ ∀ i m H, W i m H →
  (J.stop i H ∧ Q (.ref D) H) ∨ (J.go i H ∧ ∃ Nx : Hp → Prop, (∀ H', Nx H' → ∃ m', m' < m ∧ W (i + 1) m' H') ∧ ∀ x H', J.yld i H x H' → g x (wipe σ vs) H' fun σ2 H2 => wipe σ2 vs = wipe σ vs ∧ tt σ2 H2 fun b H3 =>
    if b = true then tk σ2 H3 fun y H4 => tv σ2 H4 fun z H5 => rSetD w K (.ref D) y z H5 Nx else Nx H3)
theorem dcH_core {pins : List (Addr × Obj)} {s : Shared} {σ : L2.St} {H : Hp} {Q : VK} {kx vx tg iter : Expr} {ifs : List Expr} {scope : Scope} {own : List (Str × Nat)} {pos pos' : Pos} {wi : TI} {g : TG} {tt : TT} {tk tv : TE} {use : Option (Value → Sem Unit)} {Qf : Value → Shared → Prop}
    (hu : X.A.units + 70 < cLine) (hc : X.calm = true) (hN : X.N.Nodup) (I : Inv X pins σ H s) (hi : PI X tg iter wi) (ok : BlkOk X.N X.env.scope scope own)
    (hg : ∀ (s : Shared) (H : Hp) (C : Addr) (cl : List (Str × Addr)) (fp : List Addr), PG (X.blk s H scope (compEnvC scope cl C X.env) fp) tg g) (ht : ∀ (s : Shared) (H : Hp) (C : Addr) (cl : List (Str × Addr)) (fp : List Addr), PTs (X.blk s H scope (compEnvC scope cl C X.env) fp) ifs tt)
    (hk : ∀ (s : Shared) (H : Hp) (C : Addr) (cl : List (Str × Addr)) (fp : List Addr), PE (X.blk s H scope (compEnvC scope cl C X.env) fp) kx tk)
    (he : ∀ (s : Shared) (H : Hp) (C : Addr) (cl : List (Str × Addr)) (fp : List Addr), PE (X.blk s H scope (compEnvC scope cl C X.env) fp) vx tv) (hs : ∀ x, foldedSetIterable iter X.env x = pure x)
    (h : tDcH X.w X.K wi g tt tk tv (own.map (·.2)) σ H Q)
    (fine : ∀ D C s' m H', Inv X pins σ H' s' → Q (.ref D) H' → s'.heap.Ns C m → FpOk X pins H' C → compPost (model X.prog X.w) X.A X.xe use Qf (.ref D) C (.ok .next) s') :
    wpAny (model X.prog X.w) X.A (comprehension (.DictComp kx vx [⟨tg, iter, ifs, 0⟩] scope pos) scope X.env pos' newDict false (eval iter X.env) use) Qf X.xe s := by
  have frees : ∀ y ∈ scope.names, y.2 = .free → ∃ c, X.env.cells.lookup y.1 = some c := fun y hy e => by
    rcases ok.free y hy e with k | k
    · exact I.ok.has _ (.inl k)
    · exact I.ok.has _ (.inr k)
  refine wpAny_comprehension_free (use := use) rfl hs (closure_ok frees) ok.kind (fun y hy e => by rw [ok.uniq y hy, e])
    (thn (hi.run pins s σ H _ I h) fun xv s1 hx => thn hx fun itv s2 h2 => ?_)
  obtain ⟨it, fp, tn, J, H2, e, I2, T, st2, f2, q⟩ := h2
  subst e
  refine wpAny_newObj_type (newEnv_comp ?_)
  generalize hD : s2.heap.objs.size = D
  have hDn : H2 D = none := I2.hok.fresh (Nat.le_of_eq hD)
  obtain ⟨W, ⟨m0, w0⟩, turn⟩ := q D hDn
  generalize hs3 : ({ s2 with heap := s2.heap.push { cls := .type "dict", data := .dict #[] } } : Shared) = s3
  have I3 : Inv X pins σ (upd H2 D (dictO D de0)) s3 := by
    rw [← hs3]
    refine I2.laid (t' := s2.toks) (fun b o e => Heap.get?_push_of_some _ e) (Nat.le_of_eq hD) ?_
    rw [← hD]
    exact dict_empty I2
  have h3 : s3.heap = s2.heap.push { cls := .type "dict", data := .dict #[] } := by rw [← hs3]
  have sz : ∀ b ∈ fp, b < s2.heap.objs.size := fun b hb => by
    obtain ⟨o, e, _⟩ := T.obj _ _ st2 b hb
    exact Heap.lt_size e
  have f3 : ∀ b ∈ fp, FpOk X pins (upd H2 D (dictO D de0)) b ∧ b < s3.heap.objs.size := fun b hb => by
    have hlt := sz b hb
    refine ⟨⟨?_, (f2 b hb).2⟩, by rw [h3, Heap.size_push]; exact Nat.lt_succ_of_lt hlt⟩
    rw [upd_ne (by rw [← hD]; exact Nat.ne_of_lt hlt)]
    exact (f2 b hb).1
  have st3 : tn 0 s3.heap := T.keep _ _ _ st2 fun b _ o e => by rw [h3]; exact Heap.get?_push_of_some _ e
  have I4 := block_start I3 ok hN f3
  have pg := hg s3 (upd H2 D (dictO D de0)) s3.heap.objs.size (cellsFrom (s3.heap.objs.size + 1) scope.names (cloFrom X.env.cells scope.names [])) fp
  have pt := ht s3 (upd H2 D (dictO D de0)) s3.heap.objs.size (cellsFrom (s3.heap.objs.size + 1) scope.names (cloFrom X.env.cells scope.names [])) fp
  have pk := hk s3 (upd H2 D (dictO D de0)) s3.heap.objs.size (cellsFrom (s3.heap.objs.size + 1) scope.names (cloFrom X.env.cells scope.names [])) fp
  have pe := he s3 (upd H2 D (dictO D de0)) s3.heap.objs.size (cellsFrom (s3.heap.objs.size + 1) scope.names (cloFrom X.env.cells scope.names [])) fp
  show codeAny _ _ (.compStart (.DictComp kx vx [⟨tg, iter, ifs, 0⟩] scope pos) 0 (.ref it) (.ref D) (compEnvC scope (cellsFrom (s3.heap.objs.size + 1) scope.names (cloFrom X.env.cells scope.names [])) s3.heap.objs.size X.env)) (compPost (model X.prog X.w) X.A X.xe use Qf (.ref D) s3.heap.objs.size) { s3 with heap := pushCells (s3.heap.push { cls := .type "dict", data := .dict #[] }) scope.names }
  have nfp : ∀ b ∈ fp, (upd H2 D (dictO D de0)) b = none := fun b hb => (f3 b hb).1.1
  generalize hce : compEnvC scope (cellsFrom (s3.heap.objs.size + 1) scope.names (cloFrom X.env.cells scope.names [])) s3.heap.objs.size X.env = ce at I4 pg pt pk pe ⊢
  have cL : ce.locals = s3.heap.objs.size := by subst hce; rfl
  generalize hH3 : upd H2 D (dictO D de0) = H3 at I3 I4 pg pt pk pe w0 nfp f3
  generalize hs4 : ({ s3 with heap := pushCells (s3.heap.push { cls := .type "dict", data := .dict #[] }) scope.names } : Shared) = s4 at I4 ⊢
  have st4 : tn 0 s4.heap := T.keep _ _ _ st3 fun b _ o e => by rw [← hs4]; exact pushCells_keeps _ _ _ _ (Heap.get?_push_of_some _ e)
  have stat : ∀ {σ' : L2.St} {H' : Hp} {s' : Shared}, Inv (X.blk s3 H3 scope ce fp) [] σ' H' s' → (∀ b ∈ fp, H' b = none) → ∀ b ∈ fp, FpOk (X.blk s3 H3 scope ce fp) [] H' b := fun {σ' H' s'} I' hn b hb =>
    ⟨hn b hb, (I'.ok.exf b hb).1, I'.ok.exfs b hb, .inl hb, fun x c e => (I'.ok.exf b hb).2 x c e, fun p hp => absurd (show p ∈ ([] : List (Addr × Obj)) ++ [] from hp) (by simp)⟩
  have loop : codeAny (model X.prog X.w) X.A (.compLoop (.DictComp kx vx [⟨tg, iter, ifs, 0⟩] scope pos) 0 (.ref it) (.ref D) ce) (compPost (model X.prog X.w) X.A X.xe use Qf (.ref D) s3.heap.objs.size) s4 := by
    refine compLoop_anyD (fun n s' => ∃ i H', Inv (X.blk s3 H3 scope ce fp) [] (wipe σ (own.map (·.2))) H' s' ∧ tn i s'.heap ∧ (∀ b ∈ fp, H' b = none) ∧ W i n H') ?_ m0 ⟨0, H3, I4, st4, nfp, w0⟩
    rintro n s5 ⟨i, H5, I5, st5, n5, w5⟩
    rcases turn i n H5 w5 with ⟨stop, qq⟩ | ⟨go, Nx, hNx, step⟩
    · have td := T.done (X.blk s3 H3 scope ce fp) rfl rfl rfl hc i [] s5 _ H5 (fun _ _ => False) I5 (stat I5 n5) st5 stop
      refine thnF td fun r s6 hr => ?_
      obtain ⟨hr, I6⟩ := hr
      subst hr
      have I7 : Inv X pins σ H5 s6 := I3.call' (ch := fp) I6.os I6.base I6.hok I6.bare fun b hb => ⟨(f3 b hb).1.2.2.2.1, (f3 b hb).1.2.1, (f3 b hb).1.2.2.2.2.1, (f3 b hb).1.2.2.2.2.2⟩
      have nC : H5 s3.heap.objs.size = none := by
        have z : H5 ce.locals = none := I6.free
        rw [cL] at z
        exact z
      obtain ⟨m, hn, _⟩ := I6.loc
      have hn : s6.heap.Ns ce.locals m := hn
      rw [cL] at hn
      exact fine D s3.heap.objs.size s6 m H5 I7 qq hn (I3.fpOk (Nat.le_refl _) nC)
    · have ti := T.item (X.blk s3 H3 scope ce fp) rfl rfl rfl hc i [] s5 _ H5 (fun _ _ => False) I5 (stat I5 n5) st5 go
      refine thnF ti fun r s6 hr => ?_
      obtain ⟨u, hr, h6⟩ := hr
      subst hr
      refine thnF h6 fun _ s7 hx => ?_
      obtain ⟨x, H7, I7, r7, y7, st7, n7⟩ := hx
      have I7' := I7.pinned (stat I7 n7) (T.obj _ _ st7)
      refine thnF (pg.run _ s7 _ H7 x u _ I7' r7 (step x H7 y7)) fun _ s8 hx => ?_
      obtain ⟨σ8, H8, I8, hw8, q8⟩ := hx
      refine thnF (pt.run _ s8 σ8 H8 _ I8 q8) fun b s9 hx => ?_
      obtain ⟨H9, I9, q9⟩ := hx
      have fin : ∀ {s' : Shared} {H' : Hp}, Inv (X.blk s3 H3 scope ce fp) ([] ++ pinsAt fp s7.heap) σ8 H' s' → Nx H' → ∃ m, m < n ∧ ∃ i H', Inv (X.blk s3 H3 scope ce fp) [] (wipe σ (own.map (·.2))) H' s' ∧ tn i s'.heap ∧ (∀ b ∈ fp, H' b = none) ∧ W i m H' := fun {s' H'} I' nx => by
        obtain ⟨m', hm, w'⟩ := hNx H' nx
        have pin' : ∀ b ∈ fp, ∀ o, s7.heap.get? b = some o → s'.heap.get? b = some o ∧ H' b = none := fun b hb o e =>
          let z := I'.pin (b, o) (List.mem_append_right _ (List.mem_append_right _ (mem_pinsAt hb e)))
          ⟨z.1, z.2.1⟩
        have hl : (wipe σ (own.map (·.2))).length = σ8.length := by rw [← hw8, wipe_length]
        refine ⟨m', hm, i + 1, H', (I'.unpinned (pins := [])).weak hl (fun j v e => ?_), T.keep _ _ _ st7 fun b hb o e => (pin' b hb o e).1, fun b hb => ?_, w'⟩
        · rw [← hw8] at e
          exact (wipe_some e).1
        · obtain ⟨o, e, _⟩ := T.obj _ _ st7 b hb
          exact (pin' b hb o e).2
      cases b with
      | false =>
        simp only [Bool.false_eq_true, if_false] at q9 ⊢
        exact fin I9 q9
      | true =>
        simp only [if_true] at q9 ⊢
        refine thnF (pk.run _ s9 σ8 H9 _ I9 q9) fun z s10 hx => ?_
        obtain ⟨yk, H10, I10, r10, q10⟩ := hx
        refine thnF (pe.run _ s10 σ8 H10 _ I10 q10) fun z2 s11 hx => ?_
        obtain ⟨yv, H11, I11, r11, nx⟩ := hx
        exact wpAny_mono (dictSet_ok (X := X.blk s3 H3 scope ce fp) (E := fun _ _ => False) hu I11 r10 r11 nx) (fun _ s12 hx => let ⟨H12, I12, n12⟩ := hx; fin I12 n12) fun _ _ z => False.elim z
  exact codeAny_compStart_dict loop (T.self X.A 0 _ _ _ st4 loop)
theorem pe_dcH {kx vx tg iter : Expr} {ifs : List Expr} {scope : Scope} {own : List (Str × Nat)} {pos : Pos} {wi : TI} {g : TG} {tt : TT} {tk tv : TE} (hu : X.A.units + 70 < cLine) (hc : X.calm = true) (hN : X.N.Nodup) (hi : PI X tg iter wi) (ok : BlkOk X.N X.env.scope scope own)
    (hg : ∀ (s : Shared) (H : Hp) (C : Addr) (cl : List (Str × Addr)) (fp : List Addr), PG (X.blk s H scope (compEnvC scope cl C X.env) fp) tg g) (ht : ∀ (s : Shared) (H : Hp) (C : Addr) (cl : List (Str × Addr)) (fp : List Addr), PTs (X.blk s H scope (compEnvC scope cl C X.env) fp) ifs tt)
    (hk : ∀ (s : Shared) (H : Hp) (C : Addr) (cl : List (Str × Addr)) (fp : List Addr), PE (X.blk s H scope (compEnvC scope cl C X.env) fp) kx tk)
    (he : ∀ (s : Shared) (H : Hp) (C : Addr) (cl : List (Str × Addr)) (fp : List Addr), PE (X.blk s H scope (compEnvC scope cl C X.env) fp) vx tv) (hs : ∀ x, foldedSetIterable iter X.env x = pure x) :
    PE X (.DictComp kx vx [⟨tg, iter, ifs, 0⟩] scope pos) (tDcH X.w X.K wi g tt tk tv (own.map (·.2))) := ⟨fun pins s σ H Q I h => by
  rw [arm_eval_DictComp]
  refine dcH_core hu hc hN I hi ok hg ht hk he hs h fun D C s' m H' I' q hn f => ⟨m, hn, fun h'' sb => ?_⟩
  obtain ⟨f0, f1, f2, f3, f4, f5⟩ := f
  exact ⟨.ref D, H', I'.turned (t' := s'.toks) (fun b o hb e => (sb.2 b hb).trans e) f0 f1 f3 f4 f5, rfl, q⟩⟩
end
/-- one turn of a dict comprehension -/
def turnPM (vs : List Nat) (t : IT) (mc mk mv : M Rv) (x : D) : M (Option (D × D)) := do
  fresh vs t x
  let k ← boolM (← mc)
  if k then do
    let a ← dM mk
    let b ← dM mv
    pure (some (a, b))
  else pure none
def turnsP (body : D → M (Option (D × D))) : List D → List (D × D) → M (List (D × D))
  | [], acc => pure acc
  | x :: xs, acc => do
    let p ← body x
    match p with
    | some q => if keyOk acc q.1 && decide (acc.length < line) then turnsP body xs (dPut acc q.1 q.2) else stuck
    | none => turnsP body xs acc
def dcM (vs : List Nat) (t : IT) (mi : M (List D)) (mc mk mv : M Rv) : M Rv := do
  let xs ← mi
  let kvs ← within vs (turnsP (turnPM vs t mc mk mv) xs [])
  pure (.fd kvs)
section
variable {w : World} {K : PySem.W.Frag} {σ : L2.St} {H : Hp} {Q : VK}
theorem dc_ok {pr : Bool} {vs : List Nat} {t : IT} {mi : M (List D)} {mc mk mv : M Rv} (htv : tgIn vs t = true) (htp : pr = true → isTp t = true) (h : tE w K (dcM vs t mi mc mk mv) σ H Q) : tDcH w K (tI w K pr mi) (tG w K t) (tT w K mc) (tE w K mk) (tE w K mv) vs σ H Q := by
  obtain ⟨g, F, sa, env, ds, rv, env', ds', e, hm, q⟩ := h
  obtain ⟨xs, ⟨e1, d1⟩, h1, hm⟩ := bindM hm
  obtain ⟨kvs, ⟨e2, d2⟩, h2, hm⟩ := bindM hm
  obtain ⟨h4, h5⟩ := pureM hm
  subst h4
  obtain ⟨rfl, rfl⟩ := Prod.mk.inj h5
  obtain ⟨ew, h6, h7⟩ := within_inv h2
  have h7 : e2 = restoreE e1 vs ew := h7
  have h6 : turnsP (turnPM vs t mc mk mv) xs [] (wipeE e1 vs, d1) = some (kvs, (ew, d2)) := h6
  refine ⟨g, F, sa, env, ds, xs, e1, d1, e, h1, fun F1 H1 sa1 J eo s wk D0 hD => ?_⟩
  have eD := eo.wipe vs
  have inv0 : EnvOk w K g F1 (upd H1 D0 (dictO D0 de0)) sa1 (wipe σ vs) (wipeE (wipeE e1 vs) vs) d1 := by
    have z := (eD.alloc hD (dictO D0 de0)).wipe vs
    rwa [wipe_idem] at z
  refine ⟨fun i m H' => (i ≤ xs.length ∧ m = xs.length - i) ∧ ∃ F2 sa2 e2 d2' acc es ys, Same F1 F2 ∧ EnvOk w K g F2 H' sa2 (wipe σ vs) (wipeE e2 vs) d2' ∧ Step (wipe σ vs) F1 H1 sa1 (wipeE e1 vs) F2 H' sa2 (wipeE e2 vs) ∧
      turnsP (turnPM vs t mc mk mv) (xs.drop i) acc (e2, d2') = some (kvs, (ew, d2)) ∧ H' D0 = some (dictO D0 es) ∧ es.toList = ys.map (entD w) ∧ (ys.map (·.1)).Nodup ∧ RpX w K F2 ys acc ∧ Mine g F2 sa2 D0,
    ⟨_, ⟨Nat.zero_le _, rfl⟩, F1, sa1, wipeE e1 vs, d1, [], de0, [], Same.refl _, inv0, ?_, h6, upd_same, rfl, List.nodup_nil, .nil, eo.mine hD⟩, ?_⟩
  · exact (step_alloc hD (dictO D0 de0)).re (fun _ z => z) fun i z => z.wiped.1
  rintro i m H2 ⟨⟨hile, rfl⟩, F2, sa2, e2, d2', acc, es, ys, ff, eo2, st, hm2, hDl, hes, hnd, rA, mD⟩
  obtain ⟨wg, ws⟩ := wk F2 H2 ff eo2.sub
  have nD : ¬ Mut (wipe σ vs) (wipeE e2 vs) D0 := fun z => eD.noMut hD (st.mut z)
  by_cases hi : i < xs.length
  · obtain ⟨x, hx⟩ : ∃ x, xs[i]? = some x := ⟨xs[i], List.getElem?_eq_getElem hi⟩
    rw [dropd hi hx] at hm2
    obtain ⟨yo, ⟨e5, d5⟩, h8, hm3⟩ := bindM hm2
    obtain ⟨_, ⟨e3, d3⟩, h12, h13⟩ := bindM h8
    obtain ⟨h14, h15⟩ := fresh_inv h12
    have h14 : asgT t x (wipeE e2 vs) = some e3 := h14
    have h15 : d3 = d2' := h15
    subst h15
    obtain ⟨r7, c7, h16, h17⟩ := bindM h13
    obtain ⟨k, ⟨e7, d7⟩, h18, h19⟩ := bindM h17
    obtain ⟨h20, h21⟩ := boolM_inv h18
    subst h20
    subst h21
    obtain ⟨wg1, wg2⟩ := wg i x hx
    refine .inr ⟨wg1, fun H' => ∃ m', m' < xs.length - i ∧ ((i + 1 ≤ xs.length ∧ m' = xs.length - (i + 1)) ∧ ∃ F2 sa2 e2 d2' acc es ys, Same F1 F2 ∧ EnvOk w K g F2 H' sa2 (wipe σ vs) (wipeE e2 vs) d2' ∧ Step (wipe σ vs) F1 H1 sa1 (wipeE e1 vs) F2 H' sa2 (wipeE e2 vs) ∧
      turnsP (turnPM vs t mc mk mv) (xs.drop (i + 1)) acc (e2, d2') = some (kvs, (ew, d2)) ∧ H' D0 = some (dictO D0 es) ∧ es.toList = ys.map (entD w) ∧ (ys.map (·.1)).Nodup ∧ RpX w K F2 ys acc ∧ Mine g F2 sa2 D0), fun H' z => z, fun v H3 hy => ?_⟩
    obtain ⟨F3, eo3, s3, rv⟩ := (wg2 v H3 hy).en eo2 htp
    obtain ⟨mD3, hD3⟩ := s3.mine hDl mD nD
    refine ⟨g, F3, sa2, wipeE e2 vs, _, x, e3, eo3, rv, h14, fun σ4 eo4 hw => ?_⟩
    have hw4 : wipe σ4 vs = wipe σ vs := by rw [hw vs htv, wipe_idem]
    refine ⟨hw4, ?_⟩
    have nD4 : ¬ Mut σ4 e3 D0 := fun z => nD (mut_turn h14 hw4 z)
    refine ⟨g, F3, sa2, e3, _, k, e7, d7, eo4, h16, fun F5 H5 sa5 eo5 s5 => ?_⟩
    obtain ⟨mD5, hD5⟩ := s5.mine hD3 mD3 nD4
    have ff5 := (ff.trans s3.ff).trans s5.ff
    have re : ∀ {F6 H6 sa6 e8}, Step σ4 F3 H3 sa2 e3 F6 H6 sa6 e8 → Step (wipe σ vs) F1 H1 sa1 (wipeE e1 vs) F6 H6 sa6 (wipeE e8 vs) := fun {F6 H6 sa6 e8} z =>
      (st.trans s3).trans (z.re (fun b zb => mut_turn h14 hw4 zb) fun j oj => asgT_own t x _ _ h14 (z.own j oj.wiped.1))
    have ew5 : ∀ {F6 H6 sa6 e8 d8}, EnvOk w K g F6 H6 sa6 σ4 e8 d8 → EnvOk w K g F6 H6 sa6 (wipe σ vs) (wipeE e8 vs) d8 := fun {F6 H6 sa6 e8 d8} z => by
      have z2 := z.wipe vs
      rwa [hw4] at z2
    cases k with
    | false =>
      obtain ⟨h22, h23⟩ := pureM h19
      subst h22
      obtain ⟨rfl, rfl⟩ := Prod.mk.inj h23
      exact iteF ⟨_, by omega, ⟨hi, rfl⟩, F5, sa5, _, _, acc, es, ys, ff5, ew5 eo5, re s5, hm3, hD5, hes, hnd, rA.mono (s3.ff.trans s5.ff), mD5⟩
    | true =>
      obtain ⟨a, ⟨e9, d9⟩, h22, h23⟩ := bindM h19
      obtain ⟨b, ⟨e10, d10⟩, h24, h25⟩ := bindM h23
      obtain ⟨h26, h27⟩ := pureM h25
      subst h26
      obtain ⟨rfl, rfl⟩ := Prod.mk.inj h27
      have nD5 : ¬ Mut σ4 e7 D0 := fun z => nD4 (s5.mut z)
      refine iteT (dM_ok ⟨g, F5, sa5, e7, d7, a, e9, d9, eo5, h22, fun F6 H6 sa6 av eo6 s6 hav => ?_⟩)
      obtain ⟨mD6, hD6⟩ := s6.mine hD5 mD5 nD5
      have nD6 : ¬ Mut σ4 e9 D0 := fun z => nD5 (s6.mut z)
      refine dM_ok ⟨g, F6, sa6, e9, d9, b, e10, d10, eo6, h24, fun F7 H7 sa7 bv eo7 s7 hbv => ?_⟩
      obtain ⟨mD7, hD7⟩ := s7.mine hD6 mD6 nD6
      have nD7 : ¬ Mut σ4 e10 D0 := fun z => nD6 (s7.mut z)
      have hm3 : (if (keyOk acc a && decide (acc.length < sizeLine)) = true then turnsP (turnPM vs t mc mk mv) (xs.drop (i + 1)) (dPut acc a b) else stuck) (e10, d10) = some (kvs, (ew, d2)) := hm3
      obtain ⟨c, hm4⟩ := iteM hm3
      obtain ⟨c1, c2⟩ := and2 c
      obtain ⟨c3, c4⟩ := and2 c1
      have c2 : acc.length < sizeLine := of_decide_eq_true c2
      obtain ⟨ts, κ, rfl, hκ, hdp⟩ := keyN_key c3
      have f67 := (s3.ff.trans s5.ff).trans (s6.ff.trans s7.ff)
      have hk7 := hav.mono s7.ff
      obtain ⟨ka, rfl⟩ : ∃ ka, av = .ref ka := by cases hav; exact ⟨_, rfl⟩
      refine ⟨D0, es, ys, acc, _, κ, ka, rfl, hD7, hes, hnd, (rA.mono f67).mono eo7.sub, rfl, hk7.mono eo7.sub, hκ, hdp, by rw [ents_len hes, rA.len]; exact c2, fun u es' hu g1 g2 => ?_⟩
      refine ⟨_, by omega, ⟨hi, rfl⟩, F7, sa7, e10, d10, dPut acc (.tuple ts) b, es', _, ff5.trans (s6.ff.trans s7.ff), ?_, ?_, hm4, upd_same, g1, g2, (rA.mono f67).put hκ c3 hk7 hu hbv, mD7⟩
      · exact (ew5 eo7).touch mD7 (fun z => nD7 (by
          obtain ⟨j, oj, hj⟩ := z
          refine ⟨j, oj.wiped.1, ?_⟩
          rw [← hw4] at hj
          exact (wipe_some hj).1)) _
      · exact (re (s5.trans (s6.trans s7))).touch hD _
  · have hl : xs.length ≤ i := Nat.le_of_not_lt hi
    have hil : i = xs.length := Nat.le_antisymm hile hl
    refine .inl ⟨by rw [hil]; exact ws, ?_⟩
    rw [List.drop_eq_nil_of_le hl] at hm2
    obtain ⟨h8, h9⟩ := pureM hm2
    subst h8
    obtain ⟨rfl, rfl⟩ := Prod.mk.inj h9
    subst h7
    have er := eo.restore ff eo2
    have nM : ¬ Mut σ (restoreE e1 vs e2) D0 := fun z => by
      obtain ⟨j, oj, hj⟩ := z
      obtain ⟨o1, o2⟩ := oj.restored
      exact nD ⟨j, o1.same (wipeE_out o2), by rw [wipe_out o2]; exact hj⟩
    refine q F2 H2 sa2 _ er ?_ ⟨D0, rfl, ⟨es, ys, hDl, hes, hnd, rA⟩, mD, nM⟩ fun p z => ?_
    · refine s.trans (st.re (fun b zb => mut_wipe zb) fun j oj => ?_)
      obtain ⟨o1, o2⟩ := oj.restored
      exact (st.own j (o1.same (wipeE_out o2))).wiped.1
    · cases z
      exact s.dom _ hD
end
section
variable {X : Cx} {kx vx tg iter : Expr} {ifs : List Expr} {scope : Scope} {own : List (Str × Nat)} {pos : Pos} {mi : M (List D)} {t : IT} {mc mk mv : M Rv}
theorem se_dc {pr : Bool} (hu : X.A.units + 70 < cLine) (hc : X.calm = true) (hN : X.N.Nodup) (hi : SI X tg iter pr mi) (ok : BlkOk X.N X.env.scope scope own) (htv : tgIn (own.map (·.2)) t = true) (htp : pr = true → isTp t = true)
    (hg : ∀ (s : Shared) (H : Hp) (C : Addr) (cl : List (Str × Addr)) (fp : List Addr), SG (X.blk s H scope (compEnvC scope cl C X.env) fp) tg t) (ht : ∀ (s : Shared) (H : Hp) (C : Addr) (cl : List (Str × Addr)) (fp : List Addr), SC (X.blk s H scope (compEnvC scope cl C X.env) fp) ifs mc)
    (hk : ∀ (s : Shared) (H : Hp) (C : Addr) (cl : List (Str × Addr)) (fp : List Addr), SE (X.blk s H scope (compEnvC scope cl C X.env) fp) kx mk)
    (he : ∀ (s : Shared) (H : Hp) (C : Addr) (cl : List (Str × Addr)) (fp : List Addr), SE (X.blk s H scope (compEnvC scope cl C X.env) fp) vx mv) (hs : ∀ x, foldedSetIterable iter X.env x = pure x) :
    SE X (.DictComp kx vx [⟨tg, iter, ifs, 0⟩] scope pos) (dcM (own.map (·.2)) t mi mc mk mv) :=
  pe_imp (pe_dcH hu hc hN hi ok hg ht hk he hs) fun _ _ _ h => dc_ok htv htp h
end
section
variable {X : Cx} {pos p : Pos} {a : Expr} {m : M Rv}
theorem se_emp : SE X (.Dict [] [] pos) (pure (.fd [])) := ⟨fun pins s σ H Q I h => by
  obtain ⟨g, F, sa, env, ds, rv, env', ds', e, hm, q⟩ := h
  obtain ⟨h1, h2⟩ := pureM hm
  subst h1
  obtain ⟨rfl, rfl⟩ := Prod.mk.inj h2
  have hp : H s.heap.objs.size = none := I.hok.fresh (Nat.le_refl _)
  refine wpAny_Dict_empty ⟨.ref s.heap.objs.size, _, I.laid (a := s.heap.objs.size) (o := dictO s.heap.objs.size de0) (t' := s.toks) (fun _ _ q => Heap.get?_push_of_some _ q) (Nat.le_refl _) (dict_empty I), rfl, ?_⟩
  refine q F _ sa _ (e.alloc hp _) (step_alloc hp _) ⟨_, rfl, ⟨de0, [], upd_same, rfl, List.nodup_nil, .nil⟩, e.mine hp, e.noMut hp⟩ fun b z => ?_
  cases z
  exact hp⟩
/-- a name of the module that holds data -/
theorem se_glb {x : Str} {v : V} {u : Value} {d : D} (hg : Gl X x) (hm : X.mg x = some u) (r : RelV v u) (hr : ∀ F, Rp X.w X.K F v d) (hd : (x == ("__debug__" : Str)) = false) : SE X (.Name x pos) (pure (.d d)) := se_data (pe_glob hg hm r hd) hr
def negM (m : M Rv) : M Rv := do
  match ← vM m with
  | .d (.int i) => pure (.d (.int (-i)))
  | _ => stuck
theorem se_neg (h : SE X a m) : SE X (.UnaryOp .USub a pos) (negM m) := pe_imp (pe_un un_neg h) fun σ H Q h => by
  obtain ⟨g, F, sa, env, ds, rv, env', ds', e, hm, q⟩ := h
  obtain ⟨r, ⟨e1, d1⟩, h1, hm1⟩ := bindM hm
  refine vM_ok (tE_at e Step.refl h1 fun F1 H1 sa1 v eo s _ hv _ => ?_)
  cases r with
  | d x =>
    cases x with
    | int i =>
      obtain ⟨h2, h3⟩ := pureM hm1
      subst h2
      obtain ⟨rfl, rfl⟩ := Prod.mk.inj h3
      have hv : Rp X.w X.K F1 v (.int i) := hv
      cases hv
      exact ⟨i, rfl, q F1 H1 sa1 _ eo s (.int _) trivial⟩
    | _ => cases hm1
  | _ => cases hm1
end
end Fw
end TFwU
section TFwV
namespace Fw
open PySem PySem.Spec PyProof.Rows L2
def kvS (s : DS) (g c : Addr) : List (Key × V) := [(.inr "great", .ref g), (.inr "cells", .ref c), (.inr "rest", .int (s.rest : Int)), (.inr "turn", .int (s.turn : Int))]
theorem kvS_great (s : DS) (g c : Addr) : valV (kvS s g c) (.inr "great") = some (.ref g) := rfl
theorem kvS_cells (s : DS) (g c : Addr) : valV (kvS s g c) (.inr "cells") = some (.ref c) := rfl
theorem kvS_rest (s : DS) (g c : Addr) : valV (kvS s g c) (.inr "rest") = some (.int (s.rest : Int)) := rfl
theorem kvS_turn (s : DS) (g c : Addr) : valV (kvS s g c) (.inr "turn") = some (.int (s.turn : Int)) := rfl
theorem kvS_putRest (s : DS) (g c : Addr) (n : Nat) : putK (kvS s g c) (.inr "rest") (.int (n : Int)) = kvS { s with rest := n } g c := rfl
theorem kvS_putTurn (s : DS) (g c : Addr) (n : Nat) : putK (kvS s g c) (.inr "turn") (.int (n : Int)) = kvS { s with turn := n } g c := rfl
def natsD (ns : List Nat) : List D := ns.map fun n : Nat => .int (Int.ofNat n)
theorem rp_nats {w : World} {K : PySem.W.Frag} {F : Hp} : ∀ ns : List Nat, RpA w K F (natsV ns) (natsD ns)
  | [] => .nil
  | n :: ns => .cons (.int _) (rp_nats ns)
def stGet (i : Nat) (f : DS → Nat) : M Rv := fun c => match c.1[i]?, c.2 with
  | some (some .st), some s => some (.d (.int (f s : Int)), c)
  | _, _ => none
def stCells (i : Nat) : M (List D) := fun c => match c.1[i]?, c.2 with
  | some (some .st), some s => some (natsD s.cells, c)
  | _, _ => none
def stGreat (i : Nat) : M Rv := fun c => match c.1[i]?, c.2 with
  | some (some .st), some s => some (.d (.bool (!s.great.isEmpty)), c)
  | _, _ => none
def stPop (i : Nat) : M Rv := fun c => match c.1[i]?, c.2 with
  | some (some .st), some s => match s.great with
    | n :: ns => some (.d (.int (n : Int)), (c.1, some { s with great := ns }))
    | [] => none
  | _, _ => none
def stPut (i : Nat) (f : DS → Nat → DS) (n : Int) : M Unit := fun c => match c.1[i]?, c.2 with
  | some (some .st), some s => if 0 ≤ n then some ((), (c.1, some (f s n.toNat))) else none
  | _, _ => none
def stSet (i : Nat) (f : DS → Nat → DS) (me : M Rv) : M Oc := do
  match ← vM me with
  | .d (.int n) => do
    stPut i f n
    pure .nx
  | _ => stuck
section
variable {w : World} {K : PySem.W.Frag} {g : Gh} {F H F' H' : Hp} {sa sa' : SA} {σ : L2.St} {env env' : Env} {ds ds' : Option DS} {a p : Addr} {v u : V}
/-- what a name of the state holds -/
theorem EnvOk.state (e : EnvOk w K g F H sa σ env (some s)) {i : Nat} (h : env[i]? = some (some .st)) : ∃ x gr c, sa = some (x, gr, c) ∧ σ[i]? = some (some (.ref x)) ∧ H x = some (.dK (kvS s gr c)) ∧ H gr = some (.lst (natsV s.great)) ∧ F c = some (.lst (natsV s.cells)) ∧ s.great.length ≤ 1000 ∧ s.cells.length ≤ 1000 := by
  obtain ⟨v, e1, t, e2, rfl⟩ := e.slots i _ h
  obtain ⟨x, gr, c⟩ := t
  have st := e.st
  rw [e2] at st
  obtain ⟨h1, h2, h3, h4, h5⟩ := st
  exact ⟨x, gr, c, e2, e1, h1, h2, h3, h4, h5⟩
/-- an object of the state is written -/
theorem EnvOk.stw (e : EnvOk w K g F H sa σ env ds) (hp : sa.has p) {o : HO} (st : StOk F (upd H p o) sa ds') : EnvOk w K g F (upd H p o) sa σ env ds' := by
  have nF : F p = none := e.saF p hp
  have keep : ∀ b u, H b = some u → Mine g F sa b → upd H p o b = some u ∧ Mine g F sa b := fun b u q m => by
    have nb : b ≠ p := fun z => m.s (by rw [z]; exact hp)
    exact ⟨by rw [upd_ne nb]; exact q, m⟩
  refine ⟨fun b u q => ?_, e.ext, fun b u q n => ?_, e.new, e.len, fun i s q => ?_, e.inj, st, e.saF⟩
  · rw [upd_ne (ne_of_none q nF)]; exact e.sub b u q
  · rw [upd_ne (show b ≠ p from fun z => n (by rw [z]; exact hp))]; exact e.keep b u q n
  · obtain ⟨v, e1, e2⟩ := e.slots i s q
    exact ⟨v, e1, e2.keep (Same.refl _) keep fun _ z => z⟩
theorem step_stw (e : EnvOk w K g F H sa σ env ds) (hp : sa.has p) (o : HO) : Step σ F H sa env F (upd H p o) sa env :=
  ⟨fun b u q _ n => by rw [upd_ne (show b ≠ p from fun z => n (by rw [z]; exact hp))]; exact q, fun b q => by
    by_cases hb : b = p
    · subst hb; rw [upd_same] at q; cases q
    · rw [upd_ne hb] at q; exact q, Same.refl _, fun _ h => .inl h, .inl rfl, fun _ h => h⟩
theorem st_inv {α : Type} {i : Nat} {f : DS → Option (α × Cf)} {c : Cf} {r : α × Cf} (h : (match c.1[i]?, c.2 with
    | some (some .st), some s => f s
    | _, _ => none) = some r) : ∃ s, c.1[i]? = some (some .st) ∧ c.2 = some s ∧ f s = some r := by
  split at h
  · rename_i s e1 e2
    exact ⟨s, e1, e2, h⟩
  · cases h
end
section
variable {X : Cx} {x : Str} {i j : Nat} {px pc pos : Pos}
theorem tD_key {w : World} {K : PySem.W.Frag} {σ : L2.St} {H : Hp} {i : Nat} {k : Str} {xa gr c : Addr} {s : DS} {v : V} {Q : VK} (h1 : σ[i]? = some (some (.ref xa))) (h2 : H xa = some (.dK (kvS s gr c))) (h3 : valV (kvS s gr c) (.inr k) = some v) (q : Q v H) : tDGet (tVar i) (tC (.str k)) σ H Q :=
  ⟨_, h1, xa, v, rfl, h3 ▸ DGet.k (k := Sum.inr k) h2, q⟩
theorem se_stRest (hu : X.A.units + 70 < cLine) (hN : X.N[i]? = some x) (hv : Vis X.env.scope x) (hd : (x == ("__debug__" : Str)) = false) (hcd : (x == ("__classdict__" : Str)) = false) : SE X (.Subscript (.Name x px) (.Constant (.str "rest") j pc) pos) (stGet i DS.rest) :=
  pe_imp (pe_dget (by omega) (pe_var hN hv hd hcd) pe_str (fun _ _ => rfl)) fun σ H Q h => by
    obtain ⟨g, F, sa, env, ds, rv, env', ds', e, hm, q⟩ := h
    obtain ⟨s, e1, e2, e3⟩ := st_inv hm
    have e2 : ds = some s := e2
    subst e2
    cases e3
    obtain ⟨xa, gr, c, r1, r2, r3, r4⟩ := e.state e1
    exact tD_key (w := X.w) (K := X.K) r2 r3 (kvS_rest s gr c) (q F H sa _ e Step.refl (.int _) trivial)
theorem se_stTurn (hu : X.A.units + 70 < cLine) (hN : X.N[i]? = some x) (hv : Vis X.env.scope x) (hd : (x == ("__debug__" : Str)) = false) (hcd : (x == ("__classdict__" : Str)) = false) : SE X (.Subscript (.Name x px) (.Constant (.str "turn") j pc) pos) (stGet i DS.turn) :=
  pe_imp (pe_dget (by omega) (pe_var hN hv hd hcd) pe_str (fun _ _ => rfl)) fun σ H Q h => by
    obtain ⟨g, F, sa, env, ds, rv, env', ds', e, hm, q⟩ := h
    obtain ⟨s, e1, e2, e3⟩ := st_inv hm
    have e2 : ds = some s := e2
    subst e2
    cases e3
    obtain ⟨xa, gr, c, r1, r2, r3, r4⟩ := e.state e1
    exact tD_key (w := X.w) (K := X.K) r2 r3 (kvS_turn s gr c) (q F H sa _ e Step.refl (.int _) trivial)
theorem si_stCells {tg : Expr} {pr : Bool} (hu : X.A.units + 70 < cLine) (hN : X.N[i]? = some x) (hv : Vis X.env.scope x) (hd : (x == ("__debug__" : Str)) = false) (hcd : (x == ("__classdict__" : Str)) = false) : SI X tg (.Subscript (.Name x px) (.Constant (.str "cells") j pc) pos) pr (stCells i) :=
  pi_imp (pi_list (pe_dget (by omega) (pe_var hN hv hd hcd) pe_str (fun _ _ => rfl))) fun σ H R h => by
    obtain ⟨g, F, sa, env, ds, rv, env', ds', e, hm, q⟩ := h
    obtain ⟨s, e1, e2, e3⟩ := st_inv hm
    have e2 : ds = some s := e2
    subst e2
    cases e3
    obtain ⟨xa, gr, c, r1, r2, r3, r4, r5, r6, r7⟩ := e.state e1
    refine tD_key (w := X.w) (K := X.K) r2 r3 (kvS_cells s gr c) ⟨c, rfl, ⟨_, SqL.of (e.sub _ _ r5)⟩, q F H sa _ e Step.refl ?_⟩
    exact walk_list (.lst (.of r5) (rp_nats s.cells))
theorem nats_plain : ∀ ns : List Nat, PyData.plainAll (natsD ns) = true ∧ PyData.depthAll (natsD ns) ≤ 1
  | [] => ⟨rfl, Nat.zero_le _⟩
  | n :: ns => by
    obtain ⟨h1, h2⟩ := nats_plain ns
    refine ⟨?_, ?_⟩
    · show (PyData.plain (.int _) && PyData.plainAll (natsD ns)) = true
      rw [h1]
      rfl
    · show max (PyData.depth (.int (Int.ofNat n))) (PyData.depthAll (natsD ns)) ≤ 1
      have : PyData.depth (.int (Int.ofNat n)) ≤ 1 := by simp [PyData.depth]
      omega
theorem nats_small (ns : List Nat) : small (.list (natsD ns)) = true := by
  obtain ⟨h1, h2⟩ := nats_plain ns
  have e1 : (PyData.list (natsD ns)).plain = true := by simpa [PyData.plain] using h1
  have e2 : (PyData.list (natsD ns)).depth ≤ 60 := by
    show PyData.depthAll (natsD ns) + 1 ≤ 60
    omega
  unfold small
  rw [e1, decide_eq_true e2]
  rfl
theorem st_great {lp sp : Pos} (hu : X.A.units + 70 < cLine) (hN : X.N[i]? = some x) (hv : Vis X.env.scope x) (hd : (x == ("__debug__" : Str)) = false) (hcd : (x == ("__classdict__" : Str)) = false) (hm : behindInMarks .NotEq (.List [] lp) = false) : ST X (.Compare (.Subscript (.Name x px) (.Constant (.str "great") j pc) sp) [.NotEq] [.List [] lp] pos) (stGreat i) :=
  pt_imp (pt_cmpR (op_cmp hu .ne) (pe_dget (by omega) (pe_var hN hv hd hcd) pe_str (fun _ _ => rfl)) (pe_lst pa_nil) hm) fun σ H Q h => by
    obtain ⟨g, F, sa, env, ds, k, env', ds', e, hm, q⟩ := h
    obtain ⟨s, e1, e2, e3⟩ := st_inv hm
    have e2 : ds = some s := e2
    subst e2
    cases e3
    obtain ⟨xa, gr, c, r1, r2, r3, r4, r5, r6, r7⟩ := e.state e1
    refine tD_key (w := X.w) (K := X.K) r2 r3 (kvS_great s gr c) ⟨Nat.zero_le _, fun p hp => ?_⟩
    have ng : gr ≠ p := fun z => by rw [z, hp] at r4; cases r4
    refine ⟨.list (natsD s.great), .list [], !s.great.isEmpty, .lst (.of (by rw [upd_ne ng]; exact r4)) (rp_nats _), .lst (.of upd_same) .nil, ?_, _, rfl, ?_⟩
    · show (if (small (.list (natsD s.great)) && small (.list [])) = true then some (!PyData.eqv (.list (natsD s.great)) (.list [])) else none) = _
      rw [nats_small s.great]
      cases s.great <;> rfl
    · exact q F _ sa (e.alloc hp _) (step_alloc hp _)
theorem se_stPop {sp ap : Pos} {cj : Nat} {cp : Pos} (hu : X.A.units + 70 < cLine) (hN : X.N[i]? = some x) (hv : Vis X.env.scope x) (hd : (x == ("__debug__" : Str)) = false) (hcd : (x == ("__classdict__" : Str)) = false)
    (hbase : attributeBase (.Subscript (.Name x px) (.Constant (.str "great") j pc) sp) "pop" X.env (eval (.Subscript (.Name x px) (.Constant (.str "great") j pc) sp) X.env) = eval (.Subscript (.Name x px) (.Constant (.str "great") j pc) sp) X.env) (hline : (ap.endLine == pos.line) = true) :
    SE X (.Call (.Attribute (.Subscript (.Name x px) (.Constant (.str "great") j pc) sp) "pop" ap) [.Constant (.int 0) cj cp] [] pos) (stPop i) :=
  pe_imp (pe_bm F.plainAttrs_list F.slot_list_pop F.type_list_pop mt_popAt (pe_dget (by omega) (pe_var hN hv hd hcd) pe_str (fun _ _ => rfl)) (pa_cons pe_int pa_nil) hbase rfl hline rfl rfl) fun σ H Q h => by
    obtain ⟨g, F, sa, env, ds, rv, env', ds', e, hm, q⟩ := h
    obtain ⟨s, e1, e2, e3⟩ := st_inv hm
    have e2 : ds = some s := e2
    subst e2
    obtain ⟨xa, gr, c, r1, r2, r3, r4, r5, r6, r7⟩ := e.state e1
    cases hg : s.great with
    | nil => rw [hg] at e3; cases e3
    | cons n ns =>
      rw [hg] at e3 r4 r6
      cases e3
      have hs : sa.has gr := by rw [r1]; exact .inr rfl
      refine tD_key (w := X.w) (K := X.K) r2 r3 (kvS_great s gr c) ⟨.inl ⟨rfl, _, SqL.of r4⟩, gr, natsV (n :: ns), 0, 0, .int (n : Int), rfl, rfl, r4, by decide, by decide, seqIndex_of (by decide) (by show (0 : Int) < ((natsV (n :: ns)).length : Nat); simp [natsV]), rfl, ?_⟩
      have nx : xa ≠ gr := fun z => by rw [z, r4] at r3; cases r3
      have st : StOk F (upd H gr (.lst (natsV ns))) sa (some { s with great := ns }) := by
        rw [r1]
        exact ⟨by rw [upd_ne nx]; exact r3, upd_same, r5, by simp only [List.length_cons] at r6; exact Nat.le_of_succ_le r6, r7⟩
      exact q F _ sa _ (e.stw hs st) (step_stw e hs _) (.int _) trivial
theorem ss_stSet {k : Str} {f : DS → Nat → DS} {e : Expr} {me : M Rv} {sp : Pos} (hf : ∀ (s : DS) (g c : Addr) (n : Nat), putK (kvS s g c) (.inr k) (.int (n : Int)) = kvS (f s n) g c ∧ (f s n).great = s.great ∧ (f s n).cells = s.cells) (hu : X.A.units + 70 < cLine) (hN : X.N[i]? = some x) (hv : Vis X.env.scope x) (hd : (x == ("__debug__" : Str)) = false) (hcd : (x == ("__classdict__" : Str)) = false)
    (he : SE X e me) (hs : swapsWith e (some (.Subscript (.Name x px) (.Constant (.str k) j pc) sp)) pos.line X.env = pure false) : SS X (.Assign [.Subscript (.Name x px) (.Constant (.str k) j pc) sp] e pos) (stSet i f me) :=
  ps_imp (ps_dput (by omega) (pe_var hN hv hd hcd) pe_str he hs) fun D σ H h => by
    obtain ⟨g, F, sa, env, ds, oc, env', ds', e, hm, q⟩ := h
    obtain ⟨r, ⟨e1, d1⟩, h1, hm1⟩ := bindM hm
    refine vM_ok (tE_at e Step.refl h1 fun F1 H1 sa1 v eo st _ hv _ => ?_)
    cases r with
    | d y =>
      cases y with
      | int n =>
        obtain ⟨_, ⟨e2, d2⟩, h2, hm2⟩ := bindM hm1
        obtain ⟨h3, h4⟩ := pureM hm2
        subst h3
        obtain ⟨rfl, rfl⟩ := Prod.mk.inj h4
        obtain ⟨s, g1, g2, g3⟩ := st_inv h2
        have g2 : d1 = some s := g2
        subst g2
        by_cases hn : 0 ≤ n
        · rw [if_pos hn] at g3
          cases g3
          have hv : Rp X.w X.K F1 v (.int n) := hv
          cases hv
          obtain ⟨xa, gr, c, r1, r2, r3, r4, r5, r6, r7⟩ := eo.state g1
          obtain ⟨f1, f2, f3⟩ := hf s gr c n.toNat
          have en : ((n.toNat : Nat) : Int) = n := Int.toNat_of_nonneg hn
          rw [en] at f1
          have hsx : sa1.has xa := by rw [r1]; exact .inl rfl
          have ng : gr ≠ xa := fun z => by rw [z, r3] at r4; cases r4
          refine ⟨_, r2, xa, _, rfl, DPut.k (k := Sum.inr k) r3 (by show 4 < sizeLine; decide), ?_⟩
          rw [f1]
          have st2 : StOk F1 (upd H1 xa (.dK (kvS (f s n.toNat) gr c))) sa1 (some (f s n.toNat)) := by
            rw [r1]
            exact ⟨upd_same, by rw [upd_ne ng, f2]; exact r4, by rw [f3]; exact r5, by rw [f2]; exact r6, by rw [f3]; exact r7⟩
          exact q F1 _ sa1 σ (eo.stw hsx st2) st.ff (st.saR e)
        · rw [if_neg hn] at g3; cases g3
      | _ => cases hm1
    | _ => cases hm1
theorem put_rest : ∀ (s : DS) (g c : Addr) (n : Nat), putK (kvS s g c) (.inr "rest") (.int (n : Int)) = kvS { s with rest := n } g c ∧ ({ s with rest := n } : DS).great = s.great ∧ ({ s with rest := n } : DS).cells = s.cells := fun _ _ _ _ => ⟨rfl, rfl, rfl⟩
theorem put_turn : ∀ (s : DS) (g c : Addr) (n : Nat), putK (kvS s g c) (.inr "turn") (.int (n : Int)) = kvS { s with turn := n } g c ∧ ({ s with turn := n } : DS).great = s.great ∧ ({ s with turn := n } : DS).cells = s.cells := fun _ _ _ _ => ⟨rfl, rfl, rfl⟩
end
end Fw
end TFwV
section TFwW
namespace Fw
open PySem PySem.Spec PyProof.Rows L2
def natOf : List D → Option (List Nat)
  | [] => some []
  | .int i :: r => if 0 ≤ i then match natOf r with
    | some ns => some (i.toNat :: ns)
    | none => none else none
  | _ :: _ => none
theorem natOf_eq : ∀ {xs : List D} {ns : List Nat}, natOf xs = some ns → xs = natsD ns
  | [], ns, h => by cases h; rfl
  | .int i :: r, ns, h => by
    unfold natOf at h
    by_cases c : 0 ≤ i
    · rw [if_pos c] at h
      cases e : natOf r with
      | none => rw [e] at h; cases h
      | some ms =>
        rw [e] at h
        cases h
        rw [natOf_eq e]
        show _ = PyData.int (Int.ofNat i.toNat) :: natsD ms
        rw [show Int.ofNat i.toNat = i from Int.toNat_of_nonneg c]
    · rw [if_neg c] at h; cases h
  | .none :: _, _, h => by cases h
  | .bool _ :: _, _, h => by cases h
  | .str _ :: _, _, h => by cases h
  | .list _ :: _, _, h => by cases h
  | .tuple _ :: _, _, h => by cases h
  | .dict _ :: _, _, h => by cases h
theorem nats_vals {w : World} {K : PySem.W.Frag} {F : Hp} : ∀ {vs : List V} {ns : List Nat}, RpA w K F vs (natsD ns) → vs = natsV ns
  | _, [], .nil => rfl
  | _, n :: ns, .cons h r => by
    cases h
    rw [nats_vals r]
    rfl
def begM (i : Nat) (ml : M Rv) : M Rv := do
  ckL (.ow i)
  let r ← ml
  fun c => match r, c.1[i]?, c.2 with
    | .fl xs, some (some (.ol gs)), none => match natOf gs, natOf xs with
      | some gn, some cn => if gn.length ≤ 1000 ∧ cn.length ≤ 1000 then some (.st, (c.1.set i none, some ⟨gn, cn, 0, 0⟩)) else none
      | _, _ => none
    | _, _, _ => none
theorem begM_inv {i : Nat} {ml : M Rv} {c c' : Cf} {r : Rv} (h : begM i ml c = some (r, c')) : ∃ ys xs gs gn cn e1, c.1[i]? = some (some (.ol ys)) ∧ ml c = some (.fl xs, (e1, none)) ∧ e1[i]? = some (some (.ol gs)) ∧ natOf gs = some gn ∧ natOf xs = some cn ∧ gn.length ≤ 1000 ∧ cn.length ≤ 1000 ∧ r = .st ∧ c' = (e1.set i none, some ⟨gn, cn, 0, 0⟩) := by
  obtain ⟨_, c1, h1, h2⟩ := bindM h
  obtain ⟨i', ys, e1, e2, e3⟩ := ckL_inv h1
  cases e1
  subst e3
  obtain ⟨r1, c2, h3, h4⟩ := bindM h2
  obtain ⟨en, dn⟩ := c2
  cases r1 with
  | fl xs =>
    cases q1 : en[i]? with
    | none => simp only [q1] at h4; cases h4
    | some o =>
      cases o with
      | none => simp only [q1] at h4; cases h4
      | some sl =>
        cases sl with
        | ol gs =>
          cases dn with
          | some s => simp only [q1] at h4; cases h4
          | none =>
            simp only [q1] at h4
            cases q3 : natOf gs with
            | none => rw [q3] at h4; cases h4
            | some gn =>
              cases q4 : natOf xs with
              | none => rw [q3, q4] at h4; cases h4
              | some cn =>
                rw [q3, q4] at h4
                simp only at h4
                by_cases q5 : gn.length ≤ 1000 ∧ cn.length ≤ 1000
                · rw [show (if gn.length ≤ 1000 ∧ cn.length ≤ 1000 then some (Rv.st, (en.set i none, some (⟨gn, cn, 0, 0⟩ : DS))) else none) = some (Rv.st, (en.set i none, some (⟨gn, cn, 0, 0⟩ : DS))) from if_pos q5] at h4
                  cases h4
                  exact ⟨ys, xs, gs, gn, cn, en, e2, h3, q1, q3, q4, q5.1, q5.2, rfl, rfl⟩
                · rw [show (if gn.length ≤ 1000 ∧ cn.length ≤ 1000 then some (Rv.st, (en.set i none, some (⟨gn, cn, 0, 0⟩ : DS))) else none) = none from if_neg q5] at h4
                  cases h4
        | d _ => simp only [q1] at h4; cases h4
        | od _ => simp only [q1] at h4; cases h4
        | st => simp only [q1] at h4; cases h4
  | d _ => cases h4
  | ow _ => cases h4
  | fd _ => cases h4
  | st => cases h4
section
variable {X : Cx}
theorem se_begun {i : Nat} {x : Str} {px pos p1 p2 p3 p4 p5 p6 : Pos} {j1 j2 j3 j4 j5 j6 : Nat} {el : Expr} {ml : M Rv} (hN : X.N[i]? = some x) (hv : Vis X.env.scope x) (hd : (x == ("__debug__" : Str)) = false) (hcd : (x == ("__classdict__" : Str)) = false) (hl : SE X el ml) :
    SE X (.Dict [some (.Constant (.str "great") j1 p1), some (.Constant (.str "cells") j2 p2), some (.Constant (.str "rest") j3 p3), some (.Constant (.str "turn") j4 p4)] [.Name x px, el, .Constant (.int 0) j5 p5, .Constant (.int 0) j6 p6] pos) (begM i ml) :=
  pe_imp (pe_disp (pps_cons pe_str (pe_var hN hv hd hcd) (pps_cons pe_str hl (pps_cons pe_str pe_int (pps_cons pe_str pe_int pps_nil)))) rfl rfl (by simp) (show 4 ≤ 15 by decide)) fun σ H Q h => by
    obtain ⟨g, F, sa, env, ds, rv, env', ds', e, hm, q⟩ := h
    obtain ⟨ys, xs, gs, gn, cn, e1, h1, h2, h3, h4, h5, h6, h7, rfl, h9⟩ := begM_inv hm
    obtain ⟨rfl, rfl⟩ := Prod.mk.inj h9
    have h1 : env[i]? = some (some (.ol ys)) := h1
    intro p hp
    obtain ⟨v0, s0, gr, rfl, _, m0⟩ := e.slots i _ h1
    have eA := e.alloc hp (.dK [])
    refine ⟨_, s0, g, F, sa, env, ds, .fl xs, e1, none, eA, h2, fun F3 H3 sa3 cv e3 st3 hcv hnew => ?_⟩
    -- what stands behind the cells
    obtain ⟨c, rfl, ⟨cvs, c1, c2⟩, mC, nC⟩ := hcv
    rw [natOf_eq h5] at c2
    have ec := nats_vals c2
    subst ec
    obtain ⟨v1, s1, gr1, eg, ⟨gvs, g1, g2⟩, mG⟩ := e3.slots i _ h3
    rw [s0] at s1
    cases s1
    cases eg
    rw [natOf_eq h4] at g2
    have eg2 := nats_vals g2
    subst eg2
    have saN : sa3 = none := by
      have z := e3.st
      cases sa3 with
      | none => rfl
      | some t => exact z.elim
    subst saN
    have own3 : Own e1 i := .inl ⟨gs, h3⟩
    have own0 : Own env i := st3.own i own3
    have nMp : ¬ Mut σ env p := e.noMut hp
    obtain ⟨mP, hP3⟩ := st3.mine (g := g) (o := .dK []) upd_same (e.mine hp) nMp
    have hc0 : (upd H p (.dK [])) c = none := hnew c rfl
    have ncp : c ≠ p := fun z => by rw [z, upd_same] at hc0; cases hc0
    have hcH : H c = none := by rw [upd_ne ncp] at hc0; exact hc0
    have ngp : gr ≠ p := fun z => by
      obtain ⟨o, ho, _⟩ := e.mut ⟨i, own0, s0⟩
      rw [z, hp] at ho; cases ho
    have ncg : c ≠ gr := fun z => nC ⟨i, own3, by rw [z]; exact s0⟩
    have big4 : (4 : Nat) ≤ 15 := by decide
    refine ⟨hP3, [(.inr "great", .ref gr), (.inr "cells", .ref c), (.inr "rest", .int 0), (.inr "turn", .int 0)], rfl, big4, ?_⟩
    -- the new state
    have ff : Same F3 (upd F3 c (.lst (natsV cn))) := same_upd' mC.f
    have nFp : (upd F3 c (.lst (natsV cn))) p = none := by rw [upd_ne ncp.symm]; exact mP.f
    have sx : StOk (upd F3 c (.lst (natsV cn))) (upd H3 p (.dK (kvS ⟨gn, cn, 0, 0⟩ gr c))) (some (p, gr, c)) (some ⟨gn, cn, 0, 0⟩) :=
      ⟨upd_same, by rw [upd_ne ngp]; exact g1, upd_same, h6, h7⟩
    have eo : EnvOk X.w X.K g (upd F3 c (.lst (natsV cn))) (upd H3 p (.dK (kvS ⟨gn, cn, 0, 0⟩ gr c))) (some (p, gr, c)) σ (e1.set i none) (some ⟨gn, cn, 0, 0⟩) := by
      have ownset : ∀ j, Own (e1.set i none) j → Own e1 j ∧ i ≠ j := fun j z => by
        have nij : i ≠ j := fun w => by
          subst w
          rcases z with ⟨zs, z⟩ | ⟨zs, z⟩
          · rw [List.getElem?_set_self own3.lt] at z; cases z
          · rw [List.getElem?_set_self own3.lt] at z; cases z
        refine ⟨z.same ?_, nij⟩
        rw [List.getElem?_set_ne nij]
      refine ⟨fun b u z => ?_, e3.ext.trans ff, fun b u z n => ?_, fun b z => ?_, by rw [List.length_set]; exact e3.len, fun j sl z => ?_, fun j k v z1 z2 => e3.inj j k v (ownset j z1).1 (ownset k z2).1, sx, fun b z => ?_⟩
      · by_cases hb : b = c
        · subst hb
          rw [upd_same] at z
          cases z
          rw [upd_ne ncp]; exact c1
        · rw [upd_ne hb] at z
          rw [upd_ne (ne_of_none z mP.f)]
          exact e3.sub b u z
      · have nb : b ≠ p := fun w => n (.inl w)
        rw [upd_ne nb]
        exact e3.keep b u z (fun w => w)
      · by_cases hb : b = c
        · subst hb; exact .inr mC.h
        · rw [upd_ne hb] at z; exact e3.new b z
      · have nij : i ≠ j := fun w => by
          subst w
          rw [List.getElem?_set_self own3.lt] at z; cases z
        rw [List.getElem?_set_ne nij] at z
        obtain ⟨v, w1, w2⟩ := e3.slots j sl z
        refine ⟨v, w1, ?_⟩
        have other : ∀ a, v = .ref a → Own e1 j → a ≠ gr ∧ a ≠ c := fun a ea oj =>
          ⟨fun y => nij (e3.inj i j (.ref gr) own3 oj s0 (by rw [w1, ea, y])), fun y => nC ⟨j, oj, by rw [w1, ea, y]⟩⟩
        cases sl with
        | d y => exact Rp.mono ff w2
        | st => obtain ⟨t, et, _⟩ := w2; cases et
        | ol zs =>
          obtain ⟨a, ea, l, m⟩ := w2
          obtain ⟨na, nb⟩ := other a ea (.inl ⟨zs, z⟩)
          obtain ⟨o, ho⟩ := l.some
          have np : a ≠ p := fun y => by
            obtain ⟨o2, ho2, _⟩ := e.mut ⟨j, st3.own j (.inl ⟨zs, z⟩), by rw [w1, ea]⟩
            rw [y, hp] at ho2; cases ho2
          exact ⟨a, ea, l.mono ff (upd_ne np), ⟨by rw [upd_ne nb]; exact m.f, m.h, fun y => by
            rcases y with y | y
            · exact np y
            · exact na y⟩⟩
        | od zs =>
          obtain ⟨a, ea, l, m⟩ := w2
          obtain ⟨na, nb⟩ := other a ea (.inr ⟨zs, z⟩)
          have np : a ≠ p := fun y => by
            obtain ⟨o2, ho2, _⟩ := e.mut ⟨j, st3.own j (.inr ⟨zs, z⟩), by rw [w1, ea]⟩
            rw [y, hp] at ho2; cases ho2
          exact ⟨a, ea, l.mono ff (upd_ne np), ⟨by rw [upd_ne nb]; exact m.f, m.h, fun y => by
            rcases y with y | y
            · exact np y
            · exact na y⟩⟩
      · rcases z with rfl | rfl
        · exact nFp
        · rw [upd_ne ncg.symm]; exact mG.f
    have sN : sa = none := by
      rcases st3.sa with z | ⟨z, _⟩
      · exact z.symm
      · exact z
    have st : Step σ F H sa env (upd F3 c (.lst (natsV cn))) (upd H3 p (.dK (kvS ⟨gn, cn, 0, 0⟩ gr c))) (some (p, gr, c)) (e1.set i none) := by
      have t1 := ((step_alloc hp (.dK [])).trans st3).touch hp (.dK (kvS ⟨gn, cn, 0, 0⟩ gr c))
      refine ⟨t1.fr, t1.dom, t1.ff.trans ff, fun b z => ?_, .inr ⟨sN, fun b z => ?_⟩, fun j z => ?_⟩
      · by_cases hb : b = c
        · subst hb; exact .inr (.inl hcH)
        · rw [upd_ne hb] at z; exact t1.fn b z
      · rcases z with rfl | rfl
        · exact .inl hp
        · exact .inr ⟨i, own0, s0⟩
      · have nij : i ≠ j := fun w => by
          subst w
          rcases z with ⟨zs, z⟩ | ⟨zs, z⟩
          · rw [List.getElem?_set_self own3.lt] at z; cases z
          · rw [List.getElem?_set_self own3.lt] at z; cases z
        exact st3.own j (z.same (by rw [List.getElem?_set_ne nij]))
    exact q _ _ _ (.ref p) eo st ⟨(p, gr, c), rfl, rfl⟩ trivial
end
/-- the script, known to its object, or one of the module's own -/
theorem law_end {P : Program} {w : World} {K : PySem.W.Frag} {mg mb : Str → Option Value} {k : Nat} {fa a : Addr} {fd : FuncData} {x : Str} {fn : Fun} {s₁ : Shared} {vs : List Value} {ns : List Int}
    (inK : K.In s₁.heap) (hns : s₁.heap.Ns mainGlobals mg) (hb : s₁.heap.Ns builtinsNs mb) (hbb : ∀ x : Str, x ≠ "__name__" → mb x = bootBuiltins x) (hlim : s₁.heap.NoLimit) (hg : s₁.gens = #[])
    (ha : s₁.heap.get? a = some { cls := .type "list", data := .seq vs.toArray }) (hi : IntsAre vs ns) (hl : ns.length ≤ sizeLine) (hr : Room k callerA)
    (G : ∀ base : Heap, K.In base → base.Ns mainGlobals mg → FnG P w K mg base k fa fd [x] (spF w K fn)) (hbind : ∀ (s : Shared) (u : Value), BindsTo s fd ⟨[u], []⟩ [(x, u)])
    (hfn : ∃ d', fn [.d (.list (ns.map PyData.int))] none = some (.d (.bool true), d')) :
    codeAny (model P w) callerA (.call (.ref fa) ⟨[.ref a], []⟩) (fun r s' => r = .ok (.ret (.bool true)) ∧ OldK s₁.heap s'.heap ∧ s'.os = s₁.os ∧ AllBare s'.gens) s₁ := by
  have rv := vals_ints hi
  have lenV := hi.length
  have core : ∀ H : Hp, Only H → Lr K H a (ns.map V.int) → HOk P w H s₁.heap → (∀ b, H b ≠ none → b = a) → (H a ≠ none → K.lookup a = none) →
      codeAny (model P w) callerA (.call (.ref fa) ⟨[.ref a], []⟩) (fun r s' => r = .ok (.ret (.bool true)) ∧ OldK s₁.heap s'.heap ∧ s'.os = s₁.os ∧ AllBare s'.gens) s₁ := by
    intro H hO hS hok hA hK
    have noA : ∀ {b : Addr} {o : Obj} {es : Array DictEntry} {ep : Nat}, s₁.heap.get? b = some o → o.data = .dict es ep → H b = none := fun {b o es ep} e d => by
      cases q : H b with
      | none => rfl
      | some u =>
        have e' : b = a := hA b (by rw [q]; simp)
        subst e'
        rw [ha] at e; cases e
        have d' : Data.seq vs.toArray _ = Data.dict es ep := d
        cases d'
    have nsK : ∀ {b : Addr} {m : Str → Option Value}, s₁.heap.Ns b m → (hidT s₁.heap H).Ns b m := fun {b m} z => by
      obtain ⟨o, es, ep, e, d, r⟩ := z
      exact ⟨o, es, ep, hidT_get e (noA e d), d, r⟩
    have hKb : K.In (hidT s₁.heap H) := fun b o e => hidT_get (inK b o e) (by
      cases q : H b with
      | none => rfl
      | some u =>
        have e' : b = a := hA b (by rw [q]; simp)
        subst e'
        rw [hK (by rw [q]; simp)] at e; cases e)
    have hM : Mod K mg (hidT s₁.heap H) := ⟨hKb, nsK hns, ⟨mb, nsK hb, hbb⟩, let ⟨mc, h1, h2⟩ := hlim; ⟨mc, nsK h1, h2⟩⟩
    have e0 : Env0 P w K mg (hidT s₁.heap H) callerA [] s₁ H := ⟨rfl, hM, fun b o e => of_hidT e, Nat.le_of_eq (hidT_size _ _), trivial, fun b hb => absurd (show b ∈ ([] : List Addr) from hb) (by simp), hok, .of_eq hg⟩
    obtain ⟨d', hd⟩ := hfn
    have sp : spF w K fn [.ref a] H (fun v _ => v = .bl true) := by
      refine ⟨H, none, [.d (.list (ns.map PyData.int))], none, _, d', Same.refl H, .cons (Rp.lst hS (RpA.ints ns)) .nil, trivial, fun b z => z.elim, hd, fun F' H' sa' v o st r => ?_⟩
      have r : Rp w K F' v (.bool true) := r
      cases r
      rfl
    refine codeAny_mono ((G _ hKb (nsK hns)).go callerA [] s₁ H ⟨[.ref a], []⟩ [.ref a] [.ref a] _ hr rfl e0 (hbind s₁ (.ref a)) (.cons rfl .nil) sp) fun r s' h => ?_
    cases r with
    | error e => exact False.elim h
    | ok fl =>
      cases fl with
      | next => exact False.elim h
      | brk => exact False.elim h
      | cont => exact False.elim h
      | ret u =>
        obtain ⟨v, H', os, bare, un, hok', r', q⟩ := h
        have q' : v = .bl true := q
        subst q'
        obtain rfl : u = Value.bool true := r'
        refine ⟨rfl, OldK.of_keep fun b o e => ?_, os, bare⟩
        cases q : H b with
        | none => exact un.keep b o e q (by intro z; exact absurd (show b ∈ ([] : List Addr) from z) (by simp)) (by simp)
        | some u =>
          rcases hO b with z | ⟨ob, xs, z⟩
          · rw [q] at z; cases z
          · have z2 := un.frzs b ob _ z
            obtain ⟨e1, _⟩ := hok b _ z
            obtain ⟨e2, _⟩ := hok' b _ z2
            rw [e] at e1; cases e1
            exact e2
  cases hk : K.lookup a with
  | some o =>
    have e := inK a o hk
    rw [ha] at e
    cases e
    refine core (fun _ => none) (fun _ => .inl rfl) (.inr ⟨vs, _, hk, rv, by rw [List.length_map]; exact hl⟩) (fun b u z => by have z' : (none : Option HO) = some u := z; cases z') (fun b z => absurd rfl z) fun z => absurd rfl z
  | none =>
    refine core (fun b => if b = a then some (.frz { cls := .type "list", data := .seq vs.toArray } (.lst (ns.map V.int))) else none) (fun b => ?_) (.inl (.inr ⟨{ cls := .type "list", data := .seq vs.toArray }, if_pos rfl⟩)) (fun b u z => ?_) (fun b z => ?_) fun _ => hk
    · by_cases hb : b = a
      · exact .inr ⟨_, _, if_pos hb⟩
      · exact .inl (if_neg hb)
    · by_cases hb : b = a
      · have z' := (if_pos hb).symm.trans z
        cases z'
        subst hb
        exact ⟨ha, by rw [List.length_map]; exact hl, vs, _, rv, ha⟩
      · have z' := (if_neg hb).symm.trans z
        cases z'
    · by_cases hb : b = a
      · exact hb
      · exact absurd (if_neg hb) z
/-- the goal that the head leaves -/
theorem walk_end {l : PySem.W.OpenLaw} {n k : Nat} {q : Program} {loose : List Str} {XP : (Str → Option Value) → Heap → Prop} {YP : World → Heap → Prop} {d : DefRec} {x : Str} {fn : Fun}
    (hn : l.most = some n) (hn2 : n ≤ sizeLine) (hdf : d.params.defaults = []) (hr : Room k callerA)
    (F : ∀ (w : World) (mg : Str → Option Value) (fa : Addr) (h : Heap), YP w h → h.Ns mainGlobals mg → mg d.name = some (.ref fa) →
      ∃ (K : PySem.W.Frag) (fd : FuncData), K.In h ∧ (∀ (s : Shared) (u : Value), BindsTo s fd ⟨[u], []⟩ [(x, u)]) ∧
        ∀ base : Heap, K.In base → base.Ns mainGlobals mg → FnG l.prog w K mg base k fa fd [x] (spF w K fn))
    (hfn : ∀ ns : List Int, ns.length ≤ n → ∃ d', fn [.d (.list (ns.map PyData.int))] none = some (.d (.bool true), d')) :
    PySem.W.WalkO q loose XP YP l.row.toRowW d [] (fun f vs => PySem.call f vs) := by
  refine Att.attach_call hn hdf fun w s₀ s₁ mg mb fa o pm cd doc a vs ns G Y ho hd hcd hmg hobj hints hlen hg => ?_
  obtain ⟨K, fd, inK, hb, hF⟩ := F w mg fa _ Y G.T.g hmg
  exact law_end inK G.T.g G.T.b G.T.builtins G.T.nolimit hg hobj hints (Nat.le_trans hlen hn2) hr hF hb (hfn ns hlen)
end Fw
end TFwW
section TFwX
namespace Fw
open PySem PySem.Spec PyProof.Rows L2
section
variable {X : Cx} {kx vx tg iter : Expr} {ifs : List Expr} {scope : Scope} {own : List (Str × Nat)} {pos : Pos} {mi : M (List D)} {t : IT} {mc mk mv : M Rv}
theorem ps_setDcH {i : Nat} {y : Str} {py spos : Pos} {wi : TI} {g : TG} {tt : TT} {tk tv : TE} (hu : X.A.units + 70 < cLine) (hc : X.calm = true) (hN : X.N.Nodup) (hy : X.N[i]? = some y) (hyl : X.env.scope.names.lookup y = some .local)
    (hsw : swapsWith (.DictComp kx vx [⟨tg, iter, ifs, 0⟩] scope pos) (some (.Name y py)) spos.line X.env = pure true) (hi : PI X tg iter wi) (ok : BlkOk X.N X.env.scope scope own)
    (hg : ∀ (s : Shared) (H : Hp) (C : Addr) (cl : List (Str × Addr)) (fp : List Addr), PG (X.blk s H scope (compEnvC scope cl C X.env) fp) tg g) (ht : ∀ (s : Shared) (H : Hp) (C : Addr) (cl : List (Str × Addr)) (fp : List Addr), PTs (X.blk s H scope (compEnvC scope cl C X.env) fp) ifs tt)
    (hk : ∀ (s : Shared) (H : Hp) (C : Addr) (cl : List (Str × Addr)) (fp : List Addr), PE (X.blk s H scope (compEnvC scope cl C X.env) fp) kx tk)
    (he : ∀ (s : Shared) (H : Hp) (C : Addr) (cl : List (Str × Addr)) (fp : List Addr), PE (X.blk s H scope (compEnvC scope cl C X.env) fp) vx tv) (hs : ∀ x, foldedSetIterable iter X.env x = pure x) :
    PS X (.Assign [.Name y py] (.DictComp kx vx [⟨tg, iter, ifs, 0⟩] scope pos) spos) (tAsg (tDcH X.w X.K wi g tt tk tv (own.map (·.2))) (gName i)) := ⟨fun pins s σ H D I h => by
  rw [exec_Assign_Name_used _ _ _ _ hsw]
  refine wpAny_bind (wpAny_standAt (wpAny_bind ?_))
  show wpAny _ X.A (do let _ ← comprehension (.DictComp kx vx [⟨tg, iter, ifs, 0⟩] scope pos) scope X.env (firstIterPos [⟨tg, iter, ifs, 0⟩] pos) newDict false (eval iter X.env) (some (assign (.Name y py) X.env))) _ _ s
  have h : tDcH X.w X.K wi g tt tk tv (own.map (·.2)) σ H (fun x H1 => gName i x σ H1 D.nx) := h
  refine wpAny_bind (thn (dcH_core (Qf := fun _ s' => SP X pins D .next s') hu hc hN I hi ok hg ht hk he hs h fun L C s' m H' I' q hn f => ?_) fun _ s' hq => wpAny_pure (wpAny_pure hq))
  show wpAny _ _ (assign (.Name y py) X.env (.ref L)) _ _ _
  refine wpAny_assign_Name (store_ok2 (v := V.ref L) I' hN hy (.inl hyl) rfl (fun s2 I2 hx => ?_) (.inr hyl))
  obtain ⟨a, sb, ha⟩ := hx
  obtain ⟨f0, f1, f2, f3, f4, f5⟩ := f
  have haC : C ≠ a := by
    rcases ha with z | z
    · rw [z]; exact f1
    · exact fun e => f4 y a z e.symm
  refine ⟨m, hn.sameBut sb haC, fun h3 sb3 => ?_⟩
  exact ⟨_, H', I2.turned (t' := s2.toks) (fun b o hb e => (sb3.2 b hb).trans e) f0 f1 f3 f4 f5, q⟩⟩
theorem sw_trueD {gs : List Comprehension} {py : Pos} {y : Str} {l : Nat} {env : PySem.Env} (hk : env.scope.kind = .function) (hy : env.scope.names.lookup y = some .local) (hl : (py.line == pos.line) = true)
    (ha : (scope.names.any fun (n, k) => n == y && (k == .local || k == .cell)) = false) : swapsWith (.DictComp kx vx gs scope pos) (some (.Name y py)) l env = pure true := by
  have ky : env.kindOf y = some .local := hy
  have hb : env.blockKind = .function := by unfold Env.blockKind; rw [hk]; rfl
  unfold swapsWith
  simp only [hb, ky, ha, Expr.pos, hl]
  rfl
theorem ss_setDc {pr : Bool} {i : Nat} {y : Str} {py spos : Pos} (hu : X.A.units + 70 < cLine) (hc : X.calm = true) (hN : X.N.Nodup) (hy : X.N[i]? = some y) (hyl : X.env.scope.names.lookup y = some .local)
    (hsw : swapsWith (.DictComp kx vx [⟨tg, iter, ifs, 0⟩] scope pos) (some (.Name y py)) spos.line X.env = pure true) (hi : SI X tg iter pr mi) (ok : BlkOk X.N X.env.scope scope own) (htv : tgIn (own.map (·.2)) t = true) (htp : pr = true → isTp t = true)
    (hg : ∀ (s : Shared) (H : Hp) (C : Addr) (cl : List (Str × Addr)) (fp : List Addr), SG (X.blk s H scope (compEnvC scope cl C X.env) fp) tg t) (ht : ∀ (s : Shared) (H : Hp) (C : Addr) (cl : List (Str × Addr)) (fp : List Addr), SC (X.blk s H scope (compEnvC scope cl C X.env) fp) ifs mc)
    (hk : ∀ (s : Shared) (H : Hp) (C : Addr) (cl : List (Str × Addr)) (fp : List Addr), SE (X.blk s H scope (compEnvC scope cl C X.env) fp) kx mk)
    (he : ∀ (s : Shared) (H : Hp) (C : Addr) (cl : List (Str × Addr)) (fp : List Addr), SE (X.blk s H scope (compEnvC scope cl C X.env) fp) vx mv) (hs : ∀ x, foldedSetIterable iter X.env x = pure x) :
    SS X (.Assign [.Name y py] (.DictComp kx vx [⟨tg, iter, ifs, 0⟩] scope pos) spos) (setM i (dcM (own.map (·.2)) t mi mc mk mv)) :=
  ps_imp (ps_setDcH hu hc hN hy hyl hsw hi ok hg ht hk he hs) fun D σ H h => by
    refine dc_ok (mc := mc) (mk := mk) (mv := mv) htv htp ?_
    obtain ⟨g, F, sa, env, ds, oc, env', ds', e, hm, q⟩ := h
    obtain ⟨r, ⟨e1, d1⟩, h1, hm⟩ := bindM hm
    obtain ⟨_, ⟨e2, d2⟩, h2, hm⟩ := bindM hm
    obtain ⟨h3, h4⟩ := pureM hm
    subst h3
    obtain ⟨rfl, rfl⟩ := Prod.mk.inj h4
    refine ⟨g, F, sa, env, ds, r, e1, d1, e, h1, fun F1 H1 sa1 v eo s hv _ => ?_⟩
    obtain ⟨F2, e3, ff⟩ := storeM_ok eo hv h2
    exact q F2 H1 sa1 _ e3 (s.ff.trans ff) (s.saR e)
end
section
variable {X : Cx}
theorem v_ (i : Nat) {x : Str} {pos : Pos} (hN : X.N[i]? = some x := by rfl) (hv : Vis X.env.scope x := by first | exact Or.inl rfl | exact Or.inr (Or.inl rfl) | exact Or.inr (Or.inr rfl)) (hd : (x == ("__debug__" : Str)) = false := by decide)
    (hcd : (x == ("__classdict__" : Str)) = false := by decide) : SE X (.Name x pos) (varV i) := se_var hN hv hd hcd
/-- a constant of the module -/
def Glb (w : World) (K : PySem.W.Frag) (mg : Str → Option Value) (x : Str) (d : D) : Prop := ∃ v u, mg x = some u ∧ RelV v u ∧ ∀ F, Rp w K F v d
theorem g_ {x : Str} {pos : Pos} {d : D} (h : Glb X.w X.K X.mg x d) (hg : Gl X x := by rfl) (hd : (x == ("__debug__" : Str)) = false := by decide) : SE X (.Name x pos) (pure (.d d)) := by
  obtain ⟨v, u, h1, h2, h3⟩ := h
  exact se_glb hg h1 h2 h3 hd
theorem cmp_ {a b : Expr} {ma mb : M Rv} {pos : Pos} (hu : X.A.units + 70 < cLine) (o : COp) (ha : SE X a ma) (hb : SE X b mb) (hm : behindInMarks (cmpOf o) b = false := by first | exact nobehind _ (by decide) (by decide) | rfl) : SE X (.Compare a [cmpOf o] [b] pos) (cmp2 ma mb o) := se_cmp hu o ha hb hm
theorem tcmp_ {a b : Expr} {ma mb : M Rv} {pos : Pos} (hu : X.A.units + 70 < cLine) (o : COp) (ha : SE X a ma) (hb : SE X b mb) (hm : behindInMarks (cmpOf o) b = false := by first | exact nobehind _ (by decide) (by decide) | rfl) : ST X (.Compare a [cmpOf o] [b] pos) (cmp2 ma mb o) := st_cmp hu o ha hb hm
theorem chn_ {a b c : Expr} {ma mb mc : M Rv} {pos : Pos} (hu : X.A.units + 70 < cLine) (o p : COp) (ha : SE X a ma) (hb : SE X b mb) (hc : SE X c mc) (hm : lastMarks [cmpOf o, cmpOf p] [b, c] = false := by with_unfolding_all rfl) : SE X (.Compare a [cmpOf o, cmpOf p] [b, c] pos) (chn3 ma mb mc o p) := se_chn hu o p ha hb hc hm
theorem tchn_ {a b c : Expr} {ma mb mc : M Rv} {pos : Pos} (hu : X.A.units + 70 < cLine) (o p : COp) (ha : SE X a ma) (hb : SE X b mb) (hc : SE X c mc) (hm : lastMarks [cmpOf o, cmpOf p] [b, c] = false := by with_unfolding_all rfl) : ST X (.Compare a [cmpOf o, cmpOf p] [b, c] pos) (chn3 ma mb mc o p) := st_chn hu o p ha hb hc hm
theorem tval_ {a : Expr} {ma : M Rv} (h : SE X a ma) (he : ∀ whole, isTrue a X.env whole = (do let v ← whole; standAt a.pos; holding [v] (truthy v)) := by intro _; rfl) : ST X a ma := st_val h he
theorem lc_ {e : Expr} {es : List Expr} {m : M Rv} {ms : M (List D)} (h : SE X e m) (hr : SL X es ms) (hs : notStar e = true := by rfl) : SL X (e :: es) (consL m ms) := sl_cons h hr hs
theorem la_ {e : Expr} {es : List Expr} {m : M Rv} {ms : M (List Sl)} (h : SE X e m) (hr : SA' X es ms) (hs : notStar e = true := by rfl) : SA' X (e :: es) (consA m ms) := sa_cons h hr hs
theorem lr_ {e : Expr} {es : List Expr} {m : M Rv} {ms : M (List Rv)} (h : SE X e m) (hr : SR X es ms) (hs : notStar e = true := by rfl) : SR X (e :: es) (consP m ms) := sr_cons h hr hs
theorem ix_ {a b : Expr} {ma mb : M Rv} {pos : Pos} (hu : X.A.units + 70 < cLine) (ha : SE X a ma) (hb : SE X b mb) (hp : PlainIx b := by exact fun _ _ => rfl) : SE X (.Subscript a b pos) (bin2 ma mb ixR) := se_ix hu ha hb hp
end
section
variable {X : Cx} {id T : String} {b : List D → Option Rv} {ms : M (List Rv)} {x : Str} {p pos : Pos} {e : Expr} {es : List Expr}
theorem bB_ (hc : CallR X (.builtin id) (rB X.w X.K b)) (hm : X.mg x = none) (hv : bootBuiltins x = some (.builtin id)) (ha : SR X (e :: es) ms) (hg : Gl X x := by rfl) (hn : x ≠ "__name__" := by decide) (hdb : (x == ("__debug__" : Str)) = false := by decide)
    (he : starEach (e :: es) X.env = (false, eval e X.env) :: starEach es X.env := by rfl) (hpl : (backTo pos (starEach es X.env)).any (·.1) = false := by rfl) : SE X (.Call (.Name x p) (e :: es) [] pos) (biM b ms) := se_biB hc hg hm hv ha hn hdb he hpl
theorem bT_ (hc : CallR X (.type T) (rB X.w X.K b)) (hm : X.mg x = none) (hv : bootBuiltins x = some (.type T)) (ha : SR X (e :: es) ms) (hg : Gl X x := by rfl) (hn : x ≠ "__name__" := by decide) (hdb : (x == ("__debug__" : Str)) = false := by decide)
    (he : starEach (e :: es) X.env = (false, eval e X.env) :: starEach es X.env := by rfl) (hpl : (backTo pos (starEach es X.env)).any (·.1) = false := by rfl) : SE X (.Call (.Name x p) (e :: es) [] pos) (biM b ms) := se_biT hc hg hm hv ha hn hdb he hpl
end
def minF : List D → Option Rv := fun ds => match ds with
  | [.int i, .int j] => some (.d (.int (if j < i then j else i)))
  | _ => none
def maxF : List D → Option Rv := fun ds => match ds with
  | [.int i, .int j] => some (.d (.int (if j > i then j else i)))
  | _ => none
/-- a def of the text: where it stands -/
abbrev FnP (K : PySem.W.Frag) (x : Str) (st : Stmt) (f : Addr) (fd : FuncData) : Prop := FunD K x x (defArgs st) (defBody st) (defScope st) [] [] f fd
def HasDef (K : PySem.W.Frag) (mg : Str → Option Value) (x : Str) (st : Stmt) : Prop := ∃ f fd, FnP K x st f fd ∧ mg x = some (.ref f)
section
variable {X : Cx} {k j : Nat} {f : Addr} {fd : FuncData} {ps : List Str} {x : Str} {p pos : Pos} {e : Expr} {es : List Expr} {fn : Fun} {ms : M (List Sl)}
/-- a call of a def, every parameter written -/
theorem c_ (G : FnG X.prog X.w X.K X.mg X.base k f fd ps (spF X.w X.K fn)) (hr : Room j X.A) (hk : k ≤ j) (hgd : X.A.guards = some []) (hm : X.mg x = some (.ref f)) (hkp : PySem.W.keepIn X.K (.ref f) = true) (hb : Binds X.K fd ps [])
    (ha : SA' X (e :: es) ms) (hg : Gl X x := by rfl) (hdb : (x == ("__debug__" : Str)) = false := by decide) (he : starEach (e :: es) X.env = (false, eval e X.env) :: starEach es X.env := by rfl) (hpl : (backTo pos (starEach es X.env)).any (·.1) = false := by rfl) :
    SE X (.Call (.Name x p) (e :: es) [] pos) (callM fn [] ms) := se_call G (hr.mono hk) hgd hg hm hkp hb .nil (fun _ => .nil) ha hdb he hpl
end
/-- a def that gives nothing keeps any promise -/
theorem FnG.none {P : Program} {w : World} {K : PySem.W.Frag} {mg : Str → Option Value} {base : Heap} {k : Nat} {f : Addr} {fd : FuncData} {ps : List Str} : FnG P w K mg base k f fd ps (spF w K fun _ _ => Option.none) :=
  ⟨fun vs H Q h => (by obtain ⟨_, _, _, _, _, _, _, _, _, _, h, _⟩ := h; cases h), fun A out s H args us vs Q h1 h2 h3 h4 h5 h => (by obtain ⟨_, _, _, _, _, _, _, _, _, _, h, _⟩ := h; cases h)⟩
/-- the keywords' values, one behind the other -/
structure SK (X : Cx) (kws : List Keyword) (m : M (List Sl)) : Prop where
  pk : PK X kws (tA X.w X.K m)
theorem pk_imp {X : Cx} {kws : List Keyword} {t t' : TA} (h : PK X kws t) (i : ∀ σ H Q, t' σ H Q → t σ H Q) : PK X kws t' := ⟨fun pos pins s σ H Q I hw => h.run pos pins s σ H Q I (i _ _ _ hw)⟩
theorem sk_nil {X : Cx} : SK X [] (pure []) := ⟨pk_imp pk_nil fun _ _ _ h => tA_nil h⟩
theorem sk_cons {X : Cx} {e : Expr} {m : M Rv} {kws : List Keyword} {ms : M (List Sl)} {nm : Option Str} {kp : Pos} (h : SE X e m) (hr : SK X kws ms) : SK X (⟨nm, e, kp⟩ :: kws) (consA m ms) := ⟨pk_imp (pk_cons h hr.pk) fun _ _ _ h => tA_cons h⟩
def callK (f : Fun) (ms mk : M (List Sl)) : M Rv := do
  let as ← ms
  let bs ← mk
  fun c => match f (as ++ bs) c.2 with
    | some (r, s) => some (r, (c.1, s))
    | none => none
theorem callK_inv {f : Fun} {ms mk : M (List Sl)} {c c' : Cf} {r : Rv} (h : callK f ms mk c = some (r, c')) : ∃ as c1 bs c2, ms c = some (as, c1) ∧ mk c1 = some (bs, c2) ∧ f (as ++ bs) c2.2 = some (r, c'.2) ∧ c'.1 = c2.1 := by
  obtain ⟨as, c1, h1, h2⟩ := bindM h
  obtain ⟨bs, c2, h3, h4⟩ := bindM h2
  refine ⟨as, c1, bs, c2, h1, h3, ?_⟩
  cases e : f (as ++ bs) c2.2 with
  | none => rw [e] at h4; cases h4
  | some p =>
    obtain ⟨r1, s1⟩ := p
    rw [e] at h4
    cases h4
    exact ⟨rfl, rfl⟩
theorem ArgsOk.step {w : World} {K : PySem.W.Frag} {F H F' H' : Hp} {sa sa' : SA} {σ : L2.St} {env env' : Env} {vs : List V} {as : List Sl} (p : Step σ F H sa env F' H' sa' env') (h : ArgsOk w K F sa vs as) : ArgsOk w K F' sa' vs as := by
  induction h with
  | nil => exact .nil
  | cons h _ ih => exact .cons (h.step p) ih
section
variable {X : Cx} {k j n : Nat} {f : Addr} {fd : FuncData} {ps ks : List Str} {x : Str} {p pos : Pos} {e : Expr} {es : List Expr} {kws : List Keyword} {fn : Fun} {ms mk : M (List Sl)}
theorem tK_of {w : World} {K : PySem.W.Frag} {σ : L2.St} {H : Hp} {Q : VK} (h : tE w K (callK fn ms mk) σ H Q) : tA w K ms σ H fun vs H1 => tA w K mk σ H1 fun zs H2 => spF w K fn (vs ++ zs) H2 Q := by
  obtain ⟨g, F, sa, env, ds, rv, env', ds', e, hm, q⟩ := h
  obtain ⟨as, ⟨e1, d1⟩, bs, ⟨e2, d2⟩, h1, h2, h3, h4⟩ := callK_inv hm
  have h4 : env' = e2 := h4
  subst h4
  refine ⟨g, F, sa, env, ds, as, e1, d1, e, h1, fun F1 H1 sa1 vs eo s hv => ?_⟩
  refine ⟨g, F1, sa1, e1, d1, bs, _, d2, eo, h2, fun F2 H2 sa2 zs eo2 s2 hz => ?_⟩
  refine ⟨F2, sa2, as ++ bs, d2, rv, ds', eo2.sub, (hv.step s2).append hz, eo2.st, eo2.saF, h3, fun F3 H3 sa3 v o st r => ?_⟩
  obtain ⟨r1, r2⟩ := r.rv eo2
  refine q F3 H3 sa3 v (eo2.after o st) ((s.trans s2).trans (o.step eo2.st st)) r1 ?_
  cases rv with
  | d x => trivial
  | ow i => trivial
  | st => trivial
  | fl xs => exact fun q z => (s.trans s2).dom q (r2 q z)
  | fd xs => exact fun q z => (s.trans s2).dom q (r2 q z)
/-- f(e, .., k = v, ..), the keywords in the parameters' order -/
theorem ck_ (G : FnG X.prog X.w X.K X.mg X.base k f fd ps (spF X.w X.K fn)) (hr : Room j X.A) (hk : k ≤ j) (hgd : X.A.guards = some []) (hm : X.mg x = some (.ref f)) (hkp : PySem.W.keepIn X.K (.ref f) = true)
    (hb : ∀ (s : Shared) (us ws : List Value), us.length + ks.length = ps.length → ws.length = ks.length → BindsTo s fd ⟨us, ks.zip ws⟩ (ps.zip (us ++ ws))) (hn : n + ks.length = ps.length) (hes : (e :: es).length = n)
    (ha : SA' X (e :: es) ms) (hkw : SK X kws mk) (hlen : ∀ c as c', ms c = some (as, c') → as.length = n) (hlk : ∀ c bs c', mk c = some (bs, c') → bs.length = ks.length) (hall : (backToKw pos (keywordEach kws X.env)).all (·.1.isSome) = true := by rfl) (hks : (backToKw pos (keywordEach kws X.env)).filterMap (·.1) = ks := by rfl)
    (hg : Gl X x := by rfl) (hdb : (x == ("__debug__" : Str)) = false := by decide) (he : starEach (e :: es) X.env = (false, eval e X.env) :: starEach es X.env := by rfl)
    (hpl : ((backTo pos (starEach (e :: es) X.env)).any (·.1) || (backToKw pos (keywordEach kws X.env)).any (·.1.isNone)) = false := by rfl) :
    SE X (.Call (.Name x p) (e :: es) kws pos) (callK fn ms mk) := ⟨fun pins s σ H Q I h => by
  refine wpAny_Call_Name_kw (ld_glob I hg hm ?_ hdb)
  obtain ⟨g, F, sa, env, ds, as, env', ds', e0, hm1, k1⟩ := tK_of h
  refine PySem.W.callWith_KW (h₀ := X.base) I.ok.mod.kin hkp hall (thn (ha.run pos pins s σ H (fun vs H1 => vs.length = n ∧ tA X.w X.K mk σ H1 fun zs H2 => zs.length = ks.length ∧ spF X.w X.K fn (vs ++ zs) H2 Q) I ⟨g, F, sa, env, ds, as, env', ds', e0, hm1, fun F' H' sa' vs eo s hv => ⟨by rw [hv.len]; exact hlen _ _ _ hm1, ?_⟩⟩) fun us s1 hx => ?_) hpl he
  · obtain ⟨g2, F2, sa2, env2, ds2, as2, env2', ds2', e2, hm2, k2⟩ := k1 F' H' sa' vs eo s hv
    exact ⟨g2, F2, sa2, env2, ds2, as2, env2', ds2', e2, hm2, fun F3 H3 sa3 zs eo3 s3 hz => ⟨by rw [hz.len]; exact hlk _ _ _ hm2, k2 F3 H3 sa3 zs eo3 s3 hz⟩⟩
  · obtain ⟨vs, H1, I1, r, lv, q⟩ := hx
    refine thn (hkw.pk.run pos pins s1 σ H1 _ I1 q) fun ws s2 hy => ⟨?_, ?_⟩
    · obtain ⟨zs, H2, I2, rz, lz, q2⟩ := hy
      exact I2.kIn
    · obtain ⟨zs, H2, I2, rz, lz, q2⟩ := hy
      rw [hks]
      have lu : us.length = n := r.length.symm.trans lv
      have lw : ws.length = ks.length := rz.length.symm.trans lz
      exact of_run (run_g G (hr.mono hk) hgd I2 (hb s2 us ws (by rw [lu]; exact hn) lw) (r.append rz) q2)⟩
/-- f(k = v, ..) -/
theorem ck0_ (G : FnG X.prog X.w X.K X.mg X.base k f fd ps (spF X.w X.K fn)) (hr : Room j X.A) (hk : k ≤ j) (hgd : X.A.guards = some []) (hm : X.mg x = some (.ref f)) (hkp : PySem.W.keepIn X.K (.ref f) = true)
    (hb : ∀ (s : Shared) (us ws : List Value), us.length + ks.length = ps.length → ws.length = ks.length → BindsTo s fd ⟨us, ks.zip ws⟩ (ps.zip (us ++ ws))) (hn : ks.length = ps.length)
    (hkw : SK X kws mk) (hlk : ∀ c bs c', mk c = some (bs, c') → bs.length = ks.length) (hall : (backToKw pos (keywordEach kws X.env)).all (·.1.isSome) = true := by rfl) (hks : (backToKw pos (keywordEach kws X.env)).filterMap (·.1) = ks := by rfl)
    (hg : Gl X x := by rfl) (hdb : (x == ("__debug__" : Str)) = false := by decide)
    (hpl : ((backTo pos (starEach [] X.env)).any (·.1) || (backToKw pos (keywordEach kws X.env)).any (·.1.isNone)) = false := by rfl) :
    SE X (.Call (.Name x p) [] kws pos) (callK fn (pure []) mk) := ⟨fun pins s σ H Q I h => by
  refine wpAny_Call_Name_kw (ld_glob I hg hm ?_ hdb)
  have h2 := tA_nil (tK_of h)
  obtain ⟨g2, F2, sa2, env2, ds2, as2, env2', ds2', e2, hm2, k2⟩ := h2
  refine PySem.W.callWith_KW0 (h₀ := X.base) I.ok.mod.kin hkp hall (thn (hkw.pk.run pos pins s σ H (fun zs H2 => zs.length = ks.length ∧ spF X.w X.K fn ([] ++ zs) H2 Q) I ⟨g2, F2, sa2, env2, ds2, as2, env2', ds2', e2, hm2, fun F3 H3 sa3 zs eo3 s3 hz => ⟨by rw [hz.len]; exact hlk _ _ _ hm2, k2 F3 H3 sa3 zs eo3 s3 hz⟩⟩) fun ws s2 hy => ⟨?_, ?_⟩) hpl
  · obtain ⟨zs, H3, I2, rz, lz, q2⟩ := hy
    exact I2.kIn
  · obtain ⟨zs, H3, I2, rz, lz, q2⟩ := hy
    rw [hks]
    have lw : ws.length = ks.length := rz.length.symm.trans lz
    exact of_run (run_g G (hr.mono hk) hgd I2 (hb s2 [] ws (by simpa using hn) lw) ((show Vals [] [] from .nil).append rz) q2)⟩
end
end Fw
end TFwX
section TFwY
namespace Fw
open PySem PySem.Spec PyProof.Rows L2
mutual
def datB (K : PySem.W.Frag) : D → Value → Bool
  | .none, .none => true
  | .bool b, .bool c => b == c
  | .int i, .int j _ => decide (i = j)
  | .str x, .str y _ => decide (x = y)
  | .tuple ds, .ref a => match K.lookup a with
    | some ⟨.type t, none, .seq its _, _⟩ => t == "tuple" && decide (its.size ≤ sizeLine) && datsB K ds its.toList
    | _ => false
  | _, _ => false
def datsB (K : PySem.W.Frag) : List D → List Value → Bool
  | [], [] => true
  | d :: ds, u :: us => datB K d u && datsB K ds us
  | _, _ => false
end
section
variable {w : World} {K : PySem.W.Frag}
mutual
theorem datB_ok : ∀ (d : D) (u : Value), datB K d u = true → ∃ v, RelV v u ∧ ∀ F, Rp w K F v d
  | .none, u, h => by cases u <;> first | exact ⟨.non, rfl, fun _ => .non⟩ | cases h
  | .bool b, u, h => by
    cases u <;> first | cases h | skip
    rename_i c
    have e : b = c := by simpa [datB] using h
    subst e
    exact ⟨.bl b, rfl, fun _ => .bl b⟩
  | .int i, u, h => by
    cases u <;> first | cases h | skip
    rename_i j t
    have e : i = j := of_decide_eq_true h
    subst e
    exact ⟨.int i, ⟨t, rfl⟩, fun _ => .int i⟩
  | .str x, u, h => by
    cases u <;> first | cases h | skip
    rename_i y t
    have e : x = y := of_decide_eq_true h
    subst e
    exact ⟨.str x, ⟨t, rfl⟩, fun _ => .str x⟩
  | .tuple ds, u, h => by
    cases u <;> first | cases h | skip
    rename_i a
    unfold datB at h
    split at h
    · rename_i t its n sl hk
      obtain ⟨h1, h2⟩ := and2 h
      obtain ⟨h3, h4⟩ := and2 h1
      have h3 : t = "tuple" := by simpa using h3
      subst h3
      obtain ⟨vs, hv, hr⟩ := datsB_ok ds its.toList h2
      exact ⟨.ref a, rfl, fun F => .tup (.inr ⟨_, its, n, hk, rfl, rfl, rfl, of_decide_eq_true h4, hv⟩) (hr F)⟩
    · cases h
  | .list _, u, h => by cases u <;> cases h
  | .dict _, u, h => by cases u <;> cases h
theorem datsB_ok : ∀ (ds : List D) (us : List Value), datsB K ds us = true → ∃ vs, Vals vs us ∧ ∀ F, RpA w K F vs ds
  | [], [], _ => ⟨[], .nil, fun _ => .nil⟩
  | [], _ :: _, h => by cases h
  | _ :: _, [], h => by cases h
  | d :: ds, u :: us, h => by
    obtain ⟨h1, h2⟩ := and2 (show (datB K d u && datsB K ds us) = true from h)
    obtain ⟨v, a1, a2⟩ := datB_ok d u h1
    obtain ⟨vs, b1, b2⟩ := datsB_ok ds us h2
    exact ⟨v :: vs, .cons a1 b1, fun F => .cons (a2 F) (b2 F)⟩
end
end
def glbB (K : PySem.W.Frag) (c : Str × D) : Bool := match PySem.W.nsIn K mainGlobals c.1 with
  | some (some u) => datB K c.2 u
  | _ => false
theorem glbB_ok {w : World} {K : PySem.W.Frag} {h : Heap} {mg : Str → Option Value} {c : Str × D} (X : K.In h) (G : h.Ns mainGlobals mg) (e : glbB K c = true) : Glb w K mg c.1 c.2 := by
  unfold glbB at e
  split at e
  · rename_i u hu
    obtain ⟨v, h1, h2⟩ := datB_ok (w := w) c.2 u e
    exact ⟨v, u, PySem.W.mg_of X G hu, h1, h2⟩
  · cases e
def obsF (fa : List He.Fa) (fn : List He.DefD) (cs : List (Str × D)) (K : PySem.W.Frag) : He.AlD := ((He.obsD fa fn K).1 && cs.all (glbB K), (He.obsD fa fn K).2)
def SaysF (fa : List He.Fa) (fn : List He.DefD) (cs : List (Str × D)) (K : PySem.W.Frag) : Prop := obsF fa fn cs K = He.valD fn
def obsFG (n : Nat) (fa : List He.Fa) (fn : List He.DefD) (cs : List (Str × D)) (g : Addr → Option Obj) : He.AlD := obsF fa fn cs (He.frG g (He.asD g n))
def hookF (n : Nat) (fa : List He.Fa) (fn : List He.DefD) (cs : List (Str × D)) : PySem.W.Hook where
  α := He.AlD
  obs := fun s => obsFG n fa fn cs s.heap.get?
  val := fun _ => He.valD fn
  says := fun _ h => ∃ K : PySem.W.Frag, K.In h ∧ SaysF fa fn cs K
  of := fun _ _ e => ⟨_, He.frG_in, e⟩
  keeps := fun _ _ _ ⟨K, hK, c⟩ k => ⟨K, PySem.W.Frag.In.keeps hK k, c⟩
theorem obsFG_eq {n : Nat} {fa : List He.Fa} {fn : List He.DefD} {cs : List (Str × D)} {g : Addr → Option Obj} {s : Shared} (h : ∀ a, g a = s.heap.get? a) : obsFG n fa fn cs g = (hookF n fa fn cs).obs s := by
  have e : g = s.heap.get? := funext h
  rw [e]
  rfl
section
variable {fa : List He.Fa} {fn : List He.DefD} {cs : List (Str × D)} {K : PySem.W.Frag}
theorem SaysF.d (c : SaysF fa fn cs K) : He.SaysD fa fn K := by
  have h1 := (and2 (show ((He.obsD fa fn K).1 && cs.all (glbB K)) = true from congrArg (fun z : He.AlD => z.1) c)).1
  have h2 : (obsF fa fn cs K).2 = (He.valD fn).2 := congrArg (fun z : He.AlD => z.2) (show obsF fa fn cs K = He.valD fn from c)
  exact Prod.ext h1 h2
theorem SaysF.glb {w : World} {h : Heap} {mg : Str → Option Value} (c : SaysF fa fn cs K) (X : K.In h) (G : h.Ns mainGlobals mg) (i : Nat) {q : Str × D} (e : cs[i]? = some q := by rfl) : Glb w K mg q.1 q.2 := by
  have h1 := (and2 (show ((He.obsD fa fn K).1 && cs.all (glbB K)) = true from congrArg (fun z : He.AlD => z.1) c)).2
  exact glbB_ok X G (List.all_eq_true.mp h1 q (List.mem_of_getElem? e))
/-- a def without defaults stands where its name is -/
theorem SaysF.def_ {h : Heap} {mg : Str → Option Value} {x : Str} {st : Stmt} (c : SaysF fa fn cs K) (X : K.In h) (G : h.Ns mainGlobals mg) (i j : Nat) (e : fn[i]? = some ⟨(x, none), x, x, defArgs st, defBody st, defScope st, [], []⟩ := by rfl) (e2 : fa[j]? = some (.glo x) := by rfl) : HasDef K mg x st := by
  obtain ⟨fd, F⟩ := c.d.def_ i e
  exact ⟨_, fd, F, He.glo_ok X G (c.d.fact j e2)⟩
theorem SaysF.free {h : Heap} {mg : Str → Option Value} {x : Str} (c : SaysF fa fn cs K) (X : K.In h) (G : h.Ns mainGlobals mg) (j : Nat) (e2 : fa[j]? = some (.free x) := by rfl) : mg x = none := He.free_ok X G (c.d.fact j e2)
end
end Fw
end TFwY
section TFwZ
namespace Fw
open PySem PySem.Spec PyProof.Rows L2
theorem rgV_rp {w : World} {K : PySem.W.Frag} {F : Hp} (a b : Int) : RpA w K F (rgV a b) (rangeD a b) := by
  unfold rgV rangeD
  generalize List.range (b - a).toNat = l
  induction l with
  | nil => exact .nil
  | cons x xs ih => exact .cons (.int _) ih
def lrngM (m : M Rv) : M Rv := do
  match ← vM m with
  | .d (.int n) => if decide (-(2 ^ 62) ≤ n) && decide (n ≤ 16777216) then pure (.fl (rangeD 0 n)) else stuck
  | _ => stuck
def trngM (m : M Rv) : M Rv := do
  match ← vM m with
  | .d (.int n) => if decide (-(2 ^ 62) ≤ n) && decide (n ≤ 16777216) then pure (.d (.tuple (rangeD 0 n))) else stuck
  | _ => stuck
section
variable {X : Cx} {a : Expr} {m : M Rv} {p p2 pos pos2 : Pos}
theorem lrng_ (hc : X.calm = true) (hl : X.mg "list" = none) (hn : X.mg "range" = none) (h : SE X a m) (hg : Gl X "list" := by rfl) (hg2 : Gl X "range" := by rfl) (na : starEach [a] X.env = (false, eval a X.env) :: starEach [] X.env := by rfl)
    (nb : starEach [.Call (.Name "range" p2) [a] [] pos2] X.env = (false, eval (.Call (.Name "range" p2) [a] [] pos2) X.env) :: starEach [] X.env := by rfl) : SE X (.Call (.Name "list" p) [.Call (.Name "range" p2) [a] [] pos2] [] pos) (lrngM m) :=
  pe_imp (pe_listRg hc hg hl (prg_1 hg2 hn h na) nb) fun σ H Q h => by
    obtain ⟨g, F, sa, env, ds, rv, env', ds', e, hm, q⟩ := h
    obtain ⟨r, ⟨e1, d1⟩, h1, hm1⟩ := bindM hm
    refine vM_ok (tE_at e Step.refl h1 fun F1 H1 sa1 v eo s _ hv _ => ?_)
    cases r with
    | d x =>
      cases x with
      | int n =>
        obtain ⟨h2, h3⟩ := iteM hm1
        obtain ⟨h4, h5⟩ := pureM h3
        subst h4
        obtain ⟨rfl, rfl⟩ := Prod.mk.inj h5
        have hv : Rp X.w X.K F1 v (.int n) := hv
        cases hv
        obtain ⟨c1, c2⟩ := and2 h2
        have c1 := of_decide_eq_true c1
        have c2 := of_decide_eq_true c2
        refine ⟨n, rfl, ⟨by omega, by omega, c1, by omega, by omega⟩, fun q' hp => ?_⟩
        obtain ⟨e2, s2, v2, n2⟩ := new_lst eo s hp (rgV_rp 0 n)
        exact q _ _ sa1 _ e2 s2 v2 n2
      | _ => cases hm1
    | _ => cases hm1
theorem pe_tupRgD {te : L2.St → Hp → (Int → Int → Hp → Prop) → Prop} {e : Expr} (hc : X.calm = true) (hg : Gl X "tuple") (hm : X.mg "tuple" = none) (he : PRg X e te) (na : starEach [e] X.env = (false, eval e X.env) :: starEach [] X.env) :
    PE X (.Call (.Name "tuple" p) [e] [] pos) (fun σ H Q => te σ H fun a b H1 => RgOk a b ∧ ∀ q (o : Obj), o.dict = none → H1 q = none → Q (.ref q) (upd H1 q (.frz o (.tup (rgV a b))))) := ⟨fun pins s σ H Q I h => by
  refine Call_ (ld_blt I hg hm boot_tuple (PyProof.Rows.callWith_type1 (args_cons (thn (he pins s σ H _ I h) fun x s1 hx => ?_) na) na))
  obtain ⟨r, a, b, t, u, v, H1, rfl, hr, I1, ok, q⟩ := hx
  refine args_nil ?_
  obtain ⟨b1, b2, b3, b4, b5⟩ := ok
  refine call_tuple_range (n := (b - a).toNat) (I1.ok.hd hc) hr (small_one b1 b2 b3 b4) (rangeSize_nat a b) b5 fun h' tk acc hk hi => ?_
  have I2 : Inv X pins σ H1 { s1 with heap := h', toks := tk } := I1.kept hk
  have hp : H1 h'.objs.size = none := I2.hok.fresh (Nat.le_refl _)
  refine ⟨.ref h'.objs.size, _, I2.laid (t' := tk) (o := .frz _ (.tup (rgV a b))) (fun c o e => Heap.get?_push_of_some _ e) (Nat.le_refl _) ?_, rfl, q _ { cls := .type "tuple", data := .seq acc } rfl hp⟩
  refine ⟨Heap.get?_push_size _ rfl, by rw [rgV_length, sizeLine_eq]; omega, acc.toList, vals_rg hi, ?_⟩
  rw [Array.toArray_toList]
  exact IsTup.new _ _⟩
theorem trng_ (hc : X.calm = true) (hl : X.mg "tuple" = none) (hn : X.mg "range" = none) (h : SE X a m) (hg : Gl X "tuple" := by rfl) (hg2 : Gl X "range" := by rfl) (na : starEach [a] X.env = (false, eval a X.env) :: starEach [] X.env := by rfl)
    (nb : starEach [.Call (.Name "range" p2) [a] [] pos2] X.env = (false, eval (.Call (.Name "range" p2) [a] [] pos2) X.env) :: starEach [] X.env := by rfl) : SE X (.Call (.Name "tuple" p) [.Call (.Name "range" p2) [a] [] pos2] [] pos) (trngM m) :=
  pe_imp (pe_tupRgD hc hg hl (prg_1 hg2 hn h na) nb) fun σ H Q h => by
    obtain ⟨g, F, sa, env, ds, rv, env', ds', e, hm, q⟩ := h
    obtain ⟨r, ⟨e1, d1⟩, h1, hm1⟩ := bindM hm
    refine vM_ok (tE_at e Step.refl h1 fun F1 H1 sa1 v eo s _ hv _ => ?_)
    cases r with
    | d x =>
      cases x with
      | int n =>
        obtain ⟨h2, h3⟩ := iteM hm1
        obtain ⟨h4, h5⟩ := pureM h3
        subst h4
        obtain ⟨rfl, rfl⟩ := Prod.mk.inj h5
        have hv : Rp X.w X.K F1 v (.int n) := hv
        cases hv
        obtain ⟨c1, c2⟩ := and2 h2
        have c1 := of_decide_eq_true c1
        have c2 := of_decide_eq_true c2
        refine ⟨n, rfl, ⟨by omega, by omega, c1, by omega, by omega⟩, fun q' o ho hp => ?_⟩
        obtain ⟨e2, s2, v2⟩ := new_tup ho eo s hp (rgV_rp 0 n)
        exact q _ _ sa1 _ e2 s2 v2 trivial
      | _ => cases hm1
    | _ => cases hm1
end
end Fw
end TFwZ
section TFwZa
namespace Fw
open PySem PySem.Spec PyProof.Rows L2
def itQ (m : M Rv) : M (List D) := do
  let d ← dM m
  match seqLT d with
  | some xs => pure xs
  | none => stuck
theorem r70 {k : Nat} {A : Around} (r : Room k A) : A.units + 70 < cLine := by have := r.un; omega
section
variable {X : Cx} {tg e : Expr} {m : M Rv}
theorem si_seq {pr : Bool} (h : SE X e m) : SI X tg e pr (itQ m) := pi_imp (pi_or (pi_list h) (pi_tup h)) fun σ H R h => by
  obtain ⟨g, F, sa, env, ds, xs, env', ds', e, hm, q⟩ := h
  obtain ⟨d, ⟨e1, d1⟩, h1, hm1⟩ := bindM hm
  cases d with
  | list ys =>
    obtain ⟨h2, h3⟩ := pureM hm1
    subst h2
    obtain ⟨rfl, rfl⟩ := Prod.mk.inj h3
    refine .inl (dM_ok ⟨g, F, sa, env, ds, _, e1, d1, e, h1, fun F1 H1 sa1 v eo s hv => ?_⟩)
    obtain ⟨a, rfl⟩ : ∃ a, v = .ref a := by cases hv; exact ⟨_, rfl⟩
    refine ⟨a, rfl, ?_, q F1 H1 sa1 _ eo s (walk_list hv)⟩
    cases hv with
    | lst hs hr => exact ⟨_, (lr_mono eo.sub hs).sql⟩
  | tuple ys =>
    obtain ⟨h2, h3⟩ := pureM hm1
    subst h2
    obtain ⟨rfl, rfl⟩ := Prod.mk.inj h3
    refine .inr (dM_ok ⟨g, F, sa, env, ds, _, e1, d1, e, h1, fun F1 H1 sa1 v eo s hv => ?_⟩)
    obtain ⟨a, rfl⟩ : ∃ a, v = .ref a := by cases hv; exact ⟨_, rfl⟩
    refine ⟨a, rfl, ?_, q F1 H1 sa1 _ eo s (walk_tup hv)⟩
    cases hv with
    | tup hs hr => exact ⟨_, (tr_mono eo.sub hs).sq⟩
  | none => cases hm1
  | bool _ => cases hm1
  | int _ => cases hm1
  | str _ => cases hm1
  | dict _ => cases hm1
end
/-- how many arguments come -/
def LenA (m : M (List Sl)) (n : Nat) : Prop := ∀ c as c', m c = some (as, c') → as.length = n
theorem lenA_nil : LenA (pure []) 0 := fun c as c' h => by
  obtain ⟨h1, _⟩ := pureM h
  subst h1
  rfl
theorem lenA_cons {m : M Rv} {ms : M (List Sl)} {n : Nat} (h : LenA ms n) : LenA (consA m ms) (n + 1) := fun c as c' hm => by
  obtain ⟨d, c1, _, hm1⟩ := bindM hm
  obtain ⟨ds, c2, h2, hm2⟩ := bindM hm1
  obtain ⟨h3, _⟩ := pureM hm2
  subst h3
  exact congrArg (· + 1) (h _ _ _ h2)
theorem kb_ {K : PySem.W.Frag} {x qual : Str} {params : Arguments} {body : List Stmt} {scope : Scope} {kws : List (Str × V)} {f : Addr} {fd : FuncData} {ps ks : List Str} (F : FunD K x qual params body scope [] kws f fd)
    (h : ∀ (kV doc pm : Value) (an : Option Addr) (cdv ct : Value) (us ws : List Value), us.length + ks.length = ps.length → ws.length = ks.length → bindArgs (PySem.W.fnOf x qual params body scope .none kV doc pm an cdv ct) ⟨us, ks.zip ws⟩ = pure (ps.zip (us ++ ws))) (s : Shared) (us ws : List Value) (h1 : us.length + ks.length = ps.length) (h2 : ws.length = ks.length) : BindsTo s fd ⟨us, ks.zip ws⟩ (ps.zip (us ++ ws)) := by
  obtain ⟨oc, od, dV, kV, doc, pm, an, cdv, ct, osl, rfl, lk, hcd, hD, hK⟩ := F.ex
  rcases hD with ⟨_, rfl⟩ | ⟨e, _⟩
  · exact .of_eq (h kV doc pm an cdv ct us ws h1 h2)
  · exact absurd rfl e
end Fw
end TFwZa
section TFwZb
namespace Fw
open PySem PySem.Spec PyProof.Rows L2
section
variable {α β : Type} {c c1 c2 c3 : Cf} {x y r r' : Rv} {u v d : D} {ma mb m : M Rv} {k : Bool} {o : Oc} {a b : M Oc}
theorem bind_r {m : M α} {f : α → M β} {z : α} {w : Option (β × Cf)} (h : m c = some (z, c1)) (h2 : f z c1 = w) : (m >>= f) c = w := by
  show (match m c with | some (a, c') => f a c' | none => none) = w
  rw [h]; exact h2
theorem vM_r (h : m c = some (r, c1)) : vM m c = some (settle r, c1) := bind_r h rfl
theorem dM_r {s : Sl} (h : m c = some (r, c1)) (h2 : freeze r c1 = some (.d d, c2)) : dM m c = some (d, c2) := bind_r h (bind_r h2 rfl)
theorem sM_r {s : Sl} (h : m c = some (r, c1)) (h2 : freeze r c1 = some (s, c2)) : sM m c = some (s, c2) := bind_r h h2
theorem peekM_r (h : peek c.1 r = some d) : peekM r c = some (d, c) := by
  unfold peekM; rw [h]
theorem lift_r {z : Option α} {w : α} (h : z = some w) : lift z c = some (w, c) := by
  unfold lift; rw [h]
theorem bin2_r {f : D → D → Option Rv} (h1 : ma c = some (x, c1)) (h2 : mb c1 = some (y, c2)) (h3 : peek c2.1 (settle x) = some u) (h4 : peek c2.1 (settle y) = some v) (h5 : f u v = some r) : bin2 ma mb f c = some (r, c2) :=
  bind_r (vM_r h1) (bind_r (vM_r h2) (bind_r (peekM_r h3) (bind_r (peekM_r h4) (lift_r h5))))
theorem cmp2_r {f : COp} (h1 : ma c = some (x, c1)) (h2 : mb c1 = some (y, c2)) (h3 : peek c2.1 (settle x) = some u) (h4 : peek c2.1 (settle y) = some v) (h5 : cmpD f u v = some k) : cmp2 ma mb f c = some (.d (.bool k), c2) :=
  bind_r (vM_r h1) (bind_r (vM_r h2) (bind_r (peekM_r h3) (bind_r (peekM_r h4) (bind_r (lift_r h5) rfl))))
theorem isi_r {ts : List Ty} (h : m c = some (r, c1)) (h2 : peek c1.1 (settle r) = some d) (h3 : (ts.any fun t => isTy t d) = k) : isiM ts m c = some (.d (.bool k), c1) :=
  bind_r (vM_r h) (bind_r (peekM_r h2) (by rw [h3]; rfl))
theorem bi1_r {f : List D → Option Rv} (h1 : m c = some (x, c1)) (h2 : peek c1.1 (settle x) = some d) (h3 : f [d] = some r) : biM f (consP m (pure [])) c = some (r, c1) := by
  have e : peekAll c1.1 [settle x] = some [d] := by unfold peekAll; rw [h2]; rfl
  exact bind_r (bind_r (vM_r h1) (bind_r rfl rfl)) (bind_r rfl (bind_r (lift_r e) (lift_r h3)))
theorem bi2_r {f : List D → Option Rv} (h1 : ma c = some (x, c1)) (h2 : mb c1 = some (y, c2)) (h3 : peek c2.1 (settle x) = some u) (h4 : peek c2.1 (settle y) = some v) (h5 : f [u, v] = some r) : biM f (consP ma (consP mb (pure []))) c = some (r, c2) := by
  have e : peekAll c2.1 [settle x, settle y] = some [u, v] := by unfold peekAll; rw [h3]; unfold peekAll; rw [h4]; rfl
  exact bind_r (bind_r (vM_r h1) (bind_r (bind_r (vM_r h2) (bind_r rfl rfl)) rfl)) (bind_r rfl (bind_r (lift_r e) (lift_r h5)))
theorem set_r {i : Nat} (h : m c = some (r, c1)) (h2 : storeM i r c1 = some ((), c2)) : setM i m c = some (.nx, c2) := bind_r h (bind_r h2 rfl)
theorem setX_r {i : Nat} {mk me : M Rv} (h : dM me c = some (d, c1)) (h1 : ckO i c1 = some ((), c1)) (h2 : dM mk c1 = some (u, c2)) (h3 : setItemM i u d c2 = some ((), c3)) : setXM i mk me c = some (.nx, c3) := bind_r h (bind_r h1 (bind_r h2 (bind_r h3 rfl)))
theorem seq_r {w : Option (Oc × Cf)} (h : a c = some (.nx, c1)) (h2 : b c1 = w) : seqM a b c = w := bind_r h h2
theorem seq_rt (h : a c = some (.rt r, c1)) : seqM a b c = some (.rt r, c1) := bind_r h rfl
theorem ex_r (h : m c = some (r, c1)) : exM m c = some (.nx, c1) := bind_r (vM_r h) rfl
theorem ret_r (h : m c = some (r, c1)) (h2 : retV r c1 = some (r', c2)) : retM m c = some (.rt r', c2) := bind_r h (bind_r h2 rfl)
theorem boolM_r {z : Option (α × Cf)} {f : Bool → M α} (h : m c = some (.d (.bool k), c1)) (h2 : f k c1 = z) : (do let k ← boolM (← m); f k) c = z := bind_r h (bind_r rfl h2)
theorem if_t {z : Option (Oc × Cf)} (h : m c = some (.d (.bool true), c1)) (h2 : a c1 = z) : ifM m a b c = z := bind_r h (bind_r rfl h2)
theorem if_f {z : Option (Oc × Cf)} (h : m c = some (.d (.bool false), c1)) (h2 : b c1 = z) : ifM m a b c = z := bind_r h (bind_r rfl h2)
theorem ite_t {z : Option (Rv × Cf)} (h : m c = some (.d (.bool true), c1)) (h2 : ma c1 = z) : iteB m ma mb c = z := bind_r h (bind_r rfl h2)
theorem ite_f {z : Option (Rv × Cf)} (h : m c = some (.d (.bool false), c1)) (h2 : mb c1 = z) : iteB m ma mb c = z := bind_r h (bind_r rfl h2)
theorem and_t {z : Option (Rv × Cf)} (h : ma c = some (.d (.bool true), c1)) (h2 : mb c1 = z) : andB ma mb c = z := bind_r h (bind_r rfl h2)
theorem and_f (h : ma c = some (.d (.bool false), c1)) : andB ma mb c = some (.d (.bool false), c1) := bind_r h (bind_r rfl rfl)
theorem or_f {z : Option (Rv × Cf)} (h : ma c = some (.d (.bool false), c1)) (h2 : mb c1 = z) : orB ma mb c = z := bind_r h (bind_r rfl h2)
theorem or_t (h : ma c = some (.d (.bool true), c1)) : orB ma mb c = some (.d (.bool true), c1) := bind_r h (bind_r rfl rfl)
theorem not_r (h : m c = some (.d (.bool k), c1)) : notB m c = some (.d (.bool (!k)), c1) := bind_r h (bind_r rfl rfl)
theorem chn3_r {mc : M Rv} {z : Rv} {w : D} {l : Bool} {f p : COp} (h1 : ma c = some (x, c1)) (h2 : mb c1 = some (y, c2)) (h3 : peek c2.1 (settle x) = some u) (h4 : peek c2.1 (settle y) = some v) (h5 : cmpD f u v = some true) (h6 : mc c2 = some (z, c3)) (h7 : peek c3.1 (settle y) = some v) (h8 : peek c3.1 (settle z) = some w)
    (h9 : cmpD p v w = some l) : chn3 ma mb mc f p c = some (.d (.bool l), c3) :=
  bind_r (vM_r h1) (bind_r (vM_r h2) (bind_r (peekM_r h3) (bind_r (peekM_r h4) (bind_r (lift_r h5) (bind_r (vM_r h6) (bind_r (peekM_r h7) (bind_r (peekM_r h8) (bind_r (lift_r h9) rfl))))))))
theorem chn3_f {mc : M Rv} {f p : COp} (h1 : ma c = some (x, c1)) (h2 : mb c1 = some (y, c2)) (h3 : peek c2.1 (settle x) = some u) (h4 : peek c2.1 (settle y) = some v) (h5 : cmpD f u v = some false) : chn3 ma mb mc f p c = some (.d (.bool false), c2) :=
  bind_r (vM_r h1) (bind_r (vM_r h2) (bind_r (peekM_r h3) (bind_r (peekM_r h4) (bind_r (lift_r h5) rfl))))
theorem consA_r {s : Sl} {ms : M (List Sl)} {ss : List Sl} (h : m c = some (r, c1)) (h2 : freeze r c1 = some (s, c2)) (h3 : ms c2 = some (ss, c3)) : consA m ms c = some (s :: ss, c3) := bind_r (sM_r h h2) (bind_r h3 rfl)
theorem consL_r {ms : M (List D)} {ss : List D} (h : m c = some (r, c1)) (h2 : freeze r c1 = some (.d d, c2)) (h3 : ms c2 = some (ss, c3)) : consL m ms c = some (d :: ss, c3) := bind_r (dM_r (s := .d d) h h2) (bind_r h3 rfl)
theorem call_r {f : Fun} {dfl : List D} {ms : M (List Sl)} {as : List Sl} {s : Option DS} (h : ms c = some (as, c1)) (h2 : f (as ++ dfl.map Sl.d) c1.2 = some (r, s)) : callM f dfl ms c = some (r, (c1.1, s)) := bind_r h (by
  show (match f (as ++ dfl.map Sl.d) c1.2 with | some (r, s) => some (r, (c1.1, s)) | none => none) = _
  rw [h2])
theorem lst_r {ms : M (List D)} {ds : List D} (h : ms c = some (ds, c1)) (h2 : ds.length ≤ line) : lstM ms c = some (.fl ds, c1) := bind_r h (by rw [if_pos h2]; rfl)
theorem tup_r {ms : M (List D)} {ds : List D} (h : ms c = some (ds, c1)) (h2 : ds.length ≤ line) : tupM ms c = some (.d (.tuple ds), c1) := bind_r h (by rw [if_pos h2]; rfl)
theorem itQ_r {xs : List D} (h : m c = some (r, c1)) (h2 : freeze r c1 = some (.d d, c2)) (h3 : seqLT d = some xs) : itQ m c = some (xs, c2) := bind_r (dM_r (s := .d d) h h2) (by rw [h3]; rfl)
theorem itZ_r {xs ys : List D} (h : dM ma c = some (u, c1)) (h2 : dM mb c1 = some (v, c2)) (h3 : seqLT u = some xs) (h4 : seqLT v = some ys) : itZ ma mb c = some (zipD xs ys, c2) := bind_r h (bind_r h2 (by rw [h3, h4]; rfl))
theorem itR_r {n : Int} (h : m c = some (.d (.int n), c1)) (h2 : bigI n = true) : itR m c = some (rangeD 0 n, c1) := bind_r (vM_r h) (by
  show (if bigI n then pure (rangeD 0 n) else stuck : M (List D)) c1 = _
  rw [if_pos h2]; rfl)
theorem slc_r {ml mh : M (Option Int)} {l h : Option Int} (h1 : ma c = some (x, c1)) (h2 : ml c1 = some (l, c2)) (h3 : mh c2 = some (h, c3)) (h4 : peek c3.1 (settle x) = some u) (h5 : sliceD u l h = some r) : slcM ma ml mh c = some (r, c3) :=
  bind_r (vM_r h1) (bind_r h2 (bind_r h3 (bind_r (peekM_r h4) (lift_r h5))))
theorem par2_r {i j : Nat} {s t : Sl} (h1 : keptM ma c = some (x, c1)) (h2 : keptM mb c1 = some (y, c2)) (hx : slOf x = some s) (hy : slOf y = some t) (h3 : setSl i s c2 = some ((), c3)) {c4 : Cf} (h4 : setSl j t c3 = some ((), c4)) : par2M i j ma mb c = some (.nx, c4) :=
  bind_r h1 (bind_r h2 (bind_r (show put1 i x c2 = some ((), c3) by unfold put1; rw [hx]; exact h3) (bind_r (show put1 j y c3 = some ((), c4) by unfold put1; rw [hy]; exact h4) rfl)))
theorem kept_r (h : m c = some (r, c1)) (h2 : keepM r c1 = some (r', c2)) : keptM m c = some (r', c2) := bind_r h h2
theorem stGet_r {i : Nat} {f : DS → Nat} {s : DS} {e : Env} (h : e[i]? = some (some .st)) : stGet i f (e, some s) = some (.d (.int (f s : Int)), (e, some s)) := by
  unfold stGet; simp only [h]
theorem stSet_r {i : Nat} {f : DS → Nat → DS} {n : Nat} {e : Env} {s : DS} (h : m c = some (.d (.int (n : Int)), (e, some s))) (h2 : e[i]? = some (some .st)) : stSet i f m c = some (.nx, (e, some (f s n))) := by
  refine bind_r (vM_r h) (bind_r (?_ : stPut i f (n : Int) (e, some s) = some ((), (e, some (f s n)))) rfl)
  unfold stPut
  simp only [h2]
  rw [if_pos (Int.natCast_nonneg n), Int.toNat_natCast]
theorem meL_r {f : List D → List D → Option (List D × D)} {i : Nat} {ms : M (List D)} {ds xs ys : List D} {e : Env} {s : Option DS} (h : ms c = some (ds, (e, s))) (h0 : c.1[i]? = some (some (.ol xs))) (h1 : e[i]? = some (some (.ol xs))) (h2 : f ds xs = some (ys, d)) : meL f (varV i) ms c = some (.d d, (e.set i (some (.ol ys)), s)) := by
  have e1 : varV i c = some (.ow i, c) := by unfold varV; simp only [h0]
  have e2 : ckL (settle (.ow i)) c = some ((), c) := by unfold ckL settle; simp only [h0]
  refine bind_r (vM_r e1) (bind_r e2 (bind_r h ?_))
  show updL (f ds) (.ow i) (e, s) = _
  unfold updL
  simp only [h1, h2]
theorem run_rt {np nl : Nat} {body : M Oc} {as : List Sl} {s s' : Option DS} {e : Env} (h0 : as.length = np) (h : body (as.map some ++ List.replicate (nl - np) none, s) = some (.rt r, (e, s'))) : runD np nl body as s = some (r, s') := by
  unfold runD; rw [if_pos h0, h]
theorem run_nx {np nl : Nat} {body : M Oc} {as : List Sl} {s s' : Option DS} {e : Env} (h0 : as.length = np) (h : body (as.map some ++ List.replicate (nl - np) none, s) = some (.nx, (e, s'))) : runD np nl body as s = some (.d .none, s') := by
  unfold runD; rw [if_pos h0, h]
theorem for_r {t : IT} {it : M (List D)} {b : M Oc} {xs : List D} {z : Option (Oc × Cf)} (h : it c = some (xs, c1)) (h2 : forM (fun x => do asgM t x; b) xs c1 = z) : forS t it b c = z := bind_r h h2
theorem forM_cons {body : D → M Oc} {x : D} {xs : List D} {z : Option (Oc × Cf)} (h : body x c = some (.nx, c1)) (h2 : forM body xs c1 = z) : forM body (x :: xs) c = z := bind_r h h2
theorem asg_r {t : IT} {d : D} {e : Env} (h : asgT t d c.1 = some e) : asgM t d c = some ((), (e, c.2)) := by unfold asgM; rw [h]
/-- a loop whose turns keep an invariant -/
theorem forM_inv {body : D → M Oc} (P : Nat → Cf → Prop) : ∀ (xs : List D) (n : Nat) (c : Cf), P n c → (∀ i x, xs[i]? = some x → ∀ c, P (n + i) c → ∃ c', body x c = some (.nx, c') ∧ P (n + i + 1) c') → ∃ c', forM body xs c = some (.nx, c') ∧ P (n + xs.length) c'
  | [], n, c, h, _ => ⟨c, rfl, h⟩
  | x :: xs, n, c, h, hs => by
    obtain ⟨c1, h1, h2⟩ := hs 0 x rfl c h
    obtain ⟨c2, h3, h4⟩ := forM_inv P xs (n + 1) c1 h2 fun i y hy c hp => by
      have := hs (i + 1) y hy c (by rw [show n + (i + 1) = n + 1 + i by omega]; exact hp)
      rw [show n + (i + 1) + 1 = n + 1 + i + 1 by omega] at this
      exact this
    exact ⟨c2, forM_cons h1 h3, by rw [show n + (x :: xs).length = n + 1 + xs.length by rw [List.length_cons]; omega]; exact h4⟩
theorem set_set_ne {l : Env} {v w : Nat} {a b : Option Sl} (h : v ≠ w) : (l.set v a).set w b = (l.set w b).set v a := List.set_comm _ _ h
theorem restore_set (e0 : Env) (v : Nat) (a k : Option Sl) : ∀ (vs : List Nat) (l : Env), (restoreE e0 vs (l.set v a)).set v k = (restoreE e0 vs l).set v k
  | [], l => List.set_set _
  | w :: vs, l => by
    show ((restoreE e0 vs (l.set v a)).set w (keepD e0 w)).set v k = ((restoreE e0 vs l).set w (keepD e0 w)).set v k
    by_cases h : w = v
    · subst h
      rw [List.set_set, List.set_set]
      exact restore_set e0 w a k vs l
    · rw [set_set_ne h, set_set_ne h, restore_set e0 v a k vs l]
theorem restore_wipe (e0 : Env) : ∀ (vs : List Nat) (l : Env), restoreE e0 vs (wipeE l vs) = restoreE e0 vs l
  | [], _ => rfl
  | v :: vs, l => by
    show (restoreE e0 vs ((wipeE l vs).set v none)).set v (keepD e0 v) = (restoreE e0 vs l).set v (keepD e0 v)
    rw [restore_set, restore_wipe e0 vs l]
theorem turns_r {body : D → M (Option D)} {g : D → Option D} {vs : List Nat} {E : Env} {s : Option DS} : ∀ (xs : List D) (e : Env), wipeE e vs = E → (∀ x ∈ xs, ∀ e, wipeE e vs = E → ∃ e', body x (e, s) = some (g x, (e', s)) ∧ wipeE e' vs = E) →
    ∃ e', turns body xs (e, s) = some (xs.filterMap g, (e', s)) ∧ wipeE e' vs = E
  | [], e, h, _ => ⟨e, rfl, h⟩
  | x :: xs, e, h, hb => by
    obtain ⟨e1, h1, h2⟩ := hb x (List.mem_cons_self ..) e h
    obtain ⟨e2, h3, h4⟩ := turns_r xs e1 h2 fun y hy => hb y (List.mem_cons_of_mem _ hy)
    refine ⟨e2, bind_r h1 (bind_r h3 ?_), h4⟩
    show some (_, _) = some (_, _)
    cases hg : g x with
    | none => rw [List.filterMap_cons_none hg]
    | some y => rw [List.filterMap_cons_some hg]
theorem turnM_r {vs : List Nat} {t : IT} {mc me : M Rv} {x : D} {g : Option D} {e e' : Env} {s : Option DS} {E : Env} (hE : wipeE e vs = E)
    (h : ∃ e1, asgT t x E = some e1 ∧ ((∃ e2, mc (e1, s) = some (.d (.bool true), (e2, s)) ∧ ∃ d, dM me (e2, s) = some (d, (e', s)) ∧ g = some d) ∨ (mc (e1, s) = some (.d (.bool false), (e', s)) ∧ g = none))) : turnM vs t mc me x (e, s) = some (g, (e', s)) := by
  obtain ⟨e1, h1, h⟩ := h
  have hf : fresh vs t x (e, s) = some ((), (e1, s)) := by unfold fresh; rw [show wipeE (e, s).1 vs = E from hE, h1]
  rcases h with ⟨e2, h2, d, h3, rfl⟩ | ⟨h2, rfl⟩
  · exact bind_r hf (bind_r h2 (bind_r rfl (bind_r h3 rfl)))
  · exact bind_r hf (bind_r h2 (bind_r rfl rfl))
/-- a comprehension over data that leaves all as it was -/
theorem lc_r {vs : List Nat} {t : IT} {mi : M (List D)} {mc me : M Rv} {xs : List D} {e : Env} {s : Option DS} (g : D → Option D) (h : mi c = some (xs, (e, s)))
    (hb : ∀ x ∈ xs, ∃ e1 e', asgT t x (wipeE e vs) = some e1 ∧ ((∃ e2, mc (e1, s) = some (.d (.bool true), (e2, s)) ∧ ∃ d, dM me (e2, s) = some (d, (e', s)) ∧ g x = some d) ∨ (mc (e1, s) = some (.d (.bool false), (e', s)) ∧ g x = none)) ∧ wipeE e' vs = wipeE e vs)
    (hl : (xs.filterMap g).length ≤ line) (hi : wipeE (wipeE e vs) vs = wipeE e vs := by rfl) (hr : restoreE e vs (wipeE e vs) = e := by rfl) : lcM vs t mi mc me c = some (.fl (xs.filterMap g), (e, s)) := by
  obtain ⟨e', h1, h2⟩ := turns_r (body := turnM vs t mc me) (g := g) (vs := vs) (E := wipeE e vs) (s := s) xs (wipeE e vs) hi fun x hx e0 h0 => by
    obtain ⟨e1, e', h1, h2, h3⟩ := hb x hx
    exact ⟨e', turnM_r h0 ⟨e1, h1, h2⟩, h3⟩
  refine bind_r h (bind_r (?_ : within vs (turns (turnM vs t mc me) xs) (e, s) = some (xs.filterMap g, (e, s))) (by rw [if_pos hl]; rfl))
  unfold within
  rw [show (wipeE (e, s).1 vs, (e, s).2) = (wipeE e vs, s) from rfl, h1]
  show some (_, (restoreE e vs e', s)) = _
  rw [← restore_wipe, h2, hr]
end
end Fw
end TFwZb
section TFwZc
namespace Fw
open PySem PySem.Spec PyProof.Rows L2
def atomB : D → Bool
  | .none => true
  | .bool _ => true
  | .int _ => true
  | .str _ => true
  | _ => false
def flatB : D → Bool
  | .tuple xs => xs.all atomB
  | d => atomB d
def lendR (e : Env) : Rv → Option Sl
  | .d x => some (.d x)
  | .st => some .st
  | .ow i => match e[i]? with
    | some (some (.ol xs)) => some (.d (.list xs))
    | _ => none
  | _ => none
def lendAll (e : Env) : List Rv → Option (List Sl)
  | [] => some []
  | r :: rs => match lendR e r, lendAll e rs with
    | some s, some ss => some (s :: ss)
    | _, _ => none
def lendC (f : Fun) (rs : List Rv) : M Rv := fun c => match c.2 with
  | none => none
  | some _ => match lendAll c.1 rs with
    | none => none
    | some as => match f as c.2 with
      | some (.d x, s) => if flatB x then some (.d x, (c.1, s)) else none
      | _ => none
def lendM (f : Fun) (ms : M (List Rv)) : M Rv := do
  let rs ← ms
  lendC f rs
theorem lendC_inv {f : Fun} {rs : List Rv} {c c' : Cf} {r : Rv} (h : lendC f rs c = some (r, c')) : ∃ z as x, c.2 = some z ∧ lendAll c.1 rs = some as ∧ f as c.2 = some (.d x, c'.2) ∧ flatB x = true ∧ r = .d x ∧ c'.1 = c.1 := by
  unfold lendC at h
  cases e1 : c.2 with
  | none => rw [e1] at h; cases h
  | some z =>
    rw [e1] at h
    dsimp only at h
    cases e2 : lendAll c.1 rs with
    | none => rw [e2] at h; cases h
    | some as =>
      rw [e2] at h
      dsimp only at h
      cases e3 : f as (some z) with
      | none => rw [e3] at h; cases h
      | some p =>
        obtain ⟨r1, s1⟩ := p
        rw [e3] at h
        cases r1 with
        | d x =>
          dsimp only at h
          by_cases hf : flatB x = true
          · rw [if_pos hf] at h
            cases h
            exact ⟨z, as, x, rfl, rfl, e3, hf, rfl, rfl⟩
          · rw [if_neg hf] at h; cases h
        | ow i => cases h
        | fl xs => cases h
        | fd xs => cases h
        | st => cases h
section
variable {w : World} {K : PySem.W.Frag} {g : Gh} {F H F' H' : Hp} {sa sa' : SA} {σ : L2.St} {env : Env} {ds ds' : Option DS} {a b p : Addr} {v u : V}
def Lent (σ : L2.St) (env : Env) (b : Addr) : Prop := ∃ (i : Nat) (xs : List D), env[i]? = some (some (.ol xs)) ∧ σ[i]? = some (some (.ref b))
open Classical in
noncomputable def lentF (σ : L2.St) (env : Env) (F H : Hp) : Hp := fun b => if Lent σ env b then H b else F b
open Classical in
noncomputable def backF (σ : L2.St) (env : Env) (F : Hp) : Hp := fun b => if Lent σ env b then none else F b
theorem lentF_y (h : Lent σ env b) : lentF σ env F H b = H b := if_pos h
theorem lentF_n (h : ¬ Lent σ env b) : lentF σ env F H b = F b := if_neg h
theorem backF_y (h : Lent σ env b) : backF σ env F b = none := if_pos h
theorem backF_n (h : ¬ Lent σ env b) : backF σ env F b = F b := if_neg h
theorem EnvOk.lent (e : EnvOk w K g F H sa σ env ds) (h : Lent σ env b) : ∃ vs, H b = some (.lst vs) ∧ Mine g F sa b := by
  obtain ⟨i, xs, h1, h2⟩ := h
  obtain ⟨v, h3, a, h4, ⟨vs, h5, _⟩, m⟩ := e.slots i _ h1
  rw [h2] at h3
  cases h3
  cases h4
  exact ⟨vs, h5, m⟩
theorem EnvOk.notLent (e : EnvOk w K g F H sa σ env ds) {o : HO} (h : F b = some o) : ¬ Lent σ env b := fun l => by
  obtain ⟨_, _, m⟩ := e.lent l
  rw [m.f] at h; cases h
theorem EnvOk.lentSame (e : EnvOk w K g F H sa σ env ds) : Same F (lentF σ env F H) := fun b o h => by
  rw [lentF_n (e.notLent h)]; exact h
theorem EnvOk.lentSub (e : EnvOk w K g F H sa σ env ds) : Same (lentF σ env F H) H := fun b o h => by
  by_cases l : Lent σ env b
  · rw [lentF_y l] at h; exact h
  · rw [lentF_n l] at h; exact e.sub b o h
theorem EnvOk.lentArg (e : EnvOk w K g F H sa σ env ds) : ∀ {vs : List V} {rs : List Rv} {as : List Sl}, RvsOk w K g F H sa σ env vs rs → lendAll env rs = some as → ArgsOk w K (lentF σ env F H) sa vs as
  | _, _, as, .nil, h => by cases h; exact .nil
  | _, _, as, .cons (v := v) (r := r) (rs := rs) hr hrs, h => by
    unfold lendAll at h
    cases e1 : lendR env r with
    | none => rw [e1] at h; cases h
    | some s =>
      cases e2 : lendAll env rs with
      | none => rw [e1, e2] at h; cases h
      | some ss =>
        rw [e1, e2] at h
        cases h
        refine .cons ?_ (e.lentArg hrs e2)
        cases r with
        | d x => cases e1; exact Rp.mono e.lentSame hr
        | st => cases e1; exact hr
        | fl xs => cases e1
        | fd xs => cases e1
        | ow i =>
          unfold lendR at e1
          dsimp only at e1
          split at e1
          · rename_i xs hx
            cases e1
            obtain ⟨v', h3, a, h4, ⟨vs, h5, h6⟩, m⟩ := e.slots i _ hx
            have hr : σ[i]? = some (some v) := hr
            rw [hr] at h3
            cases h3
            subst h4
            have hl : Lent σ env a := ⟨i, xs, hx, hr⟩
            exact Rp.lst (.inl (.inl (by rw [lentF_y hl]; exact h5))) (RpA.mono e.lentSame h6)
          · cases e1
theorem flat_atom {d : D} (h : atomB d = true) (r : Rp w K F v d) : ∀ G, Rp w K G v d := fun G => by
  cases r with
  | non => exact .non
  | bl b => exact .bl b
  | int i => exact .int i
  | str x => exact .str x
  | lst _ _ => cases h
  | tup _ _ => cases h
  | dct _ _ _ _ => cases h
theorem flat_atoms : ∀ {vs : List V} {xs : List D}, xs.all atomB = true → RpA w K F vs xs → ∀ G, RpA w K G vs xs
  | _, _, _, .nil, G => .nil
  | _, _, h, .cons a r, G => by
    rw [List.all_cons, Bool.and_eq_true] at h
    exact .cons (flat_atom h.1 a G) (flat_atoms h.2 r G)
theorem flat_rp {d : D} (h : flatB d = true) (r : Rp w K F v d) {G : Hp} (hG : ∀ (a : Addr) (o : Obj) (vs : List V), F a = some (.frz o (.tup vs)) → G a = F a) : Rp w K G v d := by
  cases r with
  | non => exact .non
  | bl b => exact .bl b
  | int i => exact .int i
  | str x => exact .str x
  | lst _ _ => cases h
  | tup h1 h2 =>
    refine .tup ?_ (flat_atoms h h2 G)
    rcases h1 with ⟨o, h3, h4⟩ | h3
    · exact .inl ⟨o, by rw [hG _ o _ h3]; exact h3, h4⟩
    · exact .inr h3
  | dct _ _ _ _ => cases h
theorem StOk.mono (h : StOk F H sa ds) (e : ∀ c o, F c = some o → F' c = some o) : StOk F' H sa ds := by
  unfold StOk at h ⊢
  cases sa with
  | none => cases ds <;> exact h
  | some t =>
    obtain ⟨x, gr, c⟩ := t
    cases ds with
    | none => exact h
    | some s => exact ⟨h.1, h.2.1, e _ _ h.2.2.1, h.2.2.2⟩
theorem Out.back (e : EnvOk w K g F H sa σ env ds) (o : Out (lentF σ env F H) H sa F' H' sa') : Out F H sa (backF σ env F') H' sa' := by
  refine ⟨fun b x h => ?_, fun b x h => ?_, o.fr, fun b h => ?_, o.sa, fun b h => ?_⟩
  · have n := e.notLent h
    rw [backF_n n]
    exact o.ff b x (by rw [lentF_n n]; exact h)
  · by_cases l : Lent σ env b
    · rw [backF_y l] at h; cases h
    · rw [backF_n l] at h; exact o.sub b x h
  · by_cases l : Lent σ env b
    · rw [backF_y l] at h; exact absurd rfl h
    · rw [backF_n l] at h
      rcases o.fn b h with z | z
      · rw [lentF_n l] at z; exact .inl z
      · exact .inr z
  · by_cases l : Lent σ env b
    · exact backF_y l
    · rw [backF_n l]; exact o.saF b h
end
theorem lend_of {w : World} {K : PySem.W.Frag} {σ : L2.St} {H : Hp} {Q : VK} {fn : Fun} {ms : M (List Rv)} (h : tE w K (lendM fn ms) σ H Q) : tCallG (spF w K fn) [] (tR w K ms) σ H Q := by
  obtain ⟨g, F, sa, env, ds, rv, env', ds', e, hm, q⟩ := h
  obtain ⟨rs, ⟨e1, d1⟩, h1, h2⟩ := bindM hm
  obtain ⟨z, as, x, h3, h4, h5, h6, rfl, h8⟩ := lendC_inv h2
  have h3 : d1 = some z := h3
  have h8 : env' = e1 := h8
  subst h3 h8
  refine ⟨g, F, sa, env, ds, rs, _, _, e, h1, fun F1 H1 sa1 vs eo s hv => ?_⟩
  show spF w K fn (vs ++ []) H1 Q
  rw [List.append_nil]
  refine ⟨lentF σ env' F1 H1, sa1, as, some z, .d x, ds', eo.lentSub, eo.lentArg hv h4, eo.st.mono eo.lentSame, fun b hb => ?_, h5, fun F2 H2 sa2 v o st r => ?_⟩
  · by_cases l : Lent σ env' b
    · obtain ⟨_, _, m⟩ := eo.lent l
      exact absurd hb m.s
    · rw [lentF_n l]; exact eo.saF b hb
  · have o2 := o.back eo
    have hsa : sa2 = sa1 := by
      rcases o.sa with z | ⟨z, _⟩
      · exact z
      · have st1 := eo.st
        rw [z] at st1
        exact st1.elim
    subst hsa
    have st2 : StOk (backF σ env' F2) H2 sa2 ds' := by
      have st1 := eo.st
      unfold StOk at st st1 ⊢
      cases hs : sa2 with
      | none => rw [hs] at st1; exact st1.elim
      | some t =>
        obtain ⟨x, gr, c⟩ := t
        rw [hs] at st st1
        cases ds' with
        | none => exact st.elim
        | some s2 =>
          refine ⟨st.1, st.2.1, ?_, st.2.2.2⟩
          rw [backF_n (eo.notLent st1.2.2.1)]
          exact st.2.2.1
    have hx : Rp w K (backF σ env' F2) v x := flat_rp h6 r fun a ob us ha => by
      refine backF_n fun l => ?_
      obtain ⟨us2, l1, _⟩ := eo.lent l
      have l2 := o.ff a _ (by rw [lentF_y l]; exact l1)
      rw [ha] at l2
      cases l2
    exact q _ H2 sa2 v (eo.after o2 st2) (s.trans (o2.step eo.st st2)) hx trivial
section
variable {X : Cx} {k j : Nat} {f : Addr} {fd : FuncData} {ps : List Str} {x : Str} {p pos : Pos} {e : Expr} {es : List Expr} {fn : Fun} {ms : M (List Rv)}
/-- a call of a def that only looks at the own lists -/
theorem cl_ (G : FnG X.prog X.w X.K X.mg X.base k f fd ps (spF X.w X.K fn)) (hr : Room j X.A) (hk : k ≤ j) (hgd : X.A.guards = some []) (hm : X.mg x = some (.ref f)) (hkp : PySem.W.keepIn X.K (.ref f) = true) (hb : Binds X.K fd ps [])
    (ha : SR X (e :: es) ms) (hg : Gl X x := by rfl) (hdb : (x == ("__debug__" : Str)) = false := by decide) (he : starEach (e :: es) X.env = (false, eval e X.env) :: starEach es X.env := by rfl) (hpl : (backTo pos (starEach es X.env)).any (·.1) = false := by rfl) :
    SE X (.Call (.Name x p) (e :: es) [] pos) (lendM fn ms) := pe_imp (pe_callG G (hr.mono hk) hgd hg hm hkp hb .nil ha hdb he hpl) fun _ _ _ h => lend_of h
/-- running it -/
theorem lend_r {c c1 : Cf} {rs : List Rv} {as : List Sl} {z : DS} {d : D} {s : Option DS} (h : ms c = some (rs, c1)) (h2 : c1.2 = some z) (h3 : lendAll c1.1 rs = some as) (h4 : fn as (some z) = some (.d d, s)) (h5 : flatB d = true) : lendM fn ms c = some (.d d, (c1.1, s)) := by
  refine bind_r h ?_
  unfold lendC
  rw [h2]
  dsimp only
  rw [h3]
  dsimp only
  rw [h4]
  dsimp only
  rw [if_pos h5]
end
end Fw
end TFwZc
section TFwZd
namespace Fw
open PySem PySem.Spec PyProof.Rows L2
def dictF : List D → Option Rv
  | [.list xs] => match pairsD xs with
    | some ps => if (ps.all fun p => keyN p.1) && decide (ps.length ≤ line) then some (.fd (dPuts [] ps)) else none
    | none => none
  | _ => none
section
variable {w : World} {K : PySem.W.Frag} {F : Hp}
theorem RpX.puts : ∀ {ys : List Ent} {mvs : List (D × D)} {xs : List Ent} {kvs : List (D × D)}, RpX w K F ys mvs → RpX w K F xs kvs → RpX w K F (storedAllH xs ys) (dPuts kvs mvs)
  | _, _, xs, kvs, .nil, r => r
  | _, _, xs, kvs, .cons (x := x) (xs := ys) (kvs := mvs) h1 h2 h3 h4 h5 t, r => by
    show RpX w K F (storedAllH (storedH xs x.1 x.2.1 x.2.2) ys) (dPuts (dPut kvs _ _) mvs)
    exact RpX.puts t (RpX.put h1 h2 h3 h4 h5 r)
end
section
variable {X : Cx} {pins : List (Addr × Obj)} {σ : L2.St} {F H : Hp} {s : Shared}
theorem ref_key {k : D} {v : V} (h : Rp X.w X.K F v k) (hk : keyN k = true) : ∃ b, v = .ref b := by
  cases h with
  | tup _ _ => exact ⟨_, rfl⟩
  | _ => cases hk
theorem pair_ents (I : Inv X pins σ H s) (hF : Same F H) : ∀ {xs : List D} {vs : List V} {ps : List (D × D)}, RpA X.w X.K F vs xs → pairsD xs = some ps → (ps.all fun p => keyN p.1) = true →
    ∃ (as : List Addr) (ents : List Ent), vs = as.map V.ref ∧ RpX X.w X.K F ents ps ∧ as.length = ents.length ∧ ∀ (j : Nat) (e : Ent), ents[j]? = some e → ∃ p, as[j]? = some p ∧ s.heap.IsTuple p #[.ref e.2.1, e.2.2]
  | [], _, ps, .nil, h, _ => by
    cases h
    exact ⟨[], [], rfl, .nil, rfl, (fun j e q => by simp at q)⟩
  | x :: xs, _, ps, .cons (v := v) (vs := vs) hv r, h, hk => by
    obtain ⟨k, d, rfl, ps', h', rfl⟩ : ∃ k d, x = .tuple [k, d] ∧ ∃ ps', pairsD xs = some ps' ∧ ps = (k, d) :: ps' := by
      unfold pairsD at h
      split at h
      · cases ‹x :: xs = []›
      · rename_i k d r' e
        cases e
        cases q : pairsD xs with
        | none => rw [q] at h; cases h
        | some ps' => rw [q] at h; cases h; exact ⟨k, d, rfl, ps', rfl, rfl⟩
      · cases h
    rw [List.all_cons, Bool.and_eq_true] at hk
    obtain ⟨as, ents, rfl, e2, e3, e4⟩ := pair_ents I hF r h' hk.2
    cases hv with
    | tup ht ha =>
      rename_i p ws
      cases ha with
      | cons hk1 ha =>
        cases ha with
        | cons hd1 ha =>
          cases ha
          obtain ⟨b, rfl⟩ := ref_key hk1 hk.1
          obtain ⟨ts, κ, e5, e6, _⟩ := keyN_key hk.1
          obtain ⟨its, rv, pt, _⟩ := I.tuple (sqT_mono hF ht.sq)
          cases rv with
          | cons q1 rv =>
            cases rv with
            | cons q2 rv =>
              cases rv
              cases q1
              rename_i u
              refine ⟨p :: as, (κ, b, u) :: ents, rfl, .cons e6 hk.1 hk1 q2 hd1 e2, by rw [List.length_cons, List.length_cons, e3], fun j e q => ?_⟩
              cases j with
              | zero =>
                cases (show (κ, b, u) = e from Option.some.inj q)
                exact ⟨p, rfl, pt⟩
              | succ j =>
                obtain ⟨p', g1, g2⟩ := e4 j e (by simpa using q)
                exact ⟨p', by simpa using g1, g2⟩
theorem cb_dictN (hcalm : X.calm = true) (hu : X.A.units + 70 < cLine) : CallR X (.type "dict") (rB X.w X.K dictF) := by
  intro pins s σ H xs us Q I r h
  obtain ⟨F, ds, rv, hF, pk0, hb, k⟩ := h
  cases ds with
  | nil => cases hb
  | cons d dr =>
    cases dr with
    | cons _ _ => cases d <;> cases hb
    | nil =>
      obtain ⟨v, rfl, pk⟩ := pks1 pk0
      cases d <;> first | cases hb | skip
      rename_i xs
      have hb : (match pairsD xs with
        | some ps => if ((ps.all fun p => keyN p.1) && decide (ps.length ≤ line)) = true then some (Rv.fd (dPuts [] ps)) else none
        | none => none) = some rv := hb
      cases hp : pairsD xs with
      | none => rw [hp] at hb; cases hb
      | some ps =>
        rw [hp] at hb
        obtain ⟨hc, rfl⟩ := ite_some hb
        obtain ⟨hk, hl⟩ := and2 hc
        have hl : ps.length ≤ sizeLine := of_decide_eq_true hl
        obtain ⟨a, vs, rfl, h1, h2⟩ := pk.list hF
        obtain ⟨as, ents, rfl, e2, e3, e4⟩ := pair_ents I hF h2 hp hk
        obtain ⟨u, eu, rx⟩ := vals1 r
        subst eu
        cases rx
        obtain ⟨its, rv, pl, hz⟩ := I.list h1.sql
        have ei := refs_at rv
        subst ei
        obtain ⟨o, n, ho, hc, hd, hdat⟩ := pl
        have lps : (ents.map fun e => ((Value.ref e.2.1, e.2.2) : Value × Value)).length = ents.length := List.length_map ..
        have P := PairArg.list (prog := X.prog) (w := X.w) a (as.map Value.ref).toArray (fun j => as.getD j 0) (ents.map fun e => ((Value.ref e.2.1, e.2.2) : Value × Value))
        have hents := RpX.is I hF e2
        refine call_dict_pairsH (knd := nestedKind X.prog X.w) (ps := ents) P (I.ok.hd hcalm) (by show X.A.in1.in1.units + 8 < cLine; simp only [Around.in1_units]; omega) ⟨⟨o, n, ho, hc, hd, hdat⟩, ?_, fun j kx vx hj => ?_⟩ ⟨lps.symm, fun i key v hi => ?_⟩ (fun h' hk' x hx => ?_) (by rw [lps, e2.len]; exact hl) fun h' tk hD hk' => ?_
        · rw [lps, List.size_toArray, List.length_map, e3]
        · rw [List.getElem?_map] at hj
          cases q : ents[j]? with
          | none => rw [q] at hj; cases hj
          | some e =>
            rw [q] at hj
            cases hj
            obtain ⟨p, g1, g2⟩ := e4 j e q
            refine ⟨?_, .inl ?_⟩
            · show _ = some (Value.ref (as.getD j 0))
              rw [List.getElem?_toArray, List.getElem?_map, g1, List.getD_eq_getElem?_getD, g1]; rfl
            · show s.heap.IsTuple (as.getD j 0) _
              rw [List.getD_eq_getElem?_getD, g1]; exact g2
        · have hi : (ents.map fun e => ((Value.ref e.2.1, e.2.2) : Value × Value))[i]? = some (key, v) := hi
          rw [List.getElem?_map] at hi
          cases q : ents[i]? with
          | none => rw [q] at hi; cases hi
          | some e =>
            rw [q] at hi
            cases hi
            exact ⟨e.1, e.2.1, rfl, rfl⟩
        · obtain ⟨g1, g2⟩ := hents x hx
          exact ⟨NestedIs.at (fun b ob vs n hb _ => hk' b ob (Nat.ne_of_lt (Heap.lt_size hb)) (by simp) hb) x.1 _ g1, g2⟩
        · obtain ⟨o', es', ep, g1, g2, g3, g4, g5, g6⟩ := hD
          have r2 : RpX X.w X.K F (storedAllH [] ents) (dPuts [] ps) := RpX.puts e2 .nil
          have sz : es'.size ≤ sizeLine := by
            have z1 := ents_len (w := X.w) g4
            have z2 := storedAllH_length ents ([] : List Ent)
            have z3 := e2.len
            rw [List.length_nil] at z2
            omega
          have hm : (s.heap.objs.size == sysModules) = false := beq_eq_false_iff_ne.mpr (Ne.symm (Nat.ne_of_lt I.big))
          have hn := I.hok.fresh (Nat.le_refl s.heap.objs.size)
          refine ⟨.ref s.heap.objs.size, upd H s.heap.objs.size (dictO s.heap.objs.size ⟨es', ep⟩), I.laid (t' := tk) (fun b ob e => hk' b ob (by simp) e) (Nat.le_refl _) ?_, rfl, k F _ _ (Out0.new hF hn _) (new0_fd (es := ⟨es', ep⟩) hF hn g4 g6 r2)⟩
          exact ⟨⟨hm, sz, o', g1, g2, g3⟩, ⟨o', g1⟩, fun h1' h2' hφ hkk => by
            obtain ⟨f1, f2, o1, f3, f4, f5⟩ := hφ
            exact ⟨f1, f2, o1, hkk _ f3, f4, f5⟩⟩
end
end Fw
end TFwZd
section TFwZe
namespace Fw
open PySem PySem.Spec PyProof.Rows L2
def Itd (a : Addr) (es : DE) : It :=
  ⟨fun i H => (∃ b, es.arr[i]?.map (·.key) = some (Value.ref b)) ∧ H a = some (dictO a es), fun i H x H' => H' = H ∧ ∃ b, es.arr[i]?.map (·.key) = some (Value.ref b) ∧ x = .ref b, fun i H => es.arr.size ≤ i ∧ H a = some (dictO a es)⟩
theorem turn_dct {P : Program} {w : World} {K : PySem.W.Frag} {tg : Expr} (a it : Addr) (es : DE) : Turn P w K tg (Itd a es) [it] it (fun i h => h.IsKeyIter it a i es.arr.size es.ep) where
  mem := by simp
  obj := fun i h st b hb => by
    obtain rfl : b = it := by simpa using hb
    obtain ⟨o, e, c, d⟩ := st
    exact ⟨o, e, fun v z => by rw [d] at z; cases z⟩
  keep := fun i h h' st k => by
    obtain ⟨o, e, c⟩ := st
    exact ⟨o, k it (by simp) o e, c⟩
  item := by
    intro X hP hw hK hc i pins s σ H E I hf st hg
    subst hP hw hK
    obtain ⟨⟨b, hb⟩, hd⟩ := hg
    obtain ⟨m1, m2, m3⟩ := dct_raw I hd
    obtain ⟨f0, f1, f2, f3, f4, f5⟩ := hf it (by simp)
    have hi : i < es.arr.size := by
      rcases Nat.lt_or_ge i es.arr.size with h | h
      · exact h
      · rw [Array.getElem?_eq_none h] at hb; cases hb
    have hk : es.arr[i].key = Value.ref b := by
      rw [Array.getElem?_eq_getElem hi] at hb
      exact Option.some.inj hb
    refine wpAny_pyNext_keys_item_raw st m3 hi fun h' st' sb => ?_
    have I1 : Inv X pins σ H { s with heap := h' } := I.turned (t' := s.toks) (fun c o hc e => (sb.2 c hc).trans e) f0 f1 f3 f4 f5
    obtain ⟨o, e, c, d⟩ := id st'
    exact ⟨_, rfl, go_of (s := { s with heap := h' }) e c d (by decide) ⟨.ref b, H, I1, hk, ⟨rfl, b, hb, rfl⟩, st', fun c hc => (hf c hc).1⟩⟩
  done := by
    intro X hP hw hK hc i pins s σ H E I hf st hg
    subst hP hw hK
    obtain ⟨hge, hd⟩ := hg
    obtain ⟨m1, m2, m3⟩ := dct_raw I hd
    obtain ⟨f0, f1, f2, f3, f4, f5⟩ := hf it (by simp)
    exact wpAny_pyNext_keys_end_raw (I.ok.hd hc) st m3 hge fun h' he => ⟨rfl, I.turned (t' := s.toks) (fun c o hc e => he c o hc e) f0 f1 f3 f4 f5⟩
  self := fun A i s Q E st h => wpAny_pyIter_keyiter st h
def iDct (tl : TE) : TI := fun σ H R => tl σ H fun x H1 => ∃ a es, x = .ref a ∧ H1 a = some (dictO a es) ∧ R (Itd a es) H1
section
variable {X : Cx} {tg e : Expr} {m : M Rv}
theorem pi_dct {tl : TE} (hl : PE X e tl) : PI X tg e (iDct tl) := by
  refine ⟨fun pins s σ H R I h => thn (hl.run pins s σ H _ I h) fun v s1 ⟨x, H1, I1, r1, q1⟩ => ?_⟩
  obtain ⟨a, es, rfl, hd, q⟩ := q1
  cases r1
  obtain ⟨m1, m2, m3⟩ := dct_raw I1 hd
  refine wpAny_pyIter_dict_raw m1 m3 ?_
  refine ⟨s1.heap.objs.size, [s1.heap.objs.size], _, _, H1, rfl, I1.kept (t' := s1.toks) fun b o e => Heap.get?_push_of_some _ e, turn_dct a _ es, ⟨_, Heap.get?_push_size _ rfl, rfl, rfl⟩, fun b hb => ?_, q⟩
  obtain rfl : b = s1.heap.objs.size := by simpa using hb
  exact I1.fpOk (Nat.le_refl _) (I1.hok.fresh (Nat.le_refl _))
def itD (m : M Rv) : M (List D) := do
  let d ← dM m
  match d with
  | .dict kvs => pure (kvs.map (·.1))
  | _ => stuck
theorem ent_get {w : World} {K : PySem.W.Frag} {F : Hp} : ∀ {xs : List Ent} {kvs : List (D × D)}, RpX w K F xs kvs → ∀ {i : Nat} {k : D}, (kvs.map (·.1))[i]? = some k → ∃ x, xs[i]? = some x ∧ Rp w K F (.ref x.2.1) k
  | _, _, .nil, i, k, h => by simp at h
  | _, _, .cons h1 h2 h3 h4 h5 r, 0, k, h => by
    cases (show _ = k from Option.some.inj h)
    exact ⟨_, rfl, h3⟩
  | _, _, .cons h1 h2 h3 h4 h5 r, i + 1, k, h => by
    obtain ⟨x, e1, e2⟩ := ent_get r (i := i) (k := k) (by simpa using h)
    exact ⟨x, by simpa using e1, e2⟩
theorem walk_dct {w : World} {K : PySem.W.Frag} {F : Hp} {pr : Bool} {a : Addr} {es : DE} {xs : List Ent} {kvs : List (D × D)} (h : F a = some (dictO a es)) (h2 : es.toList = xs.map (entD w)) (r : RpX w K F xs kvs) : WalkOk w K pr (Itd a es) F (kvs.map (·.1)) := by
  intro F' H' f1 f2
  have hd : H' a = some (dictO a es) := f2 _ _ (f1 _ _ h)
  have hkey : ∀ {i : Nat} {x : Ent}, xs[i]? = some x → es.arr[i]?.map (·.key) = some (Value.ref x.2.1) := fun {i x} e => by
    have : es.arr.toList[i]? = (xs.map (entD w))[i]? := by rw [← h2]
    rw [Array.getElem?_toList] at this
    rw [this, List.getElem?_map, e]
    rfl
  refine ⟨fun i k hk => ?_, ?_, hd⟩
  · obtain ⟨x, e1, e2⟩ := ent_get r hk
    refine ⟨⟨⟨_, hkey e1⟩, hd⟩, fun v H'' hy => .inl ?_⟩
    obtain ⟨z1, b, z2, rfl⟩ := hy
    rw [hkey e1] at z2
    cases z2
    exact ⟨z1, e2.mono f1⟩
  · have := congrArg List.length h2
    rw [List.length_map, Array.length_toList] at this
    rw [List.length_map, ← r.len]
    omega
theorem si_dct {pr : Bool} (h : SE X e m) : SI X tg e pr (itD m) := pi_imp (pi_dct h) fun σ H R h => by
  obtain ⟨g, F, sa, env, ds, xs, env', ds', e, hm, q⟩ := h
  obtain ⟨d, ⟨e1, d1⟩, h1, hm1⟩ := bindM hm
  cases d with
  | dict kvs =>
    obtain ⟨h2, h3⟩ := pureM hm1
    subst h2
    obtain ⟨rfl, rfl⟩ := Prod.mk.inj h3
    refine dM_ok ⟨g, F, sa, env, ds, _, e1, d1, e, h1, fun F1 H1 sa1 v eo s hv => ?_⟩
    cases hv with
    | dct g1 g2 g3 g4 => exact ⟨_, _, rfl, eo.sub _ _ g1, q F1 H1 sa1 _ eo s (walk_dct g1 g2 g4)⟩
  | none => cases hm1
  | bool _ => cases hm1
  | int _ => cases hm1
  | str _ => cases hm1
  | list _ => cases hm1
  | tuple _ => cases hm1
end
end Fw
end TFwZe
section TFwZf
set_option maxHeartbeats 2000000
namespace Fw
open PySem PySem.Spec PyProof.Rows L2
/-- one of what is zipped: its kind, its iterator, itself, its items -/
structure Sr where
  sd : Sd
  it : Addr
  a : Addr
  its : Array Value
/-- the zip object: what it gave last, whether that is held -/
abbrev ZN (h : Heap) (z TI TO : Addr) (v : Value) (f : Bool) : Prop := h.get? z = some { cls := .type "zip", dict := none, data := .fields #[v, .bool f, .bool false, .ref TI, .ref TO], slots := #[] }
abbrev TupN (h : Heap) (T : Addr) (xs : Array Value) : Prop := h.get? T = some { cls := .type "tuple", data := .seq xs }
def refsOf (rs : List Sr) : List Value := rs.map fun r => Value.ref r.it
/-- the cells lie apart -/
structure SepN (z TI TO : Addr) (rs : List Sr) : Prop where
  TIz : TI ≠ z
  TOz : TO ≠ z
  TITO : TI ≠ TO
  iz : ∀ r ∈ rs, r.it ≠ z ∧ r.it ≠ TI ∧ r.it ≠ TO
  az : ∀ r ∈ rs, r.a ≠ z ∧ r.a ≠ TO ∧ r.a ≠ r.it
  ia : ∀ r ∈ rs, ∀ q ∈ rs, r.it ≠ q.a
  nd : (rs.map (·.it)).Nodup
section
variable {prog : Program} {w : World} {A : Around} {E : Value → Shared → Prop} {s : Shared} {z TI TO : Addr} {rs : List Sr}
theorem free_any {v : Value} {f : Bool} {Q : Bool → Shared → Prop} (hz : ZN s.heap z TI TO v f) (hv : v = .none ∨ ∃ T : Addr, v = rawInt (T : Int)) (h1 : Q true s) (h2 : (∃ T : Addr, v = rawInt (T : Int)) → ∀ h', ZN h' z TI TO v true → Heap.SameBut z s.heap h' → Q false { s with heap := h' }) :
    wpAny (model prog w) A (Builtin.SmallTypes.ownedTupleIsFree (.ref z)) Q E s := by
  unfold Builtin.SmallTypes.ownedTupleIsFree
  rcases hv with rfl | ⟨T, rfl⟩
  · exact wpAny_bind (wpAny_field hz rfl (x := .none) rfl (wpAny_pure h1))
  · refine wpAny_bind (wpAny_field hz rfl (x := rawInt T) rfl ?_)
    show wpAny _ _ (loadIfAlive ((T : Int).toNat) >>= _) _ _ _
    rw [Int.toNat_natCast]
    have key : ∀ o : Option Obj, wpAny (model prog w) A ((fun o => do
        if o.isNone then return true
        if (← field (.ref z) 1) != .bool true then setField (.ref z) 1 (.bool true)
        return false : Option Obj → Sem Bool) o) Q E s := fun o => by
      cases o with
      | none => exact wpAny_pure h1
      | some o =>
        simp only [Option.isNone_some, Bool.false_eq_true, if_false]
        refine wpAny_bind (wpAny_field hz rfl (x := .bool f) rfl ?_)
        cases f with
        | true =>
          rw [if_neg (show ¬ ((Value.bool true != Value.bool true) = true) from Bool.false_ne_true)]
          exact wpAny_pure (h2 ⟨T, rfl⟩ s.heap hz (Heap.SameBut.refl _ _))
        | false =>
          rw [if_pos (show (Value.bool false != Value.bool true) = true from rfl)]
          exact wpAny_bind (wpAny_setField_rec hz (by simp) fun h₁ hz₁ hs₁ => wpAny_pure (h2 ⟨T, rfl⟩ h₁ hz₁ hs₁))
    exact wpAny_bind (show wpAny (model prog w) A (loadIfAlive T) _ E s from fun _ _ _ => key _)
/-- what has not been touched -/
def Kp (z TO : Addr) (rs : List Sr) (h h' : Heap) : Prop := ∀ c o, c ≠ z → c ≠ TO → (∀ r ∈ rs, c ≠ r.it) → h.get? c = some o → h'.get? c = some o
def StN (i : Nat) (h : Heap) (r : Sr) : Prop := ItS r.sd h r.it r.a i ∧ AtS r.sd r.a r.its h
theorem AtS.keep {sd : Sd} {h h' : Heap} {a : Addr} {items : Array Value} (x : AtS sd a items h) (k : ∀ o, h.get? a = some o → h'.get? a = some o) : AtS sd a items h' := by
  cases sd with
  | l => exact Heap.IsList.at x k
  | t => exact Heap.IsTuple.at x k
theorem StN.frame {i : Nat} {h h' : Heap} {r : Sr} (st : StN i h r) (k : ∀ b, b = r.it ∨ b = r.a → ∀ o, h.get? b = some o → h'.get? b = some o) : StN i h' r :=
  ⟨st.1.keep fun o e => k _ (.inl rfl) o e, st.2.keep fun o e => k _ (.inr rfl) o e⟩
theorem StN.but {i : Nat} {h h' : Heap} {r : Sr} {c : Addr} (st : StN i h r) (sb : Heap.SameBut c h h') (h1 : r.it ≠ c) (h2 : r.a ≠ c) : StN i h' r :=
  st.frame fun b hb o e => sb.extBut b o (by rcases hb with rfl | rfl; exact h1; exact h2) e
theorem zip_draw {i : Nat} {z TI TO : Addr} {rs : List Sr} (S : SepN z TI TO rs) (hh : A.handled = none) {r : Sr} (hr : r ∈ rs) {Q : Value → Shared → Prop} (st : StN i s.heap r) {x : Value} (hx : r.its[i]? = some x)
    (hQ : ∀ h' tk, StN (i + 1) h' r → Heap.SameBut r.it s.heap h' → Q x { s with heap := h', toks := tk }) : wpAny (model prog w) A (Builtin.SmallTypes.nextOf (.ref r.it)) Q E s := by
  have hi : i < r.its.size := (Array.getElem?_eq_some_iff.mp hx).1
  refine (draws_s (prog := prog) (w := w) hh r.sd r.it r.a (S.az r hr).2.2 r.its).item i s Q E hi st fun x' h' tk p st' sb => ?_
  have p : r.its[i]? = some x' := p
  rw [hx] at p
  cases p
  exact hQ h' tk st' sb
/-- after j of the draws -/
structure MidN (z TI TO : Addr) (rs : List Sr) (i : Nat) (v : Value) (f : Bool) (h0 : Heap) (j : Nat) (h : Heap) : Prop where
  zn : ZN h z TI TO v f
  ti : TupN h TI (refsOf rs).toArray
  sz : h.objs.size = h0.objs.size
  st : ∀ k r, rs[k]? = some r → StN (if k < j then i + 1 else i) h r
  kp : Kp z TO rs h0 h
theorem MidN.step {v : Value} {f : Bool} {h0 h h' : Heap} {i j : Nat} {r : Sr} (S : SepN z TI TO rs) (m : MidN z TI TO rs i v f h0 j h) (hr : rs[j]? = some r) (st' : StN (i + 1) h' r) (sb : Heap.SameBut r.it h h') : MidN z TI TO rs i v f h0 (j + 1) h' := by
  have hrm := List.mem_of_getElem? hr
  obtain ⟨z1, z2, z3⟩ := S.iz r hrm
  refine ⟨sb.extBut _ _ z1.symm m.zn, sb.extBut _ _ z2.symm m.ti, by rw [sb.1]; exact m.sz, fun k q hk => ?_, fun c o h1 h2 h3 e => sb.extBut c o (h3 r hrm) (m.kp c o h1 h2 h3 e)⟩
  by_cases e : k = j
  · subst e
    rw [hr] at hk
    cases hk
    rw [if_pos (Nat.lt_succ_self _)]
    exact st'
  · have hqm := List.mem_of_getElem? hk
    have hne : q.it ≠ r.it := fun q' => by
      have n1 : (rs.map (·.it))[k]? = some q.it := by rw [List.getElem?_map, hk]; rfl
      have n2 : (rs.map (·.it))[j]? = some q.it := by rw [List.getElem?_map, hr, q']; rfl
      exact e ((List.getElem?_inj (List.getElem?_eq_some_iff.mp n1).1 S.nd).mp (n1.trans n2.symm))
    have old := (m.st k q hk).but sb hne (fun q' => S.ia r hrm q hqm q'.symm)
    rcases Nat.lt_or_ge k j with g | g
    · rw [if_pos g] at old; rw [if_pos (Nat.lt_succ_of_lt g)]; exact old
    · rw [if_neg (by omega)] at old; rw [if_neg (by omega)]; exact old
theorem refs_len : (refsOf rs).length = rs.length := List.length_map ..
theorem refs_idx {j : Nat} {x : Value} {k : Nat} {rest : List (Value × Nat)} (h : (x, k) :: rest = (refsOf rs).zipIdx.drop j) : ∃ r, rs[j]? = some r ∧ x = .ref r.it ∧ k = j ∧ rest = (refsOf rs).zipIdx.drop (j + 1) := by
  have h1 : (refsOf rs).zipIdx[j]? = some (x, k) := by
    have : ((refsOf rs).zipIdx.drop j)[0]? = some (x, k) := by rw [← h]; rfl
    rw [List.getElem?_drop, Nat.add_zero] at this
    exact this
  have h2 : rest = (refsOf rs).zipIdx.drop (j + 1) := by
    rw [← List.tail_drop, ← h]; rfl
  rw [List.getElem?_zipIdx] at h1
  unfold refsOf at h1
  rw [List.getElem?_map] at h1
  cases q : rs[j]? with
  | none => rw [q] at h1; cases h1
  | some r =>
    rw [q] at h1
    have h1 : some (Value.ref r.it, 0 + j) = some (x, k) := h1
    cases h1
    exact ⟨r, rfl, rfl, Nat.zero_add j, h2⟩
theorem MidN.to {v : Value} {f : Bool} {h0 h h' : Heap} {i j : Nat} (S : SepN z TI TO rs) (m : MidN z TI TO rs i v f h0 j h) (sb : Heap.SameBut TO h h') : MidN z TI TO rs i v f h0 j h' :=
  ⟨sb.extBut _ _ S.TOz.symm m.zn, sb.extBut _ _ S.TITO m.ti, by rw [sb.1]; exact m.sz, fun k r hk => (m.st k r hk).but sb (S.iz r (List.mem_of_getElem? hk)).2.2 (S.az r (List.mem_of_getElem? hk)).2.1,
    fun c o c1 c2 c3 e => sb.extBut c o c2 (m.kp c o c1 c2 c3 e)⟩
theorem updateSeq_N {T : Addr} {x : Value} {k : Nat} {arr : Array Value} {Q : Unit → Shared → Prop} (hn : arr.size ≤ sizeLine) (hT : TupN s.heap T arr) (h : ∀ h', TupN h' T (arr.setIfInBounds k x) → Heap.SameBut T s.heap h' → Q () { s with heap := h' }) :
    wpAny (model prog w) A (updateSeq T (·.setIfInBounds k x)) Q E s := wpAny_updateSeq hT rfl (h _ (by unfold TupN; rw [Heap.get?_update_self _ hT rfl]; simp [Obj.mapSeq]) (Heap.SameBut.update ..)) (by omega) (by rw [Array.size_setIfInBounds]; omega)
theorem us_at {us : List Value} {i j : Nat} {r : Sr} (hl : us.length = rs.length) (hr : rs[j]? = some r) (hu : r.its[i]? = us[j]?) : ∃ x, us[j]? = some x ∧ r.its[i]? = some x := by
  have : j < us.length := by rw [hl]; exact (List.getElem?_eq_some_iff.mp hr).1
  exact ⟨us[j], List.getElem?_eq_getElem this, by rw [hu, List.getElem?_eq_getElem this]⟩
theorem mid_all {v : Value} {f : Bool} {h0 h : Heap} {i j : Nat} (hj : rs.length ≤ j) (m : MidN z TI TO rs i v f h0 j h) (k : Nat) (r : Sr) (hk : rs[k]? = some r) : StN (i + 1) h r := by
  have := m.st k r hk
  rwa [if_pos (Nat.lt_of_lt_of_le (List.getElem?_eq_some_iff.mp hk).1 hj)] at this
theorem next_item {v : Value} {f : Bool} {i : Nat} {us : List Value} {arr0 : Array Value} {Q : Value → Shared → Prop} (S : SepN z TI TO rs) (hh : A.handled = none) (hz : ZN s.heap z TI TO v f) (hv : v = .none ∨ ∃ T : Addr, v = rawInt (T : Int)) (hTI : TupN s.heap TI (refsOf rs).toArray)
    (hTO : TupN s.heap TO arr0) (ha : arr0.size = rs.length) (h0 : rs ≠ []) (hn : rs.length ≤ sizeLine) (st : ∀ (k : Nat) (r : Sr), rs[k]? = some r → StN i s.heap r) (hl : us.length = rs.length) (hu : ∀ (k : Nat) (r : Sr), rs[k]? = some r → r.its[i]? = us[k]?)
    (hQ : ∀ h' tk v' f' arr', ZN h' z TI TO v' f' → (∃ T : Addr, v' = rawInt (T : Int)) → TupN h' TI (refsOf rs).toArray → TupN h' TO arr' → arr'.size = rs.length → (∀ (k : Nat) (r : Sr), rs[k]? = some r → StN (i + 1) h' r) → TupN h' s.heap.objs.size us.toArray → h'.objs.size = s.heap.objs.size + 1 →
      Kp z TO rs s.heap h' → Q (.ref s.heap.objs.size) { s with heap := h', toks := tk }) :
    wpAny (model prog w) A (Builtin.«zip.__next__» ⟨[.ref z], []⟩) (fun fin s' => ∃ v, fin = .done (.ret v) ∧ Q v s') E s := by
  obtain ⟨hp, g, d, tk0, os⟩ := s
  show wpAny _ _ (field (.ref z) 2 >>= _) _ _ _
  refine wpAny_bind (wpAny_field hz rfl (x := .bool false) rfl ?_); show wpAny _ _ (field (.ref z) 3 >>= _) _ _ _
  refine wpAny_bind (wpAny_field hz rfl (x := .ref TI) rfl (wpAny_bind (wpAny_seqItems hTI rfl ?_)))
  have hemp : (refsOf rs).toArray.isEmpty = false := by
    cases rs with
    | nil => exact absurd rfl h0
    | cons r rs => rfl
  simp only [hemp, Bool.false_eq_true, if_false]
  refine wpAny_bind (free_any hz hv ?_ fun hvT g0 hz0 hs0 => ?_)
  · simp only [if_true]
    refine wpAny_bind (wpAny_rule (wpAny_bind (wpAny_field hz rfl (x := .ref TO) rfl (wpAny_bind (wpAny_setField_rec hz (by simp) fun g0 hz0 hs0 => ?_)))))
    replace hz0 : ZN g0 z TI TO .ellipsis f := hz0
    replace hs0 : Heap.SameBut z hp g0 := hs0
    refine wpAny_bind ?_
    have init : MidN z TI TO rs i .ellipsis f hp 0 g0 := ⟨hz0, hs0.extBut _ _ S.TIz hTI, hs0.1, fun k r hk => (st k r hk).but hs0 (S.iz r (List.mem_of_getElem? hk)).1 (S.az r (List.mem_of_getElem? hk)).1, fun c o c1 _ _ e => hs0.extBut c o c1 e⟩
    refine wpAny_forIn_list _ (fun rest b s' => ∃ (j : Nat) (h' : Heap) (tk : Nat) (arr : Array Value), j ≤ rs.length ∧ rest = (refsOf rs).zipIdx.drop j ∧ b = (none, ()) ∧ s' = (⟨h', g, d, tk, os⟩ : Shared) ∧ MidN z TI TO rs i .ellipsis f hp j h' ∧ TupN h' TO arr ∧ arr.size = rs.length ∧ ∀ k, k < j → arr[k]? = us[k]?) _ ?_ ?_ _ _
      ⟨0, g0, tk0, arr0, Nat.zero_le _, rfl, rfl, rfl, init, hs0.extBut _ _ S.TOz hTO, ha, fun k hk => absurd hk (Nat.not_lt_zero _)⟩
    · rintro ⟨x, k⟩ rest b s' ⟨j, h', tk, arr, hj, he, rfl, rfl, m, hT, hsz, hpre⟩
      obtain ⟨r, hr, rfl, rfl, he'⟩ := refs_idx he
      have hrm := List.mem_of_getElem? hr
      obtain ⟨ux, hux, hx⟩ := us_at hl hr (hu _ r hr)
      have sr := m.st _ r hr
      rw [if_neg (Nat.lt_irrefl _)] at sr
      refine wpAny_bind (wpAny_onRaise ?_)
      show wpAny _ _ (Builtin.SmallTypes.nextOf (.ref r.it) >>= _) _ _ ⟨h', g, d, tk, os⟩
      refine wpAny_bind (zip_draw S hh hrm sr hx fun h2 tk2 st2 sb2 => wpAny_pure ?_)
      have hT2 : TupN h2 TO arr := sb2.extBut _ _ (S.iz r hrm).2.2.symm hT
      refine wpAny_bind (wpAny_seqItems (s := ⟨h2, g, d, tk2, os⟩) hT2 rfl ?_)
      refine wpAny_bind (updateSeq_N (s := ⟨h2, g, d, tk2, os⟩) (by omega) hT2 fun h3 hT3 sb3 => ?_)
      refine wpAny_bind (wpAny_letGo (wpAny_pure ?_))
      have hjn : k < rs.length := (List.getElem?_eq_some_iff.mp hr).1
      refine ⟨k + 1, h3, tk2, _, hjn, he', rfl, rfl, (m.step S hr st2 sb2).to S sb3, hT3, by rw [Array.size_setIfInBounds]; exact hsz, fun l hlt => ?_⟩
      rw [Array.getElem?_setIfInBounds]
      by_cases q : k = l
      · subst q
        rw [if_pos rfl, if_pos (by omega), hux]
      · rw [if_neg q]
        exact hpre l (by omega)
    · rintro b s' ⟨j, h', tk, arr, hj, he, rfl, rfl, m, hT, hsz, hpre⟩
      have hjn : rs.length ≤ j := by
        have := congrArg List.length he
        rw [List.length_nil, List.length_drop, List.length_zipIdx, refs_len] at this
        omega
      have hus : arr.toList = us := by
        refine List.ext_getElem? fun k => ?_
        rw [Array.getElem?_toList]
        rcases Nat.lt_or_ge k rs.length with q | q
        · exact hpre k (by omega)
        · rw [Array.getElem?_eq_none (by omega), List.getElem?_eq_none (by omega)]
      show wpAny _ _ (seqItems? (Value.ref TO) >>= _) _ _ ⟨h', g, d, tk, os⟩
      refine wpAny_bind (wpAny_seqItems (s := ⟨h', g, d, tk, os⟩) hT rfl ?_)
      dsimp only
      rw [hus]
      refine wpAny_bind (wpAny_newTuple ?_ (by omega))
      have hzlt : z < h'.objs.size := Heap.lt_size m.zn
      show wpAny _ _ (Builtin.SmallTypes.ownedTupleHandOut (.ref z) (.ref h'.objs.size) >>= _) _ _ ⟨h'.push { cls := .type "tuple", data := .seq us.toArray }, g, d, tk, os⟩
      refine wpAny_bind ?_
      unfold Builtin.SmallTypes.ownedTupleHandOut
      have hz₆ : ZN (h'.push { cls := .type "tuple", data := .seq us.toArray }) z TI TO .ellipsis f := Heap.get?_push_of_some _ m.zn
      refine wpAny_bind (wpAny_setField_rec hz₆ (by simp) fun h₇ hz₇ hs₇ => ?_)
      replace hz₇ : ZN h₇ z TI TO (rawInt h'.objs.size) f := hz₇
      refine wpAny_setField_rec hz₇ (by simp) fun h₈ hz₈ hs₈ => ?_
      replace hz₈ : ZN h₈ z TI TO (rawInt h'.objs.size) false := hz₈
      replace hs₇ : Heap.SameBut z (h'.push { cls := .type "tuple", data := .seq us.toArray }) h₇ := hs₇
      replace hs₈ : Heap.SameBut z h₇ h₈ := hs₈
      have up : ∀ c o, c ≠ z → h'.get? c = some o → h₈.get? c = some o := fun c o c1 e => hs₈.extBut _ _ c1 (hs₇.extBut _ _ c1 (Heap.get?_push_of_some _ e))
      have hT₈ : TupN h₈ h'.objs.size us.toArray := hs₈.extBut _ _ (Nat.ne_of_gt hzlt) (hs₇.extBut _ _ (Nat.ne_of_gt hzlt) (Heap.get?_push_size _ rfl))
      have hz8 : h₈.objs.size = h'.objs.size + 1 := by rw [hs₈.1, hs₇.1, Heap.size_push]
      have msz := m.sz
      rw [msz] at hz₈ hT₈ hz8
      refine wpAny_pure ⟨_, rfl, ?_⟩
      show Q (.ref h'.objs.size) ⟨h₈, g, d, tk, os⟩
      rw [msz]
      exact hQ h₈ tk _ _ arr hz₈ ⟨_, rfl⟩ (up _ _ S.TIz m.ti) (up _ _ S.TOz hT) hsz (fun k r hk => (mid_all hjn m k r hk).frame fun b hb o e => up b o (by
        have hrm := List.mem_of_getElem? hk
        rcases hb with rfl | rfl
        · exact (S.iz r hrm).1
        · exact (S.az r hrm).1) e) hT₈ hz8 fun c o c1 c2 c3 e => up c o c1 (m.kp c o c1 c2 c3 e)
  · simp only [Bool.false_eq_true, if_false]
    refine wpAny_bind ?_
    rw [← Array.forIn_toList]
    replace hz0 : ZN g0 z TI TO v true := hz0
    replace hs0 : Heap.SameBut z hp g0 := hs0
    have init : MidN z TI TO rs i v true hp 0 g0 := ⟨hz0, hs0.extBut _ _ S.TIz hTI, hs0.1, fun k r hk => (st k r hk).but hs0 (S.iz r (List.mem_of_getElem? hk)).1 (S.az r (List.mem_of_getElem? hk)).1, fun c o c1 _ _ e => hs0.extBut c o c1 e⟩
    refine wpAny_forIn_list _ (fun rest b s' => ∃ (j : Nat) (h' : Heap) (tk : Nat) (items : Array Value), j ≤ rs.length ∧ rest = (refsOf rs).drop j ∧ b = (none, items) ∧ s' = (⟨h', g, d, tk, os⟩ : Shared) ∧ MidN z TI TO rs i v true hp j h' ∧ TupN h' TO arr0 ∧ items.toList = us.take j) _ ?_ ?_ _ _
      ⟨0, g0, tk0, #[], Nat.zero_le _, rfl, rfl, rfl, init, hs0.extBut _ _ S.TOz hTO, rfl⟩
    · rintro x rest b s' ⟨j, h', tk, items, hj, he, rfl, rfl, m, hT, hit⟩
      have h1 : (refsOf rs)[j]? = some x := by
        have : ((refsOf rs).drop j)[0]? = some x := by rw [← he]; rfl
        rw [List.getElem?_drop, Nat.add_zero] at this
        exact this
      have he' : rest = (refsOf rs).drop (j + 1) := by rw [← List.tail_drop, ← he]; rfl
      unfold refsOf at h1
      rw [List.getElem?_map] at h1
      cases hr : rs[j]? with
      | none => rw [hr] at h1; cases h1
      | some r =>
        rw [hr] at h1
        cases h1
        have hrm := List.mem_of_getElem? hr
        obtain ⟨ux, hux, hx⟩ := us_at hl hr (hu _ r hr)
        have sr := m.st _ r hr
        rw [if_neg (Nat.lt_irrefl _)] at sr
        refine wpAny_bind (wpAny_holding ?_)
        show wpAny _ _ (Builtin.SmallTypes.nextOf (.ref r.it) >>= _) _ _ ⟨h', g, d, tk, os⟩
        refine wpAny_bind (zip_draw S hh hrm sr hx fun h2 tk2 st2 sb2 => wpAny_pure (wpAny_pure ?_))
        refine ⟨j + 1, h2, tk2, _, (List.getElem?_eq_some_iff.mp hr).1, he', rfl, rfl, m.step S hr st2 sb2, sb2.extBut _ _ (S.iz r hrm).2.2.symm hT, ?_⟩
        rw [Array.toList_push, hit, List.take_succ, hux]
        rfl
    · rintro b s' ⟨j, h', tk, items, hj, he, rfl, rfl, m, hT, hit⟩
      have hjn : rs.length ≤ j := by
        have := congrArg List.length he
        rw [List.length_nil, List.length_drop, refs_len] at this
        omega
      have hus : items.toList = us := by rw [hit, List.take_of_length_le (by omega)]
      show wpAny _ _ (newTuple items.toList >>= _) _ _ ⟨h', g, d, tk, os⟩
      rw [hus]
      refine wpAny_bind (wpAny_newTuple (wpAny_pure ⟨_, rfl, ?_⟩) (by omega))
      have up : ∀ c o, h'.get? c = some o → (h'.push { cls := .type "tuple", data := .seq us.toArray }).get? c = some o := fun c o e => Heap.get?_push_of_some _ e
      have hT₈ : TupN (h'.push { cls := .type "tuple", data := .seq us.toArray }) h'.objs.size us.toArray := Heap.get?_push_size _ rfl
      have hz8 : (h'.push { cls := .type "tuple", data := .seq us.toArray }).objs.size = h'.objs.size + 1 := Heap.size_push ..
      show Q (.ref h'.objs.size) _
      have msz := m.sz
      rw [msz] at hT₈ hz8 ⊢
      exact hQ _ tk _ _ arr0 (up _ _ m.zn) hvT (up _ _ m.ti) (up _ _ hT) ha (fun k r hk => (mid_all hjn m k r hk).frame fun b _ o e => up b o e) hT₈ hz8 fun c o c1 c2 c3 e => up c o (m.kp c o c1 c2 c3 e)
theorem next_end {v : Value} {f : Bool} {i : Nat} {arr0 : Array Value} {Q : Fin → Shared → Prop} (S : SepN z TI TO rs) (hh : A.handled = none) (hz : ZN s.heap z TI TO v f) (hv : v = .none ∨ ∃ T : Addr, v = rawInt (T : Int)) (hTI : TupN s.heap TI (refsOf rs).toArray)
    (hTO : TupN s.heap TO arr0) (h0 : rs ≠ []) (st : ∀ (k : Nat) (r : Sr), rs[k]? = some r → StN i s.heap r ∧ r.its.size = i)
    (hE : ∀ h' e, Kp z TO rs s.heap h' → (∃ o, h'.get? e = some o ∧ o.cls = .type "StopIteration") → E (.ref e) { s with heap := h' }) : wpAny (model prog w) A (Builtin.«zip.__next__» ⟨[.ref z], []⟩) Q E s := by
  obtain ⟨hp, g, d, tk0, os⟩ := s
  cases rs with
  | nil => exact absurd rfl h0
  | cons r rs' =>
  have hrm : r ∈ r :: rs' := List.mem_cons_self ..
  obtain ⟨st0, hi⟩ := st 0 r rfl
  show wpAny _ _ (field (.ref z) 2 >>= _) _ _ _
  refine wpAny_bind (wpAny_field hz rfl (x := .bool false) rfl ?_); show wpAny _ _ (field (.ref z) 3 >>= _) _ _ _
  refine wpAny_bind (wpAny_field hz rfl (x := .ref TI) rfl (wpAny_bind (wpAny_seqItems hTI rfl ?_)))
  have hemp : (refsOf (r :: rs')).toArray.isEmpty = false := rfl
  simp only [hemp, Bool.false_eq_true, if_false]
  refine wpAny_bind (free_any hz hv ?_ fun hvT g0 hz0 hs0 => ?_)
  · simp only [if_true]
    refine wpAny_bind (wpAny_rule (wpAny_bind (wpAny_field hz rfl (x := .ref TO) rfl (wpAny_bind (wpAny_setField_rec hz (by simp) fun g0 hz0 hs0 => ?_)))))
    replace hz0 : ZN g0 z TI TO .ellipsis f := hz0
    replace hs0 : Heap.SameBut z hp g0 := hs0
    refine wpAny_bind ?_
    simp only [refsOf, List.map_cons, List.zipIdx_cons, List.forIn_cons]
    refine wpAny_bind (wpAny_bind (wpAny_onRaise ?_))
    show wpAny _ _ (Builtin.SmallTypes.nextOf (.ref r.it) >>= _) _ _ ⟨g0, g, d, tk0, os⟩
    refine wpAny_bind ((draws_s (prog := prog) (w := w) hh r.sd r.it r.a (S.az r hrm).2.2 r.its).done ⟨g0, g, d, tk0, os⟩ _ _ (by rw [hi]; exact st0.but hs0 (S.iz r hrm).1 (S.az r hrm).1) fun q e hq he => ?_)
    replace hq : Heap.ExtBut r.it g0 q := hq
    obtain ⟨oe, hoe, hce⟩ := he
    replace hoe : q.get? e = some oe := hoe
    have hzq : ZN q z TI TO .ellipsis f := hq _ _ (S.iz r hrm).1.symm hz0
    have hez : e ≠ z := fun x => by subst x; rw [hzq] at hoe; cases hoe; simp at hce
    refine wpAny_setField_rec (s := ⟨q, g, d, tk0, os⟩) hzq (by simp) fun q' _ hq' => ?_
    replace hq' : Heap.SameBut z q q' := hq'
    exact hE q' e (fun c o c1 _ c3 x => hq'.extBut _ _ c1 (hq _ _ (c3 r hrm) (hs0.extBut _ _ c1 x))) ⟨oe, hq'.extBut _ _ hez hoe, hce⟩
  · simp only [Bool.false_eq_true, if_false]
    refine wpAny_bind ?_
    rw [← Array.forIn_toList]
    replace hs0 : Heap.SameBut z hp g0 := hs0
    simp only [refsOf, List.map_cons, List.forIn_cons]
    refine wpAny_bind (wpAny_bind (wpAny_holding ?_))
    show wpAny _ _ (Builtin.SmallTypes.nextOf (.ref r.it) >>= _) _ _ ⟨g0, g, d, tk0, os⟩
    refine wpAny_bind ((draws_s (prog := prog) (w := w) hh r.sd r.it r.a (S.az r hrm).2.2 r.its).done ⟨g0, g, d, tk0, os⟩ _ _ (by rw [hi]; exact st0.but hs0 (S.iz r hrm).1 (S.az r hrm).1) fun q e hq he => ?_)
    exact hE q e (fun c o c1 _ c3 x => hq _ _ (c3 r hrm) (hs0.extBut _ _ c1 x)) he
theorem pyNext_item {v : Value} {f : Bool} {i : Nat} {us : List Value} {arr0 : Array Value} {Q : Option Value → Shared → Prop} (S : SepN z TI TO rs) (hh : A.in1.handled = none) (hz : ZN s.heap z TI TO v f) (hv : v = .none ∨ ∃ T : Addr, v = rawInt (T : Int)) (hTI : TupN s.heap TI (refsOf rs).toArray)
    (hTO : TupN s.heap TO arr0) (ha : arr0.size = rs.length) (h0 : rs ≠ []) (hn : rs.length ≤ sizeLine) (st : ∀ (k : Nat) (r : Sr), rs[k]? = some r → StN i s.heap r) (hl : us.length = rs.length) (hu : ∀ (k : Nat) (r : Sr), rs[k]? = some r → r.its[i]? = us[k]?)
    (hQ : ∀ h' tk v' f' arr', ZN h' z TI TO v' f' → (∃ T : Addr, v' = rawInt (T : Int)) → TupN h' TI (refsOf rs).toArray → TupN h' TO arr' → arr'.size = rs.length → (∀ (k : Nat) (r : Sr), rs[k]? = some r → StN (i + 1) h' r) → TupN h' s.heap.objs.size us.toArray → h'.objs.size = s.heap.objs.size + 1 →
      Kp z TO rs s.heap h' → Q (some (.ref s.heap.objs.size)) { s with heap := h', toks := tk }) : wpAny (model prog w) A (pyNext (.ref z)) Q E s := by
  have hT : s.TypeIs (.ref z) "zip" := ⟨_, hz, rfl⟩
  unfold pyNext
  exact wpAny_bind (wpAny_attempt (wpAny_callSpecial?_slot (name := Str.ofString "__next__") hT F.slot_zip_next
    (wpAny_call_entry F.slot_zip_next hT F.entry_zip_next (next_item S hh hz hv hTI hTO ha h0 hn st hl hu fun h' tk v' f' arr' y1 y2 y3 y4 y5 y6 y7 y8 y9 => wpAny_pure (hQ h' tk v' f' arr' y1 y2 y3 y4 y5 y6 y7 y8 y9)) (F.args_zip_next_1 _))))
theorem pyNext_end {v : Value} {f : Bool} {i : Nat} {arr0 : Array Value} {Q : Option Value → Shared → Prop} (S : SepN z TI TO rs) (hh : A.in1.handled = none) (hz : ZN s.heap z TI TO v f) (hv : v = .none ∨ ∃ T : Addr, v = rawInt (T : Int)) (hTI : TupN s.heap TI (refsOf rs).toArray)
    (hTO : TupN s.heap TO arr0) (h0 : rs ≠ []) (st : ∀ (k : Nat) (r : Sr), rs[k]? = some r → StN i s.heap r ∧ r.its.size = i)
    (hQ : ∀ h', Kp z TO rs s.heap h' → Q none { s with heap := h' }) : wpAny (model prog w) A (pyNext (.ref z)) Q E s := by
  have hT : s.TypeIs (.ref z) "zip" := ⟨_, hz, rfl⟩
  unfold pyNext
  refine wpAny_bind (wpAny_attempt (wpAny_callSpecial?_slot (name := Str.ofString "__next__") hT F.slot_zip_next
    (wpAny_call_entry F.slot_zip_next hT F.entry_zip_next (next_end S hh hz hv hTI hTO h0 st fun h' e hk he => ?_) (F.args_zip_next_1 _))))
  obtain ⟨o, ho, hc⟩ := he
  exact wpAny_bind (wpAny_isInstance (T := "StopIteration") (b := true) ⟨o, ho, hc⟩ isSubtype_stop (wpAny_pure (hQ _ hk)))
end
end Fw
end TFwZf
section TFwZg
set_option maxHeartbeats 2000000
namespace Fw
open PySem PySem.Spec PyProof.Rows L2
abbrev Q3 := Sd × Addr × Array Value
def pushAll (h : Heap) (qs : List Q3) : Heap := qs.foldl (fun h q => h.push (obS q.1 q.2.1)) h
def itsOf (n : Nat) (k : Nat) : List Value := (List.range k).map fun j => Value.ref (n + j)
abbrev argsOf (qs : List Q3) : List Value := qs.map fun q => Value.ref q.2.1
theorem pushAll_snoc (h : Heap) (qs : List Q3) (q : Q3) : pushAll h (qs ++ [q]) = (pushAll h qs).push (obS q.1 q.2.1) := by
  unfold pushAll; rw [List.foldl_append]; rfl
theorem pushAll_size : ∀ (qs : List Q3) (h : Heap), (pushAll h qs).objs.size = h.objs.size + qs.length
  | [], _ => rfl
  | q :: qs, h => by
    show (pushAll (h.push (obS q.1 q.2.1)) qs).objs.size = _
    rw [pushAll_size qs, Heap.size_push, List.length_cons]
    omega
theorem pushAll_keep : ∀ (qs : List Q3) (h : Heap) (c : Addr) (o : Obj), h.get? c = some o → (pushAll h qs).get? c = some o
  | [], _, _, _, e => e
  | q :: qs, h, c, o, e => pushAll_keep qs (h.push (obS q.1 q.2.1)) c o (Heap.get?_push_of_some _ e)
theorem obS_free (sd : Sd) (a : Addr) : (obS sd a).isFreed = false := by cases sd <;> rfl
theorem pushAll_at : ∀ (qs : List Q3) (h : Heap) (j : Nat) (q : Q3), qs[j]? = some q → (pushAll h qs).get? (h.objs.size + j) = some (obS q.1 q.2.1)
  | [], _, _, _, e => by simp at e
  | q :: qs, h, 0, _, e => by
    cases (show q = _ from Option.some.inj e)
    exact pushAll_keep qs _ _ _ (Heap.get?_push_size _ (obS_free ..))
  | q :: qs, h, j + 1, q', e => by
    have := pushAll_at qs (h.push (obS q.1 q.2.1)) j q' (by simpa using e)
    rw [Heap.size_push, show h.objs.size + 1 + j = h.objs.size + (j + 1) by omega] at this
    exact this
theorem itsOf_snoc (n k : Nat) : (itsOf n k).toArray.push (Value.ref (n + k)) = (itsOf n (k + 1)).toArray := by
  unfold itsOf
  rw [List.range_succ, List.map_append, List.push_toArray]
  rfl
theorem itsOf_len (n k : Nat) : (itsOf n k).length = k := by unfold itsOf; rw [List.length_map, List.length_range]
section
variable {prog : Program} {w : World}
theorem iterAll_n (qs : List Q3) {A : Around} {E : Value → Shared → Prop} {Q : List Value → Shared → Prop} {s : Shared} (h1 : ∀ q ∈ qs, AtS q.1 q.2.1 q.2.2 s.heap) (hQ : Q (itsOf s.heap.objs.size qs.length) { s with heap := pushAll s.heap qs }) :
    wpAny (model prog w) A (Builtin.SmallTypes.iterAll (argsOf qs)) Q E s := by
  unfold Builtin.SmallTypes.iterAll
  refine wpAny_bind (wpAny_forIn_list _ (fun rest b s' => ∃ j, j ≤ qs.length ∧ rest = (argsOf qs).drop j ∧ b = (itsOf s.heap.objs.size j).toArray ∧ s' = { s with heap := pushAll s.heap (qs.take j) }) _ ?_ ?_ _ _ ⟨0, Nat.zero_le _, rfl, rfl, rfl⟩)
  · rintro x rest b s' ⟨j, hj, he, rfl, rfl⟩
    have e1 : (argsOf qs)[j]? = some x := by
      have : ((argsOf qs).drop j)[0]? = some x := by rw [← he]; rfl
      rw [List.getElem?_drop, Nat.add_zero] at this
      exact this
    have he' : rest = (argsOf qs).drop (j + 1) := by rw [← List.tail_drop, ← he]; rfl
    rw [List.getElem?_map] at e1
    cases hq : qs[j]? with
    | none => rw [hq] at e1; cases e1
    | some q =>
      rw [hq] at e1
      cases e1
      have hlt := (List.getElem?_eq_some_iff.mp hq).1
      refine wpAny_bind (wpAny_holding ((begins_s q.1 q.2.1 q.2.2).iter prog w _ _ _ _ ((h1 q (List.mem_of_getElem? hq)).keep fun o e => pushAll_keep _ _ _ _ e) (wpAny_pure ?_)))
      refine ⟨j + 1, hlt, he', ?_, ?_⟩
      · show (itsOf s.heap.objs.size j).toArray.push (Value.ref (pushAll s.heap (qs.take j)).objs.size) = _
        rw [pushAll_size, List.length_take, Nat.min_eq_left hj, itsOf_snoc]
      · rw [List.take_succ, hq]
        show _ = { s with heap := pushAll s.heap (qs.take j ++ [q]) }
        rw [pushAll_snoc]
  · rintro b s' ⟨j, hj, he, rfl, rfl⟩
    have hjn : j = qs.length := by
      have := congrArg List.length he
      rw [List.length_nil, List.length_drop, List.length_map] at this
      omega
    subst hjn
    rw [List.take_length]
    exact wpAny_pure hQ
end
def zipH (h : Heap) (qs : List Q3) : Heap := (((pushAll h qs).push { cls := .type "tuple", data := .seq (itsOf h.objs.size qs.length).toArray }).push { cls := .type "tuple", data := .seq (List.replicate qs.length Value.none).toArray }).push
  { cls := .type "zip", data := .fields #[.none, .bool false, .bool false, .ref (h.objs.size + qs.length), .ref (h.objs.size + qs.length + 1)] }
theorem newClass_zip {prog : Program} {w : World} {A : Around} {E : Value → Shared → Prop} {Q : Value × List Value → Shared → Prop} {s : Shared} {rest : List Value} (h : Q (.type "zip", rest) s) : wpAny (model prog w) A (Builtin.SmallTypes.newClass "zip" ⟨.type "zip" :: rest, []⟩) Q E s := by
  obtain ⟨hp, g, d, tk, os⟩ := s
  have hsub := sub_zip
  unfold Builtin.SmallTypes.newClass
  repeat (any_goals (first | assumption | wp_step))
theorem meets_zipN (qs : List Q3) (hn : qs.length ≤ 1000) : Meets (Builtin.«zip.__new__» ⟨.type "zip" :: argsOf qs, []⟩) (fun _ R s => (∀ q ∈ qs, AtS q.1 q.2.1 q.2.2 s.heap) ∧
      R (.ok (.ret (.ref (s.heap.objs.size + qs.length + 2)))) { s with heap := zipH s.heap qs }) :=
  .of_wp fun prog w A R s h => by
    obtain ⟨hp, g, d, tk, os⟩ := s; obtain ⟨h1, h⟩ := h
    have sz : (1000 : Nat) ≤ sizeLine := by decide
    unfold Builtin.«zip.__new__»
    refine wpAny_bind (newClass_zip ?_)
    show wpAny _ _ (Builtin.SmallTypes.iterAll (argsOf qs) >>= _) _ _ _
    refine wpAny_bind (iterAll_n qs h1 ?_)
    refine wpAny_bind (wpAny_newTuple (wpAny_bind (wpAny_newTuple ?_ ?_)) ?_)
    · rw [List.map_const', itsOf_len]
      refine wpAny_bind ?_
      unfold Builtin.SmallTypes.newRecord
      refine wpAny_newObj_type ?_ (by unfold sizeOk; dsimp only; simp only [Builtin.SmallTypes.ownedTupleFields, List.cons_append, List.nil_append, List.size_toArray, List.length_cons, List.length_nil]; omega)
      have e1 : (pushAll hp qs).objs.size = hp.objs.size + qs.length := pushAll_size ..
      show wpAny _ _ (ret _) _ _ _
      refine wpAny_pure ⟨_, rfl, ?_⟩
      unfold zipH at h
      simp only [Heap.size_push, e1] at h ⊢
      exact h
    · rw [List.length_map, itsOf_len]; omega
    · rw [itsOf_len]; omega
theorem zip_typeCall (vs : List Value) : checkTypeCall "zip" ⟨vs, []⟩ = pure () := by kernel_rfl
theorem zip_init (obj : Value) (vs : List Value) : argsOk "object.__init__" ⟨obj :: vs, []⟩ := by unfold argsOk; kernel_rfl
end Fw
end TFwZg
section TFwZh
set_option maxHeartbeats 2000000
namespace Fw
open PySem PySem.Spec PyProof.Rows L2
def keyS (r : Sr) : Sd × Addr × Addr := (r.sd, r.it, r.a)
theorem key_mem {rs bs : List Sr} (e : rs.map keyS = bs.map keyS) {r : Sr} (h : r ∈ rs) : ∃ b ∈ bs, b.sd = r.sd ∧ b.it = r.it ∧ b.a = r.a := by
  have : keyS r ∈ bs.map keyS := by rw [← e]; exact List.mem_map_of_mem h
  obtain ⟨b, hb, q⟩ := List.mem_map.mp this
  unfold keyS at q
  obtain ⟨q1, q2⟩ := Prod.mk.inj q
  obtain ⟨q2, q3⟩ := Prod.mk.inj q2
  exact ⟨b, hb, q1, q2, q3⟩
theorem key_its {rs bs : List Sr} (e : rs.map keyS = bs.map keyS) : rs.map (·.it) = bs.map (·.it) := by
  have : (rs.map keyS).map (fun k => k.2.1) = (bs.map keyS).map (fun k => k.2.1) := by rw [e]
  rwa [List.map_map, List.map_map] at this
theorem SepN.key {z TI TO : Addr} {rs bs : List Sr} (S : SepN z TI TO bs) (e : rs.map keyS = bs.map keyS) : SepN z TI TO rs :=
  ⟨S.TIz, S.TOz, S.TITO, fun r h => by obtain ⟨b, hb, _, q2, _⟩ := key_mem e h; rw [← q2]; exact S.iz b hb,
    fun r h => by obtain ⟨b, hb, _, q2, q3⟩ := key_mem e h; rw [← q2, ← q3]; exact S.az b hb,
    fun r h q hq => by
      obtain ⟨b, hb, _, q2, _⟩ := key_mem e h
      obtain ⟨c, hc, _, _, q3⟩ := key_mem e hq
      rw [← q2, ← q3]
      exact S.ia b hb c hc,
    by rw [key_its e]; exact S.nd⟩
theorem refs_key {rs bs : List Sr} (e : rs.map keyS = bs.map keyS) : refsOf rs = refsOf bs := by
  unfold refsOf
  have h := key_its e
  have : (rs.map (·.it)).map Value.ref = (bs.map (·.it)).map Value.ref := by rw [h]
  rwa [List.map_map, List.map_map] at this
theorem key_at {rs bs : List Sr} (e : rs.map keyS = bs.map keyS) {k : Nat} {r : Sr} (h : rs[k]? = some r) : ∃ b, bs[k]? = some b ∧ b.sd = r.sd ∧ b.it = r.it ∧ b.a = r.a := by
  have : (bs.map keyS)[k]? = some (keyS r) := by rw [← e, List.getElem?_map, h]; rfl
  rw [List.getElem?_map] at this
  cases q : bs[k]? with
  | none => rw [q] at this; cases this
  | some b =>
    rw [q] at this
    have q := Option.some.inj this
    unfold keyS at q
    obtain ⟨q1, q2⟩ := Prod.mk.inj q
    obtain ⟨q2, q3⟩ := Prod.mk.inj q2
    exact ⟨b, rfl, q1, q2, q3⟩
theorem key_len {rs bs : List Sr} (e : rs.map keyS = bs.map keyS) : rs.length = bs.length := by
  have := congrArg List.length e
  rwa [List.length_map, List.length_map] at this
def Sqs (K : PySem.W.Frag) (H : Hp) (bs : List Sr) (xss : List (List V)) : Prop := xss.length = bs.length ∧ ∀ (k : Nat) (b : Sr) (xs : List V), bs[k]? = some b → xss[k]? = some xs → SqS b.sd K H b.a xs
/-- the rows' items side by side, in new tuples -/
def ItzN (K : PySem.W.Frag) (bs : List Sr) : It :=
  ⟨fun i H => ∃ (xss : List (List V)) (ys : List V), Sqs K H bs xss ∧ ys.length = bs.length ∧ ∀ (k : Nat) (xs : List V), xss[k]? = some xs → xs[i]? = ys[k]?,
    fun i H v H' => ∃ (T : Addr) (ys : List V) (o : Obj), o.dict = none ∧ v = .ref T ∧ H T = none ∧ H' = upd H T (.frz o (.tup ys)) ∧ ys.length = bs.length ∧ ∀ xss, Sqs K H bs xss → ∀ (k : Nat) (xs : List V), xss[k]? = some xs → xs[i]? = ys[k]?,
    fun i H => ∃ xss : List (List V), Sqs K H bs xss ∧ ∀ (k : Nat) (xs : List V), xss[k]? = some xs → xs.length = i⟩
section
variable {X : Cx} {pins : List (Addr × Obj)} {σ : L2.St} {H : Hp} {s : Shared}
theorem Sqs.tail {K : PySem.W.Frag} {b : Sr} {bs : List Sr} {xs : List V} {xss : List (List V)} (h : Sqs K H (b :: bs) (xs :: xss)) : SqS b.sd K H b.a xs ∧ Sqs K H bs xss :=
  ⟨h.2 0 b xs rfl rfl, by have := h.1; simpa using this, fun k c ys h1 h2 => h.2 (k + 1) c ys (by simpa using h1) (by simpa using h2)⟩
theorem rows_item (I : Inv X pins σ H s) {i : Nat} : ∀ (bs : List Sr) (xss : List (List V)) (ys : List V), Sqs X.K H bs xss → ys.length = bs.length → (∀ (k : Nat) (xs : List V), xss[k]? = some xs → xs[i]? = ys[k]?) →
    ∃ (rs : List Sr) (us : List Value), rs.map keyS = bs.map keyS ∧ us.length = bs.length ∧ Vals ys us ∧ ∀ (k : Nat) (r : Sr), rs[k]? = some r → AtS r.sd r.a r.its s.heap ∧ r.its[i]? = us[k]?
  | [], _, [], _, _, _ => ⟨[], [], rfl, rfl, .nil, fun k r h => by simp at h⟩
  | [], _, _ :: _, _, h, _ => by simp at h
  | _ :: _, _, [], _, h, _ => by simp at h
  | b :: bs, [], y :: ys, h, _, _ => by have := h.1; simp at this
  | b :: bs, xs :: xss, y :: ys, h, hl, hy => by
    obtain ⟨h1, h2⟩ := h.tail
    obtain ⟨its, rv, p, _⟩ := seq_s I b.sd h1
    have hy0 : xs[i]? = some y := hy 0 xs rfl
    obtain ⟨u, hu, ru⟩ := rv.get hy0
    obtain ⟨rs, us, e1, e2, e3, e4⟩ := rows_item I bs xss ys h2 (by simpa using hl) (fun k zs hz => by simpa using hy (k + 1) zs (by simpa using hz))
    refine ⟨⟨b.sd, b.it, b.a, its.toArray⟩ :: rs, u :: us, by rw [List.map_cons, List.map_cons, e1]; rfl, by rw [List.length_cons, List.length_cons, e2], .cons ru e3, fun k r hr => ?_⟩
    cases k with
    | zero =>
      cases (show _ = r from Option.some.inj hr)
      exact ⟨p, by show its.toArray[i]? = some u; rw [List.getElem?_toArray, hu]⟩
    | succ k =>
      obtain ⟨g1, g2⟩ := e4 k r (by simpa using hr)
      exact ⟨g1, by simpa using g2⟩
theorem rows_end (I : Inv X pins σ H s) {i : Nat} : ∀ (bs : List Sr) (xss : List (List V)), Sqs X.K H bs xss → (∀ (k : Nat) (xs : List V), xss[k]? = some xs → xs.length = i) →
    ∃ rs : List Sr, rs.map keyS = bs.map keyS ∧ ∀ (k : Nat) (r : Sr), rs[k]? = some r → AtS r.sd r.a r.its s.heap ∧ r.its.size = i
  | [], _, _, _ => ⟨[], rfl, fun k r h => by simp at h⟩
  | b :: bs, [], h, _ => by have := h.1; simp at this
  | b :: bs, xs :: xss, h, hy => by
    obtain ⟨h1, h2⟩ := h.tail
    obtain ⟨its, rv, p, _⟩ := seq_s I b.sd h1
    obtain ⟨rs, e1, e4⟩ := rows_end I bs xss h2 (fun k zs hz => hy (k + 1) zs (by simpa using hz))
    refine ⟨⟨b.sd, b.it, b.a, its.toArray⟩ :: rs, by rw [List.map_cons, List.map_cons, e1]; rfl, fun k r hr => ?_⟩
    cases k with
    | zero =>
      cases (show _ = r from Option.some.inj hr)
      exact ⟨p, by show its.toArray.size = i; rw [List.size_toArray, ← rv.length]; exact hy 0 xs rfl⟩
    | succ k => exact e4 k r (by simpa using hr)
theorem Sqs.inj (I : Inv X pins σ H s) : ∀ {bs : List Sr} {xss yss : List (List V)}, Sqs X.K H bs xss → Sqs X.K H bs yss → xss = yss
  | [], xss, yss, h1, h2 => by rw [List.length_eq_zero_iff.mp h1.1, List.length_eq_zero_iff.mp h2.1]
  | b :: bs, [], _, h1, _ => by have := h1.1; simp at this
  | b :: bs, _, [], _, h1 => by have := h1.1; simp at this
  | b :: bs, xs :: xss, ys :: yss, h1, h2 => by
    obtain ⟨a1, a2⟩ := h1.tail
    obtain ⟨b1, b2⟩ := h2.tail
    rw [seq_inj I b.sd a1 b1, Sqs.inj I a2 b2]
end
def tnN (z TI TO : Addr) (bs : List Sr) (i : Nat) (h : Heap) : Prop :=
  (∃ v f, ZN h z TI TO v f ∧ (v = .none ∨ ∃ T : Addr, v = rawInt (T : Int))) ∧ TupN h TI (refsOf bs).toArray ∧ (∃ arr, TupN h TO arr ∧ arr.size = bs.length) ∧ ∀ (k : Nat) (b : Sr), bs[k]? = some b → ItS b.sd h b.it b.a i
abbrev fpN (z TI TO : Addr) (bs : List Sr) : List Addr := z :: TI :: TO :: bs.map (·.it)
theorem fp_cases {z TI TO : Addr} {bs : List Sr} {c : Addr} (h : c ∈ fpN z TI TO bs) : c = z ∨ c = TI ∨ c = TO ∨ ∃ (k : Nat) (b : Sr), bs[k]? = some b ∧ c = b.it := by
  rcases List.mem_cons.mp h with rfl | h
  · exact .inl rfl
  rcases List.mem_cons.mp h with rfl | h
  · exact .inr (.inl rfl)
  rcases List.mem_cons.mp h with rfl | h
  · exact .inr (.inr (.inl rfl))
  obtain ⟨b, hb, rfl⟩ := List.mem_map.mp h
  obtain ⟨k, hk⟩ := List.mem_iff_getElem?.mp hb
  exact .inr (.inr (.inr ⟨k, b, hk, rfl⟩))
theorem turn_zipN {P : Program} {w : World} {K : PySem.W.Frag} {x : Str} {p : Pos} {z TI TO : Addr} {bs : List Sr} (S : SepN z TI TO bs) (h0 : bs ≠ []) (hn : bs.length ≤ 1000) : Turn P w K (.Name x p) (ItzN K bs) (fpN z TI TO bs) z (tnN z TI TO bs) where
  mem := by simp
  obj := fun i h st c hc => by
    obtain ⟨⟨v, f, hz, _⟩, hTI, ⟨arr, hTO, _⟩, hit⟩ := st
    rcases fp_cases hc with rfl | rfl | rfl | ⟨k, b, hk, rfl⟩
    · exact ⟨_, hz, fun v q => nomatch q⟩
    · exact ⟨_, hTI, fun v q => nomatch q⟩
    · exact ⟨_, hTO, fun v q => nomatch q⟩
    · exact (hit k b hk).obj
  keep := fun i h h' st k => by
    obtain ⟨⟨v, f, hz, hv⟩, hTI, ⟨arr, hTO, ha⟩, hit⟩ := st
    exact ⟨⟨v, f, k z (by simp) _ hz, hv⟩, k TI (by simp) _ hTI, ⟨arr, k TO (by simp) _ hTO, ha⟩, fun j b hb => (hit j b hb).keep fun o q => k b.it (by simp [List.mem_map]; exact .inr (.inr (.inr ⟨b, List.mem_of_getElem? hb, rfl⟩))) o q⟩
  item := by
    intro X hP hw hK hc i pins s σ H E I hf st hg
    subst hP hw hK
    obtain ⟨⟨v, f, hz, hv⟩, hTI, ⟨arr, hTO, ha⟩, hit⟩ := st
    obtain ⟨xss, ys, hsq, hyl, hys⟩ := hg
    obtain ⟨rs, us, e1, e2, e3, e4⟩ := rows_item I bs xss ys hsq hyl hys
    have hzl : z < s.heap.objs.size := Heap.lt_size hz
    have sz : (1000 : Nat) ≤ sizeLine := by decide
    have S' := S.key e1
    have lr := key_len e1
    have rk := refs_key e1
    have hh : X.A.in1.handled = none := I.ok.hd hc
    refine pyNext_item S' hh hz hv (by rw [rk]; exact hTI) hTO (by omega) (fun e => h0 (List.length_eq_zero_iff.mp (by rw [← lr, e]; rfl))) (by omega) (us := us) (i := i) (fun k r hr => ?_) (by omega) (fun k r hr => (e4 k r hr).2) fun h' tk v' f' arr' y1 y2 y3 y4 y5 y6 y7 y8 y9 => ?_
    · obtain ⟨b, hb, q1, q2, q3⟩ := key_at e1 hr
      refine ⟨?_, (e4 k r hr).1⟩
      rw [← q1, ← q2, ← q3]
      exact hit k b hb
    have new : ObjOk X.prog X.w (upd H s.heap.objs.size (.frz { cls := .type "tuple", data := .seq us.toArray } (.tup ys))) h' s.heap.objs.size (.frz { cls := .type "tuple", data := .seq us.toArray } (.tup ys)) :=
      ⟨y7, by show ys.length ≤ sizeLine; omega, us, e3, ⟨_, y7, rfl, _, rfl⟩⟩
    have kp : ∀ c o, c ∉ fpN z TI TO bs → s.heap.get? c = some o → h'.get? c = some o := fun c o hc e => y9 c o (fun q => hc (by simp [q])) (fun q => hc (by simp [q])) (fun r hr q => hc (by
      obtain ⟨b, hb, _, q2, _⟩ := key_mem e1 hr
      exact List.mem_cons_of_mem _ (List.mem_cons_of_mem _ (List.mem_cons_of_mem _ (List.mem_map.mpr ⟨b, hb, by rw [q2, q]⟩))))) e
    have I1 : Inv X pins σ (upd H s.heap.objs.size (.frz { cls := .type "tuple", data := .seq us.toArray } (.tup ys))) { s with heap := h', toks := tk } := I.turnedNew (t' := tk) kp hf (Nat.le_refl _) new
    refine ⟨_, rfl, wpAny_pure ⟨.ref s.heap.objs.size, _, I1, rfl, ⟨_, ys, _, rfl, rfl, I.hok.fresh (Nat.le_refl _), rfl, hyl, fun yss hyss => by rw [hyss.inj I hsq]; exact hys⟩, ⟨⟨v', f', y1, .inr y2⟩, by rw [← rk]; exact y3, ⟨arr', y4, by omega⟩, fun k b hb => ?_⟩, fun c hcm => ?_⟩⟩
    · obtain ⟨r, hr, q1, q2, q3⟩ := key_at e1.symm hb
      have := (y6 k r hr).1
      rw [q1, q2, q3] at this
      exact this
    · have hlt : c < s.heap.objs.size := by
        rcases fp_cases hcm with rfl | rfl | rfl | ⟨k, b, hk, rfl⟩
        · exact hzl
        · exact Heap.lt_size hTI
        · exact Heap.lt_size hTO
        · obtain ⟨_, q, _⟩ := (hit k b hk).obj; exact Heap.lt_size q
      rw [upd_ne (Nat.ne_of_lt hlt)]
      exact (hf c hcm).1
  done := by
    intro X hP hw hK hc i pins s σ H E I hf st hg
    subst hP hw hK
    obtain ⟨⟨v, f, hz, hv⟩, hTI, ⟨arr, hTO, ha⟩, hit⟩ := st
    obtain ⟨xss, hsq, hys⟩ := hg
    obtain ⟨rs, e1, e4⟩ := rows_end I bs xss hsq hys
    have lr := key_len e1
    have rk := refs_key e1
    have hh : X.A.in1.handled = none := I.ok.hd hc
    refine pyNext_end (S.key e1) hh hz hv (by rw [rk]; exact hTI) hTO (fun e => h0 (List.length_eq_zero_iff.mp (by rw [← lr, e]; rfl))) (i := i) (fun k r hr => ?_) fun h' y9 => ⟨rfl, I.turnedL (t' := s.toks) (ch := fpN z TI TO bs) (fun c o hc e => y9 c o (fun q => hc (by simp [q])) (fun q => hc (by simp [q])) (fun r hr q => hc (by
      obtain ⟨b, hb, _, q2, _⟩ := key_mem e1 hr
      exact List.mem_cons_of_mem _ (List.mem_cons_of_mem _ (List.mem_cons_of_mem _ (List.mem_map.mpr ⟨b, hb, by rw [q2, q]⟩))))) e) hf⟩
    obtain ⟨b, hb, q1, q2, q3⟩ := key_at e1 hr
    refine ⟨⟨?_, (e4 k r hr).1⟩, (e4 k r hr).2⟩
    rw [← q1, ← q2, ← q3]
    exact hit k b hb
  self := fun A i s Q E st h => by
    obtain ⟨⟨v, f, hz, hv⟩, _⟩ := st
    have hT : s.TypeIs (.ref z) "zip" := ⟨_, hz, rfl⟩
    refine wpAny_pyIter_slot hT F.slot_zip_iter (wpAny_call_entry F.slot_zip_iter hT F.entry_zip_iter ?_ (F.args_zip_iter_1 _))
    exact wpAny_pure ⟨_, rfl, "zip", _, hT, F.slot_zip_next.lookup, h⟩
end Fw
end TFwZh
section TFwZi
set_option maxHeartbeats 2000000
namespace Fw
open PySem PySem.Spec PyProof.Rows L2
theorem zip_newCall (vs : List Value) (h : vs.length ≤ 20) : checkBuiltinCall "zip.__new__" ⟨.type "zip" :: vs, []⟩ = pure () :=
  match vs, h with
  | [], _ => by kernel_rfl
  | [_], _ => by kernel_rfl
  | [_, _], _ => by kernel_rfl
  | [_, _, _], _ => by kernel_rfl
  | [_, _, _, _], _ => by kernel_rfl
  | [_, _, _, _, _], _ => by kernel_rfl
  | [_, _, _, _, _, _], _ => by kernel_rfl
  | [_, _, _, _, _, _, _], _ => by kernel_rfl
  | [_, _, _, _, _, _, _, _], _ => by kernel_rfl
  | [_, _, _, _, _, _, _, _, _], _ => by kernel_rfl
  | [_, _, _, _, _, _, _, _, _, _], _ => by kernel_rfl
  | [_, _, _, _, _, _, _, _, _, _, _], _ => by kernel_rfl
  | [_, _, _, _, _, _, _, _, _, _, _, _], _ => by kernel_rfl
  | [_, _, _, _, _, _, _, _, _, _, _, _, _], _ => by kernel_rfl
  | [_, _, _, _, _, _, _, _, _, _, _, _, _, _], _ => by kernel_rfl
  | [_, _, _, _, _, _, _, _, _, _, _, _, _, _, _], _ => by kernel_rfl
  | [_, _, _, _, _, _, _, _, _, _, _, _, _, _, _, _], _ => by kernel_rfl
  | [_, _, _, _, _, _, _, _, _, _, _, _, _, _, _, _, _], _ => by kernel_rfl
  | [_, _, _, _, _, _, _, _, _, _, _, _, _, _, _, _, _, _], _ => by kernel_rfl
  | [_, _, _, _, _, _, _, _, _, _, _, _, _, _, _, _, _, _, _], _ => by kernel_rfl
  | [_, _, _, _, _, _, _, _, _, _, _, _, _, _, _, _, _, _, _, _], _ => by kernel_rfl
  | _ :: _ :: _ :: _ :: _ :: _ :: _ :: _ :: _ :: _ :: _ :: _ :: _ :: _ :: _ :: _ :: _ :: _ :: _ :: _ :: _ :: _, h => absurd h (by simp only [List.length_cons]; omega)
def mkBs (n : Nat) (qs : List (Sd × Addr)) : List Sr := qs.mapIdx fun j q => ⟨q.1, n + j, q.2, #[]⟩
theorem mkBs_len (n : Nat) (qs : List (Sd × Addr)) : (mkBs n qs).length = qs.length := List.length_mapIdx
theorem mkBs_at {n : Nat} {qs : List (Sd × Addr)} {k : Nat} {b : Sr} (h : (mkBs n qs)[k]? = some b) : ∃ q, qs[k]? = some q ∧ b = ⟨q.1, n + k, q.2, #[]⟩ := by
  unfold mkBs at h
  rw [List.getElem?_mapIdx] at h
  cases e : qs[k]? with
  | none => rw [e] at h; cases h
  | some q => rw [e] at h; exact ⟨q, rfl, (Option.some.inj h).symm⟩
theorem mkBs_mem {n : Nat} {qs : List (Sd × Addr)} {b : Sr} (h : b ∈ mkBs n qs) : ∃ k q, qs[k]? = some q ∧ k < qs.length ∧ b = ⟨q.1, n + k, q.2, #[]⟩ := by
  obtain ⟨k, hk⟩ := List.mem_iff_getElem?.mp h
  obtain ⟨q, h1, h2⟩ := mkBs_at hk
  exact ⟨k, q, h1, (List.getElem?_eq_some_iff.mp h1).1, h2⟩
theorem mkBs_its (n : Nat) (qs : List (Sd × Addr)) : (mkBs n qs).map (·.it) = (List.range qs.length).map fun j => n + j := by
  refine List.ext_getElem? fun k => ?_
  rw [List.getElem?_map, List.getElem?_map]
  unfold mkBs
  rw [List.getElem?_mapIdx]
  rcases Nat.lt_or_ge k qs.length with h | h
  · rw [List.getElem?_range h, List.getElem?_eq_getElem h]
    rfl
  · rw [List.getElem?_eq_none (by omega), List.getElem?_eq_none (by rw [List.length_range]; omega)]
    rfl
theorem mkBs_refs (n : Nat) (qs : List (Sd × Addr)) : refsOf (mkBs n qs) = itsOf n qs.length := by
  unfold refsOf itsOf
  have h := congrArg (List.map Value.ref) (mkBs_its n qs)
  rw [List.map_map, List.map_map] at h
  exact h
theorem mkBs_sep {n : Nat} {qs : List (Sd × Addr)} (h : ∀ q ∈ qs, q.2 < n) : SepN (n + qs.length + 2) (n + qs.length) (n + qs.length + 1) (mkBs n qs) where
  TIz := fun e => absurd (show n + qs.length = n + qs.length + 2 from e) (by omega)
  TOz := fun e => absurd (show n + qs.length + 1 = n + qs.length + 2 from e) (by omega)
  TITO := fun e => absurd (show n + qs.length = n + qs.length + 1 from e) (by omega)
  iz := fun r hr => by
    obtain ⟨k, q, h1, h2, rfl⟩ := mkBs_mem hr
    exact ⟨fun e => absurd (show n + k = n + qs.length + 2 from e) (by omega), fun e => absurd (show n + k = n + qs.length from e) (by omega), fun e => absurd (show n + k = n + qs.length + 1 from e) (by omega)⟩
  az := fun r hr => by
    obtain ⟨k, q, h1, h2, rfl⟩ := mkBs_mem hr
    have hq : (show Nat from q.2) < n := h q (List.mem_of_getElem? h1)
    exact ⟨fun e => absurd (show (show Nat from q.2) = n + qs.length + 2 from e) (by omega), fun e => absurd (show (show Nat from q.2) = n + qs.length + 1 from e) (by omega), fun e => absurd (show (show Nat from q.2) = n + k from e) (by omega)⟩
  ia := fun r hr r' hr' => by
    obtain ⟨k, q, h1, h2, rfl⟩ := mkBs_mem hr
    obtain ⟨k', q', h1', h2', rfl⟩ := mkBs_mem hr'
    have hq : (show Nat from q'.2) < n := h q' (List.mem_of_getElem? h1')
    exact fun e => absurd (show n + k = (show Nat from q'.2) from e) (by omega)
  nd := by
    rw [mkBs_its]
    exact List.Pairwise.map (fun j => n + j) (fun a b (hab : a ≠ b) e => hab (by have e : n + a = n + b := e; omega)) List.nodup_range
section
variable {prog : Program} {w : World} {A : Around} {E : Value → Shared → Prop} {s : Shared}
theorem call_zipN {qs : List Q3} {Q : Value → Shared → Prop} (hn : qs.length ≤ 20) (h1 : ∀ q ∈ qs, AtS q.1 q.2.1 q.2.2 s.heap)
    (h : ∀ h', ZN h' (s.heap.objs.size + qs.length + 2) (s.heap.objs.size + qs.length) (s.heap.objs.size + qs.length + 1) .none false → TupN h' (s.heap.objs.size + qs.length) (itsOf s.heap.objs.size qs.length).toArray →
      TupN h' (s.heap.objs.size + qs.length + 1) (List.replicate qs.length Value.none).toArray → (∀ (j : Nat) (q : Q3), qs[j]? = some q → h'.get? (s.heap.objs.size + j) = some (obS q.1 q.2.1)) → (∀ c o, s.heap.get? c = some o → h'.get? c = some o) →
      Q (.ref (s.heap.objs.size + qs.length + 2)) { s with heap := h' }) : wpAny (model prog w) A (call (.type "zip") (argsOf qs)) Q E s := by
  refine callType_new F.called_zip (by decide) (zip_typeCall _) (zip_newCall _ (by rw [List.length_map]; exact hn)) (fun obj => zip_init obj _) F.entry_zip_new (meets_zipN qs (by omega)) ⟨h1, ?_⟩
  have e1 : (pushAll s.heap qs).objs.size = s.heap.objs.size + qs.length := pushAll_size ..
  have up : ∀ c o, (pushAll s.heap qs).get? c = some o → (zipH s.heap qs).get? c = some o := fun c o e => Heap.get?_push_of_some _ (Heap.get?_push_of_some _ (Heap.get?_push_of_some _ e))
  have g1 : TupN (zipH s.heap qs) (s.heap.objs.size + qs.length) (itsOf s.heap.objs.size qs.length).toArray := by
    have : ((pushAll s.heap qs).push { cls := .type "tuple", data := .seq (itsOf s.heap.objs.size qs.length).toArray }).get? (pushAll s.heap qs).objs.size = some { cls := .type "tuple", data := .seq (itsOf s.heap.objs.size qs.length).toArray } := Heap.get?_push_size _ rfl
    rw [e1] at this
    exact Heap.get?_push_of_some _ (Heap.get?_push_of_some _ this)
  have g2 : TupN (zipH s.heap qs) (s.heap.objs.size + qs.length + 1) (List.replicate qs.length Value.none).toArray := by
    have : (((pushAll s.heap qs).push { cls := .type "tuple", data := .seq (itsOf s.heap.objs.size qs.length).toArray }).push { cls := .type "tuple", data := .seq (List.replicate qs.length Value.none).toArray }).get? ((pushAll s.heap qs).push { cls := .type "tuple", data := .seq (itsOf s.heap.objs.size qs.length).toArray }).objs.size = some { cls := .type "tuple", data := .seq (List.replicate qs.length Value.none).toArray } := Heap.get?_push_size _ rfl
    rw [Heap.size_push, e1] at this
    exact Heap.get?_push_of_some _ this
  have g3 : ZN (zipH s.heap qs) (s.heap.objs.size + qs.length + 2) (s.heap.objs.size + qs.length) (s.heap.objs.size + qs.length + 1) .none false := by
    have : (zipH s.heap qs).get? (((pushAll s.heap qs).push { cls := .type "tuple", data := .seq (itsOf s.heap.objs.size qs.length).toArray }).push { cls := .type "tuple", data := .seq (List.replicate qs.length Value.none).toArray }).objs.size = some { cls := .type "zip", data := .fields #[.none, .bool false, .bool false, .ref (s.heap.objs.size + qs.length), .ref (s.heap.objs.size + qs.length + 1)] } := Heap.get?_push_size _ rfl
    rw [Heap.size_push, Heap.size_push, e1] at this
    exact this
  show _ ∧ _
  exact ⟨⟨_, g3, rfl⟩, h _ g3 g1 g2 (fun j q hq => up _ _ (pushAll_at qs s.heap j q hq)) fun c o e => up _ _ (pushAll_keep qs _ _ _ e)⟩
end
def Row (K : PySem.W.Frag) (H : Hp) (qs : List (Sd × Addr)) (xss : List (List V)) : Prop := xss.length = qs.length ∧ ∀ (k : Nat) (q : Sd × Addr) (xs : List V), qs[k]? = some q → xss[k]? = some xs → SqS q.1 K H q.2 xs
def iZipN (K : PySem.W.Frag) (te : TE) : TI := fun σ H R => te σ H fun y H1 => ∃ (a : Addr) (qs : List (Sd × Addr)) (xss : List (List V)), y = .ref a ∧ (SqT K H1 a (qs.map fun q => V.ref q.2) ∨ SqL K H1 a (qs.map fun q => V.ref q.2)) ∧ qs ≠ [] ∧ qs.length ≤ 20 ∧ Row K H1 qs xss ∧ ∀ n, R (ItzN K (mkBs n qs)) H1
section
variable {X : Cx} {pins : List (Addr × Obj)} {σ : L2.St} {H : Hp} {s : Shared}
theorem rows_at (I : Inv X pins σ H s) : ∀ (qs : List (Sd × Addr)) (xss : List (List V)), Row X.K H qs xss → ∃ q3 : List Q3, q3.length = qs.length ∧ (∀ (k : Nat) (q : Q3), q3[k]? = some q → qs[k]? = some (q.1, q.2.1)) ∧ (∀ q ∈ q3, AtS q.1 q.2.1 q.2.2 s.heap) ∧ ∀ q ∈ qs, q.2 < s.heap.objs.size
  | [], _, _ => ⟨[], rfl, (fun k q h => by simp at h), (fun q h => nomatch h), (fun q h => nomatch h)⟩
  | q :: qs, [], h => by have := h.1; simp at this
  | q :: qs, xs :: xss, h => by
    obtain ⟨its, rv, p, lt⟩ := seq_s I q.1 (h.2 0 q xs rfl rfl)
    obtain ⟨q3, e1, e2, e3, e4⟩ := rows_at I qs xss ⟨by have := h.1; simpa using this, fun k c ys h1 h2 => h.2 (k + 1) c ys (by simpa using h1) (by simpa using h2)⟩
    refine ⟨(q.1, q.2, its.toArray) :: q3, by rw [List.length_cons, List.length_cons, e1], fun k c hc => ?_, fun c hc => ?_, fun c hc => ?_⟩
    · cases k with
      | zero => cases (show _ = c from Option.some.inj hc); rfl
      | succ k => simpa using e2 k c (by simpa using hc)
    · rcases List.mem_cons.mp hc with rfl | hc
      · exact p
      · exact e3 c hc
    · rcases List.mem_cons.mp hc with rfl | hc
      · exact lt
      · exact e4 c hc
theorem callWith_typeS {M : Model} {A : Around} {E : Value → Shared → Prop} {s : Shared} {env : PySem.Env} {pos p : Pos} {T : String} {Q : Value → Shared → Prop} {e : Expr} (h : wpAny M A (eval e env) (fun v s₁ => PySem.W.StarOf M A E v (fun vs s₂ => True ∧ wpAny M A (call (.type T) ([] ++ vs)) Q E s₂) s₁) E s)
    (he : starEach [.Starred e p] env = [(true, eval e env)]) : wpAny M A (callWith pos (.type T) [] (backTo pos (starEach [.Starred e p] env)) []) Q E s := by
  rw [he]
  exact PySem.W.ks_call (P := fun _ => True) rfl (fun h _ => ⟨.machine, .inr (.inl rfl), .now⟩) (PySem.W.ks_lone h)
theorem pi_zipN {e : Expr} {te : TE} {x : Str} {xp p sp pos : Pos} (hg : Gl X "zip") (hm : X.mg "zip" = none) (he : PE X e te) (hst : starEach [.Starred e sp] X.env = [(true, eval e X.env)]) :
    PI X (.Name x xp) (.Call (.Name "zip" p) [.Starred e sp] [] pos) (iZipN X.K te) := ⟨fun pins s σ H R I h => by
  refine Call_ (ld_blt I hg hm PyProof.Rows.boot_zip (callWith_typeS (thn (he.run pins s σ H _ I h) fun v s1 hx => ?_) hst))
  obtain ⟨y, H1, I1, ry, a, qs, xss, rfl, hs, h0, hn, hrow, q⟩ := hx
  obtain rfl : v = Value.ref a := ry
  refine StX.star_any I1 hs fun us s2 I2 rv => ⟨trivial, ?_⟩
  obtain ⟨q3, e1, e2, e3, e4⟩ := rows_at I2 qs xss hrow
  have eus : us = argsOf q3 := by
    have hl := rv.length
    rw [List.length_map] at hl
    refine List.ext_getElem? fun k => ?_
    rw [List.getElem?_map]
    cases hk : q3[k]? with
    | none =>
      have : q3.length ≤ k := List.getElem?_eq_none_iff.mp hk
      rw [List.getElem?_eq_none (by omega)]
      rfl
    | some c =>
      have hq := e2 k c hk
      obtain ⟨u, hu, ru⟩ := rv.get (show (qs.map fun q => V.ref q.2)[k]? = some (.ref c.2.1) by rw [List.getElem?_map, hq]; rfl)
      rw [hu]
      cases (show u = Value.ref c.2.1 from ru)
      rfl
  subst eus
  show wpAny _ _ (call (.type "zip") (argsOf q3)) _ _ _
  refine call_zipN (by omega) e3 fun h' hz hTI hTO hit hk => ?_
  rw [e1] at hz hTI hTO ⊢
  have hT : ({ s2 with heap := h' } : Shared).TypeIs (.ref (s2.heap.objs.size + qs.length + 2)) "zip" := ⟨_, hz, rfl⟩
  refine wpAny_pyIter_slot hT F.slot_zip_iter (wpAny_call_entry F.slot_zip_iter hT F.entry_zip_iter (wpAny_pure ⟨_, rfl, "zip", _, hT, F.slot_zip_next.lookup, ?_⟩) (F.args_zip_iter_1 _))
  have I3 : Inv X pins σ H1 { s2 with heap := h' } := I2.kept (t' := s2.toks) hk
  refine ⟨_, fpN (s2.heap.objs.size + qs.length + 2) (s2.heap.objs.size + qs.length) (s2.heap.objs.size + qs.length + 1) (mkBs s2.heap.objs.size qs), _, _, H1, rfl, I3, turn_zipN (mkBs_sep e4) (fun z => h0 (List.length_eq_zero_iff.mp (by rw [← mkBs_len s2.heap.objs.size qs, z]; rfl))) (by rw [mkBs_len]; omega), ⟨⟨_, _, hz, .inl rfl⟩, by rw [mkBs_refs]; exact hTI, ⟨_, hTO, by rw [mkBs_len]; simp⟩, fun k b hb => ?_⟩, fun c hcm => ?_, q _⟩
  · obtain ⟨c, hc, rfl⟩ := mkBs_at hb
    have hlt : k < q3.length := by rw [e1]; exact (List.getElem?_eq_some_iff.mp hc).1
    have h3 := e2 k q3[k] (List.getElem?_eq_getElem hlt)
    rw [hc] at h3
    cases h3
    exact .first (hit k q3[k] (List.getElem?_eq_getElem hlt))
  · have hle : s2.heap.objs.size ≤ c := by
      rcases fp_cases hcm with rfl | rfl | rfl | ⟨k, b, hb, rfl⟩
      · exact Nat.le_trans (Nat.le_add_right _ _) (Nat.le_add_right _ _)
      · exact Nat.le_add_right _ _
      · exact Nat.le_trans (Nat.le_add_right _ _) (Nat.le_add_right _ _)
      · obtain ⟨c, hc, rfl⟩ := mkBs_at hb
        exact Nat.le_add_right _ _
    exact I2.fpOk hle (I2.hok.fresh hle)⟩
end
end Fw
end TFwZi
section TFwZj
set_option maxHeartbeats 2000000
namespace Fw
open PySem PySem.Spec PyProof.Rows L2
def rowsL : List D → Option (List (List D))
  | [] => some []
  | d :: r => match seqLT d, rowsL r with
    | some x, some y => some (x :: y)
    | _, _ => none
def zipW (rs : List (List D)) : Nat := (rs.headD []).length
def zipN (rs : List (List D)) : List D := (List.range (zipW rs)).map fun i => .tuple (rs.filterMap fun r => r[i]?)
def itZN (m : M Rv) : M (List D) := do
  let d ← dM m
  match seqLT d with
  | some ds => match rowsL ds with
    | some rs => if rs.isEmpty = false && decide (rs.length ≤ 20) && rs.all fun r => decide (r.length = zipW rs) then pure (zipN rs) else stuck
    | none => stuck
  | none => stuck
section
variable {w : World} {K : PySem.W.Frag} {F : Hp}
def Cols (w : World) (K : PySem.W.Frag) (F : Hp) (xss : List (List V)) (rs : List (List D)) : Prop := xss.length = rs.length ∧ ∀ (k : Nat) (xs : List V) (r : List D), xss[k]? = some xs → rs[k]? = some r → RpA w K F xs r
theorem Cols.tail {xs : List V} {xss : List (List V)} {r : List D} {rs : List (List D)} (h : Cols w K F (xs :: xss) (r :: rs)) : RpA w K F xs r ∧ Cols w K F xss rs :=
  ⟨h.2 0 xs r rfl rfl, by have := h.1; simpa using this, fun k ys q h1 h2 => h.2 (k + 1) ys q (by simpa using h1) (by simpa using h2)⟩
theorem rows_ref : ∀ {ds : List D} {vs : List V} {rs : List (List D)}, RpA w K F vs ds → rowsL ds = some rs → ∃ (qs : List (Sd × Addr)) (xss : List (List V)), vs = qs.map (fun q => V.ref q.2) ∧ qs.length = rs.length ∧ (∀ H, Same F H → Row K H qs xss) ∧ Cols w K F xss rs
  | [], _, rs, .nil, h => by
    cases h
    exact ⟨[], [], rfl, rfl, (fun H _ => ⟨rfl, fun k q xs h => by simp at h⟩), ⟨rfl, fun k xs r h => by simp at h⟩⟩
  | d :: ds, _, rs, .cons (v := v) hv r, h => by
    have h : (match seqLT d, rowsL ds with
      | some x, some y => some (x :: y)
      | _, _ => none) = some rs := h
    cases e1 : seqLT d with
    | none => rw [e1] at h; cases h
    | some x =>
      cases e2 : rowsL ds with
      | none => rw [e1, e2] at h; cases h
      | some y =>
        rw [e1, e2] at h
        cases h
        obtain ⟨sd, a, us, rfl, f1, f2⟩ := rp_seq hv e1
        obtain ⟨qs, xss, rfl, g2, g3, g4, g5⟩ := rows_ref r e2
        refine ⟨(sd, a) :: qs, us :: xss, rfl, by rw [List.length_cons, List.length_cons, g2], fun H q => ⟨by rw [List.length_cons, List.length_cons, (g3 H q).1], fun k c xs h1 h2 => ?_⟩, by rw [List.length_cons, List.length_cons, g4], fun k xs z h1 h2 => ?_⟩
        · cases k with
          | zero =>
            cases (show (sd, a) = c from Option.some.inj h1)
            cases (show us = xs from Option.some.inj h2)
            exact f1 H q
          | succ k => exact (g3 H q).2 k c xs (by simpa using h1) (by simpa using h2)
        · cases k with
          | zero =>
            cases (show us = xs from Option.some.inj h1)
            cases (show x = z from Option.some.inj h2)
            exact f2
          | succ k => exact g5 k xs z (by simpa using h1) (by simpa using h2)
theorem col_rp {i : Nat} : ∀ {xss : List (List V)} {rs : List (List D)} {ys : List V}, Cols w K F xss rs → ys.length = xss.length → (∀ (k : Nat) (xs : List V), xss[k]? = some xs → xs[i]? = ys[k]?) → RpA w K F ys (rs.filterMap fun r => r[i]?)
  | [], [], [], _, _, _ => .nil
  | [], [], _ :: _, _, h, _ => by simp at h
  | [], _ :: _, _, h, _, _ => by have := h.1; simp at this
  | _ :: _, [], _, h, _, _ => by have := h.1; simp at this
  | _ :: _, _ :: _, [], _, h, _ => by simp at h
  | xs :: xss, r :: rs, y :: ys, h, hl, hy => by
    obtain ⟨h1, h2⟩ := h.tail
    have hy0 : xs[i]? = some y := hy 0 xs rfl
    obtain ⟨d, hd, rd⟩ := h1.getV hy0
    rw [show ((r :: rs).filterMap fun r => r[i]?) = d :: rs.filterMap (fun r => r[i]?) from List.filterMap_cons_some (f := fun r : List D => r[i]?) hd]
    exact .cons rd (col_rp h2 (by simpa using hl) fun k zs hz => by simpa using hy (k + 1) zs (by simpa using hz))
theorem walk_zipN {pr : Bool} {qs : List (Sd × Addr)} {xss : List (List V)} {rs : List (List D)} {n : Nat} (h1 : ∀ H, Same F H → Row K H qs xss) (h2 : Cols w K F xss rs) (hq : qs.length = rs.length) (h3 : ∀ r ∈ rs, r.length = zipW rs) : WalkOk w K pr (ItzN K (mkBs n qs)) F (zipN rs) := by
  intro F' H' f1 f2
  have hrow := h1 H' (f1.trans f2)
  have sq : Sqs K H' (mkBs n qs) xss := ⟨by rw [mkBs_len]; exact hrow.1, fun k b xs hb hx => by
    obtain ⟨q, hq', rfl⟩ := mkBs_at hb
    exact hrow.2 k q xs hq' hx⟩
  have hlen : ∀ (k : Nat) (xs : List V), xss[k]? = some xs → xs.length = zipW rs := fun k xs hk => by
    have hlt : k < rs.length := by rw [← h2.1]; exact (List.getElem?_eq_some_iff.mp hk).1
    have hr : rs[k]? = some rs[k] := List.getElem?_eq_getElem hlt
    rw [(h2.2 k xs _ hk hr).length]
    exact h3 _ (List.mem_of_getElem? hr)
  have lz : (zipN rs).length = zipW rs := by unfold zipN; rw [List.length_map, List.length_range]
  refine ⟨fun i x hx => ?_, ⟨xss, sq, fun k xs hk => by rw [lz]; exact hlen k xs hk⟩⟩
  have hi : i < zipW rs := by rw [← lz]; exact (List.getElem?_eq_some_iff.mp hx).1
  have ex : x = .tuple (rs.filterMap fun r => r[i]?) := by
    unfold zipN at hx
    rw [List.getElem?_map, List.getElem?_range hi] at hx
    exact (Option.some.inj hx).symm
  subst ex
  refine ⟨⟨xss, xss.map (fun xs => xs.getD i .non), sq, by rw [List.length_map, mkBs_len]; exact hrow.1, fun k xs hk => ?_⟩, fun v H'' hy => .inr (.inr ?_)⟩
  · rw [List.getElem?_map, hk]
    have : i < xs.length := by rw [hlen k xs hk]; exact hi
    show xs[i]? = some (xs.getD i .non)
    rw [List.getD_eq_getElem?_getD, List.getElem?_eq_getElem this]
    rfl
  · obtain ⟨T, ys, o, ho, rfl, hT, rfl, hl, hys⟩ := hy
    exact ⟨T, ys, _, o, ho, hT, rfl, rfl, rfl, (col_rp h2 (by rw [hl, mkBs_len, ← hrow.1]) (hys xss sq)).mono f1⟩
end
section
variable {X : Cx} {e : Expr} {m : M Rv} {x : Str} {xp p sp pos : Pos}
theorem si_zipN {pr : Bool} (hg : Gl X "zip") (hm : X.mg "zip" = none) (he : SE X e m) (hst : starEach [.Starred e sp] X.env = [(true, eval e X.env)]) : SI X (.Name x xp) (.Call (.Name "zip" p) [.Starred e sp] [] pos) pr (itZN m) := pi_imp (pi_zipN hg hm he hst) fun σ H R h => by
  obtain ⟨g, F, sa, env, ds, xs, env', ds', e, hm, q⟩ := h
  obtain ⟨d, ⟨e1, d1⟩, h1, hm1⟩ := bindM hm
  refine dM_ok ⟨g, F, sa, env, ds, _, e1, d1, e, h1, fun F1 H1 sa1 v eo s hv => ?_⟩
  cases ed : seqLT d with
  | none => rw [ed] at hm1; cases hm1
  | some dd =>
    rw [ed] at hm1
    dsimp only at hm1
    cases er : rowsL dd with
    | none => rw [er] at hm1; cases hm1
    | some rs =>
      rw [er] at hm1
      dsimp only at hm1
      by_cases c : (rs.isEmpty = false && decide (rs.length ≤ 20) && rs.all fun r => decide (r.length = zipW rs)) = true
      · rw [if_pos c] at hm1
        obtain ⟨h2, h3⟩ := pureM hm1
        subst h2
        obtain ⟨rfl, rfl⟩ := Prod.mk.inj h3
        obtain ⟨c1, c2⟩ := and2 c
        obtain ⟨c3, c4⟩ := and2 c1
        have c3 : rs.isEmpty = false := of_decide_eq_true c3
        have c4 : rs.length ≤ 20 := of_decide_eq_true c4
        have c2 : ∀ r ∈ rs, r.length = zipW rs := fun r hr => of_decide_eq_true (List.all_eq_true.mp c2 r hr)
        obtain ⟨sd, a, vs, rfl, f1, f2⟩ := rp_seq hv ed
        obtain ⟨qs, xss, rfl, g2, g3, g4⟩ := rows_ref f2 er
        refine ⟨a, qs, xss, rfl, ?_, fun z => ?_, by omega, g3 _ eo.sub, fun n => q F1 H1 sa1 _ eo s (walk_zipN g3 g4 g2 c2)⟩
        · have := f1 H1 eo.sub
          cases sd with
          | l => exact .inr this
          | t => exact .inl this
        · rw [z] at g2
          cases rs with
          | nil => cases c3
          | cons _ _ => cases g2
      · rw [if_neg c] at hm1; cases hm1
end
end Fw
end TFwZj
section TFwZk
namespace Fw
open PySem PySem.Spec PyProof.Rows L2
def setsXM : List (Nat × M Rv) → List D → M Unit
  | [], [] => pure ()
  | t :: ts, d :: ds => do
    ckO t.1
    let k ← dM t.2
    setItemM t.1 k d
    setsXM ts ds
  | _, _ => stuck
def setsX (ts : List (Nat × M Rv)) (m : M Rv) : M Oc := do
  let d ← dM m
  match d with
  | .tuple xs => do
    setsXM ts xs
    pure .nx
  | _ => stuck
def tGsx (w : World) (K : PySem.W.Frag) (ts : List (Nat × M Rv)) : TGs := fun vs σ H Q => ∃ g F sa env ds xs env' ds', EnvOk w K g F H sa σ env ds ∧ RpA w K F vs xs ∧ setsXM ts xs (env, ds) = some ((), (env', ds')) ∧
  ∀ F' H' sa', EnvOk w K g F' H' sa' σ env' ds' → Same F F' → SaR g sa sa' → Q σ H'
theorem setsXM_len : ∀ (ts : List (Nat × M Rv)) (xs : List D) (c c' : Cf), setsXM ts xs c = some ((), c') → xs.length = ts.length
  | [], [], _, _, _ => rfl
  | [], _ :: _, _, _, h => nomatch h
  | _ :: _, [], _, _, h => nomatch h
  | t :: ts, d :: ds, c, c', h => by
    obtain ⟨_, c1, _, h1⟩ := bindM (show (do ckO t.1; let k ← dM t.2; setItemM t.1 k d; setsXM ts ds) c = some ((), c') from h)
    obtain ⟨_, c2, _, h2⟩ := bindM h1
    obtain ⟨_, c3, _, h3⟩ := bindM h2
    exact congrArg (· + 1) (setsXM_len ts ds c3 c' h3)
section
variable {X : Cx} {e k : Expr} {es : List Expr} {mk m : M Rv} {ts : List (Nat × M Rv)} {pos tpos px : Pos} {x : Str} {i : Nat}
theorem sgx_nil : PGs X [] (tGsx X.w X.K []) := pgs_imp pgs_nil fun v σ H Q h => by
  obtain ⟨g, F, sa, env, ds, xs, env', ds', e, hv, ha, q⟩ := h
  cases xs with
  | nil => cases hv; cases ha; exact ⟨rfl, q F H sa e (Same.refl _) (.inl rfl)⟩
  | cons _ _ => cases ha
theorem sgx_cons (hu : X.A.units + 70 < cLine) (hN : X.N[i]? = some x) (hv : Vis X.env.scope x) (hd : (x == ("__debug__" : Str)) = false) (hcd : (x == ("__classdict__" : Str)) = false) (hk : SE X k mk)
    (ha : ∀ v, assign (.Subscript (.Name x px) k tpos) X.env v = (do
      let ov ← holding [v] (eval (.Name x px) X.env)
      let iv ← holding [v, ov] (eval k X.env)
      standAt tpos
      holding [v, ov, iv] (setItem ov iv v)
      release [v, ov, iv] []))
    (hr : PGs X es (tGsx X.w X.K ts)) (hs : (assignEach (.Subscript (.Name x px) k tpos :: es) X.env).map (·.2) = assign (.Subscript (.Name x px) k tpos) X.env :: (assignEach es X.env).map (·.2)) :
    PGs X (.Subscript (.Name x px) k tpos :: es) (tGsx X.w X.K ((i, mk) :: ts)) := pgs_imp (pgs_cons (pg_sub (pe_var hN hv hd hcd) hk (set_2 hu) ha) hr hs) fun v σ H Q h => by
  obtain ⟨g, F, sa, env, ds, xs, env', ds', e, hv, hm, q⟩ := h
  cases xs with
  | nil => cases hm
  | cons d dr =>
    cases hv with
    | cons hd hr =>
      obtain ⟨_, c5, h6, hm4⟩ := bindM (show (do ckO i; let k ← dM mk; setItemM i k d; setsXM ts dr) (env, ds) = some ((), (env', ds')) from hm)
      obtain ⟨kd, ⟨e2, d2⟩, h2, hm2⟩ := bindM hm4
      obtain ⟨_, ⟨e3, d3⟩, h3, hm3⟩ := bindM hm2
      obtain ⟨own1, rfl⟩ := ckO_inv h6
      obtain ⟨a, o, g1, g2, _⟩ := e.own own1
      refine ⟨_, _, rfl, _, g1, dM_ok ⟨g, F, sa, env, ds, kd, e2, d2, e, h2, fun F2 H2 sa2 kv eo2 s2 hkv => ?_⟩⟩
      obtain ⟨o2, g3, hset⟩ := setItem_ok (Q := fun H' => tGsx X.w X.K ts _ σ H' Q) eo2 hkv (hd.mono s2.ff) h3 fun H' eo3 =>
        ⟨g, F2, sa2, e3, d3, dr, env', ds', eo3, hr.mono s2.ff, hm3, fun F' H' sa' eo' ff sr => q F' H' sa' eo' (s2.ff.trans ff) ((s2.saR e).trans sr)⟩
      rw [g1] at g3
      cases g3
      exact hset
theorem ss_setsX {n kk : Nat} (hc : X.calm = true) (he : SE X e m) (hg : PGs X es (tGsx X.w X.K ts)) (hn : (assignEach es X.env).length = n) (hl : ts.length = n) (hst : (assignEach es X.env).findIdx? (·.1) = none) (hs : swapsWithSole [.Tuple es kk tpos] e pos.line X.env = pure false)
    (hw : swappedStores [.Tuple es kk tpos] e X.env = pure none) (h1 : (assignEach [.Tuple es kk tpos] X.env).map (·.2) = [assign (.Tuple es kk tpos) X.env]) : SS X (.Assign [.Tuple es kk tpos] e pos) (setsX ts m) :=
  ps_imp (ps_asg he (pg_tup hc hg hn hst) hs hw h1) fun D σ H h => by
    obtain ⟨g, F, sa, env, ds, oc, env', ds', e, hm, q⟩ := h
    obtain ⟨d, ⟨e1, d1⟩, h1, hm1⟩ := bindM hm
    refine dM_ok ⟨g, F, sa, env, ds, d, e1, d1, e, h1, fun F1 H1 sa1 v eo s hv => ?_⟩
    cases d with
    | tuple xs =>
      obtain ⟨_, ⟨e2, d2⟩, h2, hm2⟩ := bindM hm1
      obtain ⟨h3, h4⟩ := pureM hm2
      subst h3
      obtain ⟨rfl, rfl⟩ := Prod.mk.inj h4
      cases hv with
      | tup ht hr => exact ⟨_, _, rfl, (tr_mono eo.sub ht).sq, by rw [hr.length, setsXM_len _ _ _ _ h2, hl], g, F1, sa1, e1, d1, xs, _, _, eo, hr, h2, fun F' H' sa' eo' ff sr => q F' H' sa' σ eo' (s.ff.trans ff) ((s.saR e).trans sr)⟩
    | none => cases hm1
    | bool _ => cases hm1
    | int _ => cases hm1
    | str _ => cases hm1
    | list _ => cases hm1
    | dict _ => cases hm1
end
end Fw
end TFwZk
section TG69
namespace Fw.L
open PySem PySem.Spec PyProof.Rows L2
def top (i : Nat) : Stmt := PySem.Challenge.pw_makebook_k69_whole_like_makes.main.body.getD i (.Pass ⟨0, 0, 0, 0⟩)
def c_MAKERS : D := (.tuple [(.tuple [(.tuple [])]), (.tuple [(.tuple [])]), (.tuple [(.tuple []), (.tuple [(.tuple [(.int 1), (.int 0)])])]), (.tuple [(.tuple []), (.tuple [(.tuple [(.int 0), (.int 2), (.int 1)])]), (.tuple [(.tuple [(.int 1), (.int 2), (.int 0)])]), (.tuple [(.tuple [(.int 0), (.int 2), (.int 1)]), (.tuple [(.int 1), (.int 0), (.int 2)])])]), (.tuple [(.tuple []), (.tuple [(.tuple [(.int 0), (.int 1), (.int 3), (.int 2)])]), (.tuple [(.tuple [(.int 1), (.int 0), (.int 3), (.int 2)])]), (.tuple [(.tuple [(.int 0), (.int 2), (.int 3), (.int 1)])]), (.tuple [(.tuple [(.int 0), (.int 1), (.int 3), (.int 2)]), (.tuple [(.int 1), (.int 0), (.int 2), (.int 3)])]), (.tuple [(.tuple [(.int 1), (.int 0), (.int 3), (.int 2)]), (.tuple [(.int 2), (.int 3), (.int 0), (.int 1)])]), (.tuple [(.tuple [(.int 2), (.int 3), (.int 1), (.int 0)])]), (.tuple [(.tuple [(.int 0), (.int 1), (.int 3), (.int 2)]), (.tuple [(.int 0), (.int 2), (.int 1), (.int 3)])]), (.tuple [(.tuple [(.int 0), (.int 1), (.int 3), (.int 2)]), (.tuple [(.int 2), (.int 3), (.int 0), (.int 1)])]), (.tuple [(.tuple [(.int 0), (.int 2), (.int 3), (.int 1)]), (.tuple [(.int 1), (.int 0), (.int 3), (.int 2)])]), (.tuple [(.tuple [(.int 0), (.int 1), (.int 3), (.int 2)]), (.tuple [(.int 1), (.int 2), (.int 0), (.int 3)])])])])
def c_MOST_MAKES : D := (.int 24)
def c_MOST_SIZE_marks5 : D := (.int 4)
def c_MOST_SIZE_types1 : D := (.int 5)
abbrev s_law_begun : Stmt := top 33
abbrev n_law_begun : List PySem.Str := ["script", "great", "cell"]
theorem sc_law_begun : FnScope n_law_begun ["script"] (defScope s_law_begun) := ⟨rfl, rfl, rfl, by decide +kernel, rfl, by decide +kernel, by decide +kernel⟩
def m_law_begun : M Oc :=
  (seqM (setM 1 (lcM [2] (.nm 2) (itQ (varV 0)) (cmp2 (biM (biD .abs) (consP (varV 2) (pure []))) (bin2 (pure (.d (.int 10))) (pure (.d (.int 18))) (binD .pow)) .ge) (bin2 (biM (biD .abs) (consP (varV 2) (pure []))) (bin2 (pure (.d (.int 10))) (pure (.d (.int 18))) (binD .pow)) (binD .sub))))
  (retM (begM 1 (lcM [2] (.nm 2) (itQ (varV 0)) yesM (biM (biD .abs) (consP (varV 2) (pure [])))))))
def f_law_begun : Fun := runD 1 3 m_law_begun
abbrev s_is_whole : Stmt := top 5
abbrev n_is_whole : List PySem.Str := ["thing"]
theorem sc_is_whole : FnScope n_is_whole ["thing"] (defScope s_is_whole) := ⟨rfl, rfl, rfl, by decide +kernel, rfl, by decide +kernel, by decide +kernel⟩
def m_is_whole : M Oc :=
  (retM (andB (isiM [.int] (varV 0)) (notB (isiM [.bool] (varV 0)))))
def f_is_whole : Fun := runD 1 1 m_is_whole
abbrev s_is_below : Stmt := top 6
abbrev n_is_below : List PySem.Str := ["thing", "many"]
theorem sc_is_below : FnScope n_is_below ["thing", "many"] (defScope s_is_below) := ⟨rfl, rfl, rfl, by decide +kernel, rfl, by decide +kernel, by decide +kernel⟩
def m_is_below : M Oc :=
  (retM (andB (callM f_is_whole [] (consA (varV 0) (pure []))) (chn3 (pure (.d (.int 0))) (varV 0) (varV 1) .le .lt)))
def f_is_below : Fun := runD 2 2 m_is_below
abbrev s_need_size : Stmt := top 18
abbrev n_need_size : List PySem.Str := ["size"]
theorem sc_need_size : FnScope n_need_size ["size"] (defScope s_need_size) := ⟨rfl, rfl, rfl, by decide +kernel, rfl, by decide +kernel, by decide +kernel⟩
def m_need_size : M Oc :=
  (ifM (notB (callM f_is_below [] (consA (varV 0) (consA (bin2 (pure (.d c_MOST_SIZE_marks5)) (pure (.d (.int 1))) (binD .add)) (pure []))))) stuck (pure .nx))
def f_need_size : Fun := runD 1 1 m_need_size
abbrev s_then : Stmt := top 20
abbrev n_then : List PySem.Str := ["one", "other", "place"]
theorem sc_then : FnScope n_then ["one", "other"] (defScope s_then) := ⟨rfl, rfl, rfl, by decide +kernel, rfl, by decide +kernel, by decide +kernel⟩
def m_then : M Oc :=
  (retM (biM (biD .tuple) (consP (lcM [2] (.nm 2) (itQ (varV 1)) yesM (bin2 (varV 0) (varV 2) ixR)) (pure []))))
def f_then : Fun := runD 2 3 m_then
abbrev s_closed : Stmt := top 22
abbrev n_closed : List PySem.Str := ["some", "found", "left", "one", "other", "own"]
theorem sc_closed : FnScope n_closed ["some"] (defScope s_closed) := ⟨rfl, rfl, rfl, by decide +kernel, rfl, by decide +kernel, by decide +kernel⟩
def m_closed : M Oc :=
  (seqM (setM 1 (dcM [3] (.nm 3) (itQ (varV 0)) yesM (varV 3) (pure (.d (.bool true)))))
  (seqM (setM 2 (biM (biD .list) (consP (varV 1) (pure []))))
  (seqM (whileM (cmp2 (varV 2) (lstM (pure [])) .ne) (seqM (setM 3 (meL fPop (varV 2) (pure [])))
  (forS (.nm 4) (itQ (biM (biD .list) (consP (varV 1) (pure [])))) (forS (.nm 5) (itQ (lstM (consL (callM f_then [] (consA (varV 3) (consA (varV 4) (pure [])))) (consL (callM f_then [] (consA (varV 4) (consA (varV 3) (pure [])))) (pure []))))) (ifM (cmp2 (varV 5) (varV 1) .notin) (seqM (setXM 1 (varV 5) (pure (.d (.bool true))))
  (exM (meL fAppend (varV 2) (consL (varV 5) (pure []))))) (pure .nx))))))
  (retM (biM (biD .tuple) (consP (biM (biD .sorted) (consP (varV 1) (pure []))) (pure [])))))))
def f_closed : Fun := runD 1 6 m_closed
abbrev s_groups_of : Stmt := top 23
abbrev n_groups_of : List PySem.Str := ["size", "some"]
theorem sc_groups_of : FnScope n_groups_of ["size"] (defScope s_groups_of) := ⟨rfl, rfl, rfl, by decide +kernel, rfl, by decide +kernel, by decide +kernel⟩
def m_groups_of : M Oc :=
  (retM (lcM [1] (.nm 1) (itQ (bin2 (pure (.d c_MAKERS)) (varV 0) ixR)) yesM (callM f_closed [] (consA (bin2 (lstM (consL (trngM (varV 0)) (pure []))) (biM (biD .list) (consP (varV 1) (pure []))) (binD .add)) (pure [])))))
def f_groups_of : Fun := runD 1 2 m_groups_of
abbrev s_is_longest : Stmt := top 9
abbrev n_is_longest : List PySem.Str := ["thing"]
theorem sc_is_longest : FnScope n_is_longest ["thing"] (defScope s_is_longest) := ⟨rfl, rfl, rfl, by decide +kernel, rfl, by decide +kernel, by decide +kernel⟩
def m_is_longest : M Oc :=
  (retM (andB (callM f_is_below [] (consA (varV 0) (consA (bin2 (pure (.d c_MOST_SIZE_types1)) (pure (.d (.int 1))) (binD .add)) (pure [])))) (cmp2 (varV 0) (pure (.d (.int 0))) .gt)))
def f_is_longest : Fun := runD 1 1 m_is_longest
abbrev s_need_longest : Stmt := top 10
abbrev n_need_longest : List PySem.Str := ["longest"]
theorem sc_need_longest : FnScope n_need_longest ["longest"] (defScope s_need_longest) := ⟨rfl, rfl, rfl, by decide +kernel, rfl, by decide +kernel, by decide +kernel⟩
def m_need_longest : M Oc :=
  (ifM (notB (callM f_is_longest [] (consA (varV 0) (pure [])))) stuck (pure .nx))
def f_need_longest : Fun := runD 1 1 m_need_longest
abbrev s_types_within : Stmt := top 11
abbrev n_types_within : List PySem.Str := ["size", "most", "found", "first", "rest"]
theorem sc_types_within : FnScope n_types_within ["size", "most"] (defScope s_types_within) := ⟨rfl, rfl, rfl, by decide +kernel, rfl, by decide +kernel, by decide +kernel⟩
def m_types_within (self : Fun) : M Oc :=
  (seqM (ifM (cmp2 (varV 0) (pure (.d (.int 0))) .eq) (retM (lstM (consL (tupM (pure [])) (pure [])))) (pure .nx))
  (seqM (setM 2 (lstM (pure [])))
  (seqM (forS (.nm 3) (itR2 (pure (.d (.int 1))) (bin2 (biM minF (consP (varV 0) (consP (varV 1) (pure [])))) (pure (.d (.int 1))) (binD .add))) (exM (meL fExtend (varV 2) (consL (lcM [4] (.nm 4) (itQ (callM self [] (consA (bin2 (varV 0) (varV 3) (binD .sub)) (consA (varV 3) (pure []))))) yesM (bin2 (tupM (consL (varV 3) (pure []))) (varV 4) (binD .add))) (pure [])))))
  (retM (varV 2)))))
def f_types_within : Nat → Fun
  | 0 => fun _ _ => none
  | n + 1 => runD 2 5 (m_types_within (f_types_within n))
abbrev s_types_of : Stmt := top 12
abbrev n_types_of : List PySem.Str := ["longest", "found", "size"]
theorem sc_types_of : FnScope n_types_of ["longest"] (defScope s_types_of) := ⟨rfl, rfl, rfl, by decide +kernel, rfl, by decide +kernel, by decide +kernel⟩
def m_types_of : M Oc :=
  (seqM (setM 1 (lstM (pure [])))
  (seqM (forS (.nm 2) (itR (bin2 (varV 0) (pure (.d (.int 1))) (binD .add))) (exM (meL fExtend (varV 1) (consL (biM (biD .sorted) (consP (callM (f_types_within 8) [] (consA (varV 2) (consA (varV 2) (pure [])))) (pure []))) (pure [])))))
  (retM (varV 1))))
def f_types_of : Fun := runD 1 3 m_types_of
abbrev s_types : Stmt := top 13
abbrev n_types : List PySem.Str := ["longest"]
theorem sc_types : FnScope n_types ["longest"] (defScope s_types) := ⟨rfl, rfl, rfl, by decide +kernel, rfl, by decide +kernel, by decide +kernel⟩
def m_types : M Oc :=
  (seqM (exM (callM f_need_longest [] (consA (varV 0) (pure []))))
  (retM (biM (biD .tuple) (consP (callM f_types_of [] (consA (varV 0) (pure []))) (pure [])))))
def f_types : Fun := runD 1 1 m_types
abbrev s_sized : Stmt := top 26
abbrev n_sized : List PySem.Str := ["size", "one"]
theorem sc_sized : FnScope n_sized ["size"] (defScope s_sized) := ⟨rfl, rfl, rfl, by decide +kernel, rfl, by decide +kernel, by decide +kernel⟩
def m_sized : M Oc :=
  (retM (lcM [1] (.nm 1) (itQ (callM f_types [] (consA (biM maxF (consP (varV 0) (consP (pure (.d (.int 1))) (pure [])))) (pure [])))) (cmp2 (biM (biD .sum) (consP (varV 1) (pure []))) (varV 0) .eq) (varV 1)))
def f_sized : Fun := runD 1 2 m_sized
abbrev s_orders_of : Stmt := top 19
abbrev n_orders_of : List PySem.Str := ["size", "found", "lap", "later", "line", "one"]
theorem sc_orders_of : FnScope n_orders_of ["size"] (defScope s_orders_of) := ⟨rfl, rfl, rfl, by decide +kernel, rfl, by decide +kernel, by decide +kernel⟩
def m_orders_of : M Oc :=
  (seqM (setM 1 (lstM (consL (tupM (pure [])) (pure []))))
  (seqM (forS (.nm 2) (itR (varV 0)) (seqM (setM 3 (lstM (pure [])))
  (seqM (forS (.nm 4) (itQ (varV 1)) (setM 3 (bin2 (varV 3) (lcM [5] (.nm 5) (itR (varV 0)) (cmp2 (varV 5) (varV 4) .notin) (bin2 (varV 4) (tupM (consL (varV 5) (pure []))) (binD .add))) (binD .add))))
  (setM 1 (varV 3)))))
  (retM (varV 1))))
def f_orders_of : Fun := runD 1 6 m_orders_of
abbrev s_lengths_of : Stmt := top 25
abbrev n_lengths_of : List PySem.Str := ["order", "found", "left", "ring", "place"]
theorem sc_lengths_of : FnScope n_lengths_of ["order"] (defScope s_lengths_of) := ⟨rfl, rfl, rfl, by decide +kernel, rfl, by decide +kernel, by decide +kernel⟩
def m_lengths_of : M Oc :=
  (seqM (par2M 1 2 (lstM (pure [])) (lrngM (biM (biD .len) (consP (varV 0) (pure [])))))
  (seqM (whileM (cmp2 (varV 2) (lstM (pure [])) .ne) (seqM (par2M 3 4 (pure (.d (.int 0))) (bin2 (varV 2) (pure (.d (.int 0))) ixR))
  (seqM (whileM (cmp2 (varV 4) (varV 2) .isin) (seqM (exM (meL fRemove (varV 2) (consL (varV 4) (pure []))))
  (par2M 4 3 (bin2 (varV 0) (varV 4) ixR) (bin2 (varV 3) (pure (.d (.int 1))) (binD .add)))))
  (exM (meL fAppend (varV 1) (consL (varV 3) (pure [])))))))
  (retM (biM (biD .tuple) (consP (biM (biD .sortedRev) (consP (varV 1) (pure []))) (pure []))))))
def f_lengths_of : Fun := runD 1 5 m_lengths_of
abbrev s_undone_order : Stmt := top 21
abbrev n_undone_order : List PySem.Str := ["order", "place"]
theorem sc_undone_order : FnScope n_undone_order ["order"] (defScope s_undone_order) := ⟨rfl, rfl, rfl, by decide +kernel, rfl, by decide +kernel, by decide +kernel⟩
def m_undone_order : M Oc :=
  (retM (biM (biD .tuple) (consP (lcM [1] (.nm 1) (itR (biM (biD .len) (consP (varV 0) (pure [])))) yesM (meR fIndexT (varV 0) (consL (varV 1) (pure [])))) (pure []))))
def f_undone_order : Fun := runD 1 2 m_undone_order
abbrev s_marks_of : Stmt := top 27
abbrev n_marks_of : List PySem.Str := ["group", "size", "found", "own", "renaming", "left", "one"]
theorem sc_marks_of : FnScope n_marks_of ["group", "size"] (defScope s_marks_of) := ⟨rfl, rfl, rfl, by decide +kernel, rfl, by decide +kernel, by decide +kernel⟩
def m_marks_of : M Oc :=
  (seqM (setM 2 (lstM (pure [])))
  (seqM (forS (.nm 3) (itQ (callM f_sized [] (consA (varV 1) (pure [])))) (seqM (setM 4 (bin2 (lcM [6] (.nm 6) (itQ (callM f_orders_of [] (consA (varV 1) (pure [])))) (cmp2 (callM f_lengths_of [] (consA (varV 6) (pure []))) (varV 3) .eq) (varV 6)) (pure (.d (.int 0))) ixR))
  (seqM (setM 5 (lcM [6] (.nm 6) (itQ (callM f_orders_of [] (consA (varV 1) (pure [])))) (cmp2 (callM f_then [] (consA (callM f_then [] (consA (callM f_undone_order [] (consA (varV 6) (pure []))) (consA (varV 4) (pure [])))) (consA (varV 6) (pure [])))) (varV 0) .isin) (varV 6)))
  (exM (meL fAppend (varV 2) (consL (bin2 (biM (biD .len) (consP (varV 5) (pure []))) (biM (biD .len) (consP (varV 0) (pure []))) (binD .fdiv)) (pure [])))))))
  (retM (varV 2))))
def f_marks_of : Fun := runD 2 7 m_marks_of
abbrev s_marks : Stmt := top 28
abbrev n_marks : List PySem.Str := ["size", "group"]
theorem sc_marks : FnScope n_marks ["size"] (defScope s_marks) := ⟨rfl, rfl, rfl, by decide +kernel, rfl, by decide +kernel, by decide +kernel⟩
def m_marks : M Oc :=
  (seqM (exM (callM f_need_size [] (consA (varV 0) (pure []))))
  (retM (biM (biD .tuple) (consP (lcM [1] (.nm 1) (itQ (callM f_groups_of [] (consA (varV 0) (pure [])))) yesM (biM (biD .tuple) (consP (callM f_marks_of [] (consA (varV 1) (consA (varV 0) (pure [])))) (pure [])))) (pure [])))))
def f_marks : Fun := runD 1 2 m_marks
abbrev s_makes_of : Stmt := top 29
abbrev n_makes_of : List PySem.Str := ["size", "numbers", "found", "own", "later", "group", "counts", "left", "often", "one", "here"]
theorem sc_makes_of : FnScope n_makes_of ["size", "numbers"] (defScope s_makes_of) := ⟨rfl, rfl, rfl, by decide +kernel, rfl, by decide +kernel, by decide +kernel⟩
def m_makes_of : M Oc :=
  (seqM (setM 2 (lstM (consL (tupM (consL (tupM (pure [])) (consL (biM (biD .tuple) (consP (varV 1) (pure []))) (pure [])))) (pure []))))
  (seqM (forS (.nm 3) (itQ (lcM [5] (.nm 5) (itQ (callM f_groups_of [] (consA (varV 0) (pure [])))) yesM (callM f_marks_of [] (consA (varV 5) (consA (varV 0) (pure [])))))) (seqM (setM 4 (lstM (pure [])))
  (seqM (forS (.tp [(.nm 6), (.nm 7)]) (itQ (varV 2)) (seqM (setM 8 (pure (.d (.int 0))))
  (whileM (biM (biD .all) (consP (lcM [9] (.nm 9) (itQ (varV 7)) yesM (cmp2 (varV 9) (pure (.d (.int 0))) .ge)) (pure []))) (seqM (exM (meL fAppend (varV 4) (consL (tupM (consL (bin2 (varV 6) (tupM (consL (varV 8) (pure []))) (binD .add)) (consL (varV 7) (pure [])))) (pure []))))
  (par2M 8 7 (bin2 (varV 8) (pure (.d (.int 1))) (binD .add)) (biM (biD .tuple) (consP (lcM [9, 10] (.tp [(.nm 9), (.nm 10)]) (itZ (varV 7) (varV 3)) yesM (bin2 (varV 9) (varV 10) (binD .sub))) (pure []))))))))
  (setM 2 (varV 4)))))
  (retM (biM (biD .sorted) (consP (lcM [6, 7] (.tp [(.nm 6), (.nm 7)]) (itQ (varV 2)) (notB (biM (biD .any) (consP (varV 7) (pure [])))) (varV 6)) (pure []))))))
def f_makes_of : Fun := runD 2 11 m_makes_of
abbrev s_like_makes : Stmt := top 31
abbrev n_like_makes : List PySem.Str := ["size", "some", "first", "lines", "total", "other", "line", "one", "often"]
theorem sc_like_makes : FnScope n_like_makes ["size"] (defScope s_like_makes) := ⟨rfl, rfl, rfl, by decide +kernel, rfl, by decide +kernel, by decide +kernel⟩
def m_like_makes : M Oc :=
  (seqM (exM (callM f_need_size [] (consA (varV 0) (pure []))))
  (seqM (ifM (cmp2 (varV 0) (pure (.d (.int 3))) .lt) (retM (pure (.d .none))) (pure .nx))
  (seqM (setM 1 (callM f_groups_of [] (consA (varV 0) (pure []))))
  (seqM (setM 2 (bin2 (lstM (consL (pure (.d (.int 0))) (pure []))) (biM (biD .len) (consP (varV 1) (pure []))) (binD .mul)))
  (seqM (setsX [(2, (pure (.d (.int 0)))), (2, (negM (pure (.d (.int 1)))))] (tupM (consL (pure (.d (.int 1))) (consL (pure (.d (.int 2))) (pure [])))))
  (seqM (setM 3 (callM f_marks [] (consA (varV 0) (pure []))))
  (seqM (setM 4 (lcM [6] (.nm 6) (itZN (varV 3)) yesM (biM (biD .sum) (consP (lcM [8, 7] (.tp [(.nm 8), (.nm 7)]) (itZ (varV 2) (varV 6)) yesM (bin2 (varV 8) (varV 7) (binD .mul))) (pure [])))))
  (seqM (setM 5 (lcM [7] (.nm 7) (itQ (callM f_makes_of [] (consA (varV 0) (consA (varV 4) (pure []))))) (cmp2 (varV 7) (biM (biD .tuple) (consP (varV 2) (pure []))) .ne) (varV 7)))
  (retM (iteB (cmp2 (varV 5) (lstM (pure [])) .ne) (tupM (consL (biM (biD .tuple) (consP (varV 2) (pure []))) (consL (bin2 (varV 5) (pure (.d (.int 0))) ixR) (pure [])))) (pure (.d .none))))))))))))
def f_like_makes : Fun := runD 1 9 m_like_makes
abbrev s_groups : Stmt := top 24
abbrev n_groups : List PySem.Str := ["size"]
theorem sc_groups : FnScope n_groups ["size"] (defScope s_groups) := ⟨rfl, rfl, rfl, by decide +kernel, rfl, by decide +kernel, by decide +kernel⟩
def m_groups : M Oc :=
  (seqM (exM (callM f_need_size [] (consA (varV 0) (pure []))))
  (retM (biM (biD .tuple) (consP (callM f_groups_of [] (consA (varV 0) (pure []))) (pure [])))))
def f_groups : Fun := runD 1 1 m_groups
abbrev s_law_orders : Stmt := top 39
abbrev n_law_orders : List PySem.Str := ["many", "found", "lap", "longer", "order", "at"]
theorem sc_law_orders : FnScope n_law_orders ["many"] (defScope s_law_orders) := ⟨rfl, rfl, rfl, by decide +kernel, rfl, by decide +kernel, by decide +kernel⟩
def m_law_orders : M Oc :=
  (seqM (setM 1 (lstM (consL (tupM (pure [])) (pure []))))
  (seqM (forS (.nm 2) (itR (varV 0)) (seqM (setM 3 (lstM (pure [])))
  (seqM (forS (.nm 4) (itQ (varV 1)) (setM 3 (bin2 (varV 3) (lcM [5] (.nm 5) (itR (varV 0)) (cmp2 (varV 5) (varV 4) .notin) (bin2 (varV 4) (tupM (consL (varV 5) (pure []))) (binD .add))) (binD .add))))
  (setM 1 (varV 3)))))
  (retM (varV 1))))
def f_law_orders : Fun := runD 1 6 m_law_orders
abbrev s_law_after : Stmt := top 40
abbrev n_law_after : List PySem.Str := ["one", "other", "place"]
theorem sc_law_after : FnScope n_law_after ["one", "other"] (defScope s_law_after) := ⟨rfl, rfl, rfl, by decide +kernel, rfl, by decide +kernel, by decide +kernel⟩
def m_law_after : M Oc :=
  (retM (biM (biD .tuple) (consP (lcM [2] (.nm 2) (itQ (varV 1)) yesM (bin2 (varV 0) (varV 2) ixR)) (pure []))))
def f_law_after : Fun := runD 2 3 m_law_after
abbrev s_law_parts_of : Stmt := top 38
abbrev n_law_parts_of : List PySem.Str := ["size", "most", "found", "first", "rest"]
theorem sc_law_parts_of : FnScope n_law_parts_of ["size", "most"] (defScope s_law_parts_of) := ⟨rfl, rfl, rfl, by decide +kernel, rfl, by decide +kernel, by decide +kernel⟩
def m_law_parts_of (self : Fun) : M Oc :=
  (seqM (ifM (cmp2 (varV 0) (pure (.d (.int 0))) .eq) (retM (lstM (consL (tupM (pure [])) (pure [])))) (pure .nx))
  (seqM (setM 2 (lstM (pure [])))
  (seqM (forS (.nm 3) (itR2 (pure (.d (.int 1))) (bin2 (biM minF (consP (varV 0) (consP (varV 1) (pure [])))) (pure (.d (.int 1))) (binD .add))) (setM 2 (bin2 (varV 2) (lcM [4] (.nm 4) (itQ (callM self [] (consA (bin2 (varV 0) (varV 3) (binD .sub)) (consA (varV 3) (pure []))))) yesM (bin2 (tupM (consL (varV 3) (pure []))) (varV 4) (binD .add))) (binD .add))))
  (retM (varV 2)))))
def f_law_parts_of : Nat → Fun
  | 0 => fun _ _ => none
  | n + 1 => runD 2 5 (m_law_parts_of (f_law_parts_of n))
abbrev s_law_sized : Stmt := top 42
abbrev n_law_sized : List PySem.Str := ["size"]
theorem sc_law_sized : FnScope n_law_sized ["size"] (defScope s_law_sized) := ⟨rfl, rfl, rfl, by decide +kernel, rfl, by decide +kernel, by decide +kernel⟩
def m_law_sized : M Oc :=
  (retM (biM (biD .sorted) (consP (callM (f_law_parts_of 8) [] (consA (varV 0) (consA (varV 0) (pure [])))) (pure []))))
def f_law_sized : Fun := runD 1 1 m_law_sized
abbrev s_law_lengths : Stmt := top 41
abbrev n_law_lengths : List PySem.Str := ["order", "place", "found", "met", "ring", "at"]
theorem sc_law_lengths : FnScope n_law_lengths ["order"] (defScope s_law_lengths) := ⟨rfl, rfl, rfl, by decide +kernel, rfl, by decide +kernel, by decide +kernel⟩
def m_law_lengths : M Oc :=
  (seqM (par2M 2 3 (lstM (pure [])) (lstM (pure [])))
  (seqM (forS (.nm 1) (itR (biM (biD .len) (consP (varV 0) (pure [])))) (seqM (par2M 4 5 (pure (.d (.int 0))) (varV 1))
  (seqM (whileM (cmp2 (varV 5) (varV 3) .notin) (seqM (exM (meL fAppend (varV 3) (consL (varV 5) (pure []))))
  (par2M 5 4 (bin2 (varV 0) (varV 5) ixR) (bin2 (varV 4) (pure (.d (.int 1))) (binD .add)))))
  (ifM (cmp2 (varV 4) (pure (.d (.int 0))) .gt) (exM (meL fAppend (varV 2) (consL (varV 4) (pure [])))) (pure .nx)))))
  (retM (biM (biD .tuple) (consP (biM (biD .sortedRev) (consP (varV 2) (pure []))) (pure []))))))
def f_law_lengths : Fun := runD 1 6 m_law_lengths
abbrev s_law_marks : Stmt := top 43
abbrev n_law_marks : List PySem.Str := ["size", "group", "told", "cosets", "found", "renaming", "g", "order", "coset", "one"]
theorem sc_law_marks : FnScope n_law_marks ["size", "group"] (defScope s_law_marks) := ⟨rfl, rfl, rfl, by decide +kernel, rfl, by decide +kernel, by decide +kernel⟩
def m_law_marks : M Oc :=
  (seqM (par2M 3 4 (biM dictF (consP (lcM [6] (.nm 6) (itQ (callM f_law_orders [] (consA (varV 0) (pure [])))) yesM (tupM (consL (biM (biD .tuple) (consP (biM (biD .sorted) (consP (lcM [9] (.nm 9) (itQ (varV 1)) yesM (callM f_law_after [] (consA (varV 6) (consA (varV 9) (pure []))))) (pure []))) (pure []))) (consL (pure (.d (.bool true))) (pure []))))) (pure []))) (lstM (pure [])))
  (seqM (forS (.nm 2) (itQ (callM f_law_sized [] (consA (varV 0) (pure [])))) (seqM (setM 5 (bin2 (lcM [7] (.nm 7) (itQ (callM f_law_orders [] (consA (varV 0) (pure [])))) (cmp2 (callM f_law_lengths [] (consA (varV 7) (pure []))) (varV 2) .eq) (varV 7)) (negM (pure (.d (.int 1)))) ixR))
  (exM (meL fAppend (varV 4) (consL (biM (biD .len) (consP (lcM [8] (.nm 8) (itD (varV 3)) (cmp2 (biM (biD .tuple) (consP (biM (biD .sorted) (consP (lcM [9] (.nm 9) (itQ (varV 8)) yesM (callM f_law_after [] (consA (varV 5) (consA (varV 9) (pure []))))) (pure []))) (pure []))) (varV 8) .eq) (pure (.d (.int 1)))) (pure []))) (pure []))))))
  (retM (biM (biD .tuple) (consP (varV 4) (pure []))))))
def f_law_marks : Fun := runD 2 10 m_law_marks
abbrev s_law_plain : Stmt := top 36
abbrev n_law_plain : List PySem.Str := ["value", "one"]
theorem sc_law_plain : FnScope n_law_plain ["value"] (defScope s_law_plain) := ⟨rfl, rfl, rfl, by decide +kernel, rfl, by decide +kernel, by decide +kernel⟩
def m_law_plain (self : Fun) : M Oc :=
  (seqM (ifM (isiM [.list, .tuple] (varV 0)) (retM (cmp2 (lcM [1] (.nm 1) (itQ (varV 0)) (notB (callM self [] (consA (varV 1) (pure [])))) (pure (.d (.int 1)))) (lstM (pure [])) .eq)) (pure .nx))
  (seqM (ifM (isiM [.dict] (varV 0)) stuck (pure .nx))
  (retM (orB (cmp2 (varV 0) (pure (.d .none)) .is) (isiM [.int, .str] (varV 0))))))
def f_law_plain : Nat → Fun
  | 0 => fun _ _ => none
  | n + 1 => runD 1 2 (m_law_plain (f_law_plain n))
abbrev s_law_is : Stmt := top 37
abbrev n_law_is : List PySem.Str := ["found", "due"]
theorem sc_law_is : FnScope n_law_is ["found", "due"] (defScope s_law_is) := ⟨rfl, rfl, rfl, by decide +kernel, rfl, by decide +kernel, by decide +kernel⟩
def m_law_is : M Oc :=
  (retM (andB (callM (f_law_plain 12) [] (consA (varV 0) (pure []))) (andB (cmp2 (varV 0) (varV 1) .eq) (andB (cmp2 (varV 1) (varV 0) .eq) (cmp2 (biM (biD .repr) (consP (varV 0) (pure []))) (biM (biD .repr) (consP (varV 1) (pure []))) .eq)))))
def f_law_is : Fun := runD 2 2 m_law_is
abbrev s_law_sums : Stmt := top 44
abbrev n_law_sums : List PySem.Str := ["lines", "counts", "at", "often", "line"]
theorem sc_law_sums : FnScope n_law_sums ["lines", "counts"] (defScope s_law_sums) := ⟨rfl, rfl, rfl, by decide +kernel, rfl, by decide +kernel, by decide +kernel⟩
def m_law_sums : M Oc :=
  (retM (lcM [2] (.nm 2) (itR (biM (biD .len) (consP (bin2 (varV 0) (pure (.d (.int 0))) ixR) (pure [])))) yesM (biM (biD .sum) (consP (lcM [3, 4] (.tp [(.nm 3), (.nm 4)]) (itZ (varV 1) (varV 0)) yesM (bin2 (varV 3) (bin2 (varV 4) (varV 2) ixR) (binD .mul))) (pure [])))))
def f_law_sums : Fun := runD 2 5 m_law_sums
abbrev s_law_mixed : Stmt := top 34
abbrev n_law_mixed : List PySem.Str := ["state", "prime", "turn", "found", "blend", "cell"]
theorem sc_law_mixed : FnScope n_law_mixed ["state"] (defScope s_law_mixed) := ⟨rfl, rfl, rfl, by decide +kernel, rfl, by decide +kernel, by decide +kernel⟩
def m_law_mixed : M Oc :=
  (seqM (par2M 2 3 (bin2 (stGet 0 DS.turn) (pure (.d (.int 1))) (binD .add)) (pure (.d (.int 0))))
  (seqM (stSet 0 (fun s n => { s with turn := n }) (varV 2))
  (seqM (forS (.nm 1) (itQ (lstM (consL (pure (.d (.int 2147483629))) (consL (pure (.d (.int 2147483587))) (consL (pure (.d (.int 2147483579))) (consL (pure (.d (.int 2147483563))) (pure []))))))) (seqM (setM 4 (bin2 (bin2 (pure (.d (.int 69621))) (varV 2) (binD .mul)) (bin2 (varV 1) (pure (.d (.int 41))) (binD .fdiv)) (binD .add)))
  (seqM (forS (.nm 5) (stCells 0) (setM 4 (bin2 (biM (biD .int) (consP (bin2 (bin2 (bin2 (varV 4) (pure (.d (.int 48271))) (binD .mul)) (varV 5) (binD .add)) (varV 2) (binD .add)) (pure []))) (varV 1) (binD .mod))))
  (setM 3 (bin2 (bin2 (varV 3) (pure (.d (.int 2147483659))) (binD .mul)) (bin2 (biM (biD .int) (consP (bin2 (varV 4) (pure (.d (.int 5))) (binD .pow)) (pure []))) (varV 1) (binD .mod)) (binD .add))))))
  (retM (varV 3)))))
def f_law_mixed : Fun := runD 1 6 m_law_mixed
abbrev s_law_draw : Stmt := top 35
abbrev n_law_draw : List PySem.Str := ["state", "room", "found"]
theorem sc_law_draw : FnScope n_law_draw ["state", "room"] (defScope s_law_draw) := ⟨rfl, rfl, rfl, by decide +kernel, rfl, by decide +kernel, by decide +kernel⟩
def m_law_draw : M Oc :=
  (seqM (ifM (cmp2 (stGet 0 DS.rest) (pure (.d (.int 0))) .eq) (stSet 0 (fun s n => { s with rest := n }) (iteB (stGreat 0) (stPop 0) (callM f_law_mixed [] (consA (varV 0) (pure []))))) (pure .nx))
  (seqM (setM 2 (bin2 (biM (biD .int) (consP (stGet 0 DS.rest) (pure []))) (varV 1) (binD .mod)))
  (seqM (stSet 0 (fun s n => { s with rest := n }) (bin2 (stGet 0 DS.rest) (varV 1) (binD .fdiv)))
  (retM (varV 2)))))
def f_law_draw : Fun := runD 2 3 m_law_draw
abbrev s_makes : Stmt := top 30
abbrev n_makes : List PySem.Str := ["size", "numbers", "one"]
theorem sc_makes : FnScope n_makes ["size", "numbers"] (defScope s_makes) := ⟨rfl, rfl, rfl, by decide +kernel, rfl, by decide +kernel, by decide +kernel⟩
def m_makes : M Oc :=
  (seqM (exM (callM f_need_size [] (consA (varV 0) (pure []))))
  (seqM (ifM (orB (notB (isiM [.tuple] (varV 1))) (cmp2 (biM (biD .len) (consP (varV 1) (pure []))) (biM (biD .len) (consP (callM f_sized [] (consA (varV 0) (pure []))) (pure []))) .ne)) stuck (pure .nx))
  (seqM (ifM (notB (biM (biD .all) (consP (lcM [2] (.nm 2) (itQ (varV 1)) yesM (callM f_is_whole [] (consA (varV 2) (pure [])))) (pure [])))) stuck (pure .nx))
  (seqM (ifM (notB (biM (biD .all) (consP (lcM [2] (.nm 2) (itQ (varV 1)) yesM (chn3 (pure (.d (.int 0))) (varV 2) (pure (.d c_MOST_MAKES)) .le .le)) (pure [])))) stuck (pure .nx))
  (retM (biM (biD .tuple) (consP (callM f_makes_of [] (consA (varV 0) (consA (varV 1) (pure [])))) (pure []))))))))
def f_makes : Fun := runD 2 3 m_makes
abbrev s_law : Stmt := top 45
abbrev n_law : List PySem.Str := ["script", "state", "size", "lap", "counts", "lines", "found", "group", "line", "one"]
theorem sc_law : FnScope n_law ["script"] (defScope s_law) := ⟨rfl, rfl, rfl, by decide +kernel, rfl, by decide +kernel, by decide +kernel⟩
def m_law : M Oc :=
  (seqM (setM 1 (callM f_law_begun [] (consA (varV 0) (pure []))))
  (seqM (ifM (orB (cmp2 (lcM [2] (.nm 2) (itR (pure (.d (.int 2)))) yesM (callM f_like_makes [] (consA (varV 2) (pure [])))) (lstM (consL (pure (.d .none)) (consL (pure (.d .none)) (pure [])))) .ne) (cmp2 (callK f_like_makes (pure []) (consA (pure (.d (.int 2))) (pure []))) (pure (.d .none)) .isnot)) (retM (pure (.d (.bool false)))) (pure .nx))
  (seqM (forS (.nm 2) (itQ (lstM (consL (pure (.d (.int 3))) (consL (pure (.d (.int 4))) (pure []))))) (seqM (par2M 5 6 (lcM [7] (.nm 7) (itQ (callM f_groups [] (consA (varV 2) (pure [])))) yesM (callM f_law_marks [] (consA (varV 2) (consA (varV 7) (pure []))))) (callM f_like_makes [] (consA (varV 2) (pure []))))
  (seqM (ifM (orB (notB (isiM [.tuple] (varV 6))) (orB (cmp2 (biM (biD .len) (consP (varV 6) (pure []))) (pure (.d (.int 2))) .ne) (callM f_law_is [] (consA (bin2 (varV 6) (pure (.d (.int 0))) ixR) (consA (bin2 (varV 6) (pure (.d (.int 1))) ixR) (pure [])))))) (retM (pure (.d (.bool false)))) (pure .nx))
  (seqM (forS (.nm 4) (itQ (varV 6)) (ifM (orB (notB (isiM [.tuple] (varV 4))) (orB (cmp2 (biM (biD .len) (consP (varV 4) (pure []))) (biM (biD .len) (consP (varV 5) (pure []))) .ne) (cmp2 (lcM [9] (.nm 9) (itQ (varV 4)) (orB (notB (isiM [.int] (varV 9))) (orB (isiM [.bool] (varV 9)) (cmp2 (varV 9) (pure (.d (.int 0))) .lt))) (pure (.d (.int 1)))) (lstM (pure [])) .ne))) (retM (pure (.d (.bool false)))) (pure .nx)))
  (ifM (cmp2 (callM f_law_sums [] (consA (varV 5) (consA (bin2 (varV 6) (pure (.d (.int 0))) ixR) (pure [])))) (callM f_law_sums [] (consA (varV 5) (consA (bin2 (varV 6) (pure (.d (.int 1))) ixR) (pure [])))) .ne) (retM (pure (.d (.bool false)))) (pure .nx))))))
  (seqM (forS (.nm 3) (itR (bin2 (pure (.d (.int 4))) (biM minF (consP (biM (biD .len) (consP (varV 0) (pure []))) (consP (pure (.d (.int 6))) (pure [])))) (binD .add))) (seqM (setM 2 (callM f_law_draw [] (consA (varV 1) (consA (pure (.d (.int 3))) (pure [])))))
  (seqM (setM 5 (lcM [7] (.nm 7) (itQ (callM f_groups [] (consA (varV 2) (pure [])))) yesM (callM f_law_marks [] (consA (varV 2) (consA (varV 7) (pure []))))))
  (seqM (setM 4 (biM (biD .tuple) (consP (lcM [8] (.nm 8) (itQ (varV 5)) yesM (callM f_law_draw [] (consA (varV 1) (consA (pure (.d (.int 6))) (pure []))))) (pure []))))
  (ifM (notB (callM f_law_is [] (consA (callM f_makes [] (consA (varV 2) (consA (biM (biD .tuple) (consP (callM f_law_sums [] (consA (varV 5) (consA (varV 4) (pure [])))) (pure []))) (pure [])))) (consA (tupM (consL (varV 4) (pure []))) (pure []))))) (retM (pure (.d (.bool false)))) (pure .nx))))))
  (retM (pure (.d (.bool true))))))))
def f_law : Fun := runD 1 10 m_law
/-- what the top has left -/
structure Tx (w : World) (K : PySem.W.Frag) (mg : PySem.Str → Option Value) : Prop where
  d_law_begun : HasDef K mg "_law_begun" s_law_begun
  d_is_whole : HasDef K mg "is_whole" s_is_whole
  d_is_below : HasDef K mg "is_below" s_is_below
  d_need_size : HasDef K mg "need_size" s_need_size
  d_then : HasDef K mg "then" s_then
  d_closed : HasDef K mg "closed" s_closed
  d_groups_of : HasDef K mg "groups_of" s_groups_of
  d_is_longest : HasDef K mg "is_longest" s_is_longest
  d_need_longest : HasDef K mg "need_longest" s_need_longest
  d_types_within : HasDef K mg "types_within" s_types_within
  d_types_of : HasDef K mg "types_of" s_types_of
  d_types : HasDef K mg "types" s_types
  d_sized : HasDef K mg "sized" s_sized
  d_orders_of : HasDef K mg "orders_of" s_orders_of
  d_lengths_of : HasDef K mg "lengths_of" s_lengths_of
  d_undone_order : HasDef K mg "undone_order" s_undone_order
  d_marks_of : HasDef K mg "marks_of" s_marks_of
  d_marks : HasDef K mg "marks" s_marks
  d_makes_of : HasDef K mg "makes_of" s_makes_of
  d_like_makes : HasDef K mg "like_makes" s_like_makes
  d_groups : HasDef K mg "groups" s_groups
  d_law_orders : HasDef K mg "_law_orders" s_law_orders
  d_law_after : HasDef K mg "_law_after" s_law_after
  d_law_parts_of : HasDef K mg "_law_parts_of" s_law_parts_of
  d_law_sized : HasDef K mg "_law_sized" s_law_sized
  d_law_lengths : HasDef K mg "_law_lengths" s_law_lengths
  d_law_marks : HasDef K mg "_law_marks" s_law_marks
  d_law_plain : HasDef K mg "_law_plain" s_law_plain
  d_law_is : HasDef K mg "_law_is" s_law_is
  d_law_sums : HasDef K mg "_law_sums" s_law_sums
  d_law_mixed : HasDef K mg "_law_mixed" s_law_mixed
  d_law_draw : HasDef K mg "_law_draw" s_law_draw
  d_makes : HasDef K mg "makes" s_makes
  d_law : HasDef K mg "law" s_law
  n_abs : mg "abs" = none
  n_all : mg "all" = none
  n_any : mg "any" = none
  n_bool : mg "bool" = none
  n_dict : mg "dict" = none
  n_int : mg "int" = none
  n_isinstance : mg "isinstance" = none
  n_len : mg "len" = none
  n_list : mg "list" = none
  n_max : mg "max" = none
  n_min : mg "min" = none
  n_range : mg "range" = none
  n_repr : mg "repr" = none
  n_sorted : mg "sorted" = none
  n_str : mg "str" = none
  n_sum : mg "sum" = none
  n_tuple : mg "tuple" = none
  n_zip : mg "zip" = none
  c_MAKERS : Glb w K mg "MAKERS" c_MAKERS
  c_MOST_MAKES : Glb w K mg "MOST_MAKES" c_MOST_MAKES
  c_MOST_SIZE_marks5 : Glb w K mg "MOST_SIZE_marks5" c_MOST_SIZE_marks5
  c_MOST_SIZE_types1 : Glb w K mg "MOST_SIZE_types1" c_MOST_SIZE_types1
section
variable {P : Program} {w : World} {K : PySem.W.Frag} {mg : PySem.Str → Option Value}
theorem ok_law_begun (T : Tx w K mg) (base : Heap) (f : Addr) (fd : FuncData) (F : FnP K "_law_begun" s_law_begun f fd) : FnG P w K mg base 1 f fd ["script"] (spF w K f_law_begun) := by
  refine fn_g (k := 0) (N := n_law_begun) F sc_law_begun rfl rfl fun cdv A out s H hr hgd => ?_
  · have hu := r70 hr
    exact (sb_cons (ss_setLc (pr := false) (own := [("cell", 2)]) rfl sc_law_begun.nd rfl rfl (sw_true rfl rfl rfl (by decide +kernel)) (si_seq (v_ 0)) (blkOk_by (own := [("cell", 2)]) (N := n_law_begun) (sc := defScope s_law_begun) (by decide +kernel)) (by rfl) (fun h => nomatch h) (fun _ _ _ _ _ => (sg_name (i := 2) sc_law_begun.nd rfl (by first | exact .inl rfl | exact .inr rfl) (by first | exact .inl rfl | exact .inr rfl))) (fun _ _ _ _ _ => (sc_one (tcmp_ hu .ge (bB_ cb_abs T.n_abs boot_abs (lr_ (v_ 2) sr_nil)) (se_bin .pow se_int se_int)))) (fun _ _ _ _ _ => (se_bin .sub (bB_ cb_abs T.n_abs boot_abs (lr_ (v_ 2) sr_nil)) (se_bin .pow se_int se_int))) (by intro _; rfl))
  (sb_one (ss_ret (se_begun (i := 1) rfl (by first | exact .inl rfl | exact .inr (.inl rfl) | exact .inr (.inr rfl)) (by decide) (by decide) (se_lc (pr := false) (own := [("cell", 2)]) rfl sc_law_begun.nd (si_seq (v_ 0)) (blkOk_by (own := [("cell", 2)]) (N := n_law_begun) (sc := defScope s_law_begun) (by decide +kernel)) (by rfl) (fun h => nomatch h) (fun _ _ _ _ _ => (sg_name (i := 2) sc_law_begun.nd rfl (by first | exact .inl rfl | exact .inr rfl) (by first | exact .inl rfl | exact .inr rfl))) (fun _ _ _ _ _ => sc_nil) (fun _ _ _ _ _ => (bB_ cb_abs T.n_abs boot_abs (lr_ (v_ 2) sr_nil))) (by intro _; rfl))))))

theorem ok_is_whole (T : Tx w K mg) (base : Heap) (f : Addr) (fd : FuncData) (F : FnP K "is_whole" s_is_whole f fd) : FnG P w K mg base 1 f fd ["thing"] (spF w K f_is_whole) := by
  refine fn_g (k := 0) (N := n_is_whole) F sc_is_whole rfl rfl fun cdv A out s H hr hgd => ?_
  · have hu := r70 hr
    exact (sb_one (ss_ret (se_and (se_isi .int (by rfl) T.n_isinstance (v_ 0) (ty_cons .int (by rfl) T.n_int boot_int (by decide) (by decide) ty_nil) (by rfl) (by rfl)) (se_one (se_not (se_isi .bool (by rfl) T.n_isinstance (v_ 0) (ty_cons .bool (by rfl) T.n_bool boot_bool (by decide) (by decide) ty_nil) (by rfl) (by rfl)))))))

theorem ok_is_below (T : Tx w K mg) (base : Heap) (f : Addr) (fd : FuncData) (F : FnP K "is_below" s_is_below f fd) : FnG P w K mg base 2 f fd ["thing", "many"] (spF w K f_is_below) := by
  obtain ⟨a_is_whole, e_is_whole, F_is_whole, g_is_whole⟩ := T.d_is_whole
  have G_is_whole := ok_is_whole (P := P) T base a_is_whole e_is_whole F_is_whole
  have b_is_whole : Binds K e_is_whole ["thing"] [] := F_is_whole.bindsN fun _ _ _ _ _ _ us hl => match us, hl with | [_], _ => rfl
  refine fn_g (k := 1) (N := n_is_below) F sc_is_below rfl rfl fun cdv A out s H hr hgd => ?_
  · have hu := r70 hr
    exact (sb_one (ss_ret (se_and (c_ G_is_whole hr (by omega) hgd g_is_whole F_is_whole.kp b_is_whole (la_ (v_ 0) sa_nil)) (se_one (chn_ hu .le .lt se_int (v_ 0) (v_ 1))))))

theorem ok_need_size (T : Tx w K mg) (base : Heap) (f : Addr) (fd : FuncData) (F : FnP K "need_size" s_need_size f fd) : FnG P w K mg base 3 f fd ["size"] (spF w K f_need_size) := by
  obtain ⟨a_is_below, e_is_below, F_is_below, g_is_below⟩ := T.d_is_below
  have G_is_below := ok_is_below (P := P) T base a_is_below e_is_below F_is_below
  have b_is_below : Binds K e_is_below ["thing", "many"] [] := F_is_below.bindsN fun _ _ _ _ _ _ us hl => match us, hl with | [_, _], _ => rfl
  refine fn_g (k := 2) (N := n_need_size) F sc_need_size rfl rfl fun cdv A out s H hr hgd => ?_
  · have hu := r70 hr
    exact (sb_one (ss_if (st_not (tval_ (c_ G_is_below hr (by omega) hgd g_is_below F_is_below.kp b_is_below (la_ (v_ 0) (la_ (se_bin .add (g_ T.c_MOST_SIZE_marks5) se_int) sa_nil))))) (sb_one ss_never) sb_nil))

theorem ok_then (T : Tx w K mg) (base : Heap) (f : Addr) (fd : FuncData) (F : FnP K "then" s_then f fd) : FnG P w K mg base 1 f fd ["one", "other"] (spF w K f_then) := by
  refine fn_g (k := 0) (N := n_then) F sc_then rfl rfl fun cdv A out s H hr hgd => ?_
  · have hu := r70 hr
    exact (sb_one (ss_ret (bT_ cb_tuple T.n_tuple boot_tuple (lr_ (se_lc (pr := false) (own := [("place", 2)]) rfl sc_then.nd (si_seq (v_ 1)) (blkOk_by (own := [("place", 2)]) (by kernel_rfl)) (by rfl) (fun h => nomatch h) (fun _ _ _ _ _ => (sg_name (i := 2) sc_then.nd rfl (by first | exact .inl rfl | exact .inr rfl) (by first | exact .inl rfl | exact .inr rfl))) (fun _ _ _ _ _ => sc_nil) (fun _ _ _ _ _ => (ix_ hu (v_ 0) (v_ 2))) (by intro _; rfl)) sr_nil))))

theorem ok_closed (T : Tx w K mg) (base : Heap) (f : Addr) (fd : FuncData) (F : FnP K "closed" s_closed f fd) : FnG P w K mg base 2 f fd ["some"] (spF w K f_closed) := by
  obtain ⟨a_then, e_then, F_then, g_then⟩ := T.d_then
  have G_then := ok_then (P := P) T base a_then e_then F_then
  have b_then : Binds K e_then ["one", "other"] [] := F_then.bindsN fun _ _ _ _ _ _ us hl => match us, hl with | [_, _], _ => rfl
  refine fn_g (k := 1) (N := n_closed) F sc_closed rfl rfl fun cdv A out s H hr hgd => ?_
  · have hu := r70 hr
    exact (sb_cons (ss_setDc (pr := false) (own := [("one", 3)]) hu rfl sc_closed.nd rfl rfl (sw_trueD rfl rfl rfl (by decide +kernel)) (si_seq (v_ 0)) (blkOk_by (own := [("one", 3)]) (by kernel_rfl)) (by rfl) (fun h => nomatch h) (fun _ _ _ _ _ => (sg_name (i := 3) sc_closed.nd rfl (by first | exact .inl rfl | exact .inr rfl) (by first | exact .inl rfl | exact .inr rfl))) (fun _ _ _ _ _ => sc_nil) (fun _ _ _ _ _ => (v_ 3)) (fun _ _ _ _ _ => se_bool) (by intro _; rfl))
  (sb_cons (ss_set (i := 2) sc_closed.nd rfl (by first | exact .inl rfl | exact .inr rfl) (bT_ (cb_list rfl) T.n_list boot_list (lr_ (v_ 1) sr_nil)) (by rfl) (by first | exact .inl rfl | exact .inr rfl))
  (sb_cons (ss_while PassesOwn.never (tcmp_ hu .ne (v_ 2) (se_lst sl_nil)) (sb_cons (ss_set (i := 3) sc_closed.nd rfl (by first | exact .inl rfl | exact .inr rfl) (se_meL0 PySem.F.slot_list_pop PySem.F.type_list_pop mt_pop me_pop (v_ 2) (by rfl) (by rfl)) (by rfl) (by first | exact .inl rfl | exact .inr rfl))
  (sb_one (ss_for (pr := false) PassesOwn.never rfl (si_seq (bT_ (cb_list rfl) T.n_list boot_list (lr_ (v_ 1) sr_nil))) (fun h => nomatch h) (sg_name (i := 4) sc_closed.nd rfl (by first | exact .inl rfl | exact .inr rfl) (by first | exact .inl rfl | exact .inr rfl)) (sb_one (ss_for (pr := false) PassesOwn.never rfl (si_seq (se_lst (lc_ (c_ G_then hr (by omega) hgd g_then F_then.kp b_then (la_ (v_ 3) (la_ (v_ 4) sa_nil))) (lc_ (c_ G_then hr (by omega) hgd g_then F_then.kp b_then (la_ (v_ 4) (la_ (v_ 3) sa_nil))) sl_nil)))) (fun h => nomatch h) (sg_name (i := 5) sc_closed.nd rfl (by first | exact .inl rfl | exact .inr rfl) (by first | exact .inl rfl | exact .inr rfl)) (sb_one (ss_if (tcmp_ hu .notin (v_ 5) (v_ 1)) (sb_cons (ss_setX hu (i := 1) rfl (by first | exact .inl rfl | exact .inr (.inl rfl) | exact .inr (.inr rfl)) (by decide) (by decide) (v_ 5) se_bool (by intro _; rfl) (by rfl) (by rfl) (by rfl))
  (sb_one (ss_ex (se_meL PySem.F.slot_list_append PySem.F.type_list_append mt_append me_append (v_ 2) (lc_ (v_ 5) sl_nil) (by rfl) (by rfl) (by rfl) (by rfl) (by rfl)) (by rfl)))) sb_nil)) (by intro _; rfl))) (by intro _; rfl)))))
  (sb_one (ss_ret (bT_ cb_tuple T.n_tuple boot_tuple (lr_ (bB_ (cb_sorted rfl hu) T.n_sorted boot_sorted (lr_ (v_ 1) sr_nil)) sr_nil)))))))

theorem ok_groups_of (T : Tx w K mg) (base : Heap) (f : Addr) (fd : FuncData) (F : FnP K "groups_of" s_groups_of f fd) : FnG P w K mg base 3 f fd ["size"] (spF w K f_groups_of) := by
  obtain ⟨a_closed, e_closed, F_closed, g_closed⟩ := T.d_closed
  have G_closed := ok_closed (P := P) T base a_closed e_closed F_closed
  have b_closed : Binds K e_closed ["some"] [] := F_closed.bindsN fun _ _ _ _ _ _ us hl => match us, hl with | [_], _ => rfl
  refine fn_g (k := 2) (N := n_groups_of) F sc_groups_of rfl rfl fun cdv A out s H hr hgd => ?_
  · have hu := r70 hr
    exact (sb_one (ss_ret (se_lc (pr := false) (own := [("some", 1)]) rfl sc_groups_of.nd (si_seq (ix_ hu (g_ T.c_MAKERS) (v_ 0))) (blkOk_by (own := [("some", 1)]) (by kernel_rfl)) (by rfl) (fun h => nomatch h) (fun _ _ _ _ _ => (sg_name (i := 1) sc_groups_of.nd rfl (by first | exact .inl rfl | exact .inr rfl) (by first | exact .inl rfl | exact .inr rfl))) (fun _ _ _ _ _ => sc_nil) (fun _ _ _ _ _ => (c_ G_closed hr (by omega) hgd g_closed F_closed.kp b_closed (la_ (se_bin .add (se_lst (lc_ (trng_ rfl T.n_tuple T.n_range (v_ 0)) sl_nil)) (bT_ (cb_list rfl) T.n_list boot_list (lr_ (v_ 1) sr_nil))) sa_nil))) (by intro _; rfl))))

theorem ok_is_longest (T : Tx w K mg) (base : Heap) (f : Addr) (fd : FuncData) (F : FnP K "is_longest" s_is_longest f fd) : FnG P w K mg base 3 f fd ["thing"] (spF w K f_is_longest) := by
  obtain ⟨a_is_below, e_is_below, F_is_below, g_is_below⟩ := T.d_is_below
  have G_is_below := ok_is_below (P := P) T base a_is_below e_is_below F_is_below
  have b_is_below : Binds K e_is_below ["thing", "many"] [] := F_is_below.bindsN fun _ _ _ _ _ _ us hl => match us, hl with | [_, _], _ => rfl
  refine fn_g (k := 2) (N := n_is_longest) F sc_is_longest rfl rfl fun cdv A out s H hr hgd => ?_
  · have hu := r70 hr
    exact (sb_one (ss_ret (se_and (c_ G_is_below hr (by omega) hgd g_is_below F_is_below.kp b_is_below (la_ (v_ 0) (la_ (se_bin .add (g_ T.c_MOST_SIZE_types1) se_int) sa_nil))) (se_one (cmp_ hu .gt (v_ 0) se_int)))))

theorem ok_need_longest (T : Tx w K mg) (base : Heap) (f : Addr) (fd : FuncData) (F : FnP K "need_longest" s_need_longest f fd) : FnG P w K mg base 4 f fd ["longest"] (spF w K f_need_longest) := by
  obtain ⟨a_is_longest, e_is_longest, F_is_longest, g_is_longest⟩ := T.d_is_longest
  have G_is_longest := ok_is_longest (P := P) T base a_is_longest e_is_longest F_is_longest
  have b_is_longest : Binds K e_is_longest ["thing"] [] := F_is_longest.bindsN fun _ _ _ _ _ _ us hl => match us, hl with | [_], _ => rfl
  refine fn_g (k := 3) (N := n_need_longest) F sc_need_longest rfl rfl fun cdv A out s H hr hgd => ?_
  · have hu := r70 hr
    exact (sb_one (ss_if (st_not (tval_ (c_ G_is_longest hr (by omega) hgd g_is_longest F_is_longest.kp b_is_longest (la_ (v_ 0) sa_nil)))) (sb_one ss_never) sb_nil))

theorem ok_types_within (T : Tx w K mg) (base : Heap) : ∀ (n : Nat) (f : Addr) (fd : FuncData), FnP K "types_within" s_types_within f fd → FnG P w K mg base (1 + n) f fd ["size", "most"] (spF w K (f_types_within n))
  | 0, _, _, _ => FnG.none
  | n + 1, f, fd, F => by
    obtain ⟨a_types_within, e_types_within, F_types_within, g_types_within⟩ := T.d_types_within
    have G_types_within := ok_types_within T base n a_types_within e_types_within F_types_within
    have b_types_within : Binds K e_types_within ["size", "most"] [] := F_types_within.bindsN fun _ _ _ _ _ _ us hl => match us, hl with | [_, _], _ => rfl
    refine fn_g (k := 1 + n) (N := n_types_within) F sc_types_within rfl rfl fun cdv A out s H hr hgd => ?_
    · have hu := r70 hr
      exact (sb_cons (ss_if (tcmp_ hu .eq (v_ 0) se_int) (sb_one (ss_ret (se_lst (lc_ (se_tup sl_nil) sl_nil)))) sb_nil)
  (sb_cons (ss_set (i := 2) sc_types_within.nd rfl (by first | exact .inl rfl | exact .inr rfl) (se_lst sl_nil) (by rfl) (by first | exact .inl rfl | exact .inr rfl))
  (sb_cons (ss_for (pr := false) PassesOwn.never rfl (si_range2 (by rfl) T.n_range se_int (se_bin .add (bB_ (cb_min2 rfl) T.n_min boot_min (lr_ (v_ 0) (lr_ (v_ 1) sr_nil))) se_int) (by rfl) (by rfl)) (fun h => nomatch h) (sg_name (i := 3) sc_types_within.nd rfl (by first | exact .inl rfl | exact .inr rfl) (by first | exact .inl rfl | exact .inr rfl)) (sb_one (ss_ex (se_meL PySem.F.slot_list_extend PySem.F.type_list_extend mt_extD me_extend (v_ 2) (lc_ (se_lc (pr := false) (own := [("rest", 4)]) rfl sc_types_within.nd (si_seq (c_ G_types_within hr (by omega) hgd g_types_within F_types_within.kp b_types_within (la_ (se_bin .sub (v_ 0) (v_ 3)) (la_ (v_ 3) sa_nil)))) (blkOk_by (own := [("rest", 4)]) (by kernel_rfl)) (by rfl) (fun h => nomatch h) (fun _ _ _ _ _ => (sg_name (i := 4) sc_types_within.nd rfl (by first | exact .inl rfl | exact .inr rfl) (by first | exact .inl rfl | exact .inr rfl))) (fun _ _ _ _ _ => sc_nil) (fun _ _ _ _ _ => (se_bin .add (se_tup (lc_ (v_ 3) sl_nil)) (v_ 4))) (by intro _; rfl)) sl_nil) (by rfl) (by rfl) (by rfl) (by rfl) (by rfl)) (by rfl))) (by intro _; rfl))
  (sb_one (ss_ret (v_ 2))))))

theorem ok_types_of (T : Tx w K mg) (base : Heap) (f : Addr) (fd : FuncData) (F : FnP K "types_of" s_types_of f fd) : FnG P w K mg base 10 f fd ["longest"] (spF w K f_types_of) := by
  obtain ⟨a_types_within, e_types_within, F_types_within, g_types_within⟩ := T.d_types_within
  have G_types_within := ok_types_within (P := P) T base 8 a_types_within e_types_within F_types_within
  have b_types_within : Binds K e_types_within ["size", "most"] [] := F_types_within.bindsN fun _ _ _ _ _ _ us hl => match us, hl with | [_, _], _ => rfl
  refine fn_g (k := 9) (N := n_types_of) F sc_types_of rfl rfl fun cdv A out s H hr hgd => ?_
  · have hu := r70 hr
    exact (sb_cons (ss_set (i := 1) sc_types_of.nd rfl (by first | exact .inl rfl | exact .inr rfl) (se_lst sl_nil) (by rfl) (by first | exact .inl rfl | exact .inr rfl))
  (sb_cons (ss_for (pr := false) PassesOwn.never rfl (si_range (by rfl) T.n_range (se_bin .add (v_ 0) se_int) (by rfl)) (fun h => nomatch h) (sg_name (i := 2) sc_types_of.nd rfl (by first | exact .inl rfl | exact .inr rfl) (by first | exact .inl rfl | exact .inr rfl)) (sb_one (ss_ex (se_meL PySem.F.slot_list_extend PySem.F.type_list_extend mt_extD me_extend (v_ 1) (lc_ (bB_ (cb_sorted rfl hu) T.n_sorted boot_sorted (lr_ (c_ G_types_within hr (by omega) hgd g_types_within F_types_within.kp b_types_within (la_ (v_ 2) (la_ (v_ 2) sa_nil))) sr_nil)) sl_nil) (by rfl) (by rfl) (by rfl) (by rfl) (by rfl)) (by rfl))) (by intro _; rfl))
  (sb_one (ss_ret (v_ 1)))))

theorem ok_types (T : Tx w K mg) (base : Heap) (f : Addr) (fd : FuncData) (F : FnP K "types" s_types f fd) : FnG P w K mg base 11 f fd ["longest"] (spF w K f_types) := by
  obtain ⟨a_need_longest, e_need_longest, F_need_longest, g_need_longest⟩ := T.d_need_longest
  have G_need_longest := ok_need_longest (P := P) T base a_need_longest e_need_longest F_need_longest
  have b_need_longest : Binds K e_need_longest ["longest"] [] := F_need_longest.bindsN fun _ _ _ _ _ _ us hl => match us, hl with | [_], _ => rfl
  obtain ⟨a_types_of, e_types_of, F_types_of, g_types_of⟩ := T.d_types_of
  have G_types_of := ok_types_of (P := P) T base a_types_of e_types_of F_types_of
  have b_types_of : Binds K e_types_of ["longest"] [] := F_types_of.bindsN fun _ _ _ _ _ _ us hl => match us, hl with | [_], _ => rfl
  refine fn_g (k := 10) (N := n_types) F sc_types rfl rfl fun cdv A out s H hr hgd => ?_
  · have hu := r70 hr
    exact (sb_cons (ss_ex (c_ G_need_longest hr (by omega) hgd g_need_longest F_need_longest.kp b_need_longest (la_ (v_ 0) sa_nil)) (by rfl))
  (sb_one (ss_ret (bT_ cb_tuple T.n_tuple boot_tuple (lr_ (c_ G_types_of hr (by omega) hgd g_types_of F_types_of.kp b_types_of (la_ (v_ 0) sa_nil)) sr_nil)))))

theorem ok_sized (T : Tx w K mg) (base : Heap) (f : Addr) (fd : FuncData) (F : FnP K "sized" s_sized f fd) : FnG P w K mg base 12 f fd ["size"] (spF w K f_sized) := by
  obtain ⟨a_types, e_types, F_types, g_types⟩ := T.d_types
  have G_types := ok_types (P := P) T base a_types e_types F_types
  have b_types : Binds K e_types ["longest"] [] := F_types.bindsN fun _ _ _ _ _ _ us hl => match us, hl with | [_], _ => rfl
  refine fn_g (k := 11) (N := n_sized) F sc_sized rfl rfl fun cdv A out s H hr hgd => ?_
  · have hu := r70 hr
    exact (sb_one (ss_ret (se_lc (pr := false) (own := [("one", 1)]) rfl sc_sized.nd (si_seq (c_ G_types hr (by omega) hgd g_types F_types.kp b_types (la_ (bB_ (cb_max2 rfl) T.n_max boot_max (lr_ (v_ 0) (lr_ se_int sr_nil))) sa_nil))) (blkOk_by (own := [("one", 1)]) (by kernel_rfl)) (by rfl) (fun h => nomatch h) (fun _ _ _ _ _ => (sg_name (i := 1) sc_sized.nd rfl (by first | exact .inl rfl | exact .inr rfl) (by first | exact .inl rfl | exact .inr rfl))) (fun _ _ _ _ _ => (sc_one (tcmp_ hu .eq (bB_ (cb_sum rfl) T.n_sum boot_sum (lr_ (v_ 1) sr_nil)) (v_ 0)))) (fun _ _ _ _ _ => (v_ 1)) (by intro _; rfl))))

theorem ok_orders_of (T : Tx w K mg) (base : Heap) (f : Addr) (fd : FuncData) (F : FnP K "orders_of" s_orders_of f fd) : FnG P w K mg base 1 f fd ["size"] (spF w K f_orders_of) := by
  refine fn_g (k := 0) (N := n_orders_of) F sc_orders_of rfl rfl fun cdv A out s H hr hgd => ?_
  · have hu := r70 hr
    exact (sb_cons (ss_set (i := 1) sc_orders_of.nd rfl (by first | exact .inl rfl | exact .inr rfl) (se_lst (lc_ (se_tup sl_nil) sl_nil)) (by rfl) (by first | exact .inl rfl | exact .inr rfl))
  (sb_cons (ss_for (pr := false) PassesOwn.never rfl (si_range (by rfl) T.n_range (v_ 0) (by rfl)) (fun h => nomatch h) (sg_name (i := 2) sc_orders_of.nd rfl (by first | exact .inl rfl | exact .inr rfl) (by first | exact .inl rfl | exact .inr rfl)) (sb_cons (ss_set (i := 3) sc_orders_of.nd rfl (by first | exact .inl rfl | exact .inr rfl) (se_lst sl_nil) (by rfl) (by first | exact .inl rfl | exact .inr rfl))
  (sb_cons (ss_for (pr := false) PassesOwn.never rfl (si_seq (v_ 1)) (fun h => nomatch h) (sg_name (i := 4) sc_orders_of.nd rfl (by first | exact .inl rfl | exact .inr rfl) (by first | exact .inl rfl | exact .inr rfl)) (sb_one (ss_set (i := 3) sc_orders_of.nd rfl (by first | exact .inl rfl | exact .inr rfl) (se_bin .add (v_ 3) (se_lc (pr := false) (own := [("one", 5)]) rfl sc_orders_of.nd (si_range (by rfl) T.n_range (v_ 0) (by rfl)) (blkOk_by (own := [("one", 5)]) (by kernel_rfl)) (by rfl) (fun h => nomatch h) (fun _ _ _ _ _ => (sg_name (i := 5) sc_orders_of.nd rfl (by first | exact .inl rfl | exact .inr rfl) (by first | exact .inl rfl | exact .inr rfl))) (fun _ _ _ _ _ => (sc_one (tcmp_ hu .notin (v_ 5) (v_ 4)))) (fun _ _ _ _ _ => (se_bin .add (v_ 4) (se_tup (lc_ (v_ 5) sl_nil)))) (by intro _; rfl))) (by rfl) (by first | exact .inl rfl | exact .inr rfl))) (by intro _; rfl))
  (sb_one (ss_set (i := 1) sc_orders_of.nd rfl (by first | exact .inl rfl | exact .inr rfl) (v_ 3) (by rfl) (by first | exact .inl rfl | exact .inr rfl))))) (by intro _; rfl))
  (sb_one (ss_ret (v_ 1)))))

theorem ok_lengths_of (T : Tx w K mg) (base : Heap) (f : Addr) (fd : FuncData) (F : FnP K "lengths_of" s_lengths_of f fd) : FnG P w K mg base 1 f fd ["order"] (spF w K f_lengths_of) := by
  refine fn_g (k := 0) (N := n_lengths_of) F sc_lengths_of rfl rfl fun cdv A out s H hr hgd => ?_
  · have hu := r70 hr
    exact (sb_cons (ss_par2 (i := 1) (j := 2) rfl sc_lengths_of.nd rfl rfl (by decide) rfl rfl (se_lst sl_nil) (lrng_ rfl T.n_list T.n_range (bB_ cb_len T.n_len boot_len (lr_ (v_ 0) sr_nil))) rfl rfl (by rfl) (by rfl))
  (sb_cons (ss_while PassesOwn.never (tcmp_ hu .ne (v_ 2) (se_lst sl_nil)) (sb_cons (ss_par2 (i := 3) (j := 4) rfl sc_lengths_of.nd rfl rfl (by decide) rfl rfl se_int (ix_ hu (v_ 2) se_int) rfl rfl (by rfl) (by rfl))
  (sb_cons (ss_while PassesOwn.never (tcmp_ hu .isin (v_ 4) (v_ 2)) (sb_cons (ss_ex (se_meL PySem.F.slot_list_remove PySem.F.type_list_remove mt_remD (me_remove hu) (v_ 2) (lc_ (v_ 4) sl_nil) (by rfl) (by rfl) (by rfl) (by rfl) (by rfl)) (by rfl))
  (sb_one (ss_par2 (i := 4) (j := 3) rfl sc_lengths_of.nd rfl rfl (by decide) rfl rfl (ix_ hu (v_ 0) (v_ 4)) (se_bin .add (v_ 3) se_int) rfl rfl (by rfl) (by rfl)))))
  (sb_one (ss_ex (se_meL PySem.F.slot_list_append PySem.F.type_list_append mt_append me_append (v_ 1) (lc_ (v_ 3) sl_nil) (by rfl) (by rfl) (by rfl) (by rfl) (by rfl)) (by rfl))))))
  (sb_one (ss_ret (bT_ cb_tuple T.n_tuple boot_tuple (lr_ (se_sortedRev hu (by rfl) T.n_sorted (lr_ (v_ 1) sr_nil) (by rfl) (by rfl)) sr_nil))))))

theorem ok_undone_order (T : Tx w K mg) (base : Heap) (f : Addr) (fd : FuncData) (F : FnP K "undone_order" s_undone_order f fd) : FnG P w K mg base 1 f fd ["order"] (spF w K f_undone_order) := by
  refine fn_g (k := 0) (N := n_undone_order) F sc_undone_order rfl rfl fun cdv A out s H hr hgd => ?_
  · have hu := r70 hr
    exact (sb_one (ss_ret (bT_ cb_tuple T.n_tuple boot_tuple (lr_ (se_lc (pr := false) (own := [("place", 1)]) rfl sc_undone_order.nd (si_range (by rfl) T.n_range (bB_ cb_len T.n_len boot_len (lr_ (v_ 0) sr_nil)) (by rfl)) (blkOk_by (own := [("place", 1)]) (by kernel_rfl)) (by rfl) (fun h => nomatch h) (fun _ _ _ _ _ => (sg_name (i := 1) sc_undone_order.nd rfl (by first | exact .inl rfl | exact .inr rfl) (by first | exact .inl rfl | exact .inr rfl))) (fun _ _ _ _ _ => sc_nil) (fun _ _ _ _ _ => (se_indexT hu (v_ 0) (lc_ (v_ 1) sl_nil) (by rfl) (by rfl) (by rfl) (by rfl) (by rfl))) (by intro _; rfl)) sr_nil))))

theorem ok_marks_of (T : Tx w K mg) (base : Heap) (f : Addr) (fd : FuncData) (F : FnP K "marks_of" s_marks_of f fd) : FnG P w K mg base 13 f fd ["group", "size"] (spF w K f_marks_of) := by
  obtain ⟨a_sized, e_sized, F_sized, g_sized⟩ := T.d_sized
  have G_sized := ok_sized (P := P) T base a_sized e_sized F_sized
  have b_sized : Binds K e_sized ["size"] [] := F_sized.bindsN fun _ _ _ _ _ _ us hl => match us, hl with | [_], _ => rfl
  obtain ⟨a_orders_of, e_orders_of, F_orders_of, g_orders_of⟩ := T.d_orders_of
  have G_orders_of := ok_orders_of (P := P) T base a_orders_of e_orders_of F_orders_of
  have b_orders_of : Binds K e_orders_of ["size"] [] := F_orders_of.bindsN fun _ _ _ _ _ _ us hl => match us, hl with | [_], _ => rfl
  obtain ⟨a_lengths_of, e_lengths_of, F_lengths_of, g_lengths_of⟩ := T.d_lengths_of
  have G_lengths_of := ok_lengths_of (P := P) T base a_lengths_of e_lengths_of F_lengths_of
  have b_lengths_of : Binds K e_lengths_of ["order"] [] := F_lengths_of.bindsN fun _ _ _ _ _ _ us hl => match us, hl with | [_], _ => rfl
  obtain ⟨a_then, e_then, F_then, g_then⟩ := T.d_then
  have G_then := ok_then (P := P) T base a_then e_then F_then
  have b_then : Binds K e_then ["one", "other"] [] := F_then.bindsN fun _ _ _ _ _ _ us hl => match us, hl with | [_, _], _ => rfl
  obtain ⟨a_undone_order, e_undone_order, F_undone_order, g_undone_order⟩ := T.d_undone_order
  have G_undone_order := ok_undone_order (P := P) T base a_undone_order e_undone_order F_undone_order
  have b_undone_order : Binds K e_undone_order ["order"] [] := F_undone_order.bindsN fun _ _ _ _ _ _ us hl => match us, hl with | [_], _ => rfl
  refine fn_g (k := 12) (N := n_marks_of) F sc_marks_of rfl rfl fun cdv A out s H hr hgd => ?_
  · have hu := r70 hr
    exact (sb_cons (ss_set (i := 2) sc_marks_of.nd rfl (by first | exact .inl rfl | exact .inr rfl) (se_lst sl_nil) (by rfl) (by first | exact .inl rfl | exact .inr rfl))
  (sb_cons (ss_for (pr := false) PassesOwn.never rfl (si_seq (c_ G_sized hr (by omega) hgd g_sized F_sized.kp b_sized (la_ (v_ 1) sa_nil))) (fun h => nomatch h) (sg_name (i := 3) sc_marks_of.nd rfl (by first | exact .inl rfl | exact .inr rfl) (by first | exact .inl rfl | exact .inr rfl)) (sb_cons (ss_set (i := 4) sc_marks_of.nd rfl (by first | exact .inl rfl | exact .inr rfl) (ix_ hu (se_lc (pr := false) (own := [("one", 6)]) rfl sc_marks_of.nd (si_seq (c_ G_orders_of hr (by omega) hgd g_orders_of F_orders_of.kp b_orders_of (la_ (v_ 1) sa_nil))) (blkOk_by (own := [("one", 6)]) (by kernel_rfl)) (by rfl) (fun h => nomatch h) (fun _ _ _ _ _ => (sg_name (i := 6) sc_marks_of.nd rfl (by first | exact .inl rfl | exact .inr rfl) (by first | exact .inl rfl | exact .inr rfl))) (fun _ _ _ _ _ => (sc_one (tcmp_ hu .eq (c_ G_lengths_of hr (by omega) hgd g_lengths_of F_lengths_of.kp b_lengths_of (la_ (v_ 6) sa_nil)) (v_ 3)))) (fun _ _ _ _ _ => (v_ 6)) (by intro _; rfl)) se_int) (by rfl) (by first | exact .inl rfl | exact .inr rfl))
  (sb_cons (ss_setLc (pr := false) (own := [("one", 6)]) rfl sc_marks_of.nd rfl rfl (sw_true rfl rfl rfl (by decide +kernel)) (si_seq (c_ G_orders_of hr (by omega) hgd g_orders_of F_orders_of.kp b_orders_of (la_ (v_ 1) sa_nil))) (blkOk_by (own := [("one", 6)]) (by kernel_rfl)) (by rfl) (fun h => nomatch h) (fun _ _ _ _ _ => (sg_name (i := 6) sc_marks_of.nd rfl (by first | exact .inl rfl | exact .inr rfl) (by first | exact .inl rfl | exact .inr rfl))) (fun _ _ _ _ _ => (sc_one (tcmp_ hu .isin (c_ G_then hr (by omega) hgd g_then F_then.kp b_then (la_ (c_ G_then hr (by omega) hgd g_then F_then.kp b_then (la_ (c_ G_undone_order hr (by omega) hgd g_undone_order F_undone_order.kp b_undone_order (la_ (v_ 6) sa_nil)) (la_ (v_ 4) sa_nil))) (la_ (v_ 6) sa_nil))) (v_ 0)))) (fun _ _ _ _ _ => (v_ 6)) (by intro _; rfl))
  (sb_one (ss_ex (se_meL PySem.F.slot_list_append PySem.F.type_list_append mt_append me_append (v_ 2) (lc_ (se_bin .fdiv (bB_ cb_len T.n_len boot_len (lr_ (v_ 5) sr_nil)) (bB_ cb_len T.n_len boot_len (lr_ (v_ 0) sr_nil))) sl_nil) (by rfl) (by rfl) (by rfl) (by rfl) (by rfl)) (by rfl))))) (by intro _; rfl))
  (sb_one (ss_ret (v_ 2)))))

theorem ok_marks (T : Tx w K mg) (base : Heap) (f : Addr) (fd : FuncData) (F : FnP K "marks" s_marks f fd) : FnG P w K mg base 14 f fd ["size"] (spF w K f_marks) := by
  obtain ⟨a_need_size, e_need_size, F_need_size, g_need_size⟩ := T.d_need_size
  have G_need_size := ok_need_size (P := P) T base a_need_size e_need_size F_need_size
  have b_need_size : Binds K e_need_size ["size"] [] := F_need_size.bindsN fun _ _ _ _ _ _ us hl => match us, hl with | [_], _ => rfl
  obtain ⟨a_groups_of, e_groups_of, F_groups_of, g_groups_of⟩ := T.d_groups_of
  have G_groups_of := ok_groups_of (P := P) T base a_groups_of e_groups_of F_groups_of
  have b_groups_of : Binds K e_groups_of ["size"] [] := F_groups_of.bindsN fun _ _ _ _ _ _ us hl => match us, hl with | [_], _ => rfl
  obtain ⟨a_marks_of, e_marks_of, F_marks_of, g_marks_of⟩ := T.d_marks_of
  have G_marks_of := ok_marks_of (P := P) T base a_marks_of e_marks_of F_marks_of
  have b_marks_of : Binds K e_marks_of ["group", "size"] [] := F_marks_of.bindsN fun _ _ _ _ _ _ us hl => match us, hl with | [_, _], _ => rfl
  refine fn_g (k := 13) (N := n_marks) F sc_marks rfl rfl fun cdv A out s H hr hgd => ?_
  · have hu := r70 hr
    exact (sb_cons (ss_ex (c_ G_need_size hr (by omega) hgd g_need_size F_need_size.kp b_need_size (la_ (v_ 0) sa_nil)) (by rfl))
  (sb_one (ss_ret (bT_ cb_tuple T.n_tuple boot_tuple (lr_ (se_lc (pr := false) (own := [("group", 1)]) rfl sc_marks.nd (si_seq (c_ G_groups_of hr (by omega) hgd g_groups_of F_groups_of.kp b_groups_of (la_ (v_ 0) sa_nil))) (blkOk_by (own := [("group", 1)]) (by kernel_rfl)) (by rfl) (fun h => nomatch h) (fun _ _ _ _ _ => (sg_name (i := 1) sc_marks.nd rfl (by first | exact .inl rfl | exact .inr rfl) (by first | exact .inl rfl | exact .inr rfl))) (fun _ _ _ _ _ => sc_nil) (fun _ _ _ _ _ => (bT_ cb_tuple T.n_tuple boot_tuple (lr_ (c_ G_marks_of hr (by omega) hgd g_marks_of F_marks_of.kp b_marks_of (la_ (v_ 1) (la_ (v_ 0) sa_nil))) sr_nil))) (by intro _; rfl)) sr_nil)))))

theorem ok_makes_of (T : Tx w K mg) (base : Heap) (f : Addr) (fd : FuncData) (F : FnP K "makes_of" s_makes_of f fd) : FnG P w K mg base 14 f fd ["size", "numbers"] (spF w K f_makes_of) := by
  obtain ⟨a_groups_of, e_groups_of, F_groups_of, g_groups_of⟩ := T.d_groups_of
  have G_groups_of := ok_groups_of (P := P) T base a_groups_of e_groups_of F_groups_of
  have b_groups_of : Binds K e_groups_of ["size"] [] := F_groups_of.bindsN fun _ _ _ _ _ _ us hl => match us, hl with | [_], _ => rfl
  obtain ⟨a_marks_of, e_marks_of, F_marks_of, g_marks_of⟩ := T.d_marks_of
  have G_marks_of := ok_marks_of (P := P) T base a_marks_of e_marks_of F_marks_of
  have b_marks_of : Binds K e_marks_of ["group", "size"] [] := F_marks_of.bindsN fun _ _ _ _ _ _ us hl => match us, hl with | [_, _], _ => rfl
  refine fn_g (k := 13) (N := n_makes_of) F sc_makes_of rfl rfl fun cdv A out s H hr hgd => ?_
  · have hu := r70 hr
    exact (sb_cons (ss_set (i := 2) sc_makes_of.nd rfl (by first | exact .inl rfl | exact .inr rfl) (se_lst (lc_ (se_tup (lc_ (se_tup sl_nil) (lc_ (bT_ cb_tuple T.n_tuple boot_tuple (lr_ (v_ 1) sr_nil)) sl_nil))) sl_nil)) (by rfl) (by first | exact .inl rfl | exact .inr rfl))
  (sb_cons (ss_for (pr := false) PassesOwn.never rfl (si_seq (se_lc (pr := false) (own := [("group", 5)]) rfl sc_makes_of.nd (si_seq (c_ G_groups_of hr (by omega) hgd g_groups_of F_groups_of.kp b_groups_of (la_ (v_ 0) sa_nil))) (blkOk_by (own := [("group", 5)]) (by kernel_rfl)) (by rfl) (fun h => nomatch h) (fun _ _ _ _ _ => (sg_name (i := 5) sc_makes_of.nd rfl (by first | exact .inl rfl | exact .inr rfl) (by first | exact .inl rfl | exact .inr rfl))) (fun _ _ _ _ _ => sc_nil) (fun _ _ _ _ _ => (c_ G_marks_of hr (by omega) hgd g_marks_of F_marks_of.kp b_marks_of (la_ (v_ 5) (la_ (v_ 0) sa_nil)))) (by intro _; rfl))) (fun h => nomatch h) (sg_name (i := 3) sc_makes_of.nd rfl (by first | exact .inl rfl | exact .inr rfl) (by first | exact .inl rfl | exact .inr rfl)) (sb_cons (ss_set (i := 4) sc_makes_of.nd rfl (by first | exact .inl rfl | exact .inr rfl) (se_lst sl_nil) (by rfl) (by first | exact .inl rfl | exact .inr rfl))
  (sb_cons (ss_for (pr := false) PassesOwn.never rfl (si_seq (v_ 2)) (fun h => nomatch h) (sg_tup (n := 2) rfl (sgs_cons (sg_name (i := 6) sc_makes_of.nd rfl (by first | exact .inl rfl | exact .inr rfl) (by first | exact .inl rfl | exact .inr rfl)) (sgs_cons (sg_name (i := 7) sc_makes_of.nd rfl (by first | exact .inl rfl | exact .inr rfl) (by first | exact .inl rfl | exact .inr rfl)) sgs_nil (by rfl)) (by rfl)) (by rfl) (by rfl) (by rfl)) (sb_cons (ss_set (i := 8) sc_makes_of.nd rfl (by first | exact .inl rfl | exact .inr rfl) se_int (by rfl) (by first | exact .inl rfl | exact .inr rfl))
  (sb_one (ss_while PassesOwn.never (tval_ (bB_ (cb_all rfl) T.n_all boot_all (lr_ (se_lc (pr := false) (own := [("one", 9)]) rfl sc_makes_of.nd (si_seq (v_ 7)) (blkOk_by (own := [("one", 9)]) (by kernel_rfl)) (by rfl) (fun h => nomatch h) (fun _ _ _ _ _ => (sg_name (i := 9) sc_makes_of.nd rfl (by first | exact .inl rfl | exact .inr rfl) (by first | exact .inl rfl | exact .inr rfl))) (fun _ _ _ _ _ => sc_nil) (fun _ _ _ _ _ => (cmp_ hu .ge (v_ 9) se_int)) (by intro _; rfl)) sr_nil))) (sb_cons (ss_ex (se_meL PySem.F.slot_list_append PySem.F.type_list_append mt_append me_append (v_ 4) (lc_ (se_tup (lc_ (se_bin .add (v_ 6) (se_tup (lc_ (v_ 8) sl_nil))) (lc_ (v_ 7) sl_nil))) sl_nil) (by rfl) (by rfl) (by rfl) (by rfl) (by rfl)) (by rfl))
  (sb_one (ss_par2 (i := 8) (j := 7) rfl sc_makes_of.nd rfl rfl (by decide) rfl rfl (se_bin .add (v_ 8) se_int) (bT_ cb_tuple T.n_tuple boot_tuple (lr_ (se_lc (pr := true) (own := [("one", 9), ("here", 10)]) rfl sc_makes_of.nd (si_zip (by rfl) T.n_zip (v_ 7) (v_ 3) (by rfl) (by rfl) (by rfl)) (blkOk_by (own := [("one", 9), ("here", 10)]) (by kernel_rfl)) (by rfl) (fun _ => rfl) (fun _ _ _ _ _ => (sg_tup (n := 2) rfl (sgs_cons (sg_name (i := 9) sc_makes_of.nd rfl (by first | exact .inl rfl | exact .inr rfl) (by first | exact .inl rfl | exact .inr rfl)) (sgs_cons (sg_name (i := 10) sc_makes_of.nd rfl (by first | exact .inl rfl | exact .inr rfl) (by first | exact .inl rfl | exact .inr rfl)) sgs_nil (by rfl)) (by rfl)) (by rfl) (by rfl) (by rfl))) (fun _ _ _ _ _ => sc_nil) (fun _ _ _ _ _ => (se_bin .sub (v_ 9) (v_ 10))) (by intro _; rfl)) sr_nil)) rfl rfl (by rfl) (by rfl))))))) (by intro _; rfl))
  (sb_one (ss_set (i := 2) sc_makes_of.nd rfl (by first | exact .inl rfl | exact .inr rfl) (v_ 4) (by rfl) (by first | exact .inl rfl | exact .inr rfl))))) (by intro _; rfl))
  (sb_one (ss_ret (bB_ (cb_sorted rfl hu) T.n_sorted boot_sorted (lr_ (se_lc (pr := false) (own := [("counts", 6), ("left", 7)]) rfl sc_makes_of.nd (si_seq (v_ 2)) (blkOk_by (own := [("counts", 6), ("left", 7)]) (by kernel_rfl)) (by rfl) (fun h => nomatch h) (fun _ _ _ _ _ => (sg_tup (n := 2) rfl (sgs_cons (sg_name (i := 6) sc_makes_of.nd rfl (by first | exact .inl rfl | exact .inr rfl) (by first | exact .inl rfl | exact .inr rfl)) (sgs_cons (sg_name (i := 7) sc_makes_of.nd rfl (by first | exact .inl rfl | exact .inr rfl) (by first | exact .inl rfl | exact .inr rfl)) sgs_nil (by rfl)) (by rfl)) (by rfl) (by rfl) (by rfl))) (fun _ _ _ _ _ => (sc_one (st_not (tval_ (bB_ (cb_any rfl) T.n_any boot_any (lr_ (v_ 7) sr_nil)))))) (fun _ _ _ _ _ => (v_ 6)) (by intro _; rfl)) sr_nil))))))

theorem ok_like_makes (T : Tx w K mg) (base : Heap) (f : Addr) (fd : FuncData) (F : FnP K "like_makes" s_like_makes f fd) : FnG P w K mg base 15 f fd ["size"] (spF w K f_like_makes) := by
  obtain ⟨a_need_size, e_need_size, F_need_size, g_need_size⟩ := T.d_need_size
  have G_need_size := ok_need_size (P := P) T base a_need_size e_need_size F_need_size
  have b_need_size : Binds K e_need_size ["size"] [] := F_need_size.bindsN fun _ _ _ _ _ _ us hl => match us, hl with | [_], _ => rfl
  obtain ⟨a_groups_of, e_groups_of, F_groups_of, g_groups_of⟩ := T.d_groups_of
  have G_groups_of := ok_groups_of (P := P) T base a_groups_of e_groups_of F_groups_of
  have b_groups_of : Binds K e_groups_of ["size"] [] := F_groups_of.bindsN fun _ _ _ _ _ _ us hl => match us, hl with | [_], _ => rfl
  obtain ⟨a_marks, e_marks, F_marks, g_marks⟩ := T.d_marks
  have G_marks := ok_marks (P := P) T base a_marks e_marks F_marks
  have b_marks : Binds K e_marks ["size"] [] := F_marks.bindsN fun _ _ _ _ _ _ us hl => match us, hl with | [_], _ => rfl
  obtain ⟨a_makes_of, e_makes_of, F_makes_of, g_makes_of⟩ := T.d_makes_of
  have G_makes_of := ok_makes_of (P := P) T base a_makes_of e_makes_of F_makes_of
  have b_makes_of : Binds K e_makes_of ["size", "numbers"] [] := F_makes_of.bindsN fun _ _ _ _ _ _ us hl => match us, hl with | [_, _], _ => rfl
  refine fn_g (k := 14) (N := n_like_makes) F sc_like_makes rfl rfl fun cdv A out s H hr hgd => ?_
  · have hu := r70 hr
    exact (sb_cons (ss_ex (c_ G_need_size hr (by omega) hgd g_need_size F_need_size.kp b_need_size (la_ (v_ 0) sa_nil)) (by rfl))
  (sb_cons (ss_if (tcmp_ hu .lt (v_ 0) se_int) (sb_one (ss_ret se_none)) sb_nil)
  (sb_cons (ss_set (i := 1) sc_like_makes.nd rfl (by first | exact .inl rfl | exact .inr rfl) (c_ G_groups_of hr (by omega) hgd g_groups_of F_groups_of.kp b_groups_of (la_ (v_ 0) sa_nil)) (by rfl) (by first | exact .inl rfl | exact .inr rfl))
  (sb_cons (ss_set (i := 2) sc_like_makes.nd rfl (by first | exact .inl rfl | exact .inr rfl) (se_bin .mul (se_lst (lc_ se_int sl_nil)) (bB_ cb_len T.n_len boot_len (lr_ (v_ 1) sr_nil))) (by rfl) (by first | exact .inl rfl | exact .inr rfl))
  (sb_cons (ss_setsX rfl (se_tup (lc_ se_int (lc_ se_int sl_nil))) (sgx_cons hu (i := 2) rfl (by first | exact .inl rfl | exact .inr (.inl rfl) | exact .inr (.inr rfl)) (by decide) (by decide) se_int (by intro _; rfl) (sgx_cons hu (i := 2) rfl (by first | exact .inl rfl | exact .inr (.inl rfl) | exact .inr (.inr rfl)) (by decide) (by decide) (se_neg se_int) (by intro _; rfl) sgx_nil (by rfl)) (by rfl)) (by rfl) rfl (by rfl) (by rfl) (by rfl) (by rfl))
  (sb_cons (ss_set (i := 3) sc_like_makes.nd rfl (by first | exact .inl rfl | exact .inr rfl) (c_ G_marks hr (by omega) hgd g_marks F_marks.kp b_marks (la_ (v_ 0) sa_nil)) (by rfl) (by first | exact .inl rfl | exact .inr rfl))
  (sb_cons (ss_setLc (pr := false) (own := [("line", 6)]) rfl sc_like_makes.nd rfl rfl (sw_true rfl rfl rfl (by decide +kernel)) (si_zipN (by rfl) T.n_zip (v_ 3) (by rfl)) (blkOk_by (own := [("line", 6)]) (by kernel_rfl)) (by rfl) (fun h => nomatch h) (fun _ _ _ _ _ => (sg_name (i := 6) sc_like_makes.nd rfl (by first | exact .inl rfl | exact .inr rfl) (by first | exact .inl rfl | exact .inr rfl))) (fun _ _ _ _ _ => sc_nil) (fun _ _ _ _ _ => (bB_ (cb_sum rfl) T.n_sum boot_sum (lr_ (se_lc (pr := true) (own := [("often", 8), ("one", 7)]) rfl sc_like_makes.nd (si_zip (by rfl) T.n_zip (v_ 2) (v_ 6) (by rfl) (by rfl) (by rfl)) (blkOk_by (own := [("often", 8), ("one", 7)]) (by kernel_rfl)) (by rfl) (fun _ => rfl) (fun _ _ _ _ _ => (sg_tup (n := 2) rfl (sgs_cons (sg_name (i := 8) sc_like_makes.nd rfl (by first | exact .inl rfl | exact .inr rfl) (by first | exact .inl rfl | exact .inr rfl)) (sgs_cons (sg_name (i := 7) sc_like_makes.nd rfl (by first | exact .inl rfl | exact .inr rfl) (by first | exact .inl rfl | exact .inr rfl)) sgs_nil (by rfl)) (by rfl)) (by rfl) (by rfl) (by rfl))) (fun _ _ _ _ _ => sc_nil) (fun _ _ _ _ _ => (se_bin .mul (v_ 8) (v_ 7))) (by intro _; rfl)) sr_nil))) (by intro _; rfl))
  (sb_cons (ss_setLc (pr := false) (own := [("one", 7)]) rfl sc_like_makes.nd rfl rfl (sw_true rfl rfl rfl (by decide +kernel)) (si_seq (c_ G_makes_of hr (by omega) hgd g_makes_of F_makes_of.kp b_makes_of (la_ (v_ 0) (la_ (v_ 4) sa_nil)))) (blkOk_by (own := [("one", 7)]) (by kernel_rfl)) (by rfl) (fun h => nomatch h) (fun _ _ _ _ _ => (sg_name (i := 7) sc_like_makes.nd rfl (by first | exact .inl rfl | exact .inr rfl) (by first | exact .inl rfl | exact .inr rfl))) (fun _ _ _ _ _ => (sc_one (tcmp_ hu .ne (v_ 7) (bT_ cb_tuple T.n_tuple boot_tuple (lr_ (v_ 2) sr_nil))))) (fun _ _ _ _ _ => (v_ 7)) (by intro _; rfl))
  (sb_one (ss_ret (se_ite (tcmp_ hu .ne (v_ 5) (se_lst sl_nil)) (se_tup (lc_ (bT_ cb_tuple T.n_tuple boot_tuple (lr_ (v_ 2) sr_nil)) (lc_ (ix_ hu (v_ 5) se_int) sl_nil))) se_none)))))))))))

theorem ok_groups (T : Tx w K mg) (base : Heap) (f : Addr) (fd : FuncData) (F : FnP K "groups" s_groups f fd) : FnG P w K mg base 4 f fd ["size"] (spF w K f_groups) := by
  obtain ⟨a_need_size, e_need_size, F_need_size, g_need_size⟩ := T.d_need_size
  have G_need_size := ok_need_size (P := P) T base a_need_size e_need_size F_need_size
  have b_need_size : Binds K e_need_size ["size"] [] := F_need_size.bindsN fun _ _ _ _ _ _ us hl => match us, hl with | [_], _ => rfl
  obtain ⟨a_groups_of, e_groups_of, F_groups_of, g_groups_of⟩ := T.d_groups_of
  have G_groups_of := ok_groups_of (P := P) T base a_groups_of e_groups_of F_groups_of
  have b_groups_of : Binds K e_groups_of ["size"] [] := F_groups_of.bindsN fun _ _ _ _ _ _ us hl => match us, hl with | [_], _ => rfl
  refine fn_g (k := 3) (N := n_groups) F sc_groups rfl rfl fun cdv A out s H hr hgd => ?_
  · have hu := r70 hr
    exact (sb_cons (ss_ex (c_ G_need_size hr (by omega) hgd g_need_size F_need_size.kp b_need_size (la_ (v_ 0) sa_nil)) (by rfl))
  (sb_one (ss_ret (bT_ cb_tuple T.n_tuple boot_tuple (lr_ (c_ G_groups_of hr (by omega) hgd g_groups_of F_groups_of.kp b_groups_of (la_ (v_ 0) sa_nil)) sr_nil)))))

theorem ok_law_orders (T : Tx w K mg) (base : Heap) (f : Addr) (fd : FuncData) (F : FnP K "_law_orders" s_law_orders f fd) : FnG P w K mg base 1 f fd ["many"] (spF w K f_law_orders) := by
  refine fn_g (k := 0) (N := n_law_orders) F sc_law_orders rfl rfl fun cdv A out s H hr hgd => ?_
  · have hu := r70 hr
    exact (sb_cons (ss_set (i := 1) sc_law_orders.nd rfl (by first | exact .inl rfl | exact .inr rfl) (se_lst (lc_ (se_tup sl_nil) sl_nil)) (by rfl) (by first | exact .inl rfl | exact .inr rfl))
  (sb_cons (ss_for (pr := false) PassesOwn.never rfl (si_range (by rfl) T.n_range (v_ 0) (by rfl)) (fun h => nomatch h) (sg_name (i := 2) sc_law_orders.nd rfl (by first | exact .inl rfl | exact .inr rfl) (by first | exact .inl rfl | exact .inr rfl)) (sb_cons (ss_set (i := 3) sc_law_orders.nd rfl (by first | exact .inl rfl | exact .inr rfl) (se_lst sl_nil) (by rfl) (by first | exact .inl rfl | exact .inr rfl))
  (sb_cons (ss_for (pr := false) PassesOwn.never rfl (si_seq (v_ 1)) (fun h => nomatch h) (sg_name (i := 4) sc_law_orders.nd rfl (by first | exact .inl rfl | exact .inr rfl) (by first | exact .inl rfl | exact .inr rfl)) (sb_one (ss_set (i := 3) sc_law_orders.nd rfl (by first | exact .inl rfl | exact .inr rfl) (se_bin .add (v_ 3) (se_lc (pr := false) (own := [("at", 5)]) rfl sc_law_orders.nd (si_range (by rfl) T.n_range (v_ 0) (by rfl)) (blkOk_by (own := [("at", 5)]) (by kernel_rfl)) (by rfl) (fun h => nomatch h) (fun _ _ _ _ _ => (sg_name (i := 5) sc_law_orders.nd rfl (by first | exact .inl rfl | exact .inr rfl) (by first | exact .inl rfl | exact .inr rfl))) (fun _ _ _ _ _ => (sc_one (tcmp_ hu .notin (v_ 5) (v_ 4)))) (fun _ _ _ _ _ => (se_bin .add (v_ 4) (se_tup (lc_ (v_ 5) sl_nil)))) (by intro _; rfl))) (by rfl) (by first | exact .inl rfl | exact .inr rfl))) (by intro _; rfl))
  (sb_one (ss_set (i := 1) sc_law_orders.nd rfl (by first | exact .inl rfl | exact .inr rfl) (v_ 3) (by rfl) (by first | exact .inl rfl | exact .inr rfl))))) (by intro _; rfl))
  (sb_one (ss_ret (v_ 1)))))

theorem ok_law_after (T : Tx w K mg) (base : Heap) (f : Addr) (fd : FuncData) (F : FnP K "_law_after" s_law_after f fd) : FnG P w K mg base 1 f fd ["one", "other"] (spF w K f_law_after) := by
  refine fn_g (k := 0) (N := n_law_after) F sc_law_after rfl rfl fun cdv A out s H hr hgd => ?_
  · have hu := r70 hr
    exact (sb_one (ss_ret (bT_ cb_tuple T.n_tuple boot_tuple (lr_ (se_lc (pr := false) (own := [("place", 2)]) rfl sc_law_after.nd (si_seq (v_ 1)) (blkOk_by (own := [("place", 2)]) (by kernel_rfl)) (by rfl) (fun h => nomatch h) (fun _ _ _ _ _ => (sg_name (i := 2) sc_law_after.nd rfl (by first | exact .inl rfl | exact .inr rfl) (by first | exact .inl rfl | exact .inr rfl))) (fun _ _ _ _ _ => sc_nil) (fun _ _ _ _ _ => (ix_ hu (v_ 0) (v_ 2))) (by intro _; rfl)) sr_nil))))

theorem ok_law_parts_of (T : Tx w K mg) (base : Heap) : ∀ (n : Nat) (f : Addr) (fd : FuncData), FnP K "_law_parts_of" s_law_parts_of f fd → FnG P w K mg base (1 + n) f fd ["size", "most"] (spF w K (f_law_parts_of n))
  | 0, _, _, _ => FnG.none
  | n + 1, f, fd, F => by
    obtain ⟨a_law_parts_of, e_law_parts_of, F_law_parts_of, g_law_parts_of⟩ := T.d_law_parts_of
    have G_law_parts_of := ok_law_parts_of T base n a_law_parts_of e_law_parts_of F_law_parts_of
    have b_law_parts_of : Binds K e_law_parts_of ["size", "most"] [] := F_law_parts_of.bindsN fun _ _ _ _ _ _ us hl => match us, hl with | [_, _], _ => rfl
    refine fn_g (k := 1 + n) (N := n_law_parts_of) F sc_law_parts_of rfl rfl fun cdv A out s H hr hgd => ?_
    · have hu := r70 hr
      exact (sb_cons (ss_if (tcmp_ hu .eq (v_ 0) se_int) (sb_one (ss_ret (se_lst (lc_ (se_tup sl_nil) sl_nil)))) sb_nil)
  (sb_cons (ss_set (i := 2) sc_law_parts_of.nd rfl (by first | exact .inl rfl | exact .inr rfl) (se_lst sl_nil) (by rfl) (by first | exact .inl rfl | exact .inr rfl))
  (sb_cons (ss_for (pr := false) PassesOwn.never rfl (si_range2 (by rfl) T.n_range se_int (se_bin .add (bB_ (cb_min2 rfl) T.n_min boot_min (lr_ (v_ 0) (lr_ (v_ 1) sr_nil))) se_int) (by rfl) (by rfl)) (fun h => nomatch h) (sg_name (i := 3) sc_law_parts_of.nd rfl (by first | exact .inl rfl | exact .inr rfl) (by first | exact .inl rfl | exact .inr rfl)) (sb_one (ss_set (i := 2) sc_law_parts_of.nd rfl (by first | exact .inl rfl | exact .inr rfl) (se_bin .add (v_ 2) (se_lc (pr := false) (own := [("rest", 4)]) rfl sc_law_parts_of.nd (si_seq (c_ G_law_parts_of hr (by omega) hgd g_law_parts_of F_law_parts_of.kp b_law_parts_of (la_ (se_bin .sub (v_ 0) (v_ 3)) (la_ (v_ 3) sa_nil)))) (blkOk_by (own := [("rest", 4)]) (by kernel_rfl)) (by rfl) (fun h => nomatch h) (fun _ _ _ _ _ => (sg_name (i := 4) sc_law_parts_of.nd rfl (by first | exact .inl rfl | exact .inr rfl) (by first | exact .inl rfl | exact .inr rfl))) (fun _ _ _ _ _ => sc_nil) (fun _ _ _ _ _ => (se_bin .add (se_tup (lc_ (v_ 3) sl_nil)) (v_ 4))) (by intro _; rfl))) (by rfl) (by first | exact .inl rfl | exact .inr rfl))) (by intro _; rfl))
  (sb_one (ss_ret (v_ 2))))))

theorem ok_law_sized (T : Tx w K mg) (base : Heap) (f : Addr) (fd : FuncData) (F : FnP K "_law_sized" s_law_sized f fd) : FnG P w K mg base 10 f fd ["size"] (spF w K f_law_sized) := by
  obtain ⟨a_law_parts_of, e_law_parts_of, F_law_parts_of, g_law_parts_of⟩ := T.d_law_parts_of
  have G_law_parts_of := ok_law_parts_of (P := P) T base 8 a_law_parts_of e_law_parts_of F_law_parts_of
  have b_law_parts_of : Binds K e_law_parts_of ["size", "most"] [] := F_law_parts_of.bindsN fun _ _ _ _ _ _ us hl => match us, hl with | [_, _], _ => rfl
  refine fn_g (k := 9) (N := n_law_sized) F sc_law_sized rfl rfl fun cdv A out s H hr hgd => ?_
  · have hu := r70 hr
    exact (sb_one (ss_ret (bB_ (cb_sorted rfl hu) T.n_sorted boot_sorted (lr_ (c_ G_law_parts_of hr (by omega) hgd g_law_parts_of F_law_parts_of.kp b_law_parts_of (la_ (v_ 0) (la_ (v_ 0) sa_nil))) sr_nil))))

theorem ok_law_lengths (T : Tx w K mg) (base : Heap) (f : Addr) (fd : FuncData) (F : FnP K "_law_lengths" s_law_lengths f fd) : FnG P w K mg base 1 f fd ["order"] (spF w K f_law_lengths) := by
  refine fn_g (k := 0) (N := n_law_lengths) F sc_law_lengths rfl rfl fun cdv A out s H hr hgd => ?_
  · have hu := r70 hr
    exact (sb_cons (ss_par2 (i := 2) (j := 3) rfl sc_law_lengths.nd rfl rfl (by decide) rfl rfl (se_lst sl_nil) (se_lst sl_nil) rfl rfl (by rfl) (by rfl))
  (sb_cons (ss_for (pr := false) PassesOwn.never rfl (si_range (by rfl) T.n_range (bB_ cb_len T.n_len boot_len (lr_ (v_ 0) sr_nil)) (by rfl)) (fun h => nomatch h) (sg_name (i := 1) sc_law_lengths.nd rfl (by first | exact .inl rfl | exact .inr rfl) (by first | exact .inl rfl | exact .inr rfl)) (sb_cons (ss_par2 (i := 4) (j := 5) rfl sc_law_lengths.nd rfl rfl (by decide) rfl rfl se_int (v_ 1) rfl rfl (by rfl) (by rfl))
  (sb_cons (ss_while PassesOwn.never (tcmp_ hu .notin (v_ 5) (v_ 3)) (sb_cons (ss_ex (se_meL PySem.F.slot_list_append PySem.F.type_list_append mt_append me_append (v_ 3) (lc_ (v_ 5) sl_nil) (by rfl) (by rfl) (by rfl) (by rfl) (by rfl)) (by rfl))
  (sb_one (ss_par2 (i := 5) (j := 4) rfl sc_law_lengths.nd rfl rfl (by decide) rfl rfl (ix_ hu (v_ 0) (v_ 5)) (se_bin .add (v_ 4) se_int) rfl rfl (by rfl) (by rfl)))))
  (sb_one (ss_if (tcmp_ hu .gt (v_ 4) se_int) (sb_one (ss_ex (se_meL PySem.F.slot_list_append PySem.F.type_list_append mt_append me_append (v_ 2) (lc_ (v_ 4) sl_nil) (by rfl) (by rfl) (by rfl) (by rfl) (by rfl)) (by rfl))) sb_nil)))) (by intro _; rfl))
  (sb_one (ss_ret (bT_ cb_tuple T.n_tuple boot_tuple (lr_ (se_sortedRev hu (by rfl) T.n_sorted (lr_ (v_ 2) sr_nil) (by rfl) (by rfl)) sr_nil))))))

theorem ok_law_marks (T : Tx w K mg) (base : Heap) (f : Addr) (fd : FuncData) (F : FnP K "_law_marks" s_law_marks f fd) : FnG P w K mg base 11 f fd ["size", "group"] (spF w K f_law_marks) := by
  obtain ⟨a_law_orders, e_law_orders, F_law_orders, g_law_orders⟩ := T.d_law_orders
  have G_law_orders := ok_law_orders (P := P) T base a_law_orders e_law_orders F_law_orders
  have b_law_orders : Binds K e_law_orders ["many"] [] := F_law_orders.bindsN fun _ _ _ _ _ _ us hl => match us, hl with | [_], _ => rfl
  obtain ⟨a_law_after, e_law_after, F_law_after, g_law_after⟩ := T.d_law_after
  have G_law_after := ok_law_after (P := P) T base a_law_after e_law_after F_law_after
  have b_law_after : Binds K e_law_after ["one", "other"] [] := F_law_after.bindsN fun _ _ _ _ _ _ us hl => match us, hl with | [_, _], _ => rfl
  obtain ⟨a_law_sized, e_law_sized, F_law_sized, g_law_sized⟩ := T.d_law_sized
  have G_law_sized := ok_law_sized (P := P) T base a_law_sized e_law_sized F_law_sized
  have b_law_sized : Binds K e_law_sized ["size"] [] := F_law_sized.bindsN fun _ _ _ _ _ _ us hl => match us, hl with | [_], _ => rfl
  obtain ⟨a_law_lengths, e_law_lengths, F_law_lengths, g_law_lengths⟩ := T.d_law_lengths
  have G_law_lengths := ok_law_lengths (P := P) T base a_law_lengths e_law_lengths F_law_lengths
  have b_law_lengths : Binds K e_law_lengths ["order"] [] := F_law_lengths.bindsN fun _ _ _ _ _ _ us hl => match us, hl with | [_], _ => rfl
  refine fn_g (k := 10) (N := n_law_marks) F sc_law_marks rfl rfl fun cdv A out s H hr hgd => ?_
  · have hu := r70 hr
    exact (sb_cons (ss_par2 (i := 3) (j := 4) rfl sc_law_marks.nd rfl rfl (by decide) rfl rfl (bT_ (cb_dictN rfl hu) T.n_dict boot_dict (lr_ (se_lc (pr := false) (own := [("g", 6)]) rfl sc_law_marks.nd (si_seq (c_ G_law_orders hr (by omega) hgd g_law_orders F_law_orders.kp b_law_orders (la_ (v_ 0) sa_nil))) (blkOk_by (own := [("g", 6)]) (by kernel_rfl)) (by rfl) (fun h => nomatch h) (fun _ _ _ _ _ => (sg_name (i := 6) sc_law_marks.nd rfl (by first | exact .inl rfl | exact .inr rfl) (by first | exact .inl rfl | exact .inr rfl))) (fun _ _ _ _ _ => sc_nil) (fun _ _ _ _ _ => (se_tup (lc_ (bT_ cb_tuple T.n_tuple boot_tuple (lr_ (bB_ (cb_sorted rfl hu) T.n_sorted boot_sorted (lr_ (se_lc (pr := false) (own := [("one", 9)]) rfl sc_law_marks.nd (si_seq (v_ 1)) (blkOk_by (own := [("one", 9)]) (by kernel_rfl)) (by rfl) (fun h => nomatch h) (fun _ _ _ _ _ => (sg_name (i := 9) sc_law_marks.nd rfl (by first | exact .inl rfl | exact .inr rfl) (by first | exact .inl rfl | exact .inr rfl))) (fun _ _ _ _ _ => sc_nil) (fun _ _ _ _ _ => (c_ G_law_after hr (by omega) hgd g_law_after F_law_after.kp b_law_after (la_ (v_ 6) (la_ (v_ 9) sa_nil)))) (by intro _; rfl)) sr_nil)) sr_nil)) (lc_ se_bool sl_nil)))) (by intro _; rfl)) sr_nil)) (se_lst sl_nil) rfl rfl (by rfl) (by rfl))
  (sb_cons (ss_for (pr := false) PassesOwn.never rfl (si_seq (c_ G_law_sized hr (by omega) hgd g_law_sized F_law_sized.kp b_law_sized (la_ (v_ 0) sa_nil))) (fun h => nomatch h) (sg_name (i := 2) sc_law_marks.nd rfl (by first | exact .inl rfl | exact .inr rfl) (by first | exact .inl rfl | exact .inr rfl)) (sb_cons (ss_set (i := 5) sc_law_marks.nd rfl (by first | exact .inl rfl | exact .inr rfl) (ix_ hu (se_lc (pr := false) (own := [("order", 7)]) rfl sc_law_marks.nd (si_seq (c_ G_law_orders hr (by omega) hgd g_law_orders F_law_orders.kp b_law_orders (la_ (v_ 0) sa_nil))) (blkOk_by (own := [("order", 7)]) (by kernel_rfl)) (by rfl) (fun h => nomatch h) (fun _ _ _ _ _ => (sg_name (i := 7) sc_law_marks.nd rfl (by first | exact .inl rfl | exact .inr rfl) (by first | exact .inl rfl | exact .inr rfl))) (fun _ _ _ _ _ => (sc_one (tcmp_ hu .eq (c_ G_law_lengths hr (by omega) hgd g_law_lengths F_law_lengths.kp b_law_lengths (la_ (v_ 7) sa_nil)) (v_ 2)))) (fun _ _ _ _ _ => (v_ 7)) (by intro _; rfl)) (se_neg se_int)) (by rfl) (by first | exact .inl rfl | exact .inr rfl))
  (sb_one (ss_ex (se_meL PySem.F.slot_list_append PySem.F.type_list_append mt_append me_append (v_ 4) (lc_ (bB_ cb_len T.n_len boot_len (lr_ (se_lc (pr := false) (own := [("coset", 8)]) rfl sc_law_marks.nd (si_dct (v_ 3)) (blkOk_by (own := [("coset", 8)]) (by kernel_rfl)) (by rfl) (fun h => nomatch h) (fun _ _ _ _ _ => (sg_name (i := 8) sc_law_marks.nd rfl (by first | exact .inl rfl | exact .inr rfl) (by first | exact .inl rfl | exact .inr rfl))) (fun _ _ _ _ _ => (sc_one (tcmp_ hu .eq (bT_ cb_tuple T.n_tuple boot_tuple (lr_ (bB_ (cb_sorted rfl hu) T.n_sorted boot_sorted (lr_ (se_lc (pr := false) (own := [("one", 9)]) rfl sc_law_marks.nd (si_seq (v_ 8)) (blkOk_by (own := [("one", 9)]) (by kernel_rfl)) (by rfl) (fun h => nomatch h) (fun _ _ _ _ _ => (sg_name (i := 9) sc_law_marks.nd rfl (by first | exact .inl rfl | exact .inr rfl) (by first | exact .inl rfl | exact .inr rfl))) (fun _ _ _ _ _ => sc_nil) (fun _ _ _ _ _ => (c_ G_law_after hr (by omega) hgd g_law_after F_law_after.kp b_law_after (la_ (v_ 5) (la_ (v_ 9) sa_nil)))) (by intro _; rfl)) sr_nil)) sr_nil)) (v_ 8)))) (fun _ _ _ _ _ => se_int) (by intro _; rfl)) sr_nil)) sl_nil) (by rfl) (by rfl) (by rfl) (by rfl) (by rfl)) (by rfl)))) (by intro _; rfl))
  (sb_one (ss_ret (bT_ cb_tuple T.n_tuple boot_tuple (lr_ (v_ 4) sr_nil))))))

theorem ok_law_plain (T : Tx w K mg) (base : Heap) : ∀ (n : Nat) (f : Addr) (fd : FuncData), FnP K "_law_plain" s_law_plain f fd → FnG P w K mg base (1 + n) f fd ["value"] (spF w K (f_law_plain n))
  | 0, _, _, _ => FnG.none
  | n + 1, f, fd, F => by
    obtain ⟨a_law_plain, e_law_plain, F_law_plain, g_law_plain⟩ := T.d_law_plain
    have G_law_plain := ok_law_plain T base n a_law_plain e_law_plain F_law_plain
    have b_law_plain : Binds K e_law_plain ["value"] [] := F_law_plain.bindsN fun _ _ _ _ _ _ us hl => match us, hl with | [_], _ => rfl
    refine fn_g (k := 1 + n) (N := n_law_plain) F sc_law_plain rfl rfl fun cdv A out s H hr hgd => ?_
    · have hu := r70 hr
      exact (sb_cons (ss_if (tval_ (se_isiT [.list, .tuple] (by decide) (by rfl) T.n_isinstance (v_ 0) (ty_cons .list (by rfl) T.n_list boot_list (by decide) (by decide) (ty_cons .tuple (by rfl) T.n_tuple boot_tuple (by decide) (by decide) ty_nil)) (by rfl) (by rfl))) (sb_one (ss_ret (cmp_ hu .eq (se_lc (pr := false) (own := [("one", 1)]) rfl sc_law_plain.nd (si_seq (v_ 0)) (blkOk_by (own := [("one", 1)]) (N := n_law_plain) (sc := defScope s_law_plain) (by decide +kernel)) (by rfl) (fun h => nomatch h) (fun _ _ _ _ _ => (sg_name (i := 1) sc_law_plain.nd rfl (by first | exact .inl rfl | exact .inr rfl) (by first | exact .inl rfl | exact .inr rfl))) (fun _ _ _ _ _ => (sc_one (st_not (tval_ (c_ G_law_plain hr (by omega) hgd g_law_plain F_law_plain.kp b_law_plain (la_ (v_ 1) sa_nil)))))) (fun _ _ _ _ _ => se_int) (by intro _; rfl)) (se_lst sl_nil)))) sb_nil)
  (sb_cons (ss_if (tval_ (se_isi .dict (by rfl) T.n_isinstance (v_ 0) (ty_cons .dict (by rfl) T.n_dict boot_dict (by decide) (by decide) ty_nil) (by rfl) (by rfl))) (sb_one ss_never) sb_nil)
  (sb_one (ss_ret (se_or (cmp_ hu .is (v_ 0) se_none) (se_one (se_isiT [.int, .str] (by decide) (by rfl) T.n_isinstance (v_ 0) (ty_cons .int (by rfl) T.n_int boot_int (by decide) (by decide) (ty_cons .str (by rfl) T.n_str boot_str (by decide) (by decide) ty_nil)) (by rfl) (by rfl))))))))

theorem ok_law_is (T : Tx w K mg) (base : Heap) (f : Addr) (fd : FuncData) (F : FnP K "_law_is" s_law_is f fd) : FnG P w K mg base 14 f fd ["found", "due"] (spF w K f_law_is) := by
  obtain ⟨a_law_plain, e_law_plain, F_law_plain, g_law_plain⟩ := T.d_law_plain
  have G_law_plain := ok_law_plain (P := P) T base 12 a_law_plain e_law_plain F_law_plain
  have b_law_plain : Binds K e_law_plain ["value"] [] := F_law_plain.bindsN fun _ _ _ _ _ _ us hl => match us, hl with | [_], _ => rfl
  refine fn_g (k := 13) (N := n_law_is) F sc_law_is rfl rfl fun cdv A out s H hr hgd => ?_
  · have hu := r70 hr
    exact (sb_one (ss_ret (se_and (c_ G_law_plain hr (by omega) hgd g_law_plain F_law_plain.kp b_law_plain (la_ (v_ 0) sa_nil)) (se_and (cmp_ hu .eq (v_ 0) (v_ 1)) (se_and (cmp_ hu .eq (v_ 1) (v_ 0)) (se_one (cmp_ hu .eq (bB_ (cb_repr hgd hu) T.n_repr boot_repr (lr_ (v_ 0) sr_nil)) (bB_ (cb_repr hgd hu) T.n_repr boot_repr (lr_ (v_ 1) sr_nil)))))))))

theorem ok_law_sums (T : Tx w K mg) (base : Heap) (f : Addr) (fd : FuncData) (F : FnP K "_law_sums" s_law_sums f fd) : FnG P w K mg base 1 f fd ["lines", "counts"] (spF w K f_law_sums) := by
  refine fn_g (k := 0) (N := n_law_sums) F sc_law_sums rfl rfl fun cdv A out s H hr hgd => ?_
  · have hu := r70 hr
    exact (sb_one (ss_ret (se_lc (pr := false) (own := [("at", 2)]) rfl sc_law_sums.nd (si_range (by rfl) T.n_range (bB_ cb_len T.n_len boot_len (lr_ (ix_ hu (v_ 0) se_int) sr_nil)) (by rfl)) (blkOk_by (own := [("at", 2)]) (N := n_law_sums) (sc := defScope s_law_sums) (by decide +kernel)) (by rfl) (fun h => nomatch h) (fun _ _ _ _ _ => (sg_name (i := 2) sc_law_sums.nd rfl (by first | exact .inl rfl | exact .inr rfl) (by first | exact .inl rfl | exact .inr rfl))) (fun _ _ _ _ _ => sc_nil) (fun _ _ _ _ _ => (bB_ (cb_sum rfl) T.n_sum boot_sum (lr_ (se_lc (pr := true) (own := [("often", 3), ("line", 4)]) rfl sc_law_sums.nd (si_zip (by rfl) T.n_zip (v_ 1) (v_ 0) (by rfl) (by rfl) (by rfl)) (blkOk_by (own := [("often", 3), ("line", 4)]) (by kernel_rfl)) (by rfl) (fun _ => rfl) (fun _ _ _ _ _ => (sg_tup (n := 2) rfl (sgs_cons (sg_name (i := 3) sc_law_sums.nd rfl (by first | exact .inl rfl | exact .inr rfl) (by first | exact .inl rfl | exact .inr rfl)) (sgs_cons (sg_name (i := 4) sc_law_sums.nd rfl (by first | exact .inl rfl | exact .inr rfl) (by first | exact .inl rfl | exact .inr rfl)) sgs_nil (by rfl)) (by rfl)) (by rfl) (by rfl) (by rfl))) (fun _ _ _ _ _ => sc_nil) (fun _ _ _ _ _ => (se_bin .mul (v_ 3) (ix_ hu (v_ 4) (v_ 2)))) (by intro _; rfl)) sr_nil))) (by intro _; rfl))))

theorem ok_law_mixed (T : Tx w K mg) (base : Heap) (f : Addr) (fd : FuncData) (F : FnP K "_law_mixed" s_law_mixed f fd) : FnG P w K mg base 1 f fd ["state"] (spF w K f_law_mixed) := by
  refine fn_g (k := 0) (N := n_law_mixed) F sc_law_mixed rfl rfl fun cdv A out s H hr hgd => ?_
  · have hu := r70 hr
    exact (sb_cons (ss_par2 (i := 2) (j := 3) rfl sc_law_mixed.nd rfl rfl (by decide) rfl rfl (se_bin .add (se_stTurn hu rfl (by first | exact .inl rfl | exact .inr (.inl rfl) | exact .inr (.inr rfl)) (by decide) (by decide)) se_int) se_int rfl rfl (by rfl) (by rfl))
  (sb_cons (ss_stSet (f := fun s n => { s with turn := n }) put_turn hu rfl (by first | exact .inl rfl | exact .inr (.inl rfl) | exact .inr (.inr rfl)) (by decide) (by decide) (v_ 2) (by rfl))
  (sb_cons (ss_for (pr := false) PassesOwn.never rfl (si_seq (se_lst (lc_ se_int (lc_ se_int (lc_ se_int (lc_ se_int sl_nil)))))) (fun h => nomatch h) (sg_name (i := 1) sc_law_mixed.nd rfl (by first | exact .inl rfl | exact .inr rfl) (by first | exact .inl rfl | exact .inr rfl)) (sb_cons (ss_set (i := 4) sc_law_mixed.nd rfl (by first | exact .inl rfl | exact .inr rfl) (se_bin .add (se_bin .mul se_int (v_ 2)) (se_bin .fdiv (v_ 1) se_int)) (by rfl) (by first | exact .inl rfl | exact .inr rfl))
  (sb_cons (ss_for (pr := false) PassesOwn.never rfl (si_stCells hu rfl (by first | exact .inl rfl | exact .inr (.inl rfl) | exact .inr (.inr rfl)) (by decide) (by decide)) (fun h => nomatch h) (sg_name (i := 5) sc_law_mixed.nd rfl (by first | exact .inl rfl | exact .inr rfl) (by first | exact .inl rfl | exact .inr rfl)) (sb_one (ss_set (i := 4) sc_law_mixed.nd rfl (by first | exact .inl rfl | exact .inr rfl) (se_bin .mod (bT_ cb_int T.n_int boot_int (lr_ (se_bin .add (se_bin .add (se_bin .mul (v_ 4) se_int) (v_ 5)) (v_ 2)) sr_nil)) (v_ 1)) (by rfl) (by first | exact .inl rfl | exact .inr rfl))) (by intro _; rfl))
  (sb_one (ss_set (i := 3) sc_law_mixed.nd rfl (by first | exact .inl rfl | exact .inr rfl) (se_bin .add (se_bin .mul (v_ 3) se_int) (se_bin .mod (bT_ cb_int T.n_int boot_int (lr_ (se_bin .pow (v_ 4) se_int) sr_nil)) (v_ 1))) (by rfl) (by first | exact .inl rfl | exact .inr rfl))))) (by intro _; rfl))
  (sb_one (ss_ret (v_ 3))))))

theorem ok_law_draw (T : Tx w K mg) (base : Heap) (f : Addr) (fd : FuncData) (F : FnP K "_law_draw" s_law_draw f fd) : FnG P w K mg base 2 f fd ["state", "room"] (spF w K f_law_draw) := by
  obtain ⟨a_law_mixed, e_law_mixed, F_law_mixed, g_law_mixed⟩ := T.d_law_mixed
  have G_law_mixed := ok_law_mixed (P := P) T base a_law_mixed e_law_mixed F_law_mixed
  have b_law_mixed : Binds K e_law_mixed ["state"] [] := F_law_mixed.bindsN fun _ _ _ _ _ _ us hl => match us, hl with | [_], _ => rfl
  refine fn_g (k := 1) (N := n_law_draw) F sc_law_draw rfl rfl fun cdv A out s H hr hgd => ?_
  · have hu := r70 hr
    exact (sb_cons (ss_if (tcmp_ hu .eq (se_stRest hu rfl (by first | exact .inl rfl | exact .inr (.inl rfl) | exact .inr (.inr rfl)) (by decide) (by decide)) se_int) (sb_one (ss_stSet (f := fun s n => { s with rest := n }) put_rest hu rfl (by first | exact .inl rfl | exact .inr (.inl rfl) | exact .inr (.inr rfl)) (by decide) (by decide) (se_ite (st_great hu rfl (by first | exact .inl rfl | exact .inr (.inl rfl) | exact .inr (.inr rfl)) (by decide) (by decide) (nobehind _ (by decide) (by decide))) (se_stPop hu rfl (by first | exact .inl rfl | exact .inr (.inl rfl) | exact .inr (.inr rfl)) (by decide) (by decide) (by rfl) (by rfl)) (c_ G_law_mixed hr (by omega) hgd g_law_mixed F_law_mixed.kp b_law_mixed (la_ (v_ 0) sa_nil))) (by rfl))) sb_nil)
  (sb_cons (ss_set (i := 2) sc_law_draw.nd rfl (by first | exact .inl rfl | exact .inr rfl) (se_bin .mod (bT_ cb_int T.n_int boot_int (lr_ (se_stRest hu rfl (by first | exact .inl rfl | exact .inr (.inl rfl) | exact .inr (.inr rfl)) (by decide) (by decide)) sr_nil)) (v_ 1)) (by rfl) (by first | exact .inl rfl | exact .inr rfl))
  (sb_cons (ss_stSet (f := fun s n => { s with rest := n }) put_rest hu rfl (by first | exact .inl rfl | exact .inr (.inl rfl) | exact .inr (.inr rfl)) (by decide) (by decide) (se_bin .fdiv (se_stRest hu rfl (by first | exact .inl rfl | exact .inr (.inl rfl) | exact .inr (.inr rfl)) (by decide) (by decide)) (v_ 1)) (by rfl))
  (sb_one (ss_ret (v_ 2))))))

theorem ok_makes (T : Tx w K mg) (base : Heap) (f : Addr) (fd : FuncData) (F : FnP K "makes" s_makes f fd) : FnG P w K mg base 15 f fd ["size", "numbers"] (spF w K f_makes) := by
  obtain ⟨a_need_size, e_need_size, F_need_size, g_need_size⟩ := T.d_need_size
  have G_need_size := ok_need_size (P := P) T base a_need_size e_need_size F_need_size
  have b_need_size : Binds K e_need_size ["size"] [] := F_need_size.bindsN fun _ _ _ _ _ _ us hl => match us, hl with | [_], _ => rfl
  obtain ⟨a_sized, e_sized, F_sized, g_sized⟩ := T.d_sized
  have G_sized := ok_sized (P := P) T base a_sized e_sized F_sized
  have b_sized : Binds K e_sized ["size"] [] := F_sized.bindsN fun _ _ _ _ _ _ us hl => match us, hl with | [_], _ => rfl
  obtain ⟨a_is_whole, e_is_whole, F_is_whole, g_is_whole⟩ := T.d_is_whole
  have G_is_whole := ok_is_whole (P := P) T base a_is_whole e_is_whole F_is_whole
  have b_is_whole : Binds K e_is_whole ["thing"] [] := F_is_whole.bindsN fun _ _ _ _ _ _ us hl => match us, hl with | [_], _ => rfl
  obtain ⟨a_makes_of, e_makes_of, F_makes_of, g_makes_of⟩ := T.d_makes_of
  have G_makes_of := ok_makes_of (P := P) T base a_makes_of e_makes_of F_makes_of
  have b_makes_of : Binds K e_makes_of ["size", "numbers"] [] := F_makes_of.bindsN fun _ _ _ _ _ _ us hl => match us, hl with | [_, _], _ => rfl
  refine fn_g (k := 14) (N := n_makes) F sc_makes rfl rfl fun cdv A out s H hr hgd => ?_
  · have hu := r70 hr
    exact (sb_cons (ss_ex (c_ G_need_size hr (by omega) hgd g_need_size F_need_size.kp b_need_size (la_ (v_ 0) sa_nil)) (by rfl))
  (sb_cons (ss_if ((sw_or (st_not (tval_ (se_isi .tuple (by rfl) T.n_isinstance (v_ 1) (ty_cons .tuple (by rfl) T.n_tuple boot_tuple (by decide) (by decide) ty_nil) (by rfl) (by rfl)))) (sw_or1 (tcmp_ hu .ne (bB_ cb_len T.n_len boot_len (lr_ (v_ 1) sr_nil)) (bB_ cb_len T.n_len boot_len (lr_ (c_ G_sized hr (by omega) hgd g_sized F_sized.kp b_sized (la_ (v_ 0) sa_nil)) sr_nil)))))).pt (sb_one ss_never) sb_nil)
  (sb_cons (ss_if (st_not (tval_ (bB_ (cb_all rfl) T.n_all boot_all (lr_ (se_lc (pr := false) (own := [("one", 2)]) rfl sc_makes.nd (si_seq (v_ 1)) (blkOk_by (own := [("one", 2)]) (N := n_makes) (sc := defScope s_makes) (by decide +kernel)) (by rfl) (fun h => nomatch h) (fun _ _ _ _ _ => (sg_name (i := 2) sc_makes.nd rfl (by first | exact .inl rfl | exact .inr rfl) (by first | exact .inl rfl | exact .inr rfl))) (fun _ _ _ _ _ => sc_nil) (fun _ _ _ _ _ => (c_ G_is_whole hr (by omega) hgd g_is_whole F_is_whole.kp b_is_whole (la_ (v_ 2) sa_nil))) (by intro _; rfl)) sr_nil)))) (sb_one ss_never) sb_nil)
  (sb_cons (ss_if (st_not (tval_ (bB_ (cb_all rfl) T.n_all boot_all (lr_ (se_lc (pr := false) (own := [("one", 2)]) rfl sc_makes.nd (si_seq (v_ 1)) (blkOk_by (own := [("one", 2)]) (N := n_makes) (sc := defScope s_makes) (by decide +kernel)) (by rfl) (fun h => nomatch h) (fun _ _ _ _ _ => (sg_name (i := 2) sc_makes.nd rfl (by first | exact .inl rfl | exact .inr rfl) (by first | exact .inl rfl | exact .inr rfl))) (fun _ _ _ _ _ => sc_nil) (fun _ _ _ _ _ => (chn_ hu .le .le se_int (v_ 2) (g_ T.c_MOST_MAKES))) (by intro _; rfl)) sr_nil)))) (sb_one ss_never) sb_nil)
  (sb_one (ss_ret (bT_ cb_tuple T.n_tuple boot_tuple (lr_ (c_ G_makes_of hr (by omega) hgd g_makes_of F_makes_of.kp b_makes_of (la_ (v_ 0) (la_ (v_ 1) sa_nil))) sr_nil))))))))

theorem ok_law (T : Tx w K mg) (base : Heap) (f : Addr) (fd : FuncData) (F : FnP K "law" s_law f fd) : FnG P w K mg base 16 f fd ["script"] (spF w K f_law) := by
  obtain ⟨a_law_begun, e_law_begun, F_law_begun, g_law_begun⟩ := T.d_law_begun
  have G_law_begun := ok_law_begun (P := P) T base a_law_begun e_law_begun F_law_begun
  have b_law_begun : Binds K e_law_begun ["script"] [] := F_law_begun.bindsN fun _ _ _ _ _ _ us hl => match us, hl with | [_], _ => rfl
  obtain ⟨a_like_makes, e_like_makes, F_like_makes, g_like_makes⟩ := T.d_like_makes
  have G_like_makes := ok_like_makes (P := P) T base a_like_makes e_like_makes F_like_makes
  have b_like_makes : Binds K e_like_makes ["size"] [] := F_like_makes.bindsN fun _ _ _ _ _ _ us hl => match us, hl with | [_], _ => rfl
  obtain ⟨a_groups, e_groups, F_groups, g_groups⟩ := T.d_groups
  have G_groups := ok_groups (P := P) T base a_groups e_groups F_groups
  have b_groups : Binds K e_groups ["size"] [] := F_groups.bindsN fun _ _ _ _ _ _ us hl => match us, hl with | [_], _ => rfl
  obtain ⟨a_law_marks, e_law_marks, F_law_marks, g_law_marks⟩ := T.d_law_marks
  have G_law_marks := ok_law_marks (P := P) T base a_law_marks e_law_marks F_law_marks
  have b_law_marks : Binds K e_law_marks ["size", "group"] [] := F_law_marks.bindsN fun _ _ _ _ _ _ us hl => match us, hl with | [_, _], _ => rfl
  obtain ⟨a_law_is, e_law_is, F_law_is, g_law_is⟩ := T.d_law_is
  have G_law_is := ok_law_is (P := P) T base a_law_is e_law_is F_law_is
  have b_law_is : Binds K e_law_is ["found", "due"] [] := F_law_is.bindsN fun _ _ _ _ _ _ us hl => match us, hl with | [_, _], _ => rfl
  obtain ⟨a_law_sums, e_law_sums, F_law_sums, g_law_sums⟩ := T.d_law_sums
  have G_law_sums := ok_law_sums (P := P) T base a_law_sums e_law_sums F_law_sums
  have b_law_sums : Binds K e_law_sums ["lines", "counts"] [] := F_law_sums.bindsN fun _ _ _ _ _ _ us hl => match us, hl with | [_, _], _ => rfl
  obtain ⟨a_law_draw, e_law_draw, F_law_draw, g_law_draw⟩ := T.d_law_draw
  have G_law_draw := ok_law_draw (P := P) T base a_law_draw e_law_draw F_law_draw
  have b_law_draw : Binds K e_law_draw ["state", "room"] [] := F_law_draw.bindsN fun _ _ _ _ _ _ us hl => match us, hl with | [_, _], _ => rfl
  obtain ⟨a_makes, e_makes, F_makes, g_makes⟩ := T.d_makes
  have G_makes := ok_makes (P := P) T base a_makes e_makes F_makes
  have b_makes : Binds K e_makes ["size", "numbers"] [] := F_makes.bindsN fun _ _ _ _ _ _ us hl => match us, hl with | [_, _], _ => rfl
  refine fn_g (k := 15) (N := n_law) F sc_law rfl rfl fun cdv A out s H hr hgd => ?_
  · have hu := r70 hr
    exact (sb_cons (ss_set (i := 1) sc_law.nd rfl (by first | exact .inl rfl | exact .inr rfl) (c_ G_law_begun hr (by omega) hgd g_law_begun F_law_begun.kp b_law_begun (la_ (v_ 0) sa_nil)) (by rfl) (by first | exact .inl rfl | exact .inr rfl))
  (sb_cons (ss_if ((sw_or (tcmp_ hu .ne (se_lc (pr := false) (own := [("size", 2)]) rfl sc_law.nd (si_range (by rfl) T.n_range se_int (by rfl)) (blkOk_by (own := [("size", 2)]) (N := n_law) (sc := defScope s_law) (by decide +kernel)) (by rfl) (fun h => nomatch h) (fun _ _ _ _ _ => (sg_name (i := 2) sc_law.nd rfl (by first | exact .inl rfl | exact .inr rfl) (by first | exact .inl rfl | exact .inr rfl))) (fun _ _ _ _ _ => sc_nil) (fun _ _ _ _ _ => (c_ G_like_makes hr (by omega) hgd g_like_makes F_like_makes.kp b_like_makes (la_ (v_ 2) sa_nil))) (by intro _; rfl)) (se_lst (lc_ se_none (lc_ se_none sl_nil)))) (sw_or1 (tcmp_ hu .isnot (ck0_ (ks := ["size"]) G_like_makes hr (by omega) hgd g_like_makes F_like_makes.kp (kb_ F_like_makes fun _ _ _ _ _ _ us ws h1 h2 => match us, ws, h1, h2 with | [], [_], _, _ => rfl) (by decide) (sk_cons se_int sk_nil) (lenA_cons lenA_nil)) se_none)))).pt (sb_one (ss_ret se_bool)) sb_nil)
  (sb_cons (ss_for (pr := false) PassesOwn.never rfl (si_seq (se_lst (lc_ se_int (lc_ se_int sl_nil)))) (fun h => nomatch h) (sg_name (i := 2) sc_law.nd rfl (by first | exact .inl rfl | exact .inr rfl) (by first | exact .inl rfl | exact .inr rfl)) (sb_cons (ss_par2 (i := 5) (j := 6) rfl sc_law.nd rfl rfl (by decide) rfl rfl (se_lc (pr := false) (own := [("group", 7)]) rfl sc_law.nd (si_seq (c_ G_groups hr (by omega) hgd g_groups F_groups.kp b_groups (la_ (v_ 2) sa_nil))) (blkOk_by (own := [("group", 7)]) (N := n_law) (sc := defScope s_law) (by decide +kernel)) (by rfl) (fun h => nomatch h) (fun _ _ _ _ _ => (sg_name (i := 7) sc_law.nd rfl (by first | exact .inl rfl | exact .inr rfl) (by first | exact .inl rfl | exact .inr rfl))) (fun _ _ _ _ _ => sc_nil) (fun _ _ _ _ _ => (c_ G_law_marks hr (by omega) hgd g_law_marks F_law_marks.kp b_law_marks (la_ (v_ 2) (la_ (v_ 7) sa_nil)))) (by intro _; rfl)) (c_ G_like_makes hr (by omega) hgd g_like_makes F_like_makes.kp b_like_makes (la_ (v_ 2) sa_nil)) rfl rfl (by rfl) (by rfl))
  (sb_cons (ss_if ((sw_or (st_not (tval_ (se_isi .tuple (by rfl) T.n_isinstance (v_ 6) (ty_cons .tuple (by rfl) T.n_tuple boot_tuple (by decide) (by decide) ty_nil) (by rfl) (by rfl)))) (sw_or (tcmp_ hu .ne (bB_ cb_len T.n_len boot_len (lr_ (v_ 6) sr_nil)) se_int) (sw_or1 (tval_ (c_ G_law_is hr (by omega) hgd g_law_is F_law_is.kp b_law_is (la_ (ix_ hu (v_ 6) se_int) (la_ (ix_ hu (v_ 6) se_int) sa_nil)))))))).pt (sb_one (ss_ret se_bool)) sb_nil)
  (sb_cons (ss_for (pr := false) PassesOwn.never rfl (si_seq (v_ 6)) (fun h => nomatch h) (sg_name (i := 4) sc_law.nd rfl (by first | exact .inl rfl | exact .inr rfl) (by first | exact .inl rfl | exact .inr rfl)) (sb_one (ss_if ((sw_or (st_not (tval_ (se_isi .tuple (by rfl) T.n_isinstance (v_ 4) (ty_cons .tuple (by rfl) T.n_tuple boot_tuple (by decide) (by decide) ty_nil) (by rfl) (by rfl)))) (sw_or (tcmp_ hu .ne (bB_ cb_len T.n_len boot_len (lr_ (v_ 4) sr_nil)) (bB_ cb_len T.n_len boot_len (lr_ (v_ 5) sr_nil))) (sw_or1 (tcmp_ hu .ne (se_lc (pr := false) (own := [("one", 9)]) rfl sc_law.nd (si_seq (v_ 4)) (blkOk_by (own := [("one", 9)]) (N := n_law) (sc := defScope s_law) (by decide +kernel)) (by rfl) (fun h => nomatch h) (fun _ _ _ _ _ => (sg_name (i := 9) sc_law.nd rfl (by first | exact .inl rfl | exact .inr rfl) (by first | exact .inl rfl | exact .inr rfl))) (fun _ _ _ _ _ => (sc_one ((sw_or (st_not (tval_ (se_isi .int (by rfl) T.n_isinstance (v_ 9) (ty_cons .int (by rfl) T.n_int boot_int (by decide) (by decide) ty_nil) (by rfl) (by rfl)))) (sw_or (tval_ (se_isi .bool (by rfl) T.n_isinstance (v_ 9) (ty_cons .bool (by rfl) T.n_bool boot_bool (by decide) (by decide) ty_nil) (by rfl) (by rfl))) (sw_or1 (tcmp_ hu .lt (v_ 9) se_int))))).pt)) (fun _ _ _ _ _ => se_int) (by intro _; rfl)) (se_lst sl_nil)))))).pt (sb_one (ss_ret se_bool)) sb_nil)) (by intro _; rfl))
  (sb_one (ss_if (tcmp_ hu .ne (c_ G_law_sums hr (by omega) hgd g_law_sums F_law_sums.kp b_law_sums (la_ (v_ 5) (la_ (ix_ hu (v_ 6) se_int) sa_nil))) (c_ G_law_sums hr (by omega) hgd g_law_sums F_law_sums.kp b_law_sums (la_ (v_ 5) (la_ (ix_ hu (v_ 6) se_int) sa_nil)))) (sb_one (ss_ret se_bool)) sb_nil))))) (by intro _; rfl))
  (sb_cons (ss_for (pr := false) PassesOwn.never rfl (si_range (by rfl) T.n_range (se_bin .add se_int (bB_ (cb_min2 rfl) T.n_min boot_min (lr_ (bB_ cb_len T.n_len boot_len (lr_ (v_ 0) sr_nil)) (lr_ se_int sr_nil)))) (by rfl)) (fun h => nomatch h) (sg_name (i := 3) sc_law.nd rfl (by first | exact .inl rfl | exact .inr rfl) (by first | exact .inl rfl | exact .inr rfl)) (sb_cons (ss_set (i := 2) sc_law.nd rfl (by first | exact .inl rfl | exact .inr rfl) (c_ G_law_draw hr (by omega) hgd g_law_draw F_law_draw.kp b_law_draw (la_ (v_ 1) (la_ se_int sa_nil))) (by rfl) (by first | exact .inl rfl | exact .inr rfl))
  (sb_cons (ss_setLc (pr := false) (own := [("group", 7)]) rfl sc_law.nd rfl rfl (sw_true rfl rfl rfl (by decide +kernel)) (si_seq (c_ G_groups hr (by omega) hgd g_groups F_groups.kp b_groups (la_ (v_ 2) sa_nil))) (blkOk_by (own := [("group", 7)]) (N := n_law) (sc := defScope s_law) (by decide +kernel)) (by rfl) (fun h => nomatch h) (fun _ _ _ _ _ => (sg_name (i := 7) sc_law.nd rfl (by first | exact .inl rfl | exact .inr rfl) (by first | exact .inl rfl | exact .inr rfl))) (fun _ _ _ _ _ => sc_nil) (fun _ _ _ _ _ => (c_ G_law_marks hr (by omega) hgd g_law_marks F_law_marks.kp b_law_marks (la_ (v_ 2) (la_ (v_ 7) sa_nil)))) (by intro _; rfl))
  (sb_cons (ss_set (i := 4) sc_law.nd rfl (by first | exact .inl rfl | exact .inr rfl) (bT_ cb_tuple T.n_tuple boot_tuple (lr_ (se_lc (pr := false) (own := [("line", 8)]) rfl sc_law.nd (si_seq (v_ 5)) (blkOk_by (own := [("line", 8)]) (N := n_law) (sc := defScope s_law) (by decide +kernel)) (by rfl) (fun h => nomatch h) (fun _ _ _ _ _ => (sg_name (i := 8) sc_law.nd rfl (by first | exact .inl rfl | exact .inr rfl) (by first | exact .inl rfl | exact .inr rfl))) (fun _ _ _ _ _ => sc_nil) (fun _ _ _ _ _ => (c_ G_law_draw hr (by omega) hgd g_law_draw F_law_draw.kp b_law_draw (la_ (v_ 1) (la_ se_int sa_nil)))) (by intro _; rfl)) sr_nil)) (by rfl) (by first | exact .inl rfl | exact .inr rfl))
  (sb_one (ss_if (st_not (tval_ (c_ G_law_is hr (by omega) hgd g_law_is F_law_is.kp b_law_is (la_ (c_ G_makes hr (by omega) hgd g_makes F_makes.kp b_makes (la_ (v_ 2) (la_ (bT_ cb_tuple T.n_tuple boot_tuple (lr_ (c_ G_law_sums hr (by omega) hgd g_law_sums F_law_sums.kp b_law_sums (la_ (v_ 5) (la_ (v_ 4) sa_nil))) sr_nil)) sa_nil))) (la_ (se_tup (lc_ (v_ 4) sl_nil)) sa_nil))))) (sb_one (ss_ret se_bool)) sb_nil))))) (by intro _; rfl))
  (sb_one (ss_ret se_bool))))))

end
def fn : List He.DefD := [⟨("_law_begun", none), "_law_begun", "_law_begun", defArgs s_law_begun, defBody s_law_begun, defScope s_law_begun, [], []⟩, ⟨("is_whole", none), "is_whole", "is_whole", defArgs s_is_whole, defBody s_is_whole, defScope s_is_whole, [], []⟩, ⟨("is_below", none), "is_below", "is_below", defArgs s_is_below, defBody s_is_below, defScope s_is_below, [], []⟩, ⟨("need_size", none), "need_size", "need_size", defArgs s_need_size, defBody s_need_size, defScope s_need_size, [], []⟩, ⟨("then", none), "then", "then", defArgs s_then, defBody s_then, defScope s_then, [], []⟩, ⟨("closed", none), "closed", "closed", defArgs s_closed, defBody s_closed, defScope s_closed, [], []⟩, ⟨("groups_of", none), "groups_of", "groups_of", defArgs s_groups_of, defBody s_groups_of, defScope s_groups_of, [], []⟩, ⟨("is_longest", none), "is_longest", "is_longest", defArgs s_is_longest, defBody s_is_longest, defScope s_is_longest, [], []⟩, ⟨("need_longest", none), "need_longest", "need_longest", defArgs s_need_longest, defBody s_need_longest, defScope s_need_longest, [], []⟩, ⟨("types_within", none), "types_within", "types_within", defArgs s_types_within, defBody s_types_within, defScope s_types_within, [], []⟩, ⟨("types_of", none), "types_of", "types_of", defArgs s_types_of, defBody s_types_of, defScope s_types_of, [], []⟩, ⟨("types", none), "types", "types", defArgs s_types, defBody s_types, defScope s_types, [], []⟩, ⟨("sized", none), "sized", "sized", defArgs s_sized, defBody s_sized, defScope s_sized, [], []⟩, ⟨("orders_of", none), "orders_of", "orders_of", defArgs s_orders_of, defBody s_orders_of, defScope s_orders_of, [], []⟩, ⟨("lengths_of", none), "lengths_of", "lengths_of", defArgs s_lengths_of, defBody s_lengths_of, defScope s_lengths_of, [], []⟩, ⟨("undone_order", none), "undone_order", "undone_order", defArgs s_undone_order, defBody s_undone_order, defScope s_undone_order, [], []⟩, ⟨("marks_of", none), "marks_of", "marks_of", defArgs s_marks_of, defBody s_marks_of, defScope s_marks_of, [], []⟩, ⟨("marks", none), "marks", "marks", defArgs s_marks, defBody s_marks, defScope s_marks, [], []⟩, ⟨("makes_of", none), "makes_of", "makes_of", defArgs s_makes_of, defBody s_makes_of, defScope s_makes_of, [], []⟩, ⟨("like_makes", none), "like_makes", "like_makes", defArgs s_like_makes, defBody s_like_makes, defScope s_like_makes, [], []⟩, ⟨("groups", none), "groups", "groups", defArgs s_groups, defBody s_groups, defScope s_groups, [], []⟩, ⟨("_law_orders", none), "_law_orders", "_law_orders", defArgs s_law_orders, defBody s_law_orders, defScope s_law_orders, [], []⟩, ⟨("_law_after", none), "_law_after", "_law_after", defArgs s_law_after, defBody s_law_after, defScope s_law_after, [], []⟩, ⟨("_law_parts_of", none), "_law_parts_of", "_law_parts_of", defArgs s_law_parts_of, defBody s_law_parts_of, defScope s_law_parts_of, [], []⟩, ⟨("_law_sized", none), "_law_sized", "_law_sized", defArgs s_law_sized, defBody s_law_sized, defScope s_law_sized, [], []⟩, ⟨("_law_lengths", none), "_law_lengths", "_law_lengths", defArgs s_law_lengths, defBody s_law_lengths, defScope s_law_lengths, [], []⟩, ⟨("_law_marks", none), "_law_marks", "_law_marks", defArgs s_law_marks, defBody s_law_marks, defScope s_law_marks, [], []⟩, ⟨("_law_plain", none), "_law_plain", "_law_plain", defArgs s_law_plain, defBody s_law_plain, defScope s_law_plain, [], []⟩, ⟨("_law_is", none), "_law_is", "_law_is", defArgs s_law_is, defBody s_law_is, defScope s_law_is, [], []⟩, ⟨("_law_sums", none), "_law_sums", "_law_sums", defArgs s_law_sums, defBody s_law_sums, defScope s_law_sums, [], []⟩, ⟨("_law_mixed", none), "_law_mixed", "_law_mixed", defArgs s_law_mixed, defBody s_law_mixed, defScope s_law_mixed, [], []⟩, ⟨("_law_draw", none), "_law_draw", "_law_draw", defArgs s_law_draw, defBody s_law_draw, defScope s_law_draw, [], []⟩, ⟨("makes", none), "makes", "makes", defArgs s_makes, defBody s_makes, defScope s_makes, [], []⟩, ⟨("law", none), "law", "law", defArgs s_law, defBody s_law, defScope s_law, [], []⟩]
def fa : List He.Fa := [.glo "_law_begun", .glo "is_whole", .glo "is_below", .glo "need_size", .glo "then", .glo "closed", .glo "groups_of", .glo "is_longest", .glo "need_longest", .glo "types_within", .glo "types_of", .glo "types", .glo "sized", .glo "orders_of", .glo "lengths_of", .glo "undone_order", .glo "marks_of", .glo "marks", .glo "makes_of", .glo "like_makes", .glo "groups", .glo "_law_orders", .glo "_law_after", .glo "_law_parts_of", .glo "_law_sized", .glo "_law_lengths", .glo "_law_marks", .glo "_law_plain", .glo "_law_is", .glo "_law_sums", .glo "_law_mixed", .glo "_law_draw", .glo "makes", .glo "law", .free "abs", .free "all", .free "any", .free "bool", .free "dict", .free "int", .free "isinstance", .free "len", .free "list", .free "max", .free "min", .free "range", .free "repr", .free "sorted", .free "str", .free "sum", .free "tuple", .free "zip"]
def cs : List (PySem.Str × D) := [("MAKERS", c_MAKERS), ("MOST_MAKES", c_MOST_MAKES), ("MOST_SIZE_marks5", c_MOST_SIZE_marks5), ("MOST_SIZE_types1", c_MOST_SIZE_types1)]
theorem facts {w : World} {K : PySem.W.Frag} {h : Heap} {mg : PySem.Str → Option Value} (c : SaysF fa fn cs K) (X : K.In h) (G : h.Ns mainGlobals mg) : Tx w K mg where
  d_law_begun := c.def_ X G 0 0
  d_is_whole := c.def_ X G 1 1
  d_is_below := c.def_ X G 2 2
  d_need_size := c.def_ X G 3 3
  d_then := c.def_ X G 4 4
  d_closed := c.def_ X G 5 5
  d_groups_of := c.def_ X G 6 6
  d_is_longest := c.def_ X G 7 7
  d_need_longest := c.def_ X G 8 8
  d_types_within := c.def_ X G 9 9
  d_types_of := c.def_ X G 10 10
  d_types := c.def_ X G 11 11
  d_sized := c.def_ X G 12 12
  d_orders_of := c.def_ X G 13 13
  d_lengths_of := c.def_ X G 14 14
  d_undone_order := c.def_ X G 15 15
  d_marks_of := c.def_ X G 16 16
  d_marks := c.def_ X G 17 17
  d_makes_of := c.def_ X G 18 18
  d_like_makes := c.def_ X G 19 19
  d_groups := c.def_ X G 20 20
  d_law_orders := c.def_ X G 21 21
  d_law_after := c.def_ X G 22 22
  d_law_parts_of := c.def_ X G 23 23
  d_law_sized := c.def_ X G 24 24
  d_law_lengths := c.def_ X G 25 25
  d_law_marks := c.def_ X G 26 26
  d_law_plain := c.def_ X G 27 27
  d_law_is := c.def_ X G 28 28
  d_law_sums := c.def_ X G 29 29
  d_law_mixed := c.def_ X G 30 30
  d_law_draw := c.def_ X G 31 31
  d_makes := c.def_ X G 32 32
  d_law := c.def_ X G 33 33
  n_abs := c.free X G 34
  n_all := c.free X G 35
  n_any := c.free X G 36
  n_bool := c.free X G 37
  n_dict := c.free X G 38
  n_int := c.free X G 39
  n_isinstance := c.free X G 40
  n_len := c.free X G 41
  n_list := c.free X G 42
  n_max := c.free X G 43
  n_min := c.free X G 44
  n_range := c.free X G 45
  n_repr := c.free X G 46
  n_sorted := c.free X G 47
  n_str := c.free X G 48
  n_sum := c.free X G 49
  n_tuple := c.free X G 50
  n_zip := c.free X G 51
  c_MAKERS := c.glb X G 0
  c_MOST_MAKES := c.glb X G 1
  c_MOST_SIZE_marks5 := c.glb X G 2
  c_MOST_SIZE_types1 := c.glb X G 3
end Fw.L
end TG69
section TMk69
namespace Fw.L
open PySem PySem.W PyProof.Rows
def lnI : Nat → List (List Int)
  | 0 => [[1]]
  | 1 => [[1]]
  | 2 => [[2, 0], [1, 1]]
  | 3 => [[6, 0, 0], [3, 1, 0], [2, 0, 2], [1, 1, 1]]
  | 4 => [[24, 0, 0, 0, 0], [12, 2, 0, 0, 0], [12, 0, 4, 0, 0], [8, 0, 0, 2, 0], [6, 2, 2, 0, 0], [6, 0, 6, 0, 0], [6, 0, 2, 0, 2], [4, 2, 0, 1, 0], [3, 1, 3, 0, 1], [2, 0, 2, 2, 0], [1, 1, 1, 1, 1]]
  | _ => []
def szN : Nat → Nat
  | 0 => 1
  | 1 => 1
  | 2 => 2
  | 3 => 3
  | 4 => 5
  | _ => 0
def gr0_0 : D := .tuple [(.tuple [])]
def grs0 : List D := [gr0_0]
theorem gs0 (ds : Option DS) : f_groups_of [.d (.int 0)] ds = some (.fl grs0, ds) := by kernel_rfl
theorem sz0 (ds : Option DS) : f_sized [.d (.int 0)] ds = some (.fl [.tuple []], ds) := by kernel_rfl
theorem mk0_0 (ds : Option DS) : f_marks_of [.d gr0_0, .d (.int 0)] ds = some (.fl [.int 1], ds) := by kernel_rfl
def gr1_0 : D := .tuple [(.tuple [.int 0])]
def grs1 : List D := [gr1_0]
theorem gs1 (ds : Option DS) : f_groups_of [.d (.int 1)] ds = some (.fl grs1, ds) := by kernel_rfl
theorem sz1 (ds : Option DS) : f_sized [.d (.int 1)] ds = some (.fl [.tuple [.int 1]], ds) := by kernel_rfl
theorem mk1_0 (ds : Option DS) : f_marks_of [.d gr1_0, .d (.int 1)] ds = some (.fl [.int 1], ds) := by kernel_rfl
def gr2_0 : D := .tuple [(.tuple [.int 0, .int 1])]
def gr2_1 : D := .tuple [(.tuple [.int 0, .int 1]), (.tuple [.int 1, .int 0])]
def grs2 : List D := [gr2_0, gr2_1]
theorem gs2 (ds : Option DS) : f_groups_of [.d (.int 2)] ds = some (.fl grs2, ds) := by kernel_rfl
theorem sz2 (ds : Option DS) : f_sized [.d (.int 2)] ds = some (.fl [.tuple [.int 1, .int 1], .tuple [.int 2]], ds) := by kernel_rfl
theorem mk2_0 (ds : Option DS) : f_marks_of [.d gr2_0, .d (.int 2)] ds = some (.fl [.int 2, .int 0], ds) := by kernel_rfl
theorem mk2_1 (ds : Option DS) : f_marks_of [.d gr2_1, .d (.int 2)] ds = some (.fl [.int 1, .int 1], ds) := by kernel_rfl
def gr3_0 : D := .tuple [(.tuple [.int 0, .int 1, .int 2])]
def gr3_1 : D := .tuple [(.tuple [.int 0, .int 1, .int 2]), (.tuple [.int 0, .int 2, .int 1])]
def gr3_2 : D := .tuple [(.tuple [.int 0, .int 1, .int 2]), (.tuple [.int 1, .int 2, .int 0]), (.tuple [.int 2, .int 0, .int 1])]
def gr3_3 : D := .tuple [(.tuple [.int 0, .int 1, .int 2]), (.tuple [.int 0, .int 2, .int 1]), (.tuple [.int 1, .int 0, .int 2]), (.tuple [.int 1, .int 2, .int 0]), (.tuple [.int 2, .int 0, .int 1]), (.tuple [.int 2, .int 1, .int 0])]
def grs3 : List D := [gr3_0, gr3_1, gr3_2, gr3_3]
theorem gs3 (ds : Option DS) : f_groups_of [.d (.int 3)] ds = some (.fl grs3, ds) := by kernel_rfl
theorem sz3 (ds : Option DS) : f_sized [.d (.int 3)] ds = some (.fl [.tuple [.int 1, .int 1, .int 1], .tuple [.int 2, .int 1], .tuple [.int 3]], ds) := by kernel_rfl
theorem mk3_0 (ds : Option DS) : f_marks_of [.d gr3_0, .d (.int 3)] ds = some (.fl [.int 6, .int 0, .int 0], ds) := by kernel_rfl
theorem mk3_1 (ds : Option DS) : f_marks_of [.d gr3_1, .d (.int 3)] ds = some (.fl [.int 3, .int 1, .int 0], ds) := by kernel_rfl
theorem mk3_2 (ds : Option DS) : f_marks_of [.d gr3_2, .d (.int 3)] ds = some (.fl [.int 2, .int 0, .int 2], ds) := by kernel_rfl
theorem mk3_3 (ds : Option DS) : f_marks_of [.d gr3_3, .d (.int 3)] ds = some (.fl [.int 1, .int 1, .int 1], ds) := by kernel_rfl
def gr4_0 : D := .tuple [(.tuple [.int 0, .int 1, .int 2, .int 3])]
def gr4_1 : D := .tuple [(.tuple [.int 0, .int 1, .int 2, .int 3]), (.tuple [.int 0, .int 1, .int 3, .int 2])]
def gr4_2 : D := .tuple [(.tuple [.int 0, .int 1, .int 2, .int 3]), (.tuple [.int 1, .int 0, .int 3, .int 2])]
def gr4_3 : D := .tuple [(.tuple [.int 0, .int 1, .int 2, .int 3]), (.tuple [.int 0, .int 2, .int 3, .int 1]), (.tuple [.int 0, .int 3, .int 1, .int 2])]
def gr4_4 : D := .tuple [(.tuple [.int 0, .int 1, .int 2, .int 3]), (.tuple [.int 0, .int 1, .int 3, .int 2]), (.tuple [.int 1, .int 0, .int 2, .int 3]), (.tuple [.int 1, .int 0, .int 3, .int 2])]
def gr4_5 : D := .tuple [(.tuple [.int 0, .int 1, .int 2, .int 3]), (.tuple [.int 1, .int 0, .int 3, .int 2]), (.tuple [.int 2, .int 3, .int 0, .int 1]), (.tuple [.int 3, .int 2, .int 1, .int 0])]
def gr4_6 : D := .tuple [(.tuple [.int 0, .int 1, .int 2, .int 3]), (.tuple [.int 1, .int 0, .int 3, .int 2]), (.tuple [.int 2, .int 3, .int 1, .int 0]), (.tuple [.int 3, .int 2, .int 0, .int 1])]
def gr4_7 : D := .tuple [(.tuple [.int 0, .int 1, .int 2, .int 3]), (.tuple [.int 0, .int 1, .int 3, .int 2]), (.tuple [.int 0, .int 2, .int 1, .int 3]), (.tuple [.int 0, .int 2, .int 3, .int 1]), (.tuple [.int 0, .int 3, .int 1, .int 2]), (.tuple [.int 0, .int 3, .int 2, .int 1])]
def gr4_8 : D := .tuple [(.tuple [.int 0, .int 1, .int 2, .int 3]), (.tuple [.int 0, .int 1, .int 3, .int 2]), (.tuple [.int 1, .int 0, .int 2, .int 3]), (.tuple [.int 1, .int 0, .int 3, .int 2]), (.tuple [.int 2, .int 3, .int 0, .int 1]), (.tuple [.int 2, .int 3, .int 1, .int 0]), (.tuple [.int 3, .int 2, .int 0, .int 1]), (.tuple [.int 3, .int 2, .int 1, .int 0])]
def gr4_9 : D := .tuple [(.tuple [.int 0, .int 1, .int 2, .int 3]), (.tuple [.int 0, .int 2, .int 3, .int 1]), (.tuple [.int 0, .int 3, .int 1, .int 2]), (.tuple [.int 1, .int 0, .int 3, .int 2]), (.tuple [.int 1, .int 2, .int 0, .int 3]), (.tuple [.int 1, .int 3, .int 2, .int 0]), (.tuple [.int 2, .int 0, .int 1, .int 3]), (.tuple [.int 2, .int 1, .int 3, .int 0]), (.tuple [.int 2, .int 3, .int 0, .int 1]), (.tuple [.int 3, .int 0, .int 2, .int 1]), (.tuple [.int 3, .int 1, .int 0, .int 2]), (.tuple [.int 3, .int 2, .int 1, .int 0])]
def gr4_10 : D := .tuple [(.tuple [.int 0, .int 1, .int 2, .int 3]), (.tuple [.int 0, .int 1, .int 3, .int 2]), (.tuple [.int 0, .int 2, .int 1, .int 3]), (.tuple [.int 0, .int 2, .int 3, .int 1]), (.tuple [.int 0, .int 3, .int 1, .int 2]), (.tuple [.int 0, .int 3, .int 2, .int 1]), (.tuple [.int 1, .int 0, .int 2, .int 3]), (.tuple [.int 1, .int 0, .int 3, .int 2]), (.tuple [.int 1, .int 2, .int 0, .int 3]), (.tuple [.int 1, .int 2, .int 3, .int 0]), (.tuple [.int 1, .int 3, .int 0, .int 2]), (.tuple [.int 1, .int 3, .int 2, .int 0]), (.tuple [.int 2, .int 0, .int 1, .int 3]), (.tuple [.int 2, .int 0, .int 3, .int 1]), (.tuple [.int 2, .int 1, .int 0, .int 3]), (.tuple [.int 2, .int 1, .int 3, .int 0]), (.tuple [.int 2, .int 3, .int 0, .int 1]), (.tuple [.int 2, .int 3, .int 1, .int 0]), (.tuple [.int 3, .int 0, .int 1, .int 2]), (.tuple [.int 3, .int 0, .int 2, .int 1]), (.tuple [.int 3, .int 1, .int 0, .int 2]), (.tuple [.int 3, .int 1, .int 2, .int 0]), (.tuple [.int 3, .int 2, .int 0, .int 1]), (.tuple [.int 3, .int 2, .int 1, .int 0])]
def grs4 : List D := [gr4_0, gr4_1, gr4_2, gr4_3, gr4_4, gr4_5, gr4_6, gr4_7, gr4_8, gr4_9, gr4_10]
theorem gs4 (ds : Option DS) : f_groups_of [.d (.int 4)] ds = some (.fl grs4, ds) := by kernel_rfl
theorem sz4 (ds : Option DS) : f_sized [.d (.int 4)] ds = some (.fl [.tuple [.int 1, .int 1, .int 1, .int 1], .tuple [.int 2, .int 1, .int 1], .tuple [.int 2, .int 2], .tuple [.int 3, .int 1], .tuple [.int 4]], ds) := by kernel_rfl
theorem mk4_0 (ds : Option DS) : f_marks_of [.d gr4_0, .d (.int 4)] ds = some (.fl [.int 24, .int 0, .int 0, .int 0, .int 0], ds) := by kernel_rfl
theorem mk4_1 (ds : Option DS) : f_marks_of [.d gr4_1, .d (.int 4)] ds = some (.fl [.int 12, .int 2, .int 0, .int 0, .int 0], ds) := by kernel_rfl
theorem mk4_2 (ds : Option DS) : f_marks_of [.d gr4_2, .d (.int 4)] ds = some (.fl [.int 12, .int 0, .int 4, .int 0, .int 0], ds) := by kernel_rfl
theorem mk4_3 (ds : Option DS) : f_marks_of [.d gr4_3, .d (.int 4)] ds = some (.fl [.int 8, .int 0, .int 0, .int 2, .int 0], ds) := by kernel_rfl
theorem mk4_4 (ds : Option DS) : f_marks_of [.d gr4_4, .d (.int 4)] ds = some (.fl [.int 6, .int 2, .int 2, .int 0, .int 0], ds) := by kernel_rfl
theorem mk4_5 (ds : Option DS) : f_marks_of [.d gr4_5, .d (.int 4)] ds = some (.fl [.int 6, .int 0, .int 6, .int 0, .int 0], ds) := by kernel_rfl
theorem mk4_6 (ds : Option DS) : f_marks_of [.d gr4_6, .d (.int 4)] ds = some (.fl [.int 6, .int 0, .int 2, .int 0, .int 2], ds) := by kernel_rfl
theorem mk4_7 (ds : Option DS) : f_marks_of [.d gr4_7, .d (.int 4)] ds = some (.fl [.int 4, .int 2, .int 0, .int 1, .int 0], ds) := by kernel_rfl
theorem mk4_8 (ds : Option DS) : f_marks_of [.d gr4_8, .d (.int 4)] ds = some (.fl [.int 3, .int 1, .int 3, .int 0, .int 1], ds) := by kernel_rfl
theorem mk4_9 (ds : Option DS) : f_marks_of [.d gr4_9, .d (.int 4)] ds = some (.fl [.int 2, .int 0, .int 2, .int 2, .int 0], ds) := by kernel_rfl
theorem mk4_10 (ds : Option DS) : f_marks_of [.d gr4_10, .d (.int 4)] ds = some (.fl [.int 1, .int 1, .int 1, .int 1, .int 1], ds) := by kernel_rfl
end Fw.L
end TMk69
section TPDraw
set_option exponentiation.threshold 2000
namespace Fw.L
open PySem PySem.Spec PyProof.Rows L2
theorem fmodN (a b : Nat) : Int.fmod (a : Int) (b : Int) = ((a % b : Nat) : Int) := by
  rw [Int.fmod_eq_emod_of_nonneg _ (Int.natCast_nonneg _)]; rfl
theorem fdivN (a b : Nat) : Int.fdiv (a : Int) (b : Int) = ((a / b : Nat) : Int) := by
  rw [Int.fdiv_eq_ediv_of_nonneg _ (Int.natCast_nonneg _)]; rfl
theorem log_lt {n k : Nat} (h : n < 2 ^ k) (hk : 0 < k) : n.log2 < k := by
  by_cases h0 : n = 0
  · subst h0; simpa using hk
  · exact (Nat.log2_lt h0).mpr h
theorem bin_mulN {a b : Nat} (ha : a < 2 ^ 1000) (hb : b < 2 ^ 1000) : binD .mul (.int (a : Int)) (.int (b : Int)) = some (.d (.int ((a * b : Nat) : Int))) := by
  have h1 := log_lt ha (by decide)
  have h2 := log_lt hb (by decide)
  show (if (a : Int).natAbs.log2 + (b : Int).natAbs.log2 < 1000000 then some (Rv.d (.int ((a : Int) * b))) else none) = _
  rw [Int.natAbs_natCast, Int.natAbs_natCast, if_pos (by omega)]
  rfl
theorem bin_addN (a b : Nat) : binD .add (.int (a : Int)) (.int (b : Int)) = some (.d (.int ((a + b : Nat) : Int))) := rfl
theorem bin_modN {a b : Nat} (hb : b ≠ 0) : binD .mod (.int (a : Int)) (.int (b : Int)) = some (.d (.int ((a % b : Nat) : Int))) := by
  show (if (b : Int) ≠ 0 then some (Rv.d (.int (Int.fmod a b))) else none) = _
  rw [if_pos (by omega), fmodN]
theorem bin_fdivN {a b : Nat} (hb : b ≠ 0) (hb2 : b < 2 ^ 1000) : binD .fdiv (.int (a : Int)) (.int (b : Int)) = some (.d (.int ((a / b : Nat) : Int))) := by
  have h2 := log_lt hb2 (by decide)
  show (if (b : Int) ≠ 0 ∧ (b : Int).natAbs.log2 < 9000 then some (Rv.d (.int (Int.fdiv a b))) else none) = _
  rw [Int.natAbs_natCast, if_pos ⟨by omega, by omega⟩, fdivN]
theorem bin_powN {a b : Nat} (ha : a < 2 ^ 64) (hb : b ≤ 1000000) : binD .pow (.int (a : Int)) (.int (b : Int)) = some (.d (.int ((a ^ b : Nat) : Int))) := by
  show (if 0 ≤ (b : Int) ∧ (b : Int) ≤ 1000000 ∧ (a : Int).natAbs < 2 ^ 64 then some (Rv.d (.int ((a : Int) ^ (b : Int).toNat))) else none) = _
  rw [Int.natAbs_natCast, if_pos ⟨by omega, by omega, ha⟩, Int.toNat_natCast, Int.natCast_pow]
abbrev nD (n : Nat) : D := .int (n : Int)
abbrev eM (p t f b x : Option Sl) : Env := [some .st, p, t, f, b, x]
abbrev nS (n : Nat) : Option Sl := some (.d (nD n))
def bIn : D → M Oc := fun x => do
  asgM (.nm 5) x
  setM 4 (bin2 (biM (biD .int) (consP (bin2 (bin2 (bin2 (varV 4) (pure (.d (.int 48271))) (binD .mul)) (varV 5) (binD .add)) (varV 2) (binD .add)) (pure []))) (varV 1) (binD .mod))
theorem in_step (s : DS) {p t f b c : Nat} {x : Option Sl} (hp : p ≠ 0) (hb : b < 2 ^ 1000) : bIn (nD c) (eM (nS p) (nS t) (nS f) (nS b) x, some s) = some (.nx, (eM (nS p) (nS t) (nS f) (nS ((b * 48271 + c + t) % p)) (nS c), some s)) :=
  bind_r (asg_r rfl) (set_r (bin2_r (bi1_r (bin2_r (bin2_r (bin2_r rfl rfl rfl rfl (bin_mulN (b := 48271) hb (by decide))) rfl rfl rfl (bin_addN _ _)) rfl rfl rfl (bin_addN _ _)) rfl rfl) rfl rfl rfl (bin_modN hp)) rfl)
theorem in_loop (s : DS) {p t f : Nat} (hp : p ≠ 0) (hp2 : p < 2 ^ 1000) : ∀ (cs : List Nat) (b : Nat) (x : Option Sl), b < 2 ^ 1000 → ∃ y, forM bIn (natsD cs) (eM (nS p) (nS t) (nS f) (nS b) x, some s) = some (.nx, (eM (nS p) (nS t) (nS f) (nS (blendD t p cs b)) y, some s))
  | [], b, x, _ => ⟨x, rfl⟩
  | c :: cs, b, x, hb => by
    obtain ⟨y, h⟩ := in_loop s hp hp2 cs ((b * 48271 + c + t) % p) (nS c) (Nat.lt_trans (Nat.mod_lt _ (Nat.pos_of_ne_zero hp)) hp2)
    exact ⟨y, forM_cons (in_step s hp hb) h⟩
theorem blend_lt {t p : Nat} (hp : 0 < p) : ∀ (cs : List Nat) (b : Nat), blendD t p cs b < p ∨ blendD t p cs b = b
  | [], b => .inr rfl
  | c :: cs, b => by
    rcases blend_lt (t := t) hp cs ((b * 48271 + c + t) % p) with h | h
    · exact .inl h
    · exact .inl (by rw [show blendD t p (c :: cs) b = blendD t p cs ((b * 48271 + c + t) % p) from rfl, h]; exact Nat.mod_lt _ hp)
def bOut : D → M Oc := fun x => do
  asgM (.nm 1) x
  seqM (setM 4 (bin2 (bin2 (pure (.d (.int 69621))) (varV 2) (binD .mul)) (bin2 (varV 1) (pure (.d (.int 41))) (binD .fdiv)) (binD .add)))
    (seqM (forS (.nm 5) (stCells 0) (setM 4 (bin2 (biM (biD .int) (consP (bin2 (bin2 (bin2 (varV 4) (pure (.d (.int 48271))) (binD .mul)) (varV 5) (binD .add)) (varV 2) (binD .add)) (pure []))) (varV 1) (binD .mod))))
      (setM 3 (bin2 (bin2 (varV 3) (pure (.d (.int 2147483659))) (binD .mul)) (bin2 (biM (biD .int) (consP (bin2 (varV 4) (pure (.d (.int 5))) (binD .pow)) (pure []))) (varV 1) (binD .mod)) (binD .add))))
theorem st_cells {i : Nat} {s : DS} {e : Env} (h : e[i]? = some (some .st)) : stCells i (e, some s) = some (natsD s.cells, (e, some s)) := by
  unfold stCells; simp only [h]
theorem out_step (s : DS) {p t f : Nat} {a b x : Option Sl} (hp : 0 < p) (hp2 : p < 2 ^ 31) (ht : t < 2 ^ 40) (hf : f < 2 ^ 1000) :
    ∃ b' y, bOut (nD p) (eM a (nS t) (nS f) b x, some s) = some (.nx, (eM (nS p) (nS t) (nS (f * 2147483659 + (blendD t p s.cells (69621 * t + p / 41)) ^ 5 % p)) b' y, some s)) := by
  have hb : 69621 * t + p / 41 < 2 ^ 64 := by omega
  have hbl : blendD t p s.cells (69621 * t + p / 41) < 2 ^ 64 := by
    rcases blend_lt (t := t) hp s.cells (69621 * t + p / 41) with h | h
    · omega
    · rw [h]; exact hb
  have big : (2 : Nat) ^ 64 < 2 ^ 1000 := Nat.pow_lt_pow_right (by decide) (by decide)
  have b40 : (2 : Nat) ^ 40 < 2 ^ 1000 := Nat.pow_lt_pow_right (by decide) (by decide)
  obtain ⟨y, hy⟩ := in_loop s (p := p) (t := t) (f := f) (Nat.ne_of_gt hp) (by omega) s.cells (69621 * t + p / 41) x (by omega)
  exact ⟨_, y, bind_r (asg_r rfl) (seq_r (set_r (bin2_r (bin2_r rfl rfl rfl rfl (bin_mulN (a := 69621) (b := t) (by decide) (by omega))) (bin2_r rfl rfl rfl rfl (bin_fdivN (a := p) (b := 41) (by decide) (by decide))) rfl rfl (bin_addN _ _)) rfl)
    (seq_r (for_r (st_cells rfl) hy) (set_r (bin2_r (bin2_r rfl rfl rfl rfl (bin_mulN (a := f) (b := 2147483659) hf (by decide))) (bin2_r (bi1_r (bin2_r rfl rfl rfl rfl (bin_powN (b := 5) hbl (by decide))) rfl rfl) rfl rfl rfl (bin_modN (Nat.ne_of_gt hp))) rfl rfl (bin_addN _ _)) rfl)))⟩
theorem f_mixed (s : DS) (ht : s.turn < 2 ^ 30) : f_law_mixed [.st] (some s) = some (.d (nD (mixD s.cells s.turn primes 0)), some { s with turn := s.turn + 1 }) := by
  have b1 : (2 : Nat) ^ 200 < 2 ^ 1000 := Nat.pow_lt_pow_right (by decide) (by decide)
  have p31 : (2147483659 : Nat) < 2 ^ 32 := by decide
  generalize hs : ({ s with turn := s.turn + 1 } : DS) = s1
  have hc : s1.cells = s.cells := by rw [← hs]
  have step := fun (p f : Nat) (a b x : Option Sl) (hp : 0 < p) (hp2 : p < 2 ^ 31) (hf : f < 2 ^ 1000) => (show ∃ f' b' y, f' = f * 2147483659 + (blendD (s.turn + 1) p s1.cells (69621 * (s.turn + 1) + p / 41)) ^ 5 % p ∧ bOut (nD p) (eM a (nS (s.turn + 1)) (nS f) b x, some s1) = some (.nx, (eM (nS p) (nS (s.turn + 1)) (nS f') b' y, some s1)) from (out_step s1 (t := s.turn + 1) (p := p) (f := f) (a := a) (b := b) (x := x) hp hp2 (by omega) hf).elim fun b' h => h.elim fun y h => ⟨_, b', y, rfl, h⟩)
  rw [hc] at step
  have m1 := fun (b p : Nat) (hp : 0 < p) => Nat.mod_lt b hp
  obtain ⟨f1, b1, y1, g1, h1⟩ := step 2147483629 0 none none none (by decide) (by decide) (by decide)
  have q1 := m1 ((blendD (s.turn + 1) 2147483629 s.cells (69621 * (s.turn + 1) + 2147483629 / 41)) ^ 5) 2147483629 (by decide)
  have l1 : f1 < 2 ^ 31 := by rw [g1]; omega
  obtain ⟨f2, b2, y2, g2, h2⟩ := step 2147483587 f1 (nS 2147483629) b1 y1 (by decide) (by decide) (by omega)
  have q2 := m1 ((blendD (s.turn + 1) 2147483587 s.cells (69621 * (s.turn + 1) + 2147483587 / 41)) ^ 5) 2147483587 (by decide)
  have l2 : f2 < 2 ^ 64 := by rw [g2]; omega
  obtain ⟨f3, b3, y3, g3, h3⟩ := step 2147483579 f2 (nS 2147483587) b2 y2 (by decide) (by decide) (by omega)
  have q3 := m1 ((blendD (s.turn + 1) 2147483579 s.cells (69621 * (s.turn + 1) + 2147483579 / 41)) ^ 5) 2147483579 (by decide)
  have l3 : f3 < 2 ^ 100 := by rw [g3]; omega
  obtain ⟨f4, b4, y4, g4, h4⟩ := step 2147483563 f3 (nS 2147483579) b3 y3 (by decide) (by decide) (by omega)
  have hm : mixD s.cells s.turn primes 0 = f4 := by
    rw [g4, g3, g2, g1]; rfl
  rw [hm]
  subst hs
  have hit : (itQ (lstM (consL (pure (.d (.int 2147483629))) (consL (pure (.d (.int 2147483587))) (consL (pure (.d (.int 2147483579))) (consL (pure (.d (.int 2147483563))) (pure []))))))) ([some .st, none, nS (s.turn + 1), nS 0, none, none], some { s with turn := s.turn + 1 }) =
      some ([nD 2147483629, nD 2147483587, nD 2147483579, nD 2147483563], ([some .st, none, nS (s.turn + 1), nS 0, none, none], some { s with turn := s.turn + 1 })) := by with_unfolding_all rfl
  have hz : forM bOut [nD 2147483629, nD 2147483587, nD 2147483579, nD 2147483563] ([some .st, none, nS (s.turn + 1), nS 0, none, none], some { s with turn := s.turn + 1 }) = some (.nx, (eM (nS 2147483563) (nS (s.turn + 1)) (nS f4) b4 y4, some { s with turn := s.turn + 1 })) :=
    forM_cons h1 (forM_cons h2 (forM_cons h3 (forM_cons h4 rfl)))
  refine run_rt (e := eM (nS 2147483563) (nS (s.turn + 1)) (nS f4) b4 y4) rfl ?_
  refine seq_r (par2_r (kept_r (bin2_r (stGet_r rfl) rfl rfl rfl (bin_addN _ 1)) rfl) (kept_r rfl rfl) rfl rfl rfl rfl) ?_
  refine seq_r (stSet_r (n := s.turn + 1) rfl rfl) ?_
  refine seq_r (for_r hit hz) ?_
  exact ret_r rfl rfl
theorem f_draw (s : DS) {n : Nat} (hn : n ≠ 0) (hn2 : n < 2 ^ 1000) (ht : s.turn < 2 ^ 30) : f_law_draw [.st, .d (nD n)] (some s) = some (.d (nD (drawD s n).1), some (drawD s n).2) := by
  have tail : ∀ (s1 : DS), (seqM (setM 2 (bin2 (biM (biD .int) (consP (stGet 0 DS.rest) (pure []))) (varV 1) (binD .mod)))
      (seqM (stSet 0 (fun s n => { s with rest := n }) (bin2 (stGet 0 DS.rest) (varV 1) (binD .fdiv)))
      (retM (varV 2)))) ([some .st, nS n, none], some s1) = some (.rt (.d (nD (s1.rest % n))), ([some .st, nS n, nS (s1.rest % n)], some { s1 with rest := s1.rest / n })) := fun s1 =>
    seq_r (set_r (bin2_r (bi1_r (stGet_r rfl) rfl rfl) rfl rfl rfl (bin_modN hn)) rfl) (seq_r (stSet_r (n := s1.rest / n) (bin2_r (stGet_r rfl) rfl rfl rfl (bin_fdivN hn hn2)) rfl) (ret_r rfl rfl))
  refine run_rt (e := [some .st, nS n, nS (drawD s n).1]) rfl ?_
  have hc : ∀ k : Bool, decide (s.rest = 0) = k → cmp2 (stGet 0 DS.rest) (pure (.d (.int 0))) .eq ([some .st, nS n, none], some s) = some (.d (.bool k), ([some .st, nS n, none], some s)) := fun k hk =>
    cmp2_r (stGet_r rfl) rfl rfl rfl (by
      show (if small (nD s.rest) && small (.int 0) then some (PyData.eqv (nD s.rest) (.int 0)) else none) = some k
      rw [if_pos (show (small (nD s.rest) && small (.int 0)) = true from rfl), ← hk]
      show some (decide ((s.rest : Int) = 0)) = some (decide (s.rest = 0))
      congr 1
      exact decide_eq_decide.mpr (by omega))
  by_cases h0 : s.rest = 0
  · cases hg : s.great with
    | nil =>
      have e1 : (drawD s n) = ((mixD s.cells s.turn primes 0) % n, { s with turn := s.turn + 1, rest := (mixD s.cells s.turn primes 0) / n }) := by
        unfold drawD nextD; simp only [if_pos h0, hg]
      rw [e1]
      have hG : stGreat 0 ([some .st, nS n, none], some s) = some (.d (.bool false), ([some .st, nS n, none], some s)) := by
        show some (Rv.d (.bool (!s.great.isEmpty)), _) = _
        rw [hg]; rfl
      exact seq_r (if_t (hc true (decide_eq_true h0)) (stSet_r (n := mixD s.cells s.turn primes 0) (s := { s with turn := s.turn + 1 }) (ite_f hG (call_r (consA_r rfl rfl rfl) (f_mixed s ht))) rfl)) (tail _)
    | cons g gs =>
      have e1 : (drawD s n) = (g % n, { s with great := gs, rest := g / n }) := by
        unfold drawD nextD; simp only [if_pos h0, hg]
      rw [e1]
      have hG : stGreat 0 ([some .st, nS n, none], some s) = some (.d (.bool true), ([some .st, nS n, none], some s)) := by
        show some (Rv.d (.bool (!s.great.isEmpty)), _) = _
        rw [hg]; rfl
      have hP : stPop 0 ([some .st, nS n, none], some s) = some (.d (nD g), ([some .st, nS n, none], some { s with great := gs })) := by
        unfold stPop
        simp only [List.getElem?_cons_zero, hg]
      exact seq_r (if_t (hc true (decide_eq_true h0)) (stSet_r (n := g) (ite_t hG hP) rfl)) (tail _)
  · have e1 : (drawD s n) = (s.rest % n, { s with rest := s.rest / n }) := by
      unfold drawD nextD; simp only [if_neg h0]
    rw [e1]
    exact seq_r (if_f (hc false (decide_eq_false h0)) rfl) (tail _)
theorem drawD_turn (s : DS) (n : Nat) : (drawD s n).2.turn ≤ s.turn + 1 := by
  unfold drawD nextD
  by_cases h0 : s.rest = 0
  · cases hg : s.great with
    | nil => simp only [if_pos h0]; exact Nat.le_refl _
    | cons g gs => simp only [if_pos h0]; exact Nat.le_succ _
  · simp only [if_neg h0]; exact Nat.le_succ _
theorem natOf_nats : ∀ ns : List Nat, natOf (natsD ns) = some ns
  | [] => rfl
  | n :: ns => by
    show (if 0 ≤ (Int.ofNat n) then match natOf (natsD ns) with | some ms => some ((Int.ofNat n).toNat :: ms) | none => none else none) = _
    rw [natOf_nats ns, if_pos (show 0 ≤ Int.ofNat n from Int.natCast_nonneg n)]
    rfl
theorem absN (i : Int) : biD .abs [.int i] = some (.d (nD i.natAbs)) := by
  show some (Rv.d (.int (if i < 0 then -i else i))) = _
  congr 3
  split <;> omega
def gBeg : D → Option D
  | .int i => if 10 ^ 18 ≤ i.natAbs then some (nD (i.natAbs - 10 ^ 18)) else none
  | _ => none
def gAbs : D → Option D
  | .int i => some (nD i.natAbs)
  | _ => none
theorem gBeg_all : ∀ ns : List Int, (ns.map PyData.int).filterMap gBeg = natsD (begunD ns).great
  | [] => rfl
  | i :: ns => by
    have ih := gBeg_all ns
    rw [List.map_cons]
    by_cases h : 10 ^ 18 ≤ i.natAbs
    · rw [List.filterMap_cons_some (show gBeg (.int i) = some (nD (i.natAbs - 10 ^ 18)) from if_pos h), ih]
      unfold begunD
      rw [List.filter_cons_of_pos (by simpa using h)]
      rfl
    · rw [List.filterMap_cons_none (show gBeg (.int i) = none from if_neg h), ih]
      unfold begunD
      rw [List.filter_cons_of_neg (by simpa using h)]
theorem gAbs_all : ∀ ns : List Int, (ns.map PyData.int).filterMap gAbs = natsD (begunD ns).cells
  | [] => rfl
  | i :: ns => by
    rw [List.map_cons, List.filterMap_cons_some (show gAbs (.int i) = some (nD i.natAbs) from rfl), gAbs_all ns]
    rfl
theorem natsD_len (ns : List Nat) : (natsD ns).length = ns.length := List.length_map ..
theorem line_big : 1000 ≤ line := by decide
theorem f_begun (ns : List Int) (hn : ns.length ≤ 1000) : f_law_begun [.d (.list (ns.map PyData.int))] none = some (.st, some (begunD ns)) := by
  have lg : (begunD ns).great.length ≤ 1000 := by
    unfold begunD
    rw [List.length_map]
    exact Nat.le_trans (List.length_filter_le ..) hn
  have lc : (begunD ns).cells.length ≤ 1000 := by
    unfold begunD
    rw [List.length_map]
    exact hn
  have lb := line_big
  have s1 := lc_r (vs := [2]) (t := .nm 2) (mi := itQ (varV 0)) (mc := cmp2 (biM (biD .abs) (consP (varV 2) (pure []))) (bin2 (pure (.d (.int 10))) (pure (.d (.int 18))) (binD .pow)) .ge)
    (me := bin2 (biM (biD .abs) (consP (varV 2) (pure []))) (bin2 (pure (.d (.int 10))) (pure (.d (.int 18))) (binD .pow)) (binD .sub)) (c := ([some (.d (.list (ns.map PyData.int))), none, none], none)) (xs := ns.map PyData.int) (e := [some (.d (.list (ns.map PyData.int))), none, none]) (s := none)
    gBeg (itQ_r rfl rfl rfl) (fun x hx => by
      obtain ⟨i, _, rfl⟩ := List.mem_map.mp hx
      refine ⟨_, [some (.d (.list (ns.map PyData.int))), none, some (.d (.int i))], rfl, ?_, rfl⟩
      have hp : bin2 (pure (.d (.int 10))) (pure (.d (.int 18))) (binD .pow) ([some (.d (.list (ns.map PyData.int))), none, some (.d (.int i))], none) = some (.d (nD (10 ^ 18)), ([some (.d (.list (ns.map PyData.int))), none, some (.d (.int i))], none)) := bin2_r rfl rfl rfl rfl (bin_powN (a := 10) (b := 18) (by decide) (by decide))
      by_cases h : 10 ^ 18 ≤ i.natAbs
      · refine .inl ⟨_, cmp2_r (bi1_r rfl rfl (absN i)) hp rfl rfl ?_, _, dM_r (s := .d .none) (bin2_r (bi1_r rfl rfl (absN i)) hp rfl rfl rfl) rfl, ?_⟩
        · show some (decide (((10 ^ 18 : Nat) : Int) ≤ (i.natAbs : Int))) = _
          rw [decide_eq_true (by omega)]
        · rw [show gBeg (.int i) = some (nD (i.natAbs - 10 ^ 18)) from if_pos h]
          show some (PyData.int _) = some (PyData.int _)
          congr 2
          omega
      · refine .inr ⟨cmp2_r (bi1_r rfl rfl (absN i)) hp rfl rfl ?_, if_neg h⟩
        show some (decide (((10 ^ 18 : Nat) : Int) ≤ (i.natAbs : Int))) = _
        rw [decide_eq_false (by omega)])
    (by rw [gBeg_all, natsD_len]; omega)
  have s2 := lc_r (vs := [2]) (t := .nm 2) (mi := itQ (varV 0)) (mc := yesM)
    (me := biM (biD .abs) (consP (varV 2) (pure []))) (c := ([some (.d (.list (ns.map PyData.int))), some (.ol (natsD (begunD ns).great)), none], none)) (xs := ns.map PyData.int) (e := [some (.d (.list (ns.map PyData.int))), some (.ol (natsD (begunD ns).great)), none]) (s := none)
    gAbs (itQ_r rfl rfl rfl) (fun x hx => by
      obtain ⟨i, _, rfl⟩ := List.mem_map.mp hx
      exact ⟨_, [some (.d (.list (ns.map PyData.int))), some (.ol (natsD (begunD ns).great)), some (.d (.int i))], rfl, .inl ⟨_, rfl, _, dM_r (s := .d .none) (bi1_r rfl rfl (absN i)) rfl, rfl⟩, rfl⟩)
    (by rw [gAbs_all, natsD_len]; omega)
  rw [gBeg_all] at s1
  rw [gAbs_all] at s2
  refine run_rt (e := [some (.d (.list (ns.map PyData.int))), none, none]) rfl (seq_r (set_r s1 rfl) (ret_r (r := .st) (bind_r (c1 := ([some (.d (.list (ns.map PyData.int))), some (.ol (natsD (begunD ns).great)), none], none)) rfl (bind_r s2 ?_)) rfl))
  show (match natOf (natsD (begunD ns).great), natOf (natsD (begunD ns).cells) with
      | some gn, some cn => if gn.length ≤ 1000 ∧ cn.length ≤ 1000 then some (Rv.st, (([some (.d (.list (ns.map PyData.int))), some (.ol (natsD (begunD ns).great)), none] : Env).set 1 none, some (⟨gn, cn, 0, 0⟩ : DS))) else none
      | _, _ => none) = _
  rw [natOf_nats, natOf_nats]
  dsimp only
  rw [if_pos ⟨lg, lc⟩]
  rfl
end Fw.L
end TPDraw
section TPMk
namespace Fw.L
open PySem PySem.Spec PyProof.Rows L2
def ti (xs : List Int) : D := .tuple (xs.map .int)
def li (xs : List Int) : D := .list (xs.map .int)
def nn (l : List Int) : Bool := l.all fun i => decide (0 ≤ i)
def zr (l : List Int) : Bool := l.all fun i => decide (i = 0)
def vsub (l o : List Int) : List Int := List.zipWith (· - ·) l o
def hd (l : List Int) : Int := l.headD 0
def upto (o : List Int) : Nat → Nat → List Int → List (Nat × List Int)
  | 0, _, _ => []
  | n + 1, t, l => if nn l then (t, l) :: upto o n (t + 1) (vsub l o) else []
def lap (o l : List Int) : Nat := (hd l / hd o).toNat + 1
def go : List (List Int) → List Int → List (List Int)
  | [], l => if zr l then [[]] else []
  | o :: ls, l => (upto o (lap o l) 0 l).flatMap fun p => (go ls p.2).map ((p.1 : Int) :: ·)
def expand (o : List Int) (f : List (List Int × List Int)) : List (List Int × List Int) := f.flatMap fun q => (upto o (lap o q.2) 0 q.2).map fun p => (q.1 ++ [(p.1 : Int)], p.2)
def bfs : List (List Int) → List (List Int × List Int) → List (List Int × List Int)
  | [], f => f
  | o :: ls, f => bfs ls (expand o f)
def done (f : List (List Int × List Int)) : List (List Int) := (f.filter fun q => zr q.2).map (·.1)
theorem bfs_go : ∀ (ls : List (List Int)) (f : List (List Int × List Int)), done (bfs ls f) = f.flatMap fun q => (go ls q.2).map (q.1 ++ ·)
  | [], f => by
    show done f = _
    induction f with
    | nil => rfl
    | cons q f ih =>
      rw [List.flatMap_cons, ← ih]
      unfold done go
      by_cases h : zr q.2 = true
      · simp [List.filter_cons, h]
      · simp [List.filter_cons, h]
  | o :: ls, f => by
    show done (bfs ls (expand o f)) = _
    rw [bfs_go ls]
    unfold expand
    rw [List.flatMap_assoc]
    congr 1
    funext q
    show _ = ((upto o (lap o q.2) 0 q.2).flatMap fun p => (go ls p.2).map ((p.1 : Int) :: ·)).map (q.1 ++ ·)
    rw [List.flatMap_map, List.map_flatMap]
    congr 1
    funext p
    rw [List.map_map]
    congr 1
    funext c
    simp
def cnt : List Int → Nat → Nat
  | [], _ => 1
  | w :: ws, n => ((List.range (n / w.toNat + 1)).map fun t => cnt ws (n - t * w.toNat)).sum
theorem cnt_pos : ∀ (ws : List Int) (n : Nat), 1 ≤ cnt ws n
  | [], _ => Nat.le_refl _
  | w :: ws, n => by
    have h := cnt_pos ws (n - 0 * w.toNat)
    show 1 ≤ ((List.range (n / w.toNat + 1)).map fun t => cnt ws (n - t * w.toNat)).sum
    rw [List.range_succ_eq_map, List.map_cons, List.sum_cons]
    omega
theorem flat_len {α β : Type} (g : α → List β) (k : α → Nat) : ∀ xs : List α, (∀ x ∈ xs, (g x).length ≤ k x) → (xs.flatMap g).length ≤ (xs.map k).sum
  | [], _ => Nat.le_refl _
  | x :: xs, h => by
    rw [List.flatMap_cons, List.length_append, List.map_cons, List.sum_cons]
    exact Nat.add_le_add (h x (List.mem_cons_self ..)) (flat_len g k xs fun y hy => h y (List.mem_cons_of_mem _ hy))
theorem sum_range (h : Nat → Nat) : ∀ (n : Nat), ((List.range (n + 1)).map h).sum = h 0 + ((List.range n).map fun t => h (t + 1)).sum
  | n => by
    rw [List.range_succ_eq_map, List.map_cons, List.sum_cons, List.map_map]
    rfl
theorem hd_sub {l o : List Int} (hl : l ≠ []) (ho : o ≠ []) : hd (vsub l o) = hd l - hd o := by
  cases l with
  | nil => exact absurd rfl hl
  | cons a l => cases o with
    | nil => exact absurd rfl ho
    | cons b o => rfl
theorem sub_len {l o : List Int} (h : o.length = l.length) : (vsub l o).length = l.length := by
  unfold vsub; rw [List.length_zipWith]; omega
theorem nn_hd {l : List Int} (hl : l ≠ []) (h : nn l = true) : 0 ≤ hd l := by
  cases l with
  | nil => exact absurd rfl hl
  | cons a l =>
    unfold nn at h
    rw [List.all_cons, Bool.and_eq_true] at h
    exact of_decide_eq_true h.1
/-- the turns' weights: at most what the heads allow -/
theorem upto_sum {o : List Int} {d : Nat} (hd0 : hd o = (d : Int)) (hp : 0 < d) (ho : o ≠ []) (w : Nat → Nat) : ∀ (n t : Nat) (l : List Int), o.length = l.length → ((upto o n t l).map fun p => w (hd p.2).toNat).sum ≤ ((List.range n).map fun k => w ((hd l).toNat - k * d)).sum
  | 0, _, _, _ => Nat.le_refl _
  | n + 1, t, l, hl => by
    have hle : l ≠ [] := fun e => ho (List.length_eq_zero_iff.mp (by rw [hl, e]; rfl))
    rw [sum_range]
    unfold upto
    split
    · rename_i h
      rw [List.map_cons, List.sum_cons]
      refine Nat.add_le_add (by rw [Nat.zero_mul]; exact Nat.le_refl _) (Nat.le_trans (upto_sum hd0 hp ho w n (t + 1) (vsub l o) (by rw [sub_len hl]; exact hl)) (Nat.le_of_eq ?_))
      congr 2
      funext k
      congr 1
      rw [hd_sub hle ho, hd0, Nat.add_mul]
      omega
    · exact Nat.zero_le _
def okR (m : Nat) (o : List Int) : Bool := decide (o.length = m) && decide (0 < hd o) && nn o
theorem lap_nat {o l : List Int} {d : Nat} (hd0 : hd o = (d : Int)) (h : 0 ≤ hd l) : lap o l = (hd l).toNat / d + 1 := by
  unfold lap
  rw [hd0]
  have e : hd l = ((hd l).toNat : Int) := (Int.toNat_of_nonneg h).symm
  rw [e]
  rw [Int.toNat_natCast]
  show (((hd l).toNat / d : Nat) : Int).toNat + 1 = _
  rw [Int.toNat_natCast]
theorem okR_inv {m : Nat} {o : List Int} (h : okR m o = true) : o.length = m ∧ 0 < hd o ∧ nn o = true := by
  unfold okR at h
  rw [Bool.and_eq_true, Bool.and_eq_true] at h
  exact ⟨of_decide_eq_true h.1.1, of_decide_eq_true h.1.2, h.2⟩
/-- what may stand in the lists -/
def okL (m : Nat) (l : List Int) : Prop := l.length = m ∧ nn l = true
theorem upto_ok {o : List Int} {m : Nat} (ho : o.length = m) : ∀ (n t : Nat) (l : List Int), l.length = m → ∀ p ∈ upto o n t l, okL m p.2
  | 0, _, _, _, _, h => nomatch h
  | n + 1, t, l, hl, p, h => by
    unfold upto at h
    split at h
    · rename_i hn
      rcases List.mem_cons.mp h with rfl | h
      · exact ⟨hl, hn⟩
      · exact upto_ok ho n (t + 1) (vsub l o) (by rw [sub_len (by omega)]; exact hl) p h
    · exact nomatch h
theorem lap_sum {m : Nat} (hm : 0 < m) {o l : List Int} (ho : okR m o = true) (hl : okL m l) (ws : List Int) : ((upto o (lap o l) 0 l).map fun p => cnt ws (hd p.2).toNat).sum ≤ cnt (hd o :: ws) (hd l).toNat := by
  obtain ⟨h1, h2, h3⟩ := okR_inv ho
  have hle : l ≠ [] := fun e => by rw [e] at hl; exact absurd hl.1 (by show (0 : Nat) ≠ m; omega)
  have hoe : o ≠ [] := fun e => by rw [e] at h1; exact absurd h1 (by show (0 : Nat) ≠ m; omega)
  have e : hd o = ((hd o).toNat : Int) := (Int.toNat_of_nonneg (by omega)).symm
  have hp : 0 < (hd o).toNat := by omega
  rw [lap_nat e (nn_hd hle hl.2)]
  exact upto_sum e hp hoe (cnt ws) _ 0 l (h1.trans hl.1.symm)
theorem go_len {m : Nat} (hm : 0 < m) : ∀ (ls : List (List Int)) (l : List Int), (∀ o ∈ ls, okR m o = true) → okL m l → (go ls l).length ≤ cnt (ls.map hd) (hd l).toNat
  | [], l, _, _ => by
    unfold go cnt
    split <;> simp
  | o :: ls, l, ho, hl => by
    unfold go
    refine Nat.le_trans (flat_len _ (fun p => cnt (ls.map hd) (hd p.2).toNat) _ fun p hp => ?_) (lap_sum hm (ho o (List.mem_cons_self ..)) hl (ls.map hd))
    rw [List.length_map]
    exact go_len hm ls p.2 (fun q hq => ho q (List.mem_cons_of_mem _ hq)) (upto_ok (okR_inv (ho o (List.mem_cons_self ..))).1 _ _ _ hl.1 p hp)
abbrev Pr := List Int × List Int
def pot (ws : List Int) (f : List Pr) : Nat := (f.map fun q => cnt ws (hd q.2).toNat).sum
theorem len_pot (ws : List Int) : ∀ f : List Pr, f.length ≤ pot ws f
  | [] => Nat.le_refl _
  | q :: f => by
    have h1 := cnt_pos ws (hd q.2).toNat
    have h2 := len_pot ws f
    unfold pot at h2 ⊢
    rw [List.map_cons, List.sum_cons, List.length_cons]
    omega
theorem pot_app (ws : List Int) (f g : List Pr) : pot ws (f ++ g) = pot ws f + pot ws g := by
  unfold pot; rw [List.map_append, List.sum_append]
theorem pot_expand {m : Nat} (hm : 0 < m) {o : List Int} (ho : okR m o = true) (ws : List Int) : ∀ f : List Pr, (∀ q ∈ f, okL m q.2) → pot ws (expand o f) ≤ pot (hd o :: ws) f
  | [], _ => Nat.le_refl _
  | q :: f, h => by
    have h1 := lap_sum hm ho (h q (List.mem_cons_self ..)) ws
    have h2 := pot_expand hm ho ws f fun p hp => h p (List.mem_cons_of_mem _ hp)
    unfold expand
    rw [List.flatMap_cons, pot_app]
    show _ + pot ws (expand o f) ≤ pot (hd o :: ws) (q :: f)
    rw [show pot (hd o :: ws) (q :: f) = cnt (hd o :: ws) (hd q.2).toNat + pot (hd o :: ws) f from by unfold pot; rw [List.map_cons, List.sum_cons]]
    refine Nat.add_le_add (Nat.le_trans (Nat.le_of_eq ?_) h1) h2
    unfold pot
    rw [List.map_map]
    rfl
theorem expand_ok {m : Nat} {o : List Int} (ho : okR m o = true) (f : List Pr) (h : ∀ q ∈ f, okL m q.2) : ∀ q ∈ expand o f, okL m q.2 := by
  intro q hq
  unfold expand at hq
  obtain ⟨p, h1, h2⟩ := List.mem_flatMap.mp hq
  obtain ⟨r, h3, rfl⟩ := List.mem_map.mp h2
  exact upto_ok (okR_inv ho).1 _ _ _ (h p h1).1 r h3
end Fw.L
end TPMk
section TPMl
namespace Fw.L
open PySem PySem.Spec PyProof.Rows L2
def at0 (l : List Int) (a : Nat) : Int := l.getD a 0
def numAt (ls : List (List Int)) (cs : List Int) (a : Nat) : Int := ((cs.zip ls).map fun p => p.1 * at0 p.2 a).sum
def num (m : Nat) (ls : List (List Int)) (cs : List Int) : List Int := (List.range m).map (numAt ls cs)
theorem list_at {l : List Int} {m : Nat} (h : l.length = m) : (List.range m).map (at0 l) = l := by
  subst h
  apply List.ext_getElem
  · rw [List.length_map, List.length_range]
  · intro i h1 h2
    rw [List.getElem_map, List.getElem_range]
    unfold at0
    rw [List.getD_eq_getElem?_getD, List.getElem?_eq_getElem h2]
    rfl
theorem at_ext {l k : List Int} (h : l.length = k.length) (e : ∀ a, at0 l a = at0 k a) : l = k := by
  rw [← list_at (l := l) rfl, ← list_at (l := k) rfl, h]
  exact List.map_congr_left fun a _ => e a
theorem at_sub (l o : List Int) (h : o.length = l.length) (a : Nat) : at0 (vsub l o) a = at0 l a - at0 o a := by
  unfold at0 vsub
  rw [List.getD_eq_getElem?_getD, List.getD_eq_getElem?_getD, List.getD_eq_getElem?_getD, List.getElem?_zipWith]
  by_cases ha : a < l.length
  · rw [List.getElem?_eq_getElem ha, List.getElem?_eq_getElem (h ▸ ha)]
    rfl
  · rw [List.getElem?_eq_none (by omega), List.getElem?_eq_none (by omega)]
    rfl
theorem at_hd (l : List Int) : at0 l 0 = hd l := by
  cases l <;> rfl
theorem num_len (m : Nat) (ls : List (List Int)) (cs : List Int) : (num m ls cs).length = m := by
  unfold num; rw [List.length_map, List.length_range]
theorem num_at {m : Nat} (ls : List (List Int)) (cs : List Int) {a : Nat} (h : a < m) : at0 (num m ls cs) a = numAt ls cs a := by
  unfold at0 num
  rw [List.getD_eq_getElem?_getD, List.getElem?_map, List.getElem?_range h]
  rfl
theorem numAt_cons (o : List Int) (ls : List (List Int)) (c : Int) (cs : List Int) (a : Nat) : numAt (o :: ls) (c :: cs) a = c * at0 o a + numAt ls cs a := by
  unfold numAt; rw [List.zip_cons_cons, List.map_cons, List.sum_cons]
theorem upto_val {o : List Int} : ∀ (n t : Nat) (l : List Int), o.length = l.length → ∀ p ∈ upto o n t l, t ≤ p.1 ∧ p.2.length = l.length ∧ ∀ a, at0 l a = at0 p.2 a + ((p.1 - t : Nat) : Int) * at0 o a
  | 0, _, _, _, _, h => nomatch h
  | n + 1, t, l, hl, p, h => by
    unfold upto at h
    split at h
    · rcases List.mem_cons.mp h with rfl | h
      · exact ⟨Nat.le_refl _, rfl, fun a => by simp⟩
      · obtain ⟨h1, h2, h3⟩ := upto_val n (t + 1) (vsub l o) (by rw [sub_len hl]; exact hl) p h
        refine ⟨by omega, by rw [h2, sub_len hl], fun a => ?_⟩
        have e := h3 a
        rw [at_sub l o hl] at e
        have : ((p.1 - t : Nat) : Int) = ((p.1 - (t + 1) : Nat) : Int) + 1 := by omega
        rw [this, Int.add_mul, Int.one_mul]
        omega
    · exact nomatch h
theorem go_sound {m : Nat} : ∀ (ls : List (List Int)) (l cs : List Int), (∀ o ∈ ls, o.length = m) → l.length = m → cs ∈ go ls l → num m ls cs = l
  | [], l, cs, _, hl, h => by
    unfold go at h
    split at h
    · rename_i hz
      refine at_ext (by rw [num_len, hl]) fun a => ?_
      have e : at0 l a = 0 := by
        unfold at0
        rw [List.getD_eq_getElem?_getD]
        cases q : l[a]? with
        | none => rfl
        | some x =>
          unfold zr at hz
          exact of_decide_eq_true (List.all_eq_true.mp hz x (List.mem_of_getElem? q))
      rw [e]
      by_cases ha : a < m
      · rw [num_at _ _ ha]
        unfold numAt
        rw [List.zip_nil_right]
        rfl
      · unfold at0
        rw [List.getD_eq_getElem?_getD, List.getElem?_eq_none (by rw [num_len]; omega)]
        rfl
    · exact nomatch h
  | o :: ls, l, cs, ho, hl, h => by
    unfold go at h
    obtain ⟨p, h1, h2⟩ := List.mem_flatMap.mp h
    obtain ⟨c, h3, rfl⟩ := List.mem_map.mp h2
    have hol := ho o (List.mem_cons_self ..)
    obtain ⟨_, v1, v2⟩ := upto_val _ _ _ (by omega) p h1
    have ih := go_sound ls p.2 c (fun q hq => ho q (List.mem_cons_of_mem _ hq)) (by omega) h3
    refine at_ext (by rw [num_len, hl]) fun a => ?_
    by_cases ha : a < m
    · rw [num_at _ _ ha, numAt_cons, v2 a, ← num_at ls c ha, ih]
      rw [Nat.sub_zero]
      omega
    · unfold at0
      rw [List.getD_eq_getElem?_getD, List.getD_eq_getElem?_getD, List.getElem?_eq_none (by rw [num_len]; omega), List.getElem?_eq_none (by omega)]
theorem upto_mem {o : List Int} (ho : nn o = true) : ∀ (k n t : Nat) (l l' : List Int), o.length = l.length → l'.length = l.length → nn l' = true → k < n → (∀ a, at0 l a = at0 l' a + (k : Int) * at0 o a) → (t + k, l') ∈ upto o n t l
  | k, 0, _, _, _, _, _, _, h, _ => absurd h (Nat.not_lt_zero _)
  | 0, n + 1, t, l, l', hl, hl', hn, _, e => by
    have : l = l' := at_ext hl'.symm fun a => by rw [e a]; simp
    subst this
    unfold upto
    rw [if_pos hn]
    exact List.mem_cons_self ..
  | k + 1, n + 1, t, l, l', hl, hl', hn, hk, e => by
    have hnn : ∀ x : List Int, nn x = true → ∀ a, 0 ≤ at0 x a := fun x hx a => by
      unfold at0
      rw [List.getD_eq_getElem?_getD]
      cases q : x[a]? with
      | none => exact Int.le_refl _
      | some y => exact of_decide_eq_true (List.all_eq_true.mp hx y (List.mem_of_getElem? q))
    have hl0 : nn l = true := by
      unfold nn
      rw [List.all_eq_true]
      intro x hx
      obtain ⟨a, ha, rfl⟩ := List.mem_iff_getElem.mp hx
      have e1 : at0 l a = l[a] := by
        unfold at0
        rw [List.getD_eq_getElem?_getD, List.getElem?_eq_getElem ha]
        rfl
      rw [← e1, e a]
      have := Int.mul_nonneg (show (0 : Int) ≤ ((k + 1 : Nat) : Int) by omega) (hnn o ho a)
      have := hnn l' hn a
      exact decide_eq_true (by omega)
    unfold upto
    rw [if_pos hl0]
    refine List.mem_cons_of_mem _ ?_
    have := upto_mem ho k n (t + 1) (vsub l o) l' (by rw [sub_len hl]; exact hl) (by rw [sub_len hl]; exact hl') hn (by omega) fun a => by
      rw [at_sub l o hl, e a]
      have : ((k + 1 : Nat) : Int) = (k : Int) + 1 := by omega
      rw [this, Int.add_mul]
      omega
    rw [show t + (k + 1) = t + 1 + k by omega]
    exact this
theorem numAt_nn {ls : List (List Int)} (h : ∀ o ∈ ls, nn o = true) : ∀ (cs : List Int), nn cs = true → ∀ a, 0 ≤ numAt ls cs a := by
  induction ls with
  | nil => intro cs _ a; unfold numAt; rw [List.zip_nil_right]; exact Int.le_refl _
  | cons o ls ih =>
    intro cs hc a
    cases cs with
    | nil => exact Int.le_refl _
    | cons c cs =>
      rw [numAt_cons]
      unfold nn at hc
      rw [List.all_cons, Bool.and_eq_true] at hc
      have h1 := ih (fun q hq => h q (List.mem_cons_of_mem _ hq)) cs hc.2 a
      have h2 : 0 ≤ at0 o a := by
        unfold at0
        rw [List.getD_eq_getElem?_getD]
        cases q : o[a]? with
        | none => exact Int.le_refl _
        | some y => exact of_decide_eq_true (List.all_eq_true.mp (h o (List.mem_cons_self ..)) y (List.mem_of_getElem? q))
      have := Int.mul_nonneg (of_decide_eq_true hc.1) h2
      omega
theorem num_nn {m : Nat} {ls : List (List Int)} (h : ∀ o ∈ ls, nn o = true) {cs : List Int} (hc : nn cs = true) : nn (num m ls cs) = true := by
  unfold nn num
  rw [List.all_eq_true]
  intro x hx
  obtain ⟨a, _, rfl⟩ := List.mem_map.mp hx
  exact decide_eq_true (numAt_nn h cs hc a)
theorem go_full {m : Nat} (hm : 0 < m) : ∀ (ls : List (List Int)) (cs : List Int), (∀ o ∈ ls, okR m o = true) → cs.length = ls.length → nn cs = true → cs ∈ go ls (num m ls cs)
  | [], [], _, _, _ => by
    unfold go
    rw [if_pos]
    · exact List.mem_cons_self ..
    · unfold zr num
      rw [List.all_eq_true]
      intro x hx
      obtain ⟨a, _, rfl⟩ := List.mem_map.mp hx
      rfl
  | [], _ :: _, _, h, _ => by simp at h
  | _ :: _, [], _, h, _ => by simp at h
  | o :: ls, c :: cs, ho, hl, hc => by
    obtain ⟨o1, o2, o3⟩ := okR_inv (ho o (List.mem_cons_self ..))
    have hc2 := hc
    unfold nn at hc2
    rw [List.all_cons, Bool.and_eq_true] at hc2
    have c0 : 0 ≤ c := of_decide_eq_true hc2.1
    have hc' : nn cs = true := hc2.2
    have hlo : ∀ q ∈ ls, nn q = true := fun q hq => (okR_inv (ho q (List.mem_cons_of_mem _ hq))).2.2
    have ec : c = ((c.toNat : Nat) : Int) := (Int.toNat_of_nonneg c0).symm
    have ea : ∀ a, at0 (num m (o :: ls) (c :: cs)) a = at0 (num m ls cs) a + (c.toNat : Int) * at0 o a := fun a => by
      by_cases ha : a < m
      · rw [num_at _ _ ha, num_at _ _ ha, numAt_cons, ← ec]
        omega
      · unfold at0
        rw [List.getD_eq_getElem?_getD, List.getD_eq_getElem?_getD, List.getD_eq_getElem?_getD, List.getElem?_eq_none (by rw [num_len]; omega), List.getElem?_eq_none (by rw [num_len]; omega), List.getElem?_eq_none (by omega)]
        simp
    have hlap : c.toNat < lap o (num m (o :: ls) (c :: cs)) := by
      unfold lap
      have h0 := ea 0
      rw [at_hd, at_hd, at_hd] at h0
      have h1 : 0 ≤ hd (num m ls cs) := by rw [← at_hd, num_at _ _ hm]; exact numAt_nn hlo cs hc' 0
      have h2 : (c.toNat : Int) ≤ hd (num m (o :: ls) (c :: cs)) / hd o := by
        rw [Int.le_ediv_iff_mul_le o2]
        omega
      omega
    have hmem := upto_mem o3 c.toNat (lap o (num m (o :: ls) (c :: cs))) 0 (num m (o :: ls) (c :: cs)) (num m ls cs) (by rw [num_len]; exact o1) (by rw [num_len, num_len]) (num_nn hlo hc') hlap ea
    rw [Nat.zero_add] at hmem
    unfold go
    refine List.mem_flatMap.mpr ⟨_, hmem, List.mem_map.mpr ⟨cs, go_full hm ls cs (fun q hq => ho q (List.mem_cons_of_mem _ hq)) (by simpa using hl) hc', ?_⟩⟩
    rw [← ec]
end Fw.L
end TPMl
section TPMw
namespace Fw.L
open PySem PySem.Spec PyProof.Rows L2
section
variable {c c1 c2 : Cf} {m : M Rv} {b : M Oc} {z : Option (Oc × Cf)}
theorem whl_t {n : Nat} (h : m c = some (.d (.bool true), c1)) (h2 : b c1 = some (.nx, c2)) (h3 : whlM (do boolM (← m)) b n c2 = z) : whlM (do boolM (← m)) b (n + 1) c = z :=
  bind_r (c1 := c1) (z := true) (bind_r h rfl) (bind_r h2 h3)
theorem whl_f {n : Nat} (h : m c = some (.d (.bool false), c1)) : whlM (do boolM (← m)) b (n + 1) c = some (.nx, c1) :=
  bind_r (c1 := c1) (z := false) (bind_r h rfl) rfl
end
theorem line_huge : 16000000 ≤ line := by decide
theorem plainAll_all : ∀ xs : List D, (∀ x ∈ xs, x.plain = true) → PyData.plainAll xs = true
  | [], _ => rfl
  | x :: xs, h => by
    unfold PyData.plainAll
    rw [h x (List.mem_cons_self ..), plainAll_all xs fun y hy => h y (List.mem_cons_of_mem _ hy)]
    rfl
theorem depthAll_le {n : Nat} : ∀ xs : List D, (∀ x ∈ xs, x.depth ≤ n) → PyData.depthAll xs ≤ n
  | [], _ => Nat.zero_le _
  | x :: xs, h => by
    unfold PyData.depthAll
    exact Nat.max_le.mpr ⟨h x (List.mem_cons_self ..), depthAll_le xs fun y hy => h y (List.mem_cons_of_mem _ hy)⟩
theorem ints_plain (l : List Int) : PyData.plainAll (l.map PyData.int) = true := plainAll_all _ fun x hx => by
  obtain ⟨i, _, rfl⟩ := List.mem_map.mp hx; rfl
theorem ints_depth (l : List Int) : PyData.depthAll (l.map PyData.int) ≤ 0 := depthAll_le _ fun x hx => by
  obtain ⟨i, _, rfl⟩ := List.mem_map.mp hx; exact Nat.le_refl _
theorem ti_plain (l : List Int) : (ti l).plain = true := by
  unfold ti PyData.plain; exact ints_plain l
theorem ti_depth (l : List Int) : (ti l).depth ≤ 1 := by
  unfold ti PyData.depth; have := ints_depth l; omega
theorem li_plain (l : List Int) : (li l).plain = true := by
  unfold li PyData.plain; exact ints_plain l
theorem li_depth (l : List Int) : (li l).depth ≤ 1 := by
  unfold li PyData.depth; have := ints_depth l; omega
def gSub : D → Option D
  | .tuple [.int a, .int b] => some (.int (a - b))
  | _ => none
theorem gSub_all : ∀ l o : List Int, (zipD (l.map PyData.int) (o.map PyData.int)).filterMap gSub = (vsub l o).map PyData.int
  | [], _ => rfl
  | _ :: _, [] => rfl
  | a :: l, b :: o => by
    have ih := gSub_all l o
    show ((PyData.tuple [.int a, .int b]) :: zipD (l.map PyData.int) (o.map PyData.int)).filterMap gSub = _
    rw [List.filterMap_cons_some (show gSub (.tuple [.int a, .int b]) = some (.int (a - b)) from rfl), ih]
    rfl
theorem zip_mem {l o : List Int} {x : D} (h : x ∈ zipD (l.map PyData.int) (o.map PyData.int)) : ∃ a b, x = .tuple [.int a, .int b] := by
  unfold zipD at h
  obtain ⟨p, hp, rfl⟩ := List.mem_map.mp h
  obtain ⟨h1, h2⟩ := List.of_mem_zip hp
  obtain ⟨a, _, e1⟩ := List.mem_map.mp h1
  obtain ⟨b, _, e2⟩ := List.mem_map.mp h2
  exact ⟨a, b, by rw [← e1, ← e2]⟩
def gNn : D → Option D
  | .int i => some (.bool (decide (0 ≤ i)))
  | _ => none
theorem gNn_all : ∀ l : List Int, (l.map PyData.int).filterMap gNn = l.map fun i => PyData.bool (decide (0 ≤ i))
  | [] => rfl
  | a :: l => by
    rw [List.map_cons, List.filterMap_cons_some (show gNn (.int a) = some (.bool (decide (0 ≤ a))) from rfl), gNn_all l]
    rfl
theorem all_nn (l : List Int) : biD .all [.list (l.map fun i => PyData.bool (decide (0 ≤ i)))] = some (.d (.bool (nn l))) := by
  show (if PyData.plainAll (l.map fun i => PyData.bool (decide (0 ≤ i))) && (l.map fun i => PyData.bool (decide (0 ≤ i))).all fitsB then some (Rv.d (.bool ((l.map fun i => PyData.bool (decide (0 ≤ i))).all PyData.truthy))) else none) = _
  have h1 : PyData.plainAll (l.map fun i => PyData.bool (decide (0 ≤ i))) = true := plainAll_all _ fun x hx => by
    obtain ⟨i, _, rfl⟩ := List.mem_map.mp hx; rfl
  have h2 : (l.map fun i => PyData.bool (decide (0 ≤ i))).all fitsB = true := List.all_eq_true.mpr fun x hx => by
    obtain ⟨i, _, rfl⟩ := List.mem_map.mp hx; rfl
  rw [h1, h2, if_pos (by rfl), List.all_map]
  rfl
abbrev eK (a0 a1 a2 a3 a4 a5 a6 a7 a8 : Option Sl) : Env := [a0, a1, a2, a3, a4, a5, a6, a7, a8, none, none]
abbrev dS (d : D) : Option Sl := some (.d d)
section
variable {a0 a1 a2 a3 a4 a5 a6 a7 a8 : Option Sl} {ds : Option DS}
theorem w_sub (l o : List Int) (hl : l.length ≤ 1000) : lcM [9, 10] (.tp [(.nm 9), (.nm 10)]) (itZ (varV 7) (varV 3)) yesM (bin2 (varV 9) (varV 10) (binD .sub)) (eK a0 a1 a2 (dS (li o)) a4 a5 a6 (dS (ti l)) a8, ds) = some (.fl ((vsub l o).map PyData.int), (eK a0 a1 a2 (dS (li o)) a4 a5 a6 (dS (ti l)) a8, ds)) := by
  have h := lc_r (vs := [9, 10]) (t := .tp [(.nm 9), (.nm 10)]) (mi := itZ (varV 7) (varV 3)) (mc := yesM) (me := bin2 (varV 9) (varV 10) (binD .sub)) (c := (eK a0 a1 a2 (dS (li o)) a4 a5 a6 (dS (ti l)) a8, ds)) (e := eK a0 a1 a2 (dS (li o)) a4 a5 a6 (dS (ti l)) a8) (s := ds)
    (xs := zipD (l.map PyData.int) (o.map PyData.int)) gSub (itZ_r (dM_r (s := dS (ti l) |>.get rfl) rfl rfl) (dM_r (s := dS (li o) |>.get rfl) rfl rfl) rfl rfl) (fun x hx => by
      obtain ⟨a, b, rfl⟩ := zip_mem hx
      exact ⟨_, [a0, a1, a2, dS (li o), a4, a5, a6, dS (ti l), a8, dS (.int a), dS (.int b)], rfl, .inl ⟨_, rfl, _, dM_r (s := .d .none) (bin2_r rfl rfl rfl rfl rfl) rfl, rfl⟩, rfl⟩)
    (by rw [gSub_all, List.length_map]; unfold vsub; rw [List.length_zipWith]; have := line_big; omega)
  rw [gSub_all] at h
  exact h
theorem w_cond (l : List Int) (hl : l.length ≤ 1000) : biM (biD .all) (consP (lcM [9] (.nm 9) (itQ (varV 7)) yesM (cmp2 (varV 9) (pure (.d (.int 0))) .ge)) (pure [])) (eK a0 a1 a2 a3 a4 a5 a6 (dS (ti l)) a8, ds) = some (.d (.bool (nn l)), (eK a0 a1 a2 a3 a4 a5 a6 (dS (ti l)) a8, ds)) := by
  have h := lc_r (vs := [9]) (t := .nm 9) (mi := itQ (varV 7)) (mc := yesM) (me := cmp2 (varV 9) (pure (.d (.int 0))) .ge) (c := (eK a0 a1 a2 a3 a4 a5 a6 (dS (ti l)) a8, ds)) (e := eK a0 a1 a2 a3 a4 a5 a6 (dS (ti l)) a8) (s := ds)
    (xs := l.map PyData.int) gNn (itQ_r rfl rfl rfl) (fun x hx => by
      obtain ⟨a, _, rfl⟩ := List.mem_map.mp hx
      exact ⟨_, [a0, a1, a2, a3, a4, a5, a6, dS (ti l), a8, dS (.int a), none], rfl, .inl ⟨_, rfl, _, dM_r (s := .d .none) (cmp2_r rfl rfl rfl rfl rfl) rfl, rfl⟩, rfl⟩)
    (by rw [gNn_all, List.length_map]; have := line_big; omega)
  rw [gNn_all] at h
  exact bi1_r h rfl (all_nn l)
def bW : M Oc := (seqM (exM (meL fAppend (varV 4) (consL (tupM (consL (bin2 (varV 6) (tupM (consL (varV 8) (pure []))) (binD .add)) (consL (varV 7) (pure [])))) (pure []))))
  (par2M 8 7 (bin2 (varV 8) (pure (.d (.int 1))) (binD .add)) (biM (biD .tuple) (consP (lcM [9, 10] (.tp [(.nm 9), (.nm 10)]) (itZ (varV 7) (varV 3)) yesM (bin2 (varV 9) (varV 10) (binD .sub))) (pure [])))))
def prD (q : Pr) : D := .tuple [ti q.1, ti q.2]
theorem w_body (L : List D) (k l o : List Int) (t : Nat) (hl : l.length ≤ 1000) (hk : k.length ≤ 1000) (hL : L.length < line) : bW (eK a0 a1 a2 (dS (li o)) (some (.ol L)) a5 (dS (ti k)) (dS (ti l)) (nS t), ds) =
    some (.nx, (eK a0 a1 a2 (dS (li o)) (some (.ol (L ++ [prD (k ++ [(t : Int)], l)]))) a5 (dS (ti k)) (dS (ti (vsub l o))) (nS (t + 1)), ds)) := by
  have lb := line_big
  have h1 : binD .add (ti k) (.tuple [nD t]) = some (.d (ti (k ++ [(t : Int)]))) := by
    show (if (k.map PyData.int).length + 1 ≤ line then some (Rv.d (.tuple (k.map PyData.int ++ [nD t]))) else none) = _
    rw [if_pos (by rw [List.length_map]; have := line_huge; omega)]
    unfold ti
    rw [List.map_append]
    rfl
  have h2 : fAppend [prD (k ++ [(t : Int)], l)] L = some (L ++ [prD (k ++ [(t : Int)], l)], .none) := by
    show (if L.length < line then some (L ++ [prD (k ++ [(t : Int)], l)], PyData.none) else none) = _
    rw [if_pos hL]
  refine seq_r (ex_r (meL_r (consL_r (tup_r (consL_r (bin2_r rfl (tup_r (consL_r rfl rfl rfl) (by show 1 ≤ line; omega)) rfl rfl h1) rfl (consL_r rfl rfl rfl)) (by show 2 ≤ line; omega)) rfl rfl) rfl rfl h2)) ?_
  exact par2_r (kept_r (bin2_r rfl rfl rfl rfl rfl) rfl) (kept_r (bi1_r (w_sub l o hl) rfl rfl) rfl) rfl rfl rfl rfl
theorem w_loop {mm : Nat} (hm : 0 < mm) (hm2 : mm ≤ 1000) {o : List Int} (ho : okR mm o = true) (k : List Int) (hk : k.length ≤ 1000) : ∀ (n fuel t : Nat) (l : List Int) (L : List D), n < fuel → l.length = mm → hd l < (n : Int) * hd o → L.length + (upto o n t l).length ≤ line →
    ∃ l' t', whlM (do boolM (← (biM (biD .all) (consP (lcM [9] (.nm 9) (itQ (varV 7)) yesM (cmp2 (varV 9) (pure (.d (.int 0))) .ge)) (pure []))))) bW fuel (eK a0 a1 a2 (dS (li o)) (some (.ol L)) a5 (dS (ti k)) (dS (ti l)) (nS t), ds) =
      some (.nx, (eK a0 a1 a2 (dS (li o)) (some (.ol (L ++ (upto o n t l).map fun p => prD (k ++ [(p.1 : Int)], p.2)))) a5 (dS (ti k)) (dS (ti l')) (nS t'), ds))
  | _, 0, _, _, _, h, _, _, _ => absurd h (Nat.not_lt_zero _)
  | n, fuel + 1, t, l, L, hf, hl, hh, hL => by
    obtain ⟨o1, o2, o3⟩ := okR_inv ho
    have hle : l ≠ [] := fun e => by rw [e] at hl; exact absurd hl (by show (0 : Nat) ≠ mm; omega)
    have hoe : o ≠ [] := fun e => by rw [e] at o1; exact absurd o1 (by show (0 : Nat) ≠ mm; omega)
    cases hn : nn l with
    | false =>
      have e : upto o n t l = [] := by
        cases n with
        | zero => rfl
        | succ n => unfold upto; rw [hn]; rfl
      refine ⟨l, t, ?_⟩
      rw [e, List.map_nil, List.append_nil]
      exact whl_f (by rw [w_cond l (by omega), hn])
    | true =>
      cases n with
      | zero =>
        have := nn_hd hle hn
        simp at hh
        omega
      | succ n =>
        have e : upto o (n + 1) t l = (t, l) :: upto o n (t + 1) (vsub l o) := by
          conv => lhs; unfold upto
          rw [if_pos hn]
        rw [e] at hL ⊢
        rw [List.length_cons] at hL
        obtain ⟨l', t', h⟩ := w_loop hm hm2 ho k hk n fuel (t + 1) (vsub l o) (L ++ [prD (k ++ [(t : Int)], l)]) (by omega) (by rw [sub_len (by omega)]; exact hl) (by
          rw [hd_sub hle hoe]
          have : ((n + 1 : Nat) : Int) = (n : Int) + 1 := by omega
          rw [this, Int.add_mul] at hh
          omega) (by rw [List.length_append, List.length_singleton]; omega)
        refine ⟨l', t', whl_t (by rw [w_cond l (by omega), hn]) (w_body L k l o t (by omega) hk (by omega)) ?_⟩
        rw [h, List.map_cons, List.append_assoc]
        rfl
end
def okQ (mm j : Nat) (q : Pr) : Prop := okL mm q.2 ∧ q.1.length = j ∧ hd q.2 ≤ 1000
theorem lap_gt {o l : List Int} (h : 0 < hd o) : hd l < ((lap o l : Nat) : Int) * hd o := by
  unfold lap
  have h1 := Int.lt_ediv_add_one_mul_self (hd l) h
  have h2 : hd l / hd o + 1 ≤ (((hd l / hd o).toNat + 1 : Nat) : Int) := by omega
  exact Int.lt_of_lt_of_le h1 (Int.mul_le_mul_of_nonneg_right h2 (by omega))
theorem lap_le {o l : List Int} (h : 0 < hd o) (h2 : hd l ≤ 1000) (h3 : 0 ≤ hd l) : lap o l ≤ 1001 := by
  unfold lap
  have : hd l / hd o ≤ hd l := Int.ediv_le_self _ h3
  omega
theorem upto_hd {mm : Nat} {o l : List Int} (ho : okR mm o = true) (hl : l.length = mm) {n t : Nat} {p : Nat × List Int} (hp : p ∈ upto o n t l) : hd p.2 ≤ hd l := by
  obtain ⟨o1, o2, o3⟩ := okR_inv ho
  have := (upto_val n t l (by omega) p hp).2.2 0
  rw [at_hd, at_hd, at_hd] at this
  have := Int.mul_nonneg (show (0 : Int) ≤ ((p.1 - t : Nat) : Int) by omega) (show 0 ≤ hd o by omega)
  omega
theorem expand_okQ {mm j : Nat} {o : List Int} (ho : okR mm o = true) {f : List Pr} (h : ∀ q ∈ f, okQ mm j q) : ∀ q ∈ expand o f, okQ mm (j + 1) q := by
  intro q hq
  have h1 := expand_ok ho f (fun q hq => (h q hq).1) q hq
  unfold expand at hq
  obtain ⟨p, h2, h3⟩ := List.mem_flatMap.mp hq
  obtain ⟨r, h4, rfl⟩ := List.mem_map.mp h3
  obtain ⟨k1, k2, k3⟩ := h p h2
  exact ⟨h1, by show (p.1 ++ [_]).length = j + 1; rw [List.length_append, List.length_singleton, k2], Int.le_trans (upto_hd ho k1.1 h4) k3⟩
abbrev oS (o : Option D) : Option Sl := o.map Sl.d
def bF : D → M Oc := fun x => do
  asgM (.tp [(.nm 6), (.nm 7)]) x
  seqM (setM 8 (pure (.d (.int 0)))) (whileM (biM (biD .all) (consP (lcM [9] (.nm 9) (itQ (varV 7)) yesM (cmp2 (varV 9) (pure (.d (.int 0))) .ge)) (pure []))) bW)
section
variable {a0 a1 a2 a3 a4 a5 a6 a7 a8 : Option Sl} {ds : Option DS}
theorem f_turn {mm j : Nat} (hm : 0 < mm) (hm2 : mm ≤ 1000) (hj : j ≤ 1000) {o : List Int} (ho : okR mm o = true) {q : Pr} (hq : okQ mm j q) (L : List D) (hL : L.length + (expand o [q]).length ≤ line) :
    ∃ d6 d7 d8, bF (prD q) (eK a0 a1 a2 (dS (li o)) (some (.ol L)) a5 a6 a7 a8, ds) = some (.nx, (eK a0 a1 a2 (dS (li o)) (some (.ol (L ++ (expand o [q]).map prD))) a5 (dS d6) (dS d7) (dS d8), ds)) := by
  obtain ⟨⟨h1, h2⟩, h3, h4⟩ := hq
  obtain ⟨o1, o2, o3⟩ := okR_inv ho
  have hle : q.2 ≠ [] := fun e => by rw [e] at h1; exact absurd h1 (by show (0 : Nat) ≠ mm; omega)
  have e1 : expand o [q] = (upto o (lap o q.2) 0 q.2).map fun p => (q.1 ++ [(p.1 : Int)], p.2) := by
    unfold expand; rw [List.flatMap_cons, List.flatMap_nil, List.append_nil]
  rw [e1] at hL ⊢
  rw [List.length_map] at hL
  rw [List.map_map]
  obtain ⟨l', t', hw⟩ := w_loop (a0 := a0) (a1 := a1) (a2 := a2) (a5 := a5) (ds := ds) hm hm2 ho q.1 (by omega) (lap o q.2) wFuel 0 q.2 L (by have := lap_le o2 h4 (nn_hd hle h2); show _ < 100000; omega) h1 (lap_gt o2) hL
  exact ⟨_, _, _, bind_r (asg_r rfl) (seq_r (set_r rfl rfl) hw)⟩
theorem f_loop {mm j : Nat} (hm : 0 < mm) (hm2 : mm ≤ 1000) (hj : j ≤ 1000) {o : List Int} (ho : okR mm o = true) : ∀ (f : List Pr) (L : List D) (o6 o7 o8 : Option D), (∀ q ∈ f, okQ mm j q) → L.length + (expand o f).length ≤ line →
    ∃ p6 p7 p8, forM bF (f.map prD) (eK a0 a1 a2 (dS (li o)) (some (.ol L)) a5 (oS o6) (oS o7) (oS o8), ds) = some (.nx, (eK a0 a1 a2 (dS (li o)) (some (.ol (L ++ (expand o f).map prD))) a5 (oS p6) (oS p7) (oS p8), ds))
  | [], L, o6, o7, o8, _, _ => ⟨o6, o7, o8, by rw [show (expand o ([] : List Pr)).map prD = [] from rfl, List.append_nil]; rfl⟩
  | q :: f, L, o6, o7, o8, hq, hL => by
    have e : expand o (q :: f) = expand o [q] ++ expand o f := by
      unfold expand; rw [List.flatMap_cons, List.flatMap_cons, List.flatMap_nil, List.append_nil]
    rw [e] at hL ⊢
    rw [List.length_append] at hL
    obtain ⟨d6, d7, d8, h1⟩ := f_turn (a0 := a0) (a1 := a1) (a2 := a2) (a5 := a5) (a6 := oS o6) (a7 := oS o7) (a8 := oS o8) (ds := ds) hm hm2 hj ho (hq q (List.mem_cons_self ..)) L (by omega)
    obtain ⟨p6, p7, p8, h2⟩ := f_loop hm hm2 hj ho f (L ++ (expand o [q]).map prD) (some d6) (some d7) (some d8) (fun r hr => hq r (List.mem_cons_of_mem _ hr)) (by rw [List.length_append, List.length_map]; omega)
    refine ⟨p6, p7, p8, forM_cons h1 ?_⟩
    rw [List.map_append, ← List.append_assoc]
    exact h2
def Hold (s : Sl) (xs : List D) : Prop := s = .ol xs ∨ s = .d (.list xs)
def bE : D → M Oc := fun x => do
  asgM (.nm 3) x
  seqM (setM 4 (lstM (pure [])))
    (seqM (forS (.tp [(.nm 6), (.nm 7)]) (itQ (varV 2)) (seqM (setM 8 (pure (.d (.int 0)))) (whileM (biM (biD .all) (consP (lcM [9] (.nm 9) (itQ (varV 7)) yesM (cmp2 (varV 9) (pure (.d (.int 0))) .ge)) (pure []))) bW)))
      (setM 2 (varV 4)))
theorem e_turn {mm j : Nat} (hm : 0 < mm) (hm2 : mm ≤ 1000) (hj : j ≤ 1000) {o : List Int} (ho : okR mm o = true) {f : List Pr} {s2 : Sl} (hs : Hold s2 (f.map prD)) (o6 o7 o8 : Option D) (hq : ∀ q ∈ f, okQ mm j q) (hL : (expand o f).length ≤ line) :
    ∃ s p4 p6 p7 p8, Hold s ((expand o f).map prD) ∧ bE (li o) (eK a0 a1 (some s2) a3 a4 a5 (oS o6) (oS o7) (oS o8), ds) = some (.nx, (eK a0 a1 (some s) (dS (li o)) p4 a5 (oS p6) (oS p7) (oS p8), ds)) := by
  obtain ⟨p6, p7, p8, h⟩ := f_loop (a0 := a0) (a1 := a1) (a2 := dS (.list (f.map prD))) (a5 := a5) (ds := ds) hm hm2 hj ho f [] o6 o7 o8 hq (by rw [List.length_nil]; omega)
  refine ⟨.d (.list ((expand o f).map prD)), dS (.list ((expand o f).map prD)), p6, p7, p8, .inr rfl, ?_⟩
  rcases hs with rfl | rfl
  · exact bind_r (asg_r rfl) (seq_r (set_r (lst_r rfl (Nat.zero_le _)) rfl) (seq_r (for_r (itQ_r rfl rfl rfl) h) (set_r rfl rfl)))
  · exact bind_r (asg_r rfl) (seq_r (set_r (lst_r rfl (Nat.zero_le _)) rfl) (seq_r (for_r (itQ_r rfl rfl rfl) h) (set_r rfl rfl)))
theorem e_loop {mm : Nat} (hm : 0 < mm) (hm2 : mm ≤ 1000) : ∀ (ls : List (List Int)) (j : Nat) (f : List Pr) (s2 : Sl) (a3 a4 : Option Sl) (o6 o7 o8 : Option D), (∀ o ∈ ls, okR mm o = true) → j + ls.length ≤ 1000 → Hold s2 (f.map prD) → (∀ q ∈ f, okQ mm j q) → pot (ls.map hd) f ≤ 100000 →
    ∃ s p3 p4 p6 p7 p8, Hold s ((bfs ls f).map prD) ∧ (∀ q ∈ bfs ls f, okQ mm (j + ls.length) q) ∧ (bfs ls f).length ≤ 100000 ∧ forM bE (ls.map li) (eK a0 a1 (some s2) a3 a4 a5 (oS o6) (oS o7) (oS o8), ds) = some (.nx, (eK a0 a1 (some s) p3 p4 a5 (oS p6) (oS p7) (oS p8), ds))
  | [], j, f, s2, a3, a4, o6, o7, o8, _, _, hs, hq, hp => ⟨s2, a3, a4, o6, o7, o8, hs, hq, Nat.le_trans (len_pot _ f) hp, rfl⟩
  | o :: ls, j, f, s2, a3, a4, o6, o7, o8, ho, hj, hs, hq, hp => by
    rw [List.length_cons] at hj
    have hoo := ho o (List.mem_cons_self ..)
    have p1 := pot_expand hm hoo (ls.map hd) f fun q h => (hq q h).1
    have p2 := len_pot (ls.map hd) (expand o f)
    have p3 : pot ((o :: ls).map hd) f ≤ 100000 := hp
    rw [List.map_cons] at p3
    have lb := line_huge
    obtain ⟨s, p4, p6, p7, p8, h1, h2⟩ := e_turn (a0 := a0) (a1 := a1) (a3 := a3) (a4 := a4) (a5 := a5) (ds := ds) hm hm2 (j := j) (by omega) hoo hs o6 o7 o8 hq (by omega)
    obtain ⟨s', q3, q4, q6, q7, q8, h3, h4, h5, h6⟩ := e_loop hm hm2 ls (j + 1) (expand o f) s (dS (li o)) p4 p6 p7 p8 (fun r hr => ho r (List.mem_cons_of_mem _ hr)) (by omega) h1 (expand_okQ hoo hq) (Nat.le_trans p1 p3)
    refine ⟨s', q3, q4, q6, q7, q8, h3, ?_, h5, forM_cons h2 h6⟩
    intro q h
    rw [List.length_cons, show j + (ls.length + 1) = j + 1 + ls.length by omega]
    exact h4 q h
end
end Fw.L
end TPMw
section TPMx
namespace Fw.L
open PySem PySem.Spec PyProof.Rows L2
theorem alike_ints : ∀ a b : List Int, PySem.W.alikeAll (a.map PyData.int) (b.map PyData.int) = true
  | [], _ => by unfold PySem.W.alikeAll; rfl
  | _ :: _, [] => by rw [List.map_cons, List.map_nil]; unfold PySem.W.alikeAll; rfl
  | x :: a, y :: b => by
    rw [List.map_cons, List.map_cons]
    unfold PySem.W.alikeAll
    rw [alike_ints a b]
    rfl
theorem alike_ti (a b : List Int) : PySem.W.alike (ti a) (ti b) = true := by
  unfold ti PySem.W.alike
  exact alike_ints a b
def srt (cs : List (List Int)) : List D := PySem.W.msortQ (cs.map ti) (PySem.W.dataLe false id)
theorem tis_plain (cs : List (List Int)) : PyData.plainAll (cs.map ti) = true := plainAll_all _ fun x hx => by
  obtain ⟨c, _, rfl⟩ := List.mem_map.mp hx; exact ti_plain c
theorem sort_ok {cs : List (List Int)} {j : Nat} (hj : 0 < j) (h : ∀ c ∈ cs, c.length = j) (hl : cs.length ≤ 100000) : biD .sorted [.list (cs.map ti)] = some (.fl (srt cs)) := by
  have lb := line_huge
  have h1 : alikeB (cs.map ti) = true := by
    unfold alikeB
    refine List.all_eq_true.mpr fun x hx => List.all_eq_true.mpr fun y hy => ?_
    obtain ⟨a, _, rfl⟩ := List.mem_map.mp hx
    obtain ⟨b, _, rfl⟩ := List.mem_map.mp hy
    exact alike_ti a b
  have h2 : ((cs.map ti).all fun d => decide (d.depth ≤ 50)) = true := List.all_eq_true.mpr fun x hx => by
    obtain ⟨a, _, rfl⟩ := List.mem_map.mp hx
    have := ti_depth a
    exact decide_eq_true (by omega)
  have h3 : ((cs.map ti).all fun d => match d with
      | .tuple (_ :: _) => true
      | _ => false) = true := List.all_eq_true.mpr fun x hx => by
    obtain ⟨a, ha, rfl⟩ := List.mem_map.mp hx
    cases a with
    | nil => have := h [] ha; rw [List.length_nil] at this; omega
    | cons b a => rfl
  have hs : sortB (cs.map ti) = true := by
    unfold sortB
    simp only [Bool.and_eq_true, Bool.or_eq_true]
    exact ⟨⟨⟨⟨h1, h2⟩, .inl (.inl h3)⟩, tis_plain cs⟩, decide_eq_true (by rw [List.length_map]; omega)⟩
  show (match sortD false (cs.map ti) with
      | some ys => some (Rv.fl ys)
      | none => none) = _
  unfold sortD
  rw [if_pos hs]
  rfl
theorem srt_mem {cs : List (List Int)} {x : D} : x ∈ srt cs ↔ ∃ c ∈ cs, x = ti c := by
  unfold srt
  rw [← PySem.W.msortQ_eq, List.mem_mergeSort, List.mem_map]
  exact ⟨fun ⟨c, h, e⟩ => ⟨c, h, e.symm⟩, fun ⟨c, h, e⟩ => ⟨c, h, e.symm⟩⟩
theorem srt_len (cs : List (List Int)) : (srt cs).length = cs.length := by
  unfold srt
  rw [← PySem.W.msortQ_eq, List.length_mergeSort, List.length_map]
def gFin : D → Option D
  | .tuple [c, .tuple ls] => if ls.any PyData.truthy then none else some c
  | _ => none
theorem any_zr (l : List Int) : (l.map PyData.int).any PyData.truthy = !zr l := by
  unfold zr
  induction l with
  | nil => rfl
  | cons a l ih =>
    rw [List.map_cons, List.any_cons, List.all_cons, ih]
    by_cases h : a = 0
    · subst h
      show (false || _) = _
      simp
    · have : PyData.truthy (.int a) = true := by
        show (a != 0) = true
        simpa using h
      rw [this, decide_eq_false h]
      rfl
theorem gFin_pr (q : Pr) : gFin (prD q) = if zr q.2 then some (ti q.1) else none := by
  show (if (q.2.map PyData.int).any PyData.truthy then none else some (ti q.1)) = _
  rw [any_zr]
  cases zr q.2 <;> rfl
theorem gFin_all : ∀ f : List Pr, (f.map prD).filterMap gFin = (done f).map ti
  | [] => rfl
  | q :: f => by
    have ih := gFin_all f
    unfold done at ih ⊢
    rw [List.map_cons]
    cases h : zr q.2 with
    | true => rw [List.filterMap_cons_some (by rw [gFin_pr, h]; rfl), ih]; simp [List.filter_cons, h]
    | false => rw [List.filterMap_cons_none (by rw [gFin_pr, h]; rfl), ih]; simp [List.filter_cons, h]
theorem any_ti (l : List Int) : biD .any [ti l] = some (.d (.bool (!zr l))) := by
  show (if PyData.plainAll (l.map PyData.int) && (l.map PyData.int).all fitsB then some (Rv.d (.bool ((l.map PyData.int).any PyData.truthy))) else none) = _
  have h2 : (l.map PyData.int).all fitsB = true := List.all_eq_true.mpr fun x hx => by
    obtain ⟨i, _, rfl⟩ := List.mem_map.mp hx; rfl
  rw [ints_plain, h2, if_pos (by rfl), any_zr]
section
variable {a0 a1 a2 a3 a4 a5 a6 a7 a8 : Option Sl} {ds : Option DS}
theorem w_fin {f : List Pr} {s2 : Sl} (hs : Hold s2 (f.map prD)) (o6 o7 : Option D) (hl : f.length ≤ 100000) : ∃ s, lcM [6, 7] (.tp [(.nm 6), (.nm 7)]) (itQ (varV 2)) (notB (biM (biD .any) (consP (varV 7) (pure [])))) (varV 6) (eK a0 a1 (some s2) a3 a4 a5 (oS o6) (oS o7) a8, ds) =
    some (.fl ((done f).map ti), (eK a0 a1 (some s) a3 a4 a5 (oS o6) (oS o7) a8, ds)) := by
  refine ⟨.d (.list (f.map prD)), ?_⟩
  have hi : itQ (varV 2) (eK a0 a1 (some s2) a3 a4 a5 (oS o6) (oS o7) a8, ds) = some (f.map prD, (eK a0 a1 (dS (.list (f.map prD))) a3 a4 a5 (oS o6) (oS o7) a8, ds)) := by
    rcases hs with rfl | rfl
    · exact itQ_r rfl rfl rfl
    · exact itQ_r rfl rfl rfl
  have h := lc_r (vs := [6, 7]) (t := .tp [(.nm 6), (.nm 7)]) (mi := itQ (varV 2)) (mc := notB (biM (biD .any) (consP (varV 7) (pure [])))) (me := varV 6) (c := (eK a0 a1 (some s2) a3 a4 a5 (oS o6) (oS o7) a8, ds)) (e := eK a0 a1 (dS (.list (f.map prD))) a3 a4 a5 (oS o6) (oS o7) a8) (s := ds)
    (xs := f.map prD) gFin hi (fun x hx => by
      obtain ⟨q, _, rfl⟩ := List.mem_map.mp hx
      refine ⟨eK a0 a1 (dS (.list (f.map prD))) a3 a4 a5 (dS (ti q.1)) (dS (ti q.2)) a8, eK a0 a1 (dS (.list (f.map prD))) a3 a4 a5 (dS (ti q.1)) (dS (ti q.2)) a8, rfl, ?_, rfl⟩
      cases h : zr q.2 with
      | true =>
        refine .inl ⟨_, not_r (k := false) (bi1_r rfl rfl (by rw [any_ti, h]; rfl)), ti q.1, dM_r (s := .d .none) rfl rfl, by rw [gFin_pr, h]; rfl⟩
      | false =>
        refine .inr ⟨not_r (k := true) (bi1_r rfl rfl (by rw [any_ti, h]; rfl)), by rw [gFin_pr, h]; rfl⟩)
    (by
      refine Nat.le_trans (List.length_filterMap_le ..) ?_
      rw [List.length_map]
      have := line_huge
      omega) rfl (by cases o6 <;> cases o7 <;> rfl)
  rw [gFin_all] at h
  exact h
end
structure SizeOk (s : Nat) (gm : List (D × List Int)) : Prop where
  gs : ∀ ds, f_groups_of [.d (nD s)] ds = some (.fl (gm.map (·.1)), ds)
  mks : ∀ p ∈ gm, ∀ ds, f_marks_of [.d p.1, .d (nD s)] ds = some (.fl (p.2.map PyData.int), ds)
  ns : ∀ ds, f_need_size [.d (nD s)] ds = some (.d .none, ds)
  ln : gm.length ≤ 100
def gMk (s : Nat) (f : List D → D) (x : D) : Option D := match f_marks_of [.d x, .d (nD s)] none with
  | some (.fl r, _) => some (f r)
  | _ => none
theorem gMk_all {s : Nat} {gm : List (D × List Int)} (f : List D → D) (h : ∀ p ∈ gm, ∀ ds, f_marks_of [.d p.1, .d (nD s)] ds = some (.fl (p.2.map PyData.int), ds)) : (gm.map (·.1)).filterMap (gMk s f) = gm.map fun p => f (p.2.map PyData.int) := by
  induction gm with
  | nil => rfl
  | cons p gm ih =>
    rw [List.map_cons, List.filterMap_cons_some (show gMk s f p.1 = some (f (p.2.map PyData.int)) from by unfold gMk; rw [h p (List.mem_cons_self ..)]), ih fun q hq => h q (List.mem_cons_of_mem _ hq)]
    rfl
theorem w_rows {s : Nat} {gm : List (D × List Int)} (S : SizeOk s gm) {a1 a2 a3 a4 : Option Sl} {ds : Option DS} : lcM [5] (.nm 5) (itQ (callM f_groups_of [] (consA (varV 0) (pure [])))) yesM (callM f_marks_of [] (consA (varV 5) (consA (varV 0) (pure [])))) (eK (dS (nD s)) a1 a2 a3 a4 none none none none, ds) =
    some (.fl ((gm.map (·.2)).map li), (eK (dS (nD s)) a1 a2 a3 a4 none none none none, ds)) := by
  have h := lc_r (vs := [5]) (t := .nm 5) (mi := itQ (callM f_groups_of [] (consA (varV 0) (pure [])))) (mc := yesM) (me := callM f_marks_of [] (consA (varV 5) (consA (varV 0) (pure [])))) (c := (eK (dS (nD s)) a1 a2 a3 a4 none none none none, ds)) (e := eK (dS (nD s)) a1 a2 a3 a4 none none none none) (s := ds)
    (xs := gm.map (·.1)) (gMk s PyData.list) (itQ_r (call_r (consA_r rfl rfl rfl) (S.gs ds)) rfl rfl) (fun x hx => by
      obtain ⟨p, hp, rfl⟩ := List.mem_map.mp hx
      refine ⟨_, eK (dS (nD s)) a1 a2 a3 a4 (dS p.1) none none none, rfl, .inl ⟨_, rfl, .list (p.2.map PyData.int), dM_r (s := .d .none) (call_r (consA_r rfl rfl (consA_r rfl rfl rfl)) (S.mks p hp ds)) rfl, ?_⟩, rfl⟩
      unfold gMk
      rw [S.mks p hp])
    (by rw [gMk_all _ S.mks, List.length_map]; have := S.ln; have := line_huge; omega)
  rw [gMk_all _ S.mks] at h
  rw [List.map_map]
  exact h
theorem f_makes_of_ok {s mm : Nat} {gm : List (D × List Int)} (S : SizeOk s gm) (hm : 0 < mm) (hm2 : mm ≤ 1000) (ho : ∀ o ∈ gm.map (·.2), okR mm o = true) (hg : 0 < gm.length) {l : List Int} (hl : okL mm l) (hh : hd l ≤ 1000) (hc : cnt ((gm.map (·.2)).map hd) (hd l).toNat ≤ 100000) (ds : Option DS) :
    f_makes_of [.d (nD s), .d (ti l)] ds = some (.fl (srt (go (gm.map (·.2)) l)), ds) := by
  have lb := line_huge
  have hq : ∀ q ∈ ([([], l)] : List Pr), okQ mm 0 q := fun q h => by
    rw [List.mem_singleton] at h
    subst h
    exact ⟨hl, rfl, hh⟩
  have hp : pot ((gm.map (·.2)).map hd) [([], l)] ≤ 100000 := by
    unfold pot
    rw [List.map_cons, List.map_nil, List.sum_cons, List.sum_nil, Nat.add_zero]
    exact hc
  have hln := S.ln
  obtain ⟨s2, p3, p4, p6, p7, p8, h1, h2, h3, h4⟩ := e_loop (a0 := dS (nD s)) (a1 := dS (ti l)) (a5 := none) (ds := ds) hm hm2 (gm.map (·.2)) 0 [([], l)] (.ol [prD ([], l)]) none none none none none ho (by rw [List.length_map]; omega) (.inl rfl) hq hp
  obtain ⟨s3, h5⟩ := w_fin (a0 := dS (nD s)) (a1 := dS (ti l)) (a3 := p3) (a4 := p4) (a5 := none) (a8 := oS p8) (ds := ds) h1 p6 p7 h3
  have e1 : done (bfs (gm.map (·.2)) [([], l)]) = go (gm.map (·.2)) l := by
    rw [bfs_go, List.flatMap_cons, List.flatMap_nil, List.append_nil]
    have : (fun x : List Int => [] ++ x) = id := funext fun x => List.nil_append x
    rw [this, List.map_id]
  have hlen : ∀ c ∈ done (bfs (gm.map (·.2)) [([], l)]), c.length = gm.length := fun c hc => by
    unfold done at hc
    obtain ⟨q, hq1, rfl⟩ := List.mem_map.mp hc
    have := (h2 q ((List.mem_filter.mp hq1).1)).2.1
    rw [List.length_map] at this
    omega
  have hn : (done (bfs (gm.map (·.2)) [([], l)])).length ≤ 100000 := by
    unfold done
    rw [List.length_map]
    exact Nat.le_trans (List.length_filter_le ..) h3
  rw [← e1]
  refine run_rt (e := eK (dS (nD s)) (dS (ti l)) (some s3) p3 p4 none (oS p6) (oS p7) (oS p8)) rfl ?_
  refine seq_r (set_r (lst_r (consL_r (tup_r (consL_r (tup_r rfl (Nat.zero_le _)) rfl (consL_r (bi1_r rfl rfl rfl) rfl rfl)) (by show 2 ≤ line; omega)) rfl rfl) (by show 1 ≤ line; omega)) rfl) ?_
  refine seq_r (for_r (itQ_r (w_rows S) rfl rfl) h4) ?_
  exact ret_r (bi1_r h5 rfl (sort_ok hg hlen hn)) rfl
def gTrue : D → Option D
  | _ => some (.bool true)
theorem gTrue_all (xs : List D) : xs.filterMap gTrue = xs.map fun _ => PyData.bool true := by
  induction xs with
  | nil => rfl
  | cons x xs ih => rw [List.filterMap_cons_some (show gTrue x = some (.bool true) from rfl), ih]; rfl
theorem all_true (xs : List D) : biD .all [.list (xs.map fun _ => PyData.bool true)] = some (.d (.bool true)) := by
  show (if PyData.plainAll (xs.map fun _ => PyData.bool true) && (xs.map fun _ => PyData.bool true).all fitsB then some (Rv.d (.bool ((xs.map fun _ => PyData.bool true).all PyData.truthy))) else none) = _
  have h1 : PyData.plainAll (xs.map fun _ => PyData.bool true) = true := plainAll_all _ fun x hx => by
    obtain ⟨i, _, rfl⟩ := List.mem_map.mp hx; rfl
  have h2 : (xs.map fun _ => PyData.bool true).all fitsB = true := List.all_eq_true.mpr fun x hx => by
    obtain ⟨i, _, rfl⟩ := List.mem_map.mp hx; rfl
  have h3 : (xs.map fun _ => PyData.bool true).all PyData.truthy = true := List.all_eq_true.mpr fun x hx => by
    obtain ⟨i, _, rfl⟩ := List.mem_map.mp hx; rfl
  rw [h1, h2, h3, if_pos (by rfl)]
theorem f_whole (i : Int) (ds : Option DS) : f_is_whole [.d (.int i)] ds = some (.d (.bool true), ds) := rfl
theorem f_makes_ok {s mm : Nat} {gm : List (D × List Int)} (S : SizeOk s gm) (hm : 0 < mm) (hm2 : mm ≤ 1000) (ho : ∀ o ∈ gm.map (·.2), okR mm o = true) (hg : 0 < gm.length) (hz : ∃ zs : List D, zs.length = mm ∧ ∀ ds, f_sized [.d (nD s)] ds = some (.fl zs, ds))
    {l : List Int} (hl : okL mm l) (hle : ∀ x ∈ l, x ≤ 24) (hc : ∀ n, n ≤ 24 → cnt ((gm.map (·.2)).map hd) n ≤ 100000) (ds : Option DS) :
    f_makes [.d (nD s), .d (ti l)] ds = some (.d (.tuple (srt (go (gm.map (·.2)) l))), ds) := by
  obtain ⟨zs, hz1, hz2⟩ := hz
  have lb := line_huge
  obtain ⟨l1, l2⟩ := hl
  have hne : l ≠ [] := fun e => by rw [e] at l1; exact absurd l1 (by show (0 : Nat) ≠ mm; omega)
  have hhd : hd l ≤ 24 := by
    cases l with
    | nil => exact absurd rfl hne
    | cons a l => exact hle a (List.mem_cons_self ..)
  have h0 := nn_hd hne l2
  have hnn : ∀ x ∈ l, 0 ≤ x := fun x hx => of_decide_eq_true (List.all_eq_true.mp l2 x hx)
  have hmk := f_makes_of_ok S hm hm2 ho hg ⟨l1, l2⟩ (by omega) (hc _ (by omega)) ds
  have q1 : lcM [2] (.nm 2) (itQ (varV 1)) yesM (callM f_is_whole [] (consA (varV 2) (pure []))) ([dS (nD s), dS (ti l), none], ds) = some (.fl ((l.map PyData.int).map fun _ => PyData.bool true), ([dS (nD s), dS (ti l), none], ds)) := by
    have h := lc_r (vs := [2]) (t := .nm 2) (mi := itQ (varV 1)) (mc := yesM) (me := callM f_is_whole [] (consA (varV 2) (pure []))) (c := ([dS (nD s), dS (ti l), none], ds)) (e := [dS (nD s), dS (ti l), none]) (s := ds) (xs := l.map PyData.int) gTrue (itQ_r rfl rfl rfl) (fun x hx => by
        obtain ⟨a, _, rfl⟩ := List.mem_map.mp hx
        exact ⟨_, [dS (nD s), dS (ti l), dS (.int a)], rfl, .inl ⟨_, rfl, .bool true, dM_r (s := .d .none) (call_r (consA_r rfl rfl rfl) (f_whole a ds)) rfl, rfl⟩, rfl⟩)
      (by rw [gTrue_all, List.length_map, List.length_map]; omega)
    rw [gTrue_all] at h
    exact h
  have q2 : lcM [2] (.nm 2) (itQ (varV 1)) yesM (chn3 (pure (.d (.int 0))) (varV 2) (pure (.d c_MOST_MAKES)) .le .le) ([dS (nD s), dS (ti l), none], ds) = some (.fl ((l.map PyData.int).map fun _ => PyData.bool true), ([dS (nD s), dS (ti l), none], ds)) := by
    have h := lc_r (vs := [2]) (t := .nm 2) (mi := itQ (varV 1)) (mc := yesM) (me := chn3 (pure (.d (.int 0))) (varV 2) (pure (.d c_MOST_MAKES)) .le .le) (c := ([dS (nD s), dS (ti l), none], ds)) (e := [dS (nD s), dS (ti l), none]) (s := ds) (xs := l.map PyData.int) gTrue (itQ_r rfl rfl rfl) (fun x hx => by
        obtain ⟨a, ha, rfl⟩ := List.mem_map.mp hx
        exact ⟨_, [dS (nD s), dS (ti l), dS (.int a)], rfl, .inl ⟨_, rfl, .bool true, dM_r (s := .d .none) (chn3_r rfl rfl rfl rfl (show some (decide ((0 : Int) ≤ a)) = some true by rw [decide_eq_true (hnn a ha)]) rfl rfl rfl (show some (decide (a ≤ 24)) = some true by rw [decide_eq_true (hle a ha)])) rfl, rfl⟩, rfl⟩)
      (by rw [gTrue_all, List.length_map, List.length_map]; omega)
    rw [gTrue_all] at h
    exact h
  have q3 : cmpD .ne (.int ((l.map PyData.int).length : Int)) (.int (zs.length : Int)) = some false := by
    rw [List.length_map, hz1, l1]
    show (if small (.int (mm : Int)) && small (.int (mm : Int)) then some (!PyData.eqv (.int (mm : Int)) (.int (mm : Int))) else none) = _
    rw [if_pos (show (small (.int (mm : Int)) && small (.int (mm : Int))) = true from rfl)]
    show some (!((mm : Int) == (mm : Int))) = _
    rw [beq_self_eq_true]
    rfl
  refine run_rt (e := [dS (nD s), dS (ti l), none]) rfl ?_
  refine seq_r (ex_r (call_r (consA_r rfl rfl rfl) (S.ns ds))) ?_
  refine seq_r (if_f (or_f (not_r (k := true) (isi_r rfl rfl rfl)) (cmp2_r (bi1_r rfl rfl rfl) (bi1_r (call_r (consA_r rfl rfl rfl) (hz2 ds)) rfl rfl) rfl rfl q3)) rfl) ?_
  refine seq_r (if_f (not_r (k := true) (bi1_r q1 rfl (all_true _))) rfl) ?_
  refine seq_r (if_f (not_r (k := true) (bi1_r q2 rfl (all_true _))) rfl) ?_
  exact ret_r (bi1_r (call_r (consA_r rfl rfl (consA_r rfl rfl rfl)) hmk) rfl rfl) rfl
theorem f_marks_ok {s : Nat} {gm : List (D × List Int)} (S : SizeOk s gm) (ds : Option DS) : f_marks [.d (nD s)] ds = some (.d (.tuple ((gm.map (·.2)).map ti)), ds) := by
  have h := lc_r (vs := [1]) (t := .nm 1) (mi := itQ (callM f_groups_of [] (consA (varV 0) (pure [])))) (mc := yesM) (me := biM (biD .tuple) (consP (callM f_marks_of [] (consA (varV 1) (consA (varV 0) (pure [])))) (pure []))) (c := ([dS (nD s), none], ds)) (e := [dS (nD s), none]) (s := ds)
    (xs := gm.map (·.1)) (gMk s PyData.tuple) (itQ_r (call_r (consA_r rfl rfl rfl) (S.gs ds)) rfl rfl) (fun x hx => by
      obtain ⟨p, hp, rfl⟩ := List.mem_map.mp hx
      refine ⟨_, [dS (nD s), dS p.1], rfl, .inl ⟨_, rfl, .tuple (p.2.map PyData.int), dM_r (s := .d .none) (bi1_r (call_r (consA_r rfl rfl (consA_r rfl rfl rfl)) (S.mks p hp ds)) rfl rfl) rfl, ?_⟩, rfl⟩
      unfold gMk
      rw [S.mks p hp])
    (by rw [gMk_all _ S.mks, List.length_map]; have := S.ln; have := line_huge; omega)
  rw [gMk_all _ S.mks] at h
  refine run_rt (e := [dS (nD s), none]) rfl (seq_r (ex_r (call_r (consA_r rfl rfl rfl) (S.ns ds))) (ret_r (r := .d (.tuple ((gm.map (·.2)).map ti))) (bi1_r h rfl ?_) rfl))
  rw [List.map_map]
  rfl
end Fw.L
end TPMx
section TQY
namespace Fw.L
open PySem PySem.Spec PyProof.Rows L2
def lis (ls : List (List Int)) : D := .list (ls.map ti)
theorem small_ti (l : List Int) : small (ti l) = true := by
  unfold small
  rw [ti_plain]
  have := ti_depth l
  exact decide_eq_true (by omega)
theorem small_li (l : List Int) : small (li l) = true := by
  unfold small
  rw [li_plain]
  have := li_depth l
  exact decide_eq_true (by omega)
theorem tis_depth (ls : List (List Int)) : PyData.depthAll (ls.map ti) ≤ 1 := depthAll_le _ fun x hx => by
  obtain ⟨c, _, rfl⟩ := List.mem_map.mp hx; exact ti_depth c
theorem small_lis (ls : List (List Int)) : small (lis ls) = true := by
  unfold small lis PyData.plain PyData.depth
  rw [tis_plain]
  have := tis_depth ls
  exact decide_eq_true (by omega)
theorem eq_nil (xs : List D) (h : small (.list xs) = true) : cmpD .eq (.list xs) (.list []) = some xs.isEmpty := by
  show (if small (.list xs) && small (.list []) then some (PyData.eqv (.list xs) (.list [])) else none) = _
  rw [h, if_pos (show (true && small (.list [])) = true from rfl)]
  cases xs with
  | nil => rfl
  | cons x xs => show some (PyData.eqvAll (x :: xs) []) = _; unfold PyData.eqvAll; rfl
def gIf (k : Int → Bool) : D → Option D
  | .int i => if k i then some (.int i) else none
  | _ => none
theorem gIf_all (k : Int → Bool) : ∀ l : List Int, (l.map PyData.int).filterMap (gIf k) = (l.filter k).map PyData.int
  | [] => rfl
  | a :: l => by
    have ih := gIf_all k l
    rw [List.map_cons]
    cases h : k a with
    | true => rw [List.filterMap_cons_some (show gIf k (.int a) = some (.int a) from by show (if k a = true then some (PyData.int a) else none) = _; rw [h]; rfl), ih, List.filter_cons_of_pos h]; rfl
    | false => rw [List.filterMap_cons_none (show gIf k (.int a) = none from by show (if k a = true then some (PyData.int a) else none) = _; rw [h]; rfl), ih, List.filter_cons_of_neg (by rw [h]; exact Bool.false_ne_true)]
theorem filter_emp (k : Int → Bool) (l : List Int) : ((l.filter k).map PyData.int).isEmpty = l.all fun i => !k i := by
  induction l with
  | nil => rfl
  | cons a l ih =>
    cases h : k a with
    | true => rw [List.filter_cons_of_pos h, List.all_cons, h]; rfl
    | false => rw [List.filter_cons_of_neg (by rw [h]; exact Bool.false_ne_true), List.all_cons, h, ih]; rfl
theorem eq_filter (k : Int → Bool) (l : List Int) : cmpD .eq (.list ((l.filter k).map PyData.int)) (.list []) = some (l.all fun i => !k i) := by
  rw [eq_nil _ (small_li (l.filter k)), filter_emp]
theorem go_each : ∀ (ls : List (List Int)) (l c : List Int), c ∈ go ls l → c.length = ls.length
  | [], l, c, h => by
    unfold go at h
    split at h
    · rw [List.mem_singleton.mp h]; rfl
    · exact nomatch h
  | o :: ls, l, c, h => by
    unfold go at h
    obtain ⟨p, _, h2⟩ := List.mem_flatMap.mp h
    obtain ⟨d, h3, rfl⟩ := List.mem_map.mp h2
    rw [List.length_cons, List.length_cons, go_each ls p.2 d h3]
def rngF (t n : Nat) : List D := (List.range n).map fun k => nD (t + k)
theorem rng_eq (n : Nat) : rangeD 0 (n : Int) = rngF 0 n := by
  unfold rangeD rngF
  rw [show ((n : Int) - 0).toNat = n by omega]
  refine List.map_congr_left fun k _ => ?_
  show PyData.int (0 + (k : Int)) = PyData.int ((0 + k : Nat) : Int)
  rw [Int.zero_add, Nat.zero_add]
theorem rngF_succ (t n : Nat) : rngF t (n + 1) = nD t :: rngF (t + 1) n := by
  unfold rngF
  rw [List.range_succ_eq_map, List.map_cons, List.map_map]
  congr 1
  refine List.map_congr_left fun k _ => ?_
  show nD (t + (k + 1)) = nD (t + 1 + k)
  rw [show t + (k + 1) = t + 1 + k by omega]
theorem ix0 (o : List Int) (ls : List (List Int)) : ixR (lis (o :: ls)) (.int 0) = some (.d (ti o)) := by
  show (match L2.atI (ti o :: ls.map ti) 0 with | some d => some (Rv.d d) | none => none) = _
  have : L2.atI (ti o :: ls.map ti) 0 = some (ti o) := by
    show (L2.ixN (ls.map ti).length.succ 0).bind (fun j => (ti o :: ls.map ti)[j]?) = _
    unfold L2.ixN
    rw [if_pos (by omega), if_pos (by omega)]
    rfl
  rw [this]
theorem atI_at (l : List Int) {a : Nat} (h : a < l.length) : L2.atI (l.map PyData.int) (a : Int) = some (.int (at0 l a)) := by
  show (L2.ixN (l.map PyData.int).length (a : Int)).bind (fun j => (l.map PyData.int)[j]?) = _
  unfold L2.ixN
  rw [if_pos (by omega), if_pos (by rw [List.length_map]; omega)]
  show (l.map PyData.int)[(a : Int).toNat]? = _
  rw [Int.toNat_natCast, List.getElem?_map, List.getElem?_eq_getElem h]
  unfold at0
  rw [List.getD_eq_getElem?_getD, List.getElem?_eq_getElem h]
  rfl
abbrev eN (a0 a1 a2 : Option Sl) : Env := [a0, a1, a2, none, none]
def gMul (a : Nat) : D → Option D
  | .tuple [.int c, .tuple l] => match L2.atI l (a : Int) with
    | some (.int x) => some (.int (c * x))
    | _ => none
  | _ => none
theorem gMul_all {m a : Nat} (ha : a < m) : ∀ (cs : List Int) (ls : List (List Int)), (∀ o ∈ ls, o.length = m) → (zipD (cs.map PyData.int) (ls.map ti)).filterMap (gMul a) = ((cs.zip ls).map fun p => p.1 * at0 p.2 a).map PyData.int
  | [], _, _ => rfl
  | _ :: _, [], _ => rfl
  | c :: cs, o :: ls, h => by
    have ih := gMul_all ha cs ls fun q hq => h q (List.mem_cons_of_mem _ hq)
    show ((PyData.tuple [.int c, ti o]) :: zipD (cs.map PyData.int) (ls.map ti)).filterMap (gMul a) = _
    have e : gMul a (.tuple [.int c, ti o]) = some (.int (c * at0 o a)) := by
      show (match L2.atI (o.map PyData.int) (a : Int) with | some (.int x) => some (PyData.int (c * x)) | _ => none) = _
      rw [atI_at o (by rw [h o (List.mem_cons_self ..)]; exact ha)]
    rw [List.filterMap_cons_some e, ih, List.zip_cons_cons, List.map_cons, List.map_cons]
theorem intsD_ints : ∀ l : List Int, intsD (l.map PyData.int) = some l
  | [] => rfl
  | a :: l => by
    show (match intsD (l.map PyData.int) with | some is => some (a :: is) | none => none) = _
    rw [intsD_ints l]
def gRow (m : Nat) (ls : List (List Int)) (cs : List Int) : D → Option D
  | .int a => some (.int (numAt ls cs a.toNat))
  | _ => none
def SmallI (l : List Int) : Prop := ∀ x ∈ l, 0 ≤ x ∧ x ≤ 1000
theorem at0_small {l : List Int} (h : SmallI l) (a : Nat) : 0 ≤ at0 l a ∧ at0 l a ≤ 1000 := by
  unfold at0
  rw [List.getD_eq_getElem?_getD]
  cases q : l[a]? with
  | none => exact ⟨Int.le_refl _, by decide⟩
  | some y => exact h y (List.mem_of_getElem? q)
theorem f_sums_ok {m : Nat} (hm2 : m ≤ 1000) {ls : List (List Int)} {cs : List Int} {cd : D} (hcd : cd = li cs ∨ cd = ti cs) (hls : 0 < ls.length) (hl2 : ls.length ≤ 1000) (ho : ∀ o ∈ ls, o.length = m) (hs : ∀ o ∈ ls, SmallI o) (hc : SmallI cs) (ds : Option DS) :
    f_law_sums [.d (lis ls), .d cd] ds = some (.fl ((num m ls cs).map PyData.int), ds) := by
  obtain ⟨o, ls', rfl⟩ : ∃ o ls', ls = o :: ls' := by
    cases ls with
    | nil => simp at hls
    | cons o ls' => exact ⟨o, ls', rfl⟩
  have lb := line_huge
  have om := ho o (List.mem_cons_self ..)
  have hr : itR (biM (biD .len) (consP (bin2 (varV 0) (pure (.d (.int 0))) ixR) (pure []))) (eN (dS (lis (o :: ls'))) (dS cd) none, ds) = some (rngF 0 m, (eN (dS (lis (o :: ls'))) (dS cd) none, ds)) := by
    rw [← rng_eq]
    refine itR_r (bi1_r (bin2_r rfl rfl rfl rfl (ix0 o ls')) rfl (show biD .len [ti o] = some (.d (.int (m : Int))) by
      show some (Rv.d (.int ((o.map PyData.int).length : Int))) = _
      rw [List.length_map, om])) ?_
    unfold bigI
    rw [decide_eq_true (by omega), decide_eq_true (by omega)]
    rfl
  have hin : ∀ a, a < m → lcM [3, 4] (.tp [(.nm 3), (.nm 4)]) (itZ (varV 1) (varV 0)) yesM (bin2 (varV 3) (bin2 (varV 4) (varV 2) ixR) (binD .mul)) (eN (dS (lis (o :: ls'))) (dS cd) (nS a), ds) =
      some (.fl (((cs.zip (o :: ls')).map fun p => p.1 * at0 p.2 a).map PyData.int), (eN (dS (lis (o :: ls'))) (dS cd) (nS a), ds)) := fun a ha => by
    have hz : itZ (varV 1) (varV 0) (eN (dS (lis (o :: ls'))) (dS cd) (nS a), ds) = some (zipD (cs.map PyData.int) ((o :: ls').map ti), (eN (dS (lis (o :: ls'))) (dS cd) (nS a), ds)) :=
      itZ_r (u := cd) (v := lis (o :: ls')) (dM_r (s := .d .none) rfl rfl) (dM_r (s := .d .none) rfl rfl) (by rcases hcd with rfl | rfl <;> rfl) rfl
    have h := lc_r (vs := [3, 4]) (t := .tp [(.nm 3), (.nm 4)]) (mi := itZ (varV 1) (varV 0)) (mc := yesM) (me := bin2 (varV 3) (bin2 (varV 4) (varV 2) ixR) (binD .mul)) (c := (eN (dS (lis (o :: ls'))) (dS cd) (nS a), ds)) (e := eN (dS (lis (o :: ls'))) (dS cd) (nS a)) (s := ds)
      (xs := zipD (cs.map PyData.int) ((o :: ls').map ti)) (gMul a) hz (fun x hx => by
        unfold zipD at hx
        obtain ⟨p, hp, rfl⟩ := List.mem_map.mp hx
        obtain ⟨p1, p2⟩ := p
        obtain ⟨h1, h2⟩ := List.of_mem_zip hp
        obtain ⟨c, hc1, e1⟩ := List.mem_map.mp h1
        obtain ⟨q, hq1, e2⟩ := List.mem_map.mp h2
        subst e1 e2
        have hql := ho q hq1
        have c1 := hc c hc1
        have c2 := at0_small (hs q hq1) a
        have e3 := atI_at q (show a < q.length by omega)
        have e4 : ixR (ti q) (nD a) = some (.d (.int (at0 q a))) := by
          show (match L2.atI (q.map PyData.int) (a : Int) with | some d => some (Rv.d d) | none => none) = _
          rw [e3]
        have e5 : binD .mul (.int c) (.int (at0 q a)) = some (.d (.int (c * at0 q a))) := by
          show (if c.natAbs.log2 + (at0 q a).natAbs.log2 < 1000000 then some (Rv.d (.int (c * at0 q a))) else none) = _
          have l1 : c.natAbs.log2 < 10 := log_lt (k := 10) (by omega) (by decide)
          have l2 : (at0 q a).natAbs.log2 < 10 := log_lt (k := 10) (by omega) (by decide)
          rw [if_pos (by omega)]
        refine ⟨_, [dS (lis (o :: ls')), dS cd, nS a, dS (.int c), dS (ti q)], rfl, .inl ⟨_, rfl, .int (c * at0 q a), dM_r (s := .d .none) (bin2_r rfl (bin2_r rfl rfl rfl rfl e4) rfl rfl e5) rfl, ?_⟩, rfl⟩
        show (match L2.atI (q.map PyData.int) (a : Int) with | some (.int x) => some (PyData.int (c * x)) | _ => none) = _
        rw [e3])
      (by
        refine Nat.le_trans (List.length_filterMap_le ..) ?_
        unfold zipD
        rw [List.length_map, List.length_zip, List.length_map, List.length_map]
        omega)
    rw [gMul_all ha cs (o :: ls') ho] at h
    exact h
  have h := lc_r (vs := [2]) (t := .nm 2) (mi := itR (biM (biD .len) (consP (bin2 (varV 0) (pure (.d (.int 0))) ixR) (pure [])))) (mc := yesM)
    (me := biM (biD .sum) (consP (lcM [3, 4] (.tp [(.nm 3), (.nm 4)]) (itZ (varV 1) (varV 0)) yesM (bin2 (varV 3) (bin2 (varV 4) (varV 2) ixR) (binD .mul))) (pure []))) (c := (eN (dS (lis (o :: ls'))) (dS cd) none, ds)) (e := eN (dS (lis (o :: ls'))) (dS cd) none) (s := ds)
    (xs := rngF 0 m) (gRow m (o :: ls') cs) hr (fun x hx => by
      unfold rngF at hx
      obtain ⟨a, ha, rfl⟩ := List.mem_map.mp hx
      rw [List.mem_range] at ha
      rw [Nat.zero_add]
      refine ⟨_, [dS (lis (o :: ls')), dS cd, nS a, none, none], rfl, .inl ⟨_, rfl, .int (numAt (o :: ls') cs a), dM_r (s := .d .none) (bi1_r (hin a ha) rfl (show biD .sum [.list (((cs.zip (o :: ls')).map fun p => p.1 * at0 p.2 a).map PyData.int)] = some (.d (.int (numAt (o :: ls') cs a))) by
        show (match intsD (((cs.zip (o :: ls')).map fun p => p.1 * at0 p.2 a).map PyData.int) with | some is => some (Rv.d (.int is.sum)) | none => none) = _
        rw [intsD_ints]
        rfl)) rfl, ?_⟩, rfl⟩
      show some (PyData.int (numAt (o :: ls') cs (a : Int).toNat)) = _
      rw [Int.toNat_natCast])
    (by
      refine Nat.le_trans (List.length_filterMap_le ..) ?_
      unfold rngF
      rw [List.length_map, List.length_range]
      omega)
  have hrow : (rngF 0 m).filterMap (gRow m (o :: ls') cs) = (num m (o :: ls') cs).map PyData.int := by
    unfold rngF num
    rw [List.filterMap_map, List.map_map]
    have : ∀ k : List Nat, k.filterMap (gRow m (o :: ls') cs ∘ fun k => nD (0 + k)) = k.map (PyData.int ∘ numAt (o :: ls') cs) := fun k => by
      induction k with
      | nil => rfl
      | cons a k ih =>
        rw [List.filterMap_cons_some (show (gRow m (o :: ls') cs ∘ fun k => nD (0 + k)) a = some (.int (numAt (o :: ls') cs a)) by
          show some (PyData.int (numAt (o :: ls') cs ((0 + a : Nat) : Int).toNat)) = _
          rw [Int.toNat_natCast, Nat.zero_add]), ih]
        rfl
    exact this _
  rw [hrow] at h
  exact run_rt rfl (ret_r h rfl)
theorem plain_int (n : Nat) (i : Int) (ds : Option DS) : f_law_plain (n + 1) [.d (.int i)] ds = some (.d (.bool true), ds) := rfl
def gNone : D → Option D
  | _ => none
theorem gNone_all (xs : List D) : xs.filterMap gNone = [] := by
  induction xs with
  | nil => rfl
  | cons x xs ih => rw [List.filterMap_cons_none rfl, ih]
theorem plain_tup (n : Nat) (xs : List D) (ds : Option DS) (h : ∀ x ∈ xs, f_law_plain n [.d x] ds = some (.d (.bool true), ds)) : f_law_plain (n + 1) [.d (.tuple xs)] ds = some (.d (.bool true), ds) := by
  have h1 := lc_r (vs := [1]) (t := .nm 1) (mi := itQ (varV 0)) (mc := notB (callM (f_law_plain n) [] (consA (varV 1) (pure [])))) (me := pure (.d (.int 1))) (c := ([dS (.tuple xs), none], ds)) (e := [dS (.tuple xs), none]) (s := ds) (xs := xs) gNone (itQ_r rfl rfl rfl) (fun x hx =>
      ⟨[dS (.tuple xs), dS x], [dS (.tuple xs), dS x], rfl, .inr ⟨not_r (k := true) (call_r (c1 := ([dS (.tuple xs), dS x], ds)) (consA_r rfl rfl rfl) (h x hx)), rfl⟩, rfl⟩)
    (by rw [gNone_all]; exact Nat.zero_le _)
  rw [gNone_all] at h1
  exact run_rt (e := [dS (.tuple xs), none]) rfl (seq_rt (if_t (isi_r rfl rfl rfl) (ret_r (cmp2_r h1 (lst_r rfl (Nat.zero_le _)) rfl rfl (show cmpD .eq (.list []) (.list []) = some true from rfl)) rfl)))
theorem law_is_self (X : D) (ds : Option DS) (h1 : f_law_plain 12 [.d X] ds = some (.d (.bool true), ds)) (h2 : small X = true) (h3 : X.showable = true) (h4 : X.shown.length ≤ line) : f_law_is [.d X, .d X] ds = some (.d (.bool true), ds) := by
  have hp : X.plain = true := by
    unfold small at h2
    rw [Bool.and_eq_true] at h2
    exact h2.1
  have hd : X.depth ≤ 60 := by
    unfold small at h2
    rw [Bool.and_eq_true] at h2
    exact of_decide_eq_true h2.2
  have e1 : cmpD .eq X X = some true := by
    show (if small X && small X then some (PyData.eqv X X) else none) = _
    rw [h2, if_pos (by rfl), PySem.SeqAt.eqv_refl_plain X hp]
  have e2 : biD .repr [X] = some (.d (.str X.shown)) := by
    show (if X.showable && X.plain && decide (X.depth ≤ 60) && decide (X.shown.length ≤ line) then some (Rv.d (.str X.shown)) else none) = _
    rw [h3, hp, decide_eq_true hd, decide_eq_true h4, if_pos (by rfl)]
  have e3 : cmpD .eq (.str X.shown) (.str X.shown) = some true := by
    show (if small (.str X.shown) && small (.str X.shown) then some (PyData.eqv (.str X.shown) (.str X.shown)) else none) = _
    rw [if_pos (show (small (.str X.shown) && small (.str X.shown)) = true from rfl), PySem.SeqAt.eqv_refl_plain (.str X.shown) rfl]
  exact run_rt (e := [dS X, dS X]) rfl (ret_r (and_t (call_r (consA_r rfl rfl rfl) h1) (and_t (cmp2_r rfl rfl rfl rfl e1) (and_t (cmp2_r rfl rfl rfl rfl e1) (cmp2_r (bi1_r rfl rfl e2) (bi1_r rfl rfl e2) rfl rfl e3)))) rfl)
theorem tupleText_le (ts : List PySem.Str) : (tupleText ts).length ≤ piled ts + 3 := by
  unfold tupleText
  rw [strLen_append, strLen_append]
  have e1 : ((("(" : String) : PySem.Str)).length = 1 := rfl
  have e3 : (((if ts.length == 1 then ",)" else ")" : String) : PySem.Str)).length ≤ 2 := by split <;> decide
  rw [e1]
  by_cases h : ts = []
  · subst h
    have : (Str.join ", " ([] : List PySem.Str)).length = 0 := rfl
    rw [this]
    omega
  · have := join_length_add ts h
    omega
theorem shownAll_map : ∀ xs : List D, PyData.shownAll xs = xs.map PyData.shown
  | [] => rfl
  | x :: xs => by unfold PyData.shownAll; rw [shownAll_map xs]; rfl
theorem piled_le {k : Nat} : ∀ ts : List PySem.Str, (∀ t ∈ ts, t.length ≤ k) → piled ts ≤ (k + 2) * ts.length
  | [], _ => Nat.le_refl _
  | t :: ts, h => by
    have := h t (List.mem_cons_self ..)
    have := piled_le ts fun u hu => h u (List.mem_cons_of_mem _ hu)
    rw [piled_cons, List.length_cons, Nat.mul_add]
    omega
theorem shown_tup {k : Nat} (xs : List D) (h : ∀ x ∈ xs, x.shown.length ≤ k) : (PyData.tuple xs).shown.length ≤ (k + 2) * xs.length + 3 := by
  unfold PyData.shown
  refine Nat.le_trans (tupleText_le _) (Nat.add_le_add_right ?_ 3)
  have := piled_le (k := k) (PyData.shownAll xs) fun t ht => by
    rw [shownAll_map] at ht
    obtain ⟨x, hx, rfl⟩ := List.mem_map.mp ht
    exact h x hx
  rw [shownAll_map, List.length_map] at this
  rw [shownAll_map]
  exact this
theorem shown_small : ∀ n < 25, (PyData.shown (.int ((n : Nat) : Int))).length ≤ 4 := by decide +kernel
theorem showableAll_all : ∀ xs : List D, (∀ x ∈ xs, x.showable = true) → PyData.showableAll xs = true
  | [], _ => rfl
  | x :: xs, h => by
    unfold PyData.showableAll
    rw [h x (List.mem_cons_self ..), showableAll_all xs fun y hy => h y (List.mem_cons_of_mem _ hy)]
    rfl
/-- whole numbers 0 .. 24 -/
def Sm (l : List Int) : Prop := ∀ x ∈ l, 0 ≤ x ∧ x ≤ 24
theorem sm_nat {x : Int} (h : 0 ≤ x ∧ x ≤ 24) : ∃ n < 25, x = ((n : Nat) : Int) := ⟨x.toNat, by omega, by omega⟩
theorem shown_ti {c : List Int} (h : Sm c) (hl : c.length ≤ 12) : (ti c).shown.length ≤ 75 := by
  have := shown_tup (k := 4) (c.map PyData.int) fun x hx => by
    obtain ⟨i, hi, rfl⟩ := List.mem_map.mp hx
    obtain ⟨n, hn, rfl⟩ := sm_nat (h i hi)
    exact shown_small n hn
  rw [List.length_map] at this
  unfold ti
  omega
theorem showable_ti {c : List Int} (h : Sm c) : (ti c).showable = true := by
  unfold ti PyData.showable
  refine showableAll_all _ fun x hx => ?_
  obtain ⟨i, hi, rfl⟩ := List.mem_map.mp hx
  obtain ⟨n, hn, rfl⟩ := sm_nat (h i hi)
  unfold PyData.showable
  have := log_lt (n := n) (k := 5) (by omega) (by decide)
  exact decide_eq_true (by show n.log2 < 1920; omega)
theorem srt_small (cs : List (List Int)) : small (.tuple (srt cs)) = true := by
  unfold small PyData.plain PyData.depth
  rw [plainAll_all _ fun x hx => by obtain ⟨c, _, rfl⟩ := srt_mem.mp hx; exact ti_plain c]
  have := depthAll_le (n := 1) (srt cs) fun x hx => by obtain ⟨c, _, rfl⟩ := srt_mem.mp hx; exact ti_depth c
  exact decide_eq_true (by omega)
theorem law_is_srt {cs : List (List Int)} (h : ∀ c ∈ cs, Sm c ∧ c.length ≤ 12) (hl : cs.length ≤ 100000) (ds : Option DS) : f_law_is [.d (.tuple (srt cs)), .d (.tuple (srt cs))] ds = some (.d (.bool true), ds) := by
  have lb := line_huge
  refine law_is_self _ ds ?_ (srt_small cs) ?_ ?_
  · refine plain_tup 11 _ ds fun x hx => ?_
    obtain ⟨c, _, rfl⟩ := srt_mem.mp hx
    refine plain_tup 10 _ ds fun y hy => ?_
    obtain ⟨i, _, rfl⟩ := List.mem_map.mp hy
    exact plain_int 9 i ds
  · unfold PyData.showable
    refine showableAll_all _ fun x hx => ?_
    obtain ⟨c, hc, rfl⟩ := srt_mem.mp hx
    exact showable_ti (h c hc).1
  · have := shown_tup (k := 75) (srt cs) fun x hx => by
      obtain ⟨c, hc, rfl⟩ := srt_mem.mp hx
      exact shown_ti (h c hc).1 (h c hc).2
    rw [srt_len] at this
    omega
theorem go_le {m : Nat} (hm : 0 < m) : ∀ (ls : List (List Int)) (l c : List Int), (∀ o ∈ ls, okR m o = true) → okL m l → c ∈ go ls l → ∀ x ∈ c, 0 ≤ x ∧ x ≤ hd l
  | [], l, c, _, _, h, x, hx => by
    unfold go at h
    split at h
    · rw [List.mem_singleton.mp h] at hx; exact nomatch hx
    · exact nomatch h
  | o :: ls, l, c, ho, hl, h, x, hx => by
    have hoo := ho o (List.mem_cons_self ..)
    obtain ⟨o1, o2, o3⟩ := okR_inv hoo
    unfold go at h
    obtain ⟨p, h1, h2⟩ := List.mem_flatMap.mp h
    obtain ⟨d, h3, rfl⟩ := List.mem_map.mp h2
    have hv := (upto_val _ _ _ (by have := hl.1; omega) p h1).2.2 0
    rw [at_hd, at_hd, at_hd, Nat.sub_zero] at hv
    have hp := upto_ok o1 _ _ _ hl.1 p h1
    have hpe : p.2 ≠ [] := fun e => by rw [e] at hp; exact absurd hp.1 (by show (0 : Nat) ≠ m; omega)
    have h0 := nn_hd hpe hp.2
    have h4 : (p.1 : Int) * 1 ≤ (p.1 : Int) * hd o := Int.mul_le_mul_of_nonneg_left (by omega) (by omega)
    rcases List.mem_cons.mp hx with rfl | hx
    · exact ⟨by omega, by omega⟩
    · have := go_le hm ls p.2 d (fun q hq => ho q (List.mem_cons_of_mem _ hq)) hp h3 x hx
      have : 0 ≤ (p.1 : Int) * hd o := by omega
      omega
end Fw.L
end TQY
section TQL
namespace Fw.L
open PySem PySem.Spec PyProof.Rows L2
abbrev Rw (gm : List (D × List Int)) : List (List Int) := gm.map (·.2)
/-- what a small size gives -/
structure SzG (z mm : Nat) (gm : List (D × List Int)) : Prop where
  ok : SizeOk z gm
  m0 : 0 < mm
  m5 : mm ≤ 5
  rk : ∀ o ∈ gm.map (·.2), okR mm o = true
  rs : ∀ o ∈ gm.map (·.2), SmallI o
  g0 : 0 < gm.length
  g12 : gm.length ≤ 12
  sz : ∃ zs : List D, zs.length = mm ∧ ∀ ds, f_sized [.d (nD z)] ds = some (.fl zs, ds)
  cn : ∀ n, n ≤ 24 → cnt ((gm.map (·.2)).map hd) n ≤ 100000
  lm : ∀ p ∈ gm, ∀ ds, f_law_marks [.d (nD z), .d p.1] ds = some (.d (ti p.2), ds)
  one : ∀ cs : List Int, cs.length = gm.length → (∀ x ∈ cs, 0 ≤ x ∧ x ≤ 5) → go (gm.map (·.2)) (num mm (gm.map (·.2)) cs) = [cs] ∧ Sm (num mm (gm.map (·.2)) cs)
theorem sm_nn {l : List Int} (h : Sm l) : nn l = true := List.all_eq_true.mpr fun x hx => decide_eq_true (h x hx).1
theorem f_groups_ok {s : Nat} {gm : List (D × List Int)} (S : SizeOk s gm) (ds : Option DS) : f_groups [.d (nD s)] ds = some (.d (.tuple (gm.map (·.1))), ds) :=
  run_rt (e := [dS (nD s)]) rfl (seq_r (ex_r (call_r (consA_r rfl rfl rfl) (S.ns ds))) (ret_r (r := .d (.tuple (gm.map (·.1)))) (bi1_r (call_r (consA_r rfl rfl rfl) (S.gs ds)) rfl rfl) rfl))
abbrev eG (S a2 a3 a4 a5 a6 : Option Sl) : Env := [S, some .st, a2, a3, a4, a5, a6, none, none, none]
def gFn (F : Fun) (s : Nat) (x : D) : Option D := match F [.d (nD s), .d x] none with
  | some (.d r, _) => some r
  | _ => none
theorem gFn_all {F : Fun} {s : Nat} {gm : List (D × List Int)} (h : ∀ p ∈ gm, ∀ ds, F [.d (nD s), .d p.1] ds = some (.d (ti p.2), ds)) : (gm.map (·.1)).filterMap (gFn F s) = (Rw gm).map ti := by
  induction gm with
  | nil => rfl
  | cons p gm ih =>
    rw [List.map_cons, List.filterMap_cons_some (show gFn F s p.1 = some (ti p.2) from by unfold gFn; rw [h p (List.mem_cons_self ..)]), ih fun q hq => h q (List.mem_cons_of_mem _ hq)]
    rfl
theorem w_linesF {F G : Fun} {z : Nat} {gm : List (D × List Int)} {S0 a3 a4 a5 a6 : Option Sl} {ds : Option DS} (hln : gm.length ≤ 100) (hG : G [.d (nD z)] ds = some (.d (.tuple (gm.map (·.1))), ds)) (hlm : ∀ p ∈ gm, ∀ ds, F [.d (nD z), .d p.1] ds = some (.d (ti p.2), ds)) :
    lcM [7] (.nm 7) (itQ (callM G [] (consA (varV 2) (pure [])))) yesM (callM F [] (consA (varV 2) (consA (varV 7) (pure [])))) (eG S0 (nS z) a3 a4 a5 a6, ds) = some (.fl ((Rw gm).map ti), (eG S0 (nS z) a3 a4 a5 a6, ds)) := by
  have h := lc_r (vs := [7]) (t := .nm 7) (mi := itQ (callM G [] (consA (varV 2) (pure [])))) (mc := yesM) (me := callM F [] (consA (varV 2) (consA (varV 7) (pure [])))) (c := (eG S0 (nS z) a3 a4 a5 a6, ds)) (e := eG S0 (nS z) a3 a4 a5 a6) (s := ds)
    (xs := gm.map (·.1)) (gFn F z) (itQ_r (call_r (consA_r rfl rfl rfl) hG) rfl rfl) (fun x hx => by
      obtain ⟨p, hp, rfl⟩ := List.mem_map.mp hx
      refine ⟨_, [S0, some .st, nS z, a3, a4, a5, a6, dS p.1, none, none], rfl, .inl ⟨_, rfl, ti p.2, dM_r (s := .d .none) (call_r (consA_r rfl rfl (consA_r rfl rfl rfl)) (hlm p hp ds)) rfl, ?_⟩, rfl⟩
      unfold gFn
      rw [hlm p hp])
    (by rw [gFn_all hlm, List.length_map, List.length_map]; have := line_huge; omega)
  rw [gFn_all hlm] at h
  exact h
section
variable {z mm : Nat} {gm : List (D × List Int)} {S0 a2 a3 a4 a5 a6 a9 : Option Sl} {ds : Option DS}
/-- the law's lines of a size -/
theorem w_lines (hS : SizeOk z gm) (hlm : ∀ p ∈ gm, ∀ ds, f_law_marks [.d (nD z), .d p.1] ds = some (.d (ti p.2), ds)) : lcM [7] (.nm 7) (itQ (callM f_groups [] (consA (varV 2) (pure [])))) yesM (callM f_law_marks [] (consA (varV 2) (consA (varV 7) (pure [])))) (eG S0 (nS z) a3 a4 a5 a6, ds) =
    some (.fl ((Rw gm).map ti), (eG S0 (nS z) a3 a4 a5 a6, ds)) :=
  w_linesF hS.ln (f_groups_ok hS ds) hlm
def dM6 : M Rv := callM f_law_draw [] (consA (varV 1) (consA (pure (.d (.int 6))) (pure [])))
theorem draw_n (s : DS) (n : Nat) (hn : 0 < n) (hn2 : n ≤ 2 ^ 10) (ht : s.turn < 2 ^ 30) : ∃ k s', k < n ∧ s'.turn ≤ s.turn + 1 ∧ f_law_draw [.st, .d (nD n)] (some s) = some (.d (nD k), some s') :=
  ⟨_, _, drawD_lt s hn, drawD_turn s n, f_draw s (by omega) (Nat.lt_of_le_of_lt hn2 (Nat.pow_lt_pow_right (by decide) (by decide))) ht⟩
theorem t_draws : ∀ (xs : List D) (s : DS) (a8 : Option Sl), s.turn + xs.length < 2 ^ 30 → ∃ (l : List Int) (b8 : Option Sl) (s' : DS), turns (turnM [8] (.nm 8) yesM dM6) xs ([S0, some .st, a2, a3, a4, a5, a6, none, a8, none], some s) =
      some (l.map PyData.int, ([S0, some .st, a2, a3, a4, a5, a6, none, b8, none], some s')) ∧ l.length = xs.length ∧ (∀ x ∈ l, 0 ≤ x ∧ x ≤ 5) ∧ s'.turn ≤ s.turn + xs.length
  | [], s, a8, _ => ⟨[], a8, s, rfl, rfl, (fun _ h => nomatch h), Nat.le_refl _⟩
  | x :: xs, s, a8, ht => by
    rw [List.length_cons] at ht
    obtain ⟨n, s1, h1, h2, h3⟩ := draw_n s 6 (by decide) (by decide) (by omega)
    obtain ⟨l, b8, s2, h4, h5, h6, h7⟩ := t_draws xs s1 (dS x) (by omega)
    refine ⟨(n : Int) :: l, b8, s2, ?_, by rw [List.length_cons, List.length_cons, h5], fun y hy => ?_, by rw [List.length_cons]; omega⟩
    · have ht1 : turnM [8] (.nm 8) yesM dM6 x ([S0, some .st, a2, a3, a4, a5, a6, none, a8, none], some s) = some (some (nD n), ([S0, some .st, a2, a3, a4, a5, a6, none, dS x, none], some s1)) :=
        bind_r (c1 := ([S0, some .st, a2, a3, a4, a5, a6, none, dS x, none], some s)) (z := ()) rfl (bind_r rfl (bind_r rfl (bind_r (dM_r (s := .d .none) (call_r (consA_r rfl rfl (consA_r rfl rfl rfl)) h3) rfl) rfl)))
      exact bind_r ht1 (bind_r h4 rfl)
    · rcases List.mem_cons.mp hy with rfl | hy
      · omega
      · exact h6 y hy
theorem l_draws (xs : List D) (s : DS) (hx : xs.length ≤ 1000) (ht : s.turn + xs.length < 2 ^ 30) (h5 : a5 = some (.ol xs)) : ∃ (l : List Int) (s' : DS), biM (biD .tuple) (consP (lcM [8] (.nm 8) (itQ (varV 5)) yesM dM6) (pure [])) (eG S0 a2 a3 a4 a5 a6, some s) =
      some (.d (ti l), (eG S0 a2 a3 a4 (dS (.list xs)) a6, some s')) ∧ l.length = xs.length ∧ (∀ x ∈ l, 0 ≤ x ∧ x ≤ 5) ∧ s'.turn ≤ s.turn + xs.length := by
  subst h5
  obtain ⟨l, b8, s', h1, h2, h3, h4⟩ := t_draws (S0 := S0) (a2 := a2) (a3 := a3) (a4 := a4) (a5 := dS (.list xs)) (a6 := a6) xs s none ht
  refine ⟨l, s', bi1_r (x := .fl (l.map PyData.int)) ?_ rfl rfl, h2, h3, h4⟩
  have hw : within [8] (turns (turnM [8] (.nm 8) yesM dM6) xs) (eG S0 a2 a3 a4 (dS (.list xs)) a6, some s) = some (l.map PyData.int, (eG S0 a2 a3 a4 (dS (.list xs)) a6, some s')) := by
    unfold within
    rw [show (wipeE (eG S0 a2 a3 a4 (dS (.list xs)) a6, some s).1 [8], (eG S0 a2 a3 a4 (dS (.list xs)) a6, some s).2) = ([S0, some .st, a2, a3, a4, dS (.list xs), a6, none, none, none], some s) from rfl, h1]
    rfl
  exact bind_r (itQ_r rfl rfl rfl) (bind_r hw (by rw [List.length_map, if_pos (by have := line_huge; omega)]; rfl))
end
def lB : M Oc := (seqM (setM 2 (callM f_law_draw [] (consA (varV 1) (consA (pure (.d (.int 3))) (pure [])))))
  (seqM (setM 5 (lcM [7] (.nm 7) (itQ (callM f_groups [] (consA (varV 2) (pure [])))) yesM (callM f_law_marks [] (consA (varV 2) (consA (varV 7) (pure []))))))
  (seqM (setM 4 (biM (biD .tuple) (consP (lcM [8] (.nm 8) (itQ (varV 5)) yesM dM6) (pure []))))
  (ifM (notB (callM f_law_is [] (consA (callM f_makes [] (consA (varV 2) (consA (biM (biD .tuple) (consP (callM f_law_sums [] (consA (varV 5) (consA (varV 4) (pure [])))) (pure []))) (pure [])))) (consA (tupM (consL (varV 4) (pure []))) (pure []))))) (retM (pure (.d (.bool false)))) (pure .nx)))))
def lT : D → M Oc := fun x => do
  asgM (.nm 3) x
  lB
theorem srt_one (c : List Int) : srt [c] = [ti c] := rfl
theorem l_mid {z mm : Nat} {gm : List (D × List Int)} {S0 a3 a4 a5 a6 : Option Sl} (S : SzG z mm gm) (s : DS) (ht : s.turn + 20 < 2 ^ 30) : ∃ p4 p5 s', (seqM (setM 5 (lcM [7] (.nm 7) (itQ (callM f_groups [] (consA (varV 2) (pure [])))) yesM (callM f_law_marks [] (consA (varV 2) (consA (varV 7) (pure []))))))
  (seqM (setM 4 (biM (biD .tuple) (consP (lcM [8] (.nm 8) (itQ (varV 5)) yesM dM6) (pure []))))
  (ifM (notB (callM f_law_is [] (consA (callM f_makes [] (consA (varV 2) (consA (biM (biD .tuple) (consP (callM f_law_sums [] (consA (varV 5) (consA (varV 4) (pure [])))) (pure []))) (pure [])))) (consA (tupM (consL (varV 4) (pure []))) (pure []))))) (retM (pure (.d (.bool false)))) (pure .nx)))) (eG S0 (nS z) a3 a4 a5 a6, some s) =
      some (.nx, (eG S0 (nS z) a3 p4 p5 a6, some s')) ∧ s'.turn ≤ s.turn + 12 := by
  have lb := line_huge
  have g12 := S.g12
  have hrl : ((Rw gm).map ti).length = gm.length := by rw [List.length_map, List.length_map]
  obtain ⟨l, s1, h1, h2, h3, h4⟩ := l_draws (S0 := S0) (a2 := nS z) (a3 := a3) (a4 := a4) (a5 := some (.ol ((Rw gm).map ti))) (a6 := a6) ((Rw gm).map ti) s (by omega) (by omega) rfl
  rw [hrl] at h2 h4
  obtain ⟨o1, o2⟩ := S.one l h2 h3
  have hsm : SmallI l := fun x hx => by have := h3 x hx; omega
  have h24 : Sm l := fun x hx => by have := h3 x hx; omega
  have hsum := f_sums_ok (m := mm) (by have := S.m5; omega) (ls := Rw gm) (cs := l) (cd := ti l) (.inr rfl) (by rw [List.length_map]; exact S.g0) (by rw [List.length_map]; omega) (fun o ho => (okR_inv (S.rk o ho)).1) S.rs hsm (some s1)
  have hmak := f_makes_ok S.ok S.m0 (by have := S.m5; omega) S.rk S.g0 S.sz (l := num mm (Rw gm) l) ⟨num_len .., sm_nn o2⟩ (fun x hx => (o2 x hx).2) S.cn (some s1)
  rw [o1] at hmak
  have his := law_is_srt (cs := [l]) (fun c hc => by
    rw [List.mem_singleton.mp hc]
    exact ⟨h24, by omega⟩) (by show 1 ≤ 100000; omega) (some s1)
  refine ⟨dS (ti l), dS (lis (Rw gm)), s1, ?_, by omega⟩
  refine seq_r (set_r (w_lines S.ok S.lm) rfl) ?_
  refine seq_r (set_r h1 rfl) ?_
  exact if_f (not_r (k := true) (call_r (consA_r (call_r (consA_r rfl rfl (consA_r (bi1_r (call_r (consA_r rfl rfl (consA_r rfl rfl rfl)) hsum) rfl rfl) rfl rfl)) hmak) rfl (consA_r (tup_r (consL_r rfl rfl rfl) (by show 1 ≤ line; omega)) rfl rfl)) his)) rfl
def ShL (S0 : Option Sl) (t : Nat) (c : Cf) : Prop := ∃ a2 a3 a4 a5 a6 s, c = (eG S0 a2 a3 a4 a5 a6, some s) ∧ s.turn ≤ t
theorem l_turn (hz : ∀ z, z < 3 → ∃ mm gm, SzG z mm gm) {S0 : Option Sl} {t : Nat} (ht : t < 2 ^ 20) {c : Cf} (h : ShL S0 t c) (x : D) : ∃ c', lT x c = some (.nx, c') ∧ ShL S0 (t + 20) c' := by
  obtain ⟨a2, a3, a4, a5, a6, s, rfl, hs⟩ := h
  obtain ⟨z, s1, z1, z2, z3⟩ := draw_n s 3 (by decide) (by decide) (by omega)
  obtain ⟨mm, gm, S⟩ := hz z z1
  obtain ⟨p4, p5, s2, h1, h2⟩ := l_mid (S0 := S0) (a3 := dS x) (a4 := a4) (a5 := a5) (a6 := a6) S s1 (by omega)
  exact ⟨_, bind_r (asg_r rfl) (seq_r (set_r (call_r (consA_r rfl rfl (consA_r rfl rfl rfl)) z3) rfl) h1), nS z, dS x, p4, p5, a6, s2, rfl, by omega⟩
end Fw.L
end TQL
section TMs69
namespace Fw.L
open PySem PySem.W PyProof.Rows
def gm0 : List (D × List Int) := [(gr0_0, [1])]
theorem so0 : SizeOk 0 gm0 := ⟨fun ds => gs0 ds, fun p hp ds => by
  simp only [gm0, List.mem_cons, List.not_mem_nil, or_false] at hp
  rcases hp with rfl
  · exact mk0_0 ds, fun ds => by kernel_rfl, by decide⟩
theorem sr0 : ∀ o ∈ gm0.map (·.2), okR 1 o = true := by decide
theorem sc0 : ∀ n, n ≤ 24 → cnt ((gm0.map (·.2)).map hd) n ≤ 100000 := fun n hn => by
  have h : ∀ n < 25, cnt ((gm0.map (·.2)).map hd) n ≤ 100000 := by decide +kernel
  exact h n (by omega)
theorem sg0 : ∃ zs : List D, zs.length = 1 ∧ ∀ ds, f_sized [.d (nD 0)] ds = some (.fl zs, ds) := ⟨_, rfl, fun ds => sz0 ds⟩
def gm1 : List (D × List Int) := [(gr1_0, [1])]
theorem so1 : SizeOk 1 gm1 := ⟨fun ds => gs1 ds, fun p hp ds => by
  simp only [gm1, List.mem_cons, List.not_mem_nil, or_false] at hp
  rcases hp with rfl
  · exact mk1_0 ds, fun ds => by kernel_rfl, by decide⟩
theorem sr1 : ∀ o ∈ gm1.map (·.2), okR 1 o = true := by decide
theorem sc1 : ∀ n, n ≤ 24 → cnt ((gm1.map (·.2)).map hd) n ≤ 100000 := fun n hn => by
  have h : ∀ n < 25, cnt ((gm1.map (·.2)).map hd) n ≤ 100000 := by decide +kernel
  exact h n (by omega)
theorem sg1 : ∃ zs : List D, zs.length = 1 ∧ ∀ ds, f_sized [.d (nD 1)] ds = some (.fl zs, ds) := ⟨_, rfl, fun ds => sz1 ds⟩
def gm2 : List (D × List Int) := [(gr2_0, [2, 0]), (gr2_1, [1, 1])]
theorem so2 : SizeOk 2 gm2 := ⟨fun ds => gs2 ds, fun p hp ds => by
  simp only [gm2, List.mem_cons, List.not_mem_nil, or_false] at hp
  rcases hp with rfl | rfl
  · exact mk2_0 ds
  · exact mk2_1 ds, fun ds => by kernel_rfl, by decide⟩
theorem sr2 : ∀ o ∈ gm2.map (·.2), okR 2 o = true := by decide
theorem sc2 : ∀ n, n ≤ 24 → cnt ((gm2.map (·.2)).map hd) n ≤ 100000 := fun n hn => by
  have h : ∀ n < 25, cnt ((gm2.map (·.2)).map hd) n ≤ 100000 := by decide +kernel
  exact h n (by omega)
theorem sg2 : ∃ zs : List D, zs.length = 2 ∧ ∀ ds, f_sized [.d (nD 2)] ds = some (.fl zs, ds) := ⟨_, rfl, fun ds => sz2 ds⟩
def gm3 : List (D × List Int) := [(gr3_0, [6, 0, 0]), (gr3_1, [3, 1, 0]), (gr3_2, [2, 0, 2]), (gr3_3, [1, 1, 1])]
theorem so3 : SizeOk 3 gm3 := ⟨fun ds => gs3 ds, fun p hp ds => by
  simp only [gm3, List.mem_cons, List.not_mem_nil, or_false] at hp
  rcases hp with rfl | rfl | rfl | rfl
  · exact mk3_0 ds
  · exact mk3_1 ds
  · exact mk3_2 ds
  · exact mk3_3 ds, fun ds => by kernel_rfl, by decide⟩
theorem sr3 : ∀ o ∈ gm3.map (·.2), okR 3 o = true := by decide
theorem sc3 : ∀ n, n ≤ 24 → cnt ((gm3.map (·.2)).map hd) n ≤ 100000 := fun n hn => by
  have h : ∀ n < 25, cnt ((gm3.map (·.2)).map hd) n ≤ 100000 := by decide +kernel
  exact h n (by omega)
theorem sg3 : ∃ zs : List D, zs.length = 3 ∧ ∀ ds, f_sized [.d (nD 3)] ds = some (.fl zs, ds) := ⟨_, rfl, fun ds => sz3 ds⟩
def gm4 : List (D × List Int) := [(gr4_0, [24, 0, 0, 0, 0]), (gr4_1, [12, 2, 0, 0, 0]), (gr4_2, [12, 0, 4, 0, 0]), (gr4_3, [8, 0, 0, 2, 0]), (gr4_4, [6, 2, 2, 0, 0]), (gr4_5, [6, 0, 6, 0, 0]), (gr4_6, [6, 0, 2, 0, 2]), (gr4_7, [4, 2, 0, 1, 0]), (gr4_8, [3, 1, 3, 0, 1]), (gr4_9, [2, 0, 2, 2, 0]), (gr4_10, [1, 1, 1, 1, 1])]
theorem so4 : SizeOk 4 gm4 := ⟨fun ds => gs4 ds, fun p hp ds => by
  simp only [gm4, List.mem_cons, List.not_mem_nil, or_false] at hp
  rcases hp with rfl | rfl | rfl | rfl | rfl | rfl | rfl | rfl | rfl | rfl | rfl
  · exact mk4_0 ds
  · exact mk4_1 ds
  · exact mk4_2 ds
  · exact mk4_3 ds
  · exact mk4_4 ds
  · exact mk4_5 ds
  · exact mk4_6 ds
  · exact mk4_7 ds
  · exact mk4_8 ds
  · exact mk4_9 ds
  · exact mk4_10 ds, fun ds => by kernel_rfl, by decide⟩
theorem sr4 : ∀ o ∈ gm4.map (·.2), okR 5 o = true := by decide
theorem sc4 : ∀ n, n ≤ 24 → cnt ((gm4.map (·.2)).map hd) n ≤ 100000 := fun n hn => by
  have h : ∀ n < 25, cnt ((gm4.map (·.2)).map hd) n ≤ 100000 := by decide +kernel
  exact h n (by omega)
theorem sg4 : ∃ zs : List D, zs.length = 5 ∧ ∀ ds, f_sized [.d (nD 4)] ds = some (.fl zs, ds) := ⟨_, rfl, fun ds => sz4 ds⟩
end Fw.L
end TMs69
section TQM
namespace Fw.L
open PySem PySem.Spec PySem.W PyProof.Rows L2
theorem lc_sub {vs : List Nat} {t : IT} {mi : M (List D)} {mc me : M Rv} {c c1 : Cf} {xs : List D} {w : Option (Rv × Cf)} (h : mi c = some (xs, c1)) (h2 : lcM vs t (pure xs) mc me c1 = w) : lcM vs t mi mc me c = w := bind_r h h2
theorem f_makes_of_li {s mm : Nat} {gm : List (D × List Int)} (S : SizeOk s gm) (hm : 0 < mm) (hm2 : mm ≤ 1000) (ho : ∀ o ∈ gm.map (·.2), okR mm o = true) (hg : 0 < gm.length) {l : List Int} (hl : okL mm l) (hh : hd l ≤ 1000) (hc : cnt ((gm.map (·.2)).map hd) (hd l).toNat ≤ 100000) (ds : Option DS) :
    f_makes_of [.d (nD s), .d (li l)] ds = some (.fl (srt (go (gm.map (·.2)) l)), ds) := by
  have lb := line_huge
  have hq : ∀ q ∈ ([([], l)] : List Pr), okQ mm 0 q := fun q h => by
    rw [List.mem_singleton] at h
    subst h
    exact ⟨hl, rfl, hh⟩
  have hp : pot ((gm.map (·.2)).map hd) [([], l)] ≤ 100000 := by
    unfold pot
    rw [List.map_cons, List.map_nil, List.sum_cons, List.sum_nil, Nat.add_zero]
    exact hc
  have hln := S.ln
  obtain ⟨s2, p3, p4, p6, p7, p8, h1, h2, h3, h4⟩ := e_loop (a0 := dS (nD s)) (a1 := dS (li l)) (a5 := none) (ds := ds) hm hm2 (gm.map (·.2)) 0 [([], l)] (.ol [prD ([], l)]) none none none none none ho (by rw [List.length_map]; omega) (.inl rfl) hq hp
  obtain ⟨s3, h5⟩ := w_fin (a0 := dS (nD s)) (a1 := dS (li l)) (a3 := p3) (a4 := p4) (a5 := none) (a8 := oS p8) (ds := ds) h1 p6 p7 h3
  have e1 : done (bfs (gm.map (·.2)) [([], l)]) = go (gm.map (·.2)) l := by
    rw [bfs_go, List.flatMap_cons, List.flatMap_nil, List.append_nil]
    have : (fun x : List Int => [] ++ x) = id := funext fun x => List.nil_append x
    rw [this, List.map_id]
  have hlen : ∀ c ∈ done (bfs (gm.map (·.2)) [([], l)]), c.length = gm.length := fun c hc => by
    unfold done at hc
    obtain ⟨q, hq1, rfl⟩ := List.mem_map.mp hc
    have := (h2 q ((List.mem_filter.mp hq1).1)).2.1
    rw [List.length_map] at this
    omega
  have hn : (done (bfs (gm.map (·.2)) [([], l)])).length ≤ 100000 := by
    unfold done
    rw [List.length_map]
    exact Nat.le_trans (List.length_filter_le ..) h3
  rw [← e1]
  refine run_rt (e := eK (dS (nD s)) (dS (li l)) (some s3) p3 p4 none (oS p6) (oS p7) (oS p8)) rfl ?_
  refine seq_r (set_r (lst_r (consL_r (tup_r (consL_r (tup_r rfl (Nat.zero_le _)) rfl (consL_r (bi1_r rfl rfl rfl) rfl rfl)) (by show 2 ≤ line; omega)) rfl rfl) (by show 1 ≤ line; omega)) rfl) ?_
  refine seq_r (for_r (itQ_r (w_rows S) rfl rfl) h4) ?_
  exact ret_r (bi1_r h5 rfl (sort_ok hg hlen hn)) rfl
abbrev eT (s : Nat) (a1 a2 a3 a4 a5 : Option Sl) : Env := [dS (nD s), a1, a2, a3, a4, a5, none, none, none]
def tS : M Oc := (setsX [(2, (pure (.d (.int 0)))), (2, (negM (pure (.d (.int 1)))))] (tupM (consL (pure (.d (.int 1))) (consL (pure (.d (.int 2))) (pure [])))))
def tT : M Rv := (lcM [6] (.nm 6) (itZN (varV 3)) yesM (biM (biD .sum) (consP (lcM [8, 7] (.tp [(.nm 8), (.nm 7)]) (itZ (varV 2) (varV 6)) yesM (bin2 (varV 8) (varV 7) (binD .mul))) (pure []))))
def tC : M Rv := (cmp2 (varV 7) (biM (biD .tuple) (consP (varV 2) (pure []))) .ne)
def tR : M Oc := (retM (iteB (cmp2 (varV 5) (lstM (pure [])) .ne) (tupM (consL (biM (biD .tuple) (consP (varV 2) (pure []))) (consL (bin2 (varV 5) (pure (.d (.int 0))) ixR) (pure [])))) (pure (.d .none))))
def fi3 : List Int := [1, 0, 0, 2]
def to3 : List Int := [8, 2, 2]
def so_3 : List (List Int) := [[0, 2, 1, 0], [1, 0, 0, 2]]
def ot3 : List (List Int) := [[0, 2, 1, 0]]
def ro3 : D := .tuple [.tuple [.int 6, .int 0, .int 0], .tuple [.int 3, .int 1, .int 0], .tuple [.int 2, .int 0, .int 2], .tuple [.int 1, .int 1, .int 1]]
theorem ka3 (a1 : Option Sl) (ds : Option DS) : tS (eT 3 a1 (some (.ol [.int 0, .int 0, .int 0, .int 0])) none none none, ds) = some (.nx, (eT 3 a1 (some (.ol (fi3.map PyData.int))) none none none, ds)) := by kernel_rfl
theorem kb3 (a1 : Option Sl) (ds : Option DS) : tT (eT 3 a1 (some (.ol (fi3.map PyData.int))) (dS ro3) none none, ds) = some (.fl (to3.map PyData.int), (eT 3 a1 (dS (li fi3)) (dS ro3) none none, ds)) := by kernel_rfl
theorem kc3 : srt (go (Rw gm3) to3) = so_3.map ti := by kernel_rfl
theorem kd3 (a1 : Option Sl) (ds : Option DS) : lcM [7] (.nm 7) (pure (so_3.map ti)) tC (varV 7) (eT 3 a1 (dS (li fi3)) (dS ro3) (dS (li to3)) none, ds) = some (.fl (ot3.map ti), (eT 3 a1 (dS (li fi3)) (dS ro3) (dS (li to3)) none, ds)) := by kernel_rfl
theorem ke3 (a1 : Option Sl) (ds : Option DS) : tR (eT 3 a1 (dS (li fi3)) (dS ro3) (dS (li to3)) (some (.ol (ot3.map ti))), ds) = some (.rt (.d (.tuple [ti fi3, ti [0, 2, 1, 0]])), (eT 3 a1 (dS (li fi3)) (dS ro3) (dS (li to3)) (some (.ol (ot3.map ti))), ds)) := by kernel_rfl
theorem kf3 : (Rw gm3).map ti = [.tuple [.int 6, .int 0, .int 0], .tuple [.int 3, .int 1, .int 0], .tuple [.int 2, .int 0, .int 2], .tuple [.int 1, .int 1, .int 1]] := rfl
theorem kg3 : cnt ((gm3.map (·.2)).map hd) (hd to3).toNat ≤ 100000 := by decide +kernel
theorem like3 (ds : Option DS) : f_like_makes [.d (nD 3)] ds = some (.d (.tuple [ti fi3, ti [0, 2, 1, 0]]), ds) := by
  have lb := line_huge
  have hmk := f_makes_of_li so3 (mm := 3) (by decide) (by decide) sr3 (by decide) (l := to3) ⟨rfl, by decide⟩ (by decide) kg3 ds
  rw [show go (gm3.map (·.2)) to3 = go (Rw gm3) to3 from rfl, kc3] at hmk
  have hm := f_marks_ok so3 ds
  rw [show (gm3.map (·.2)).map ti = (Rw gm3).map ti from rfl, kf3] at hm
  refine run_rt (e := eT 3 (some (.ol (gm3.map (·.1)))) (dS (li fi3)) (dS ro3) (dS (li to3)) (some (.ol (ot3.map ti)))) rfl ?_
  refine seq_r (ex_r (call_r (consA_r rfl rfl rfl) (so3.ns ds))) ?_
  refine seq_r (if_f (cmp2_r rfl rfl rfl rfl rfl) rfl) ?_
  refine seq_r (set_r (call_r (consA_r rfl rfl rfl) (so3.gs ds)) rfl) ?_
  refine seq_r (set_r (bin2_r (lst_r (consL_r rfl rfl rfl) (by show 1 ≤ line; omega)) (bi1_r rfl rfl (d := .list (gm3.map (·.1))) (r := .d (nD 4)) rfl) rfl rfl (r := .fl [.int 0, .int 0, .int 0, .int 0]) rfl) rfl) ?_
  refine seq_r (ka3 _ ds) ?_
  refine seq_r (set_r (call_r (consA_r rfl rfl rfl) hm) rfl) ?_
  refine seq_r (set_r (kb3 _ ds) rfl) ?_
  refine seq_r (set_r (lc_sub (itQ_r (call_r (consA_r rfl rfl (consA_r rfl rfl rfl)) hmk) rfl rfl) (kd3 _ ds)) rfl) ?_
  exact ke3 _ ds
def fi4 : List Int := [1, 0, 0, 0, 0, 0, 0, 0, 0, 0, 2]
def to4 : List Int := [26, 2, 2, 2, 2]
def so_4 : List (List Int) := [[0, 1, 0, 1, 0, 0, 1, 0, 0, 0, 0], [1, 0, 0, 0, 0, 0, 0, 0, 0, 0, 2]]
def ot4 : List (List Int) := [[0, 1, 0, 1, 0, 0, 1, 0, 0, 0, 0]]
def ro4 : D := .tuple [.tuple [.int 24, .int 0, .int 0, .int 0, .int 0], .tuple [.int 12, .int 2, .int 0, .int 0, .int 0], .tuple [.int 12, .int 0, .int 4, .int 0, .int 0], .tuple [.int 8, .int 0, .int 0, .int 2, .int 0], .tuple [.int 6, .int 2, .int 2, .int 0, .int 0], .tuple [.int 6, .int 0, .int 6, .int 0, .int 0], .tuple [.int 6, .int 0, .int 2, .int 0, .int 2], .tuple [.int 4, .int 2, .int 0, .int 1, .int 0], .tuple [.int 3, .int 1, .int 3, .int 0, .int 1], .tuple [.int 2, .int 0, .int 2, .int 2, .int 0], .tuple [.int 1, .int 1, .int 1, .int 1, .int 1]]
theorem ka4 (a1 : Option Sl) (ds : Option DS) : tS (eT 4 a1 (some (.ol [.int 0, .int 0, .int 0, .int 0, .int 0, .int 0, .int 0, .int 0, .int 0, .int 0, .int 0])) none none none, ds) = some (.nx, (eT 4 a1 (some (.ol (fi4.map PyData.int))) none none none, ds)) := by kernel_rfl
theorem kb4 (a1 : Option Sl) (ds : Option DS) : tT (eT 4 a1 (some (.ol (fi4.map PyData.int))) (dS ro4) none none, ds) = some (.fl (to4.map PyData.int), (eT 4 a1 (dS (li fi4)) (dS ro4) none none, ds)) := by kernel_rfl
theorem kc4 : srt (go (Rw gm4) to4) = so_4.map ti := by kernel_rfl
theorem kd4 (a1 : Option Sl) (ds : Option DS) : lcM [7] (.nm 7) (pure (so_4.map ti)) tC (varV 7) (eT 4 a1 (dS (li fi4)) (dS ro4) (dS (li to4)) none, ds) = some (.fl (ot4.map ti), (eT 4 a1 (dS (li fi4)) (dS ro4) (dS (li to4)) none, ds)) := by kernel_rfl
theorem ke4 (a1 : Option Sl) (ds : Option DS) : tR (eT 4 a1 (dS (li fi4)) (dS ro4) (dS (li to4)) (some (.ol (ot4.map ti))), ds) = some (.rt (.d (.tuple [ti fi4, ti [0, 1, 0, 1, 0, 0, 1, 0, 0, 0, 0]])), (eT 4 a1 (dS (li fi4)) (dS ro4) (dS (li to4)) (some (.ol (ot4.map ti))), ds)) := by kernel_rfl
theorem kf4 : (Rw gm4).map ti = [.tuple [.int 24, .int 0, .int 0, .int 0, .int 0], .tuple [.int 12, .int 2, .int 0, .int 0, .int 0], .tuple [.int 12, .int 0, .int 4, .int 0, .int 0], .tuple [.int 8, .int 0, .int 0, .int 2, .int 0], .tuple [.int 6, .int 2, .int 2, .int 0, .int 0], .tuple [.int 6, .int 0, .int 6, .int 0, .int 0], .tuple [.int 6, .int 0, .int 2, .int 0, .int 2], .tuple [.int 4, .int 2, .int 0, .int 1, .int 0], .tuple [.int 3, .int 1, .int 3, .int 0, .int 1], .tuple [.int 2, .int 0, .int 2, .int 2, .int 0], .tuple [.int 1, .int 1, .int 1, .int 1, .int 1]] := rfl
theorem kg4 : cnt ((gm4.map (·.2)).map hd) (hd to4).toNat ≤ 100000 := by decide +kernel
theorem like4 (ds : Option DS) : f_like_makes [.d (nD 4)] ds = some (.d (.tuple [ti fi4, ti [0, 1, 0, 1, 0, 0, 1, 0, 0, 0, 0]]), ds) := by
  have lb := line_huge
  have hmk := f_makes_of_li so4 (mm := 5) (by decide) (by decide) sr4 (by decide) (l := to4) ⟨rfl, by decide⟩ (by decide) kg4 ds
  rw [show go (gm4.map (·.2)) to4 = go (Rw gm4) to4 from rfl, kc4] at hmk
  have hm := f_marks_ok so4 ds
  rw [show (gm4.map (·.2)).map ti = (Rw gm4).map ti from rfl, kf4] at hm
  refine run_rt (e := eT 4 (some (.ol (gm4.map (·.1)))) (dS (li fi4)) (dS ro4) (dS (li to4)) (some (.ol (ot4.map ti)))) rfl ?_
  refine seq_r (ex_r (call_r (consA_r rfl rfl rfl) (so4.ns ds))) ?_
  refine seq_r (if_f (cmp2_r rfl rfl rfl rfl rfl) rfl) ?_
  refine seq_r (set_r (call_r (consA_r rfl rfl rfl) (so4.gs ds)) rfl) ?_
  refine seq_r (set_r (bin2_r (lst_r (consL_r rfl rfl rfl) (by show 1 ≤ line; omega)) (bi1_r rfl rfl (d := .list (gm4.map (·.1))) (r := .d (nD 11)) rfl) rfl rfl (r := .fl [.int 0, .int 0, .int 0, .int 0, .int 0, .int 0, .int 0, .int 0, .int 0, .int 0, .int 0]) rfl) rfl) ?_
  refine seq_r (ka4 _ ds) ?_
  refine seq_r (set_r (call_r (consA_r rfl rfl rfl) hm) rfl) ?_
  refine seq_r (set_r (kb4 _ ds) rfl) ?_
  refine seq_r (set_r (lc_sub (itQ_r (call_r (consA_r rfl rfl (consA_r rfl rfl rfl)) hmk) rfl rfl) (kd4 _ ds)) rfl) ?_
  exact ke4 _ ds
theorem like0 (ds : Option DS) : f_like_makes [.d (nD 0)] ds = some (.d .none, ds) := by kernel_rfl
theorem like1 (ds : Option DS) : f_like_makes [.d (nD 1)] ds = some (.d .none, ds) := by kernel_rfl
theorem like2 (ds : Option DS) : f_like_makes [.d (nD 2)] ds = some (.d .none, ds) := by kernel_rfl
end Fw.L
end TQM
section TLM0
namespace Fw.L
open PySem PySem.W PyProof.Rows

theorem lm0_0 (ds : Option DS) : f_law_marks [.d (.int 0), .d gr0_0] ds = some (.d (.tuple [.int 1]), ds) := by kernel_rfl
end Fw.L
end TLM0
section TLM1
namespace Fw.L
open PySem PySem.W PyProof.Rows

theorem lm1_0 (ds : Option DS) : f_law_marks [.d (.int 1), .d gr1_0] ds = some (.d (.tuple [.int 1]), ds) := by kernel_rfl
end Fw.L
end TLM1
section TLM2
namespace Fw.L
open PySem PySem.W PyProof.Rows

theorem lm2_0 (ds : Option DS) : f_law_marks [.d (.int 2), .d gr2_0] ds = some (.d (.tuple [.int 2, .int 0]), ds) := by kernel_rfl
theorem lm2_1 (ds : Option DS) : f_law_marks [.d (.int 2), .d gr2_1] ds = some (.d (.tuple [.int 1, .int 1]), ds) := by kernel_rfl
end Fw.L
end TLM2
section TLM3
namespace Fw.L
open PySem PySem.W PyProof.Rows

theorem lm3_0 (ds : Option DS) : f_law_marks [.d (.int 3), .d gr3_0] ds = some (.d (.tuple [.int 6, .int 0, .int 0]), ds) := by kernel_rfl
theorem lm3_1 (ds : Option DS) : f_law_marks [.d (.int 3), .d gr3_1] ds = some (.d (.tuple [.int 3, .int 1, .int 0]), ds) := by kernel_rfl
theorem lm3_2 (ds : Option DS) : f_law_marks [.d (.int 3), .d gr3_2] ds = some (.d (.tuple [.int 2, .int 0, .int 2]), ds) := by kernel_rfl
theorem lm3_3 (ds : Option DS) : f_law_marks [.d (.int 3), .d gr3_3] ds = some (.d (.tuple [.int 1, .int 1, .int 1]), ds) := by kernel_rfl
end Fw.L
end TLM3
section TLM4
namespace Fw.L
open PySem PySem.W PyProof.Rows

theorem lm4_0 (ds : Option DS) : f_law_marks [.d (.int 4), .d gr4_0] ds = some (.d (.tuple [.int 24, .int 0, .int 0, .int 0, .int 0]), ds) := by kernel_rfl
theorem lm4_1 (ds : Option DS) : f_law_marks [.d (.int 4), .d gr4_1] ds = some (.d (.tuple [.int 12, .int 2, .int 0, .int 0, .int 0]), ds) := by kernel_rfl
theorem lm4_2 (ds : Option DS) : f_law_marks [.d (.int 4), .d gr4_2] ds = some (.d (.tuple [.int 12, .int 0, .int 4, .int 0, .int 0]), ds) := by kernel_rfl
theorem lm4_3 (ds : Option DS) : f_law_marks [.d (.int 4), .d gr4_3] ds = some (.d (.tuple [.int 8, .int 0, .int 0, .int 2, .int 0]), ds) := by kernel_rfl
theorem lm4_4 (ds : Option DS) : f_law_marks [.d (.int 4), .d gr4_4] ds = some (.d (.tuple [.int 6, .int 2, .int 2, .int 0, .int 0]), ds) := by kernel_rfl
theorem lm4_5 (ds : Option DS) : f_law_marks [.d (.int 4), .d gr4_5] ds = some (.d (.tuple [.int 6, .int 0, .int 6, .int 0, .int 0]), ds) := by kernel_rfl
theorem lm4_6 (ds : Option DS) : f_law_marks [.d (.int 4), .d gr4_6] ds = some (.d (.tuple [.int 6, .int 0, .int 2, .int 0, .int 2]), ds) := by kernel_rfl
theorem lm4_7 (ds : Option DS) : f_law_marks [.d (.int 4), .d gr4_7] ds = some (.d (.tuple [.int 4, .int 2, .int 0, .int 1, .int 0]), ds) := by kernel_rfl
theorem lm4_8 (ds : Option DS) : f_law_marks [.d (.int 4), .d gr4_8] ds = some (.d (.tuple [.int 3, .int 1, .int 3, .int 0, .int 1]), ds) := by kernel_rfl
theorem lm4_9 (ds : Option DS) : f_law_marks [.d (.int 4), .d gr4_9] ds = some (.d (.tuple [.int 2, .int 0, .int 2, .int 2, .int 0]), ds) := by kernel_rfl
theorem lm4_10 (ds : Option DS) : f_law_marks [.d (.int 4), .d gr4_10] ds = some (.d (.tuple [.int 1, .int 1, .int 1, .int 1, .int 1]), ds) := by kernel_rfl
end Fw.L
end TLM4
section TQN
namespace Fw.L
open PySem PySem.Spec PySem.W PyProof.Rows L2
theorem lw0 : ∀ p ∈ gm0, ∀ ds, f_law_marks [.d (nD 0), .d p.1] ds = some (.d (ti p.2), ds) := fun p hp ds => by
  simp only [gm0, List.mem_cons, List.not_mem_nil, or_false] at hp
  rcases hp with rfl
  · exact lm0_0 ds
theorem lw1 : ∀ p ∈ gm1, ∀ ds, f_law_marks [.d (nD 1), .d p.1] ds = some (.d (ti p.2), ds) := fun p hp ds => by
  simp only [gm1, List.mem_cons, List.not_mem_nil, or_false] at hp
  rcases hp with rfl
  · exact lm1_0 ds
theorem lw2 : ∀ p ∈ gm2, ∀ ds, f_law_marks [.d (nD 2), .d p.1] ds = some (.d (ti p.2), ds) := fun p hp ds => by
  simp only [gm2, List.mem_cons, List.not_mem_nil, or_false] at hp
  rcases hp with rfl | rfl
  · exact lm2_0 ds
  · exact lm2_1 ds
theorem lw3 : ∀ p ∈ gm3, ∀ ds, f_law_marks [.d (nD 3), .d p.1] ds = some (.d (ti p.2), ds) := fun p hp ds => by
  simp only [gm3, List.mem_cons, List.not_mem_nil, or_false] at hp
  rcases hp with rfl | rfl | rfl | rfl
  · exact lm3_0 ds
  · exact lm3_1 ds
  · exact lm3_2 ds
  · exact lm3_3 ds
theorem lw4 : ∀ p ∈ gm4, ∀ ds, f_law_marks [.d (nD 4), .d p.1] ds = some (.d (ti p.2), ds) := fun p hp ds => by
  simp only [gm4, List.mem_cons, List.not_mem_nil, or_false] at hp
  rcases hp with rfl | rfl | rfl | rfl | rfl | rfl | rfl | rfl | rfl | rfl | rfl
  · exact lm4_0 ds
  · exact lm4_1 ds
  · exact lm4_2 ds
  · exact lm4_3 ds
  · exact lm4_4 ds
  · exact lm4_5 ds
  · exact lm4_6 ds
  · exact lm4_7 ds
  · exact lm4_8 ds
  · exact lm4_9 ds
  · exact lm4_10 ds
theorem on0 : ∀ a < 6, go (Rw gm0) (num 1 (Rw gm0) [((a : Nat) : Int)]) = [[((a : Nat) : Int)]] ∧ ∀ x ∈ num 1 (Rw gm0) [((a : Nat) : Int)], 0 ≤ x ∧ x ≤ 24 := by decide +kernel
theorem on1 : ∀ a < 6, go (Rw gm1) (num 1 (Rw gm1) [((a : Nat) : Int)]) = [[((a : Nat) : Int)]] ∧ ∀ x ∈ num 1 (Rw gm1) [((a : Nat) : Int)], 0 ≤ x ∧ x ≤ 24 := by decide +kernel
theorem on2 : ∀ a < 6, ∀ b < 6, go (Rw gm2) (num 2 (Rw gm2) [((a : Nat) : Int), ((b : Nat) : Int)]) = [[((a : Nat) : Int), ((b : Nat) : Int)]] ∧ ∀ x ∈ num 2 (Rw gm2) [((a : Nat) : Int), ((b : Nat) : Int)], 0 ≤ x ∧ x ≤ 24 := by decide +kernel
theorem nat6 {x : Int} (h : 0 ≤ x ∧ x ≤ 5) : ∃ n < 6, x = ((n : Nat) : Int) := ⟨x.toNat, by omega, by omega⟩
theorem oo0 (cs : List Int) (hl : cs.length = gm0.length) (h : ∀ x ∈ cs, 0 ≤ x ∧ x ≤ 5) : go (gm0.map (·.2)) (num 1 (gm0.map (·.2)) cs) = [cs] ∧ Sm (num 1 (gm0.map (·.2)) cs) := by
  match cs, hl with
  | [a], _ =>
    obtain ⟨k, hk, rfl⟩ := nat6 (h a (by simp))
    exact on0 k hk
theorem oo1 (cs : List Int) (hl : cs.length = gm1.length) (h : ∀ x ∈ cs, 0 ≤ x ∧ x ≤ 5) : go (gm1.map (·.2)) (num 1 (gm1.map (·.2)) cs) = [cs] ∧ Sm (num 1 (gm1.map (·.2)) cs) := by
  match cs, hl with
  | [a], _ =>
    obtain ⟨k, hk, rfl⟩ := nat6 (h a (by simp))
    exact on1 k hk
theorem oo2 (cs : List Int) (hl : cs.length = gm2.length) (h : ∀ x ∈ cs, 0 ≤ x ∧ x ≤ 5) : go (gm2.map (·.2)) (num 2 (gm2.map (·.2)) cs) = [cs] ∧ Sm (num 2 (gm2.map (·.2)) cs) := by
  match cs, hl with
  | [a, b], _ =>
    obtain ⟨k, hk, rfl⟩ := nat6 (h a (by simp))
    obtain ⟨j, hj, rfl⟩ := nat6 (h b (by simp))
    exact on2 k hk j hj
theorem sz_each : ∀ z, z < 3 → ∃ mm gm, SzG z mm gm
  | 0, _ => ⟨1, gm0, ⟨so0, by decide, by decide, sr0, by unfold SmallI; decide, by decide, by decide, sg0, sc0, lw0, oo0⟩⟩
  | 1, _ => ⟨1, gm1, ⟨so1, by decide, by decide, sr1, by unfold SmallI; decide, by decide, by decide, sg1, sc1, lw1, oo1⟩⟩
  | 2, _ => ⟨2, gm2, ⟨so2, by decide, by decide, sr2, by unfold SmallI; decide, by decide, by decide, sg2, sc2, lw2, oo2⟩⟩
  | n + 3, h => absurd h (by omega)
def sE : M Oc := (seqM (ifM (orB (notB (isiM [.tuple] (varV 6))) (orB (cmp2 (biM (biD .len) (consP (varV 6) (pure []))) (pure (.d (.int 2))) .ne) (callM f_law_is [] (consA (bin2 (varV 6) (pure (.d (.int 0))) ixR) (consA (bin2 (varV 6) (pure (.d (.int 1))) ixR) (pure [])))))) (retM (pure (.d (.bool false)))) (pure .nx))
  (seqM (forS (.nm 4) (itQ (varV 6)) (ifM (orB (notB (isiM [.tuple] (varV 4))) (orB (cmp2 (biM (biD .len) (consP (varV 4) (pure []))) (biM (biD .len) (consP (varV 5) (pure []))) .ne) (cmp2 (lcM [9] (.nm 9) (itQ (varV 4)) (orB (notB (isiM [.int] (varV 9))) (orB (isiM [.bool] (varV 9)) (cmp2 (varV 9) (pure (.d (.int 0))) .lt))) (pure (.d (.int 1)))) (lstM (pure [])) .ne))) (retM (pure (.d (.bool false)))) (pure .nx)))
  (ifM (cmp2 (callM f_law_sums [] (consA (varV 5) (consA (bin2 (varV 6) (pure (.d (.int 0))) ixR) (pure [])))) (callM f_law_sums [] (consA (varV 5) (consA (bin2 (varV 6) (pure (.d (.int 1))) ixR) (pure [])))) .ne) (retM (pure (.d (.bool false)))) (pure .nx))))
def sB : M Oc := (seqM (par2M 5 6 (lcM [7] (.nm 7) (itQ (callM f_groups [] (consA (varV 2) (pure [])))) yesM (callM f_law_marks [] (consA (varV 2) (consA (varV 7) (pure []))))) (callM f_like_makes [] (consA (varV 2) (pure [])))) sE)
def sT : D → M Oc := fun x => do
  asgM (.nm 2) x
  sB
theorem se3 (S0 a3 a4 : Option Sl) (ds : Option DS) : sE (eG S0 (nS 3) a3 a4 (some (.ol [.tuple [.int 6, .int 0, .int 0], .tuple [.int 3, .int 1, .int 0], .tuple [.int 2, .int 0, .int 2], .tuple [.int 1, .int 1, .int 1]])) (dS (.tuple [ti fi3, ti [0, 2, 1, 0]])), ds) = some (.nx, (eG S0 (nS 3) a3 (dS (ti [0, 2, 1, 0])) (dS (.list [.tuple [.int 6, .int 0, .int 0], .tuple [.int 3, .int 1, .int 0], .tuple [.int 2, .int 0, .int 2], .tuple [.int 1, .int 1, .int 1]])) (dS (.tuple [ti fi3, ti [0, 2, 1, 0]])), ds)) := by kernel_rfl
theorem sl3 (S0 a3 a4 a5 a6 : Option Sl) (ds : Option DS) : callM f_like_makes [] (consA (varV 2) (pure [])) (eG S0 (nS 3) a3 a4 a5 a6, ds) = some (.d (.tuple [ti fi3, ti [0, 2, 1, 0]]), (eG S0 (nS 3) a3 a4 a5 a6, ds)) :=
  call_r (as := [.d (nD 3)]) (c1 := (eG S0 (nS 3) a3 a4 a5 a6, ds)) rfl (like3 ds)
theorem sw3 (S0 a3 a4 a5 a6 : Option Sl) (ds : Option DS) : lcM [7] (.nm 7) (itQ (callM f_groups [] (consA (varV 2) (pure [])))) yesM (callM f_law_marks [] (consA (varV 2) (consA (varV 7) (pure [])))) (eG S0 (nS 3) a3 a4 a5 a6, ds) = some (.fl [.tuple [.int 6, .int 0, .int 0], .tuple [.int 3, .int 1, .int 0], .tuple [.int 2, .int 0, .int 2], .tuple [.int 1, .int 1, .int 1]], (eG S0 (nS 3) a3 a4 a5 a6, ds)) := by
  have hw := w_lines (S0 := S0) (a3 := a3) (a4 := a4) (a5 := a5) (a6 := a6) (ds := ds) so3 lw3
  rw [kf3] at hw
  exact hw
theorem sq3 {F : Fun} {ml : M Rv} (S0 a3 a4 a5 a6 : Option Sl) (ds : Option DS) (h1 : ml (eG S0 (nS 3) a3 a4 a5 a6, ds) = some (.fl [.tuple [.int 6, .int 0, .int 0], .tuple [.int 3, .int 1, .int 0], .tuple [.int 2, .int 0, .int 2], .tuple [.int 1, .int 1, .int 1]], (eG S0 (nS 3) a3 a4 a5 a6, ds)))
    (h2 : callM F [] (consA (varV 2) (pure [])) (eG S0 (nS 3) a3 a4 a5 a6, ds) = some (.d (.tuple [ti fi3, ti [0, 2, 1, 0]]), (eG S0 (nS 3) a3 a4 a5 a6, ds))) :
    par2M 5 6 ml (callM F [] (consA (varV 2) (pure []))) (eG S0 (nS 3) a3 a4 a5 a6, ds) = some (.nx, (eG S0 (nS 3) a3 a4 (some (.ol [.tuple [.int 6, .int 0, .int 0], .tuple [.int 3, .int 1, .int 0], .tuple [.int 2, .int 0, .int 2], .tuple [.int 1, .int 1, .int 1]])) (dS (.tuple [ti fi3, ti [0, 2, 1, 0]])), ds)) :=
  par2_r (kept_r h1 rfl) (kept_r h2 rfl) rfl rfl rfl rfl
theorem st3 (S0 a2 a3 a4 a5 a6 : Option Sl) (ds : Option DS) : ∃ p4 p5 p6, sT (nD 3) (eG S0 a2 a3 a4 a5 a6, ds) = some (.nx, (eG S0 (nS 3) a3 p4 p5 p6, ds)) :=
  ⟨_, _, _, bind_r (c1 := (eG S0 (nS 3) a3 a4 a5 a6, ds)) (z := ()) (asg_r rfl) (seq_r (sq3 S0 a3 a4 a5 a6 ds (sw3 S0 a3 a4 a5 a6 ds) (sl3 S0 a3 a4 a5 a6 ds)) (se3 S0 a3 a4 ds))⟩
theorem se4 (S0 a3 a4 : Option Sl) (ds : Option DS) : sE (eG S0 (nS 4) a3 a4 (some (.ol [.tuple [.int 24, .int 0, .int 0, .int 0, .int 0], .tuple [.int 12, .int 2, .int 0, .int 0, .int 0], .tuple [.int 12, .int 0, .int 4, .int 0, .int 0], .tuple [.int 8, .int 0, .int 0, .int 2, .int 0], .tuple [.int 6, .int 2, .int 2, .int 0, .int 0], .tuple [.int 6, .int 0, .int 6, .int 0, .int 0], .tuple [.int 6, .int 0, .int 2, .int 0, .int 2], .tuple [.int 4, .int 2, .int 0, .int 1, .int 0], .tuple [.int 3, .int 1, .int 3, .int 0, .int 1], .tuple [.int 2, .int 0, .int 2, .int 2, .int 0], .tuple [.int 1, .int 1, .int 1, .int 1, .int 1]])) (dS (.tuple [ti fi4, ti [0, 1, 0, 1, 0, 0, 1, 0, 0, 0, 0]])), ds) = some (.nx, (eG S0 (nS 4) a3 (dS (ti [0, 1, 0, 1, 0, 0, 1, 0, 0, 0, 0])) (dS (.list [.tuple [.int 24, .int 0, .int 0, .int 0, .int 0], .tuple [.int 12, .int 2, .int 0, .int 0, .int 0], .tuple [.int 12, .int 0, .int 4, .int 0, .int 0], .tuple [.int 8, .int 0, .int 0, .int 2, .int 0], .tuple [.int 6, .int 2, .int 2, .int 0, .int 0], .tuple [.int 6, .int 0, .int 6, .int 0, .int 0], .tuple [.int 6, .int 0, .int 2, .int 0, .int 2], .tuple [.int 4, .int 2, .int 0, .int 1, .int 0], .tuple [.int 3, .int 1, .int 3, .int 0, .int 1], .tuple [.int 2, .int 0, .int 2, .int 2, .int 0], .tuple [.int 1, .int 1, .int 1, .int 1, .int 1]])) (dS (.tuple [ti fi4, ti [0, 1, 0, 1, 0, 0, 1, 0, 0, 0, 0]])), ds)) := by kernel_rfl
theorem sl4 (S0 a3 a4 a5 a6 : Option Sl) (ds : Option DS) : callM f_like_makes [] (consA (varV 2) (pure [])) (eG S0 (nS 4) a3 a4 a5 a6, ds) = some (.d (.tuple [ti fi4, ti [0, 1, 0, 1, 0, 0, 1, 0, 0, 0, 0]]), (eG S0 (nS 4) a3 a4 a5 a6, ds)) :=
  call_r (as := [.d (nD 4)]) (c1 := (eG S0 (nS 4) a3 a4 a5 a6, ds)) rfl (like4 ds)
theorem sw4 (S0 a3 a4 a5 a6 : Option Sl) (ds : Option DS) : lcM [7] (.nm 7) (itQ (callM f_groups [] (consA (varV 2) (pure [])))) yesM (callM f_law_marks [] (consA (varV 2) (consA (varV 7) (pure [])))) (eG S0 (nS 4) a3 a4 a5 a6, ds) = some (.fl [.tuple [.int 24, .int 0, .int 0, .int 0, .int 0], .tuple [.int 12, .int 2, .int 0, .int 0, .int 0], .tuple [.int 12, .int 0, .int 4, .int 0, .int 0], .tuple [.int 8, .int 0, .int 0, .int 2, .int 0], .tuple [.int 6, .int 2, .int 2, .int 0, .int 0], .tuple [.int 6, .int 0, .int 6, .int 0, .int 0], .tuple [.int 6, .int 0, .int 2, .int 0, .int 2], .tuple [.int 4, .int 2, .int 0, .int 1, .int 0], .tuple [.int 3, .int 1, .int 3, .int 0, .int 1], .tuple [.int 2, .int 0, .int 2, .int 2, .int 0], .tuple [.int 1, .int 1, .int 1, .int 1, .int 1]], (eG S0 (nS 4) a3 a4 a5 a6, ds)) := by
  have hw := w_lines (S0 := S0) (a3 := a3) (a4 := a4) (a5 := a5) (a6 := a6) (ds := ds) so4 lw4
  rw [kf4] at hw
  exact hw
theorem sq4 {F : Fun} {ml : M Rv} (S0 a3 a4 a5 a6 : Option Sl) (ds : Option DS) (h1 : ml (eG S0 (nS 4) a3 a4 a5 a6, ds) = some (.fl [.tuple [.int 24, .int 0, .int 0, .int 0, .int 0], .tuple [.int 12, .int 2, .int 0, .int 0, .int 0], .tuple [.int 12, .int 0, .int 4, .int 0, .int 0], .tuple [.int 8, .int 0, .int 0, .int 2, .int 0], .tuple [.int 6, .int 2, .int 2, .int 0, .int 0], .tuple [.int 6, .int 0, .int 6, .int 0, .int 0], .tuple [.int 6, .int 0, .int 2, .int 0, .int 2], .tuple [.int 4, .int 2, .int 0, .int 1, .int 0], .tuple [.int 3, .int 1, .int 3, .int 0, .int 1], .tuple [.int 2, .int 0, .int 2, .int 2, .int 0], .tuple [.int 1, .int 1, .int 1, .int 1, .int 1]], (eG S0 (nS 4) a3 a4 a5 a6, ds)))
    (h2 : callM F [] (consA (varV 2) (pure [])) (eG S0 (nS 4) a3 a4 a5 a6, ds) = some (.d (.tuple [ti fi4, ti [0, 1, 0, 1, 0, 0, 1, 0, 0, 0, 0]]), (eG S0 (nS 4) a3 a4 a5 a6, ds))) :
    par2M 5 6 ml (callM F [] (consA (varV 2) (pure []))) (eG S0 (nS 4) a3 a4 a5 a6, ds) = some (.nx, (eG S0 (nS 4) a3 a4 (some (.ol [.tuple [.int 24, .int 0, .int 0, .int 0, .int 0], .tuple [.int 12, .int 2, .int 0, .int 0, .int 0], .tuple [.int 12, .int 0, .int 4, .int 0, .int 0], .tuple [.int 8, .int 0, .int 0, .int 2, .int 0], .tuple [.int 6, .int 2, .int 2, .int 0, .int 0], .tuple [.int 6, .int 0, .int 6, .int 0, .int 0], .tuple [.int 6, .int 0, .int 2, .int 0, .int 2], .tuple [.int 4, .int 2, .int 0, .int 1, .int 0], .tuple [.int 3, .int 1, .int 3, .int 0, .int 1], .tuple [.int 2, .int 0, .int 2, .int 2, .int 0], .tuple [.int 1, .int 1, .int 1, .int 1, .int 1]])) (dS (.tuple [ti fi4, ti [0, 1, 0, 1, 0, 0, 1, 0, 0, 0, 0]])), ds)) :=
  par2_r (kept_r h1 rfl) (kept_r h2 rfl) rfl rfl rfl rfl
theorem st4 (S0 a2 a3 a4 a5 a6 : Option Sl) (ds : Option DS) : ∃ p4 p5 p6, sT (nD 4) (eG S0 a2 a3 a4 a5 a6, ds) = some (.nx, (eG S0 (nS 4) a3 p4 p5 p6, ds)) :=
  ⟨_, _, _, bind_r (c1 := (eG S0 (nS 4) a3 a4 a5 a6, ds)) (z := ()) (asg_r rfl) (seq_r (sq4 S0 a3 a4 a5 a6 ds (sw4 S0 a3 a4 a5 a6 ds) (sl4 S0 a3 a4 a5 a6 ds)) (se4 S0 a3 a4 ds))⟩
def fB : M Rv := (orB (cmp2 (lcM [2] (.nm 2) (itR (pure (.d (.int 2)))) yesM (callM f_like_makes [] (consA (varV 2) (pure [])))) (lstM (consL (pure (.d .none)) (consL (pure (.d .none)) (pure [])))) .ne) (cmp2 (callK f_like_makes (pure []) (consA (pure (.d (.int 2))) (pure []))) (pure (.d .none)) .isnot))
theorem first_ok (S0 : Option Sl) (ds : Option DS) : fB (eG S0 none none none none none, ds) = some (.d (.bool false), (eG S0 none none none none none, ds)) := by kernel_rfl
abbrev mostN : Nat := 63
theorem law_ok (ns : List Int) (hn : ns.length ≤ mostN) : ∃ d', f_law [.d (.list (ns.map PyData.int))] none = some (.d (.bool true), d') := by
  have lb := line_huge
  have hn : ns.length ≤ 63 := hn
  have hlen : biD .len [.list (ns.map PyData.int)] = some (.d (nD ns.length)) := by
    show some (Rv.d (.int ((ns.map PyData.int).length : Int))) = _
    rw [List.length_map]
  obtain ⟨n, hn1, hn2⟩ : ∃ n : Nat, n ≤ 10 ∧ ((4 : Int) + (if (6 : Int) < (ns.length : Int) then (6 : Int) else (ns.length : Int))) = ((n : Nat) : Int) := by
    split
    · exact ⟨10, by omega, by omega⟩
    · exact ⟨4 + ns.length, by omega, by omega⟩
  have hmin : minF [nD ns.length, .int 6] = some (.d (.int (if (6 : Int) < (ns.length : Int) then (6 : Int) else (ns.length : Int)))) := rfl
  have hadd : binD .add (.int 4) (.int (if (6 : Int) < (ns.length : Int) then (6 : Int) else (ns.length : Int))) = some (.d (nD n)) := by
    show some (Rv.d (.int ((4 : Int) + (if (6 : Int) < (ns.length : Int) then (6 : Int) else (ns.length : Int))))) = _
    rw [hn2]
  have hbig : bigI (n : Int) = true := by
    unfold bigI
    rw [decide_eq_true (by omega), decide_eq_true (by omega)]
    rfl
  have hrl : (rangeD 0 (n : Int)).length = n := by
    unfold rangeD
    rw [List.length_map, List.length_range]
    omega
  obtain ⟨b4, b5, b6, hb⟩ := st3 (dS (.list (ns.map PyData.int))) none none none none none (some (begunD ns))
  obtain ⟨c4, c5, c6, hcc⟩ := st4 (dS (.list (ns.map PyData.int))) (nS 3) none b4 b5 b6 (some (begunD ns))
  obtain ⟨c', h1, h2⟩ := forM_inv (body := lT) (fun k c => ShL (dS (.list (ns.map PyData.int))) (20 * k) c) (rangeD 0 (n : Int)) 0 (eG (dS (.list (ns.map PyData.int))) (nS 4) none c4 c5 c6, some (begunD ns))
    ⟨nS 4, none, c4, c5, c6, begunD ns, rfl, Nat.zero_le _⟩
    (fun i x hx c hc => by
      have hi : i < (rangeD 0 (n : Int)).length := by
        rcases Nat.lt_or_ge i (rangeD 0 (n : Int)).length with h | h
        · exact h
        · rw [List.getElem?_eq_none h] at hx; cases hx
      obtain ⟨c', g1, g2⟩ := l_turn sz_each (t := 20 * (0 + i)) (by omega) hc x
      exact ⟨c', g1, by rw [show 20 * (0 + i + 1) = 20 * (0 + i) + 20 by omega]; exact g2⟩)
  obtain ⟨a2, a3, a4, a5, a6, s, rfl, _⟩ := h2
  refine ⟨some s, run_rt (e := eG (dS (.list (ns.map PyData.int))) a2 a3 a4 a5 a6) rfl ?_⟩
  refine seq_r (set_r (call_r (consA_r rfl rfl rfl) (f_begun ns (by omega))) rfl) ?_
  refine seq_r (if_f (first_ok _ _) rfl) ?_
  refine seq_r (for_r (itQ_r (lst_r (consL_r rfl rfl (consL_r rfl rfl rfl)) (by show 2 ≤ line; omega)) rfl rfl) (forM_cons hb (forM_cons hcc rfl))) ?_
  refine seq_r (for_r (itR_r (bin2_r rfl (bi2_r (bi1_r rfl rfl hlen) rfl rfl rfl hmin) rfl rfl hadd) hbig) h1) ?_
  exact ret_r rfl rfl
end Fw.L
end TQN
section TE69
namespace Fw.L
open PySem PySem.Spec PyProof.Rows L2
abbrev R : PySem.W.OpenRow := PySem.W.OpenLaw.row PySem.Challenge.rw_makebook_k69_whole_like_makes
abbrev qv : Program := PySem.W.view R.prog [45]
abbrev hk : PySem.W.Hook := hookF 8 fa fn cs
def ob (s : PySem.W.SharedT) : He.AlD := obsFG 8 fa fn cs (HandSHeadRun.getT s)
theorem ob_eq (s : PySem.W.SharedT) : ob s = hk.obs s.abs := obsFG_eq (HandSHeadRun.getT_eq s)
def names0 : List PySem.Str := ["MakeError", "NoNumber", "NoSize", "is_whole", "is_below", "MOST_SIZE_types1", "is_longest", "need_longest", "types_within", "types_of", "types", "MOST_SIZE_marks5", "MOST_MAKES", "MAKERS", "need_size", "orders_of", "then", "undone_order", "closed", "groups_of", "groups", "lengths_of", "sized", "marks_of", "marks", "makes_of", "makes", "like_makes", "_law_begun", "_law_mixed"]
def names1 : List PySem.Str := ["_law_draw", "_law_plain", "_law_is", "_law_parts_of", "_law_orders", "_law_after", "_law_lengths", "_law_sized", "_law_marks", "_law_sums"]
def names : List PySem.Str := names0 ++ names1
theorem run (w : World) : HandSHeadRun.RunEq R qv hk ob 4000 names w := by
  intro os
  kernel_rfl
end Fw.L
open PySem PySem.W PySem.Calls PyProof.Rows
theorem PySem.Challenge.cw_makebook_k69_whole_like_makes_holds : PySem.Challenge.rw_makebook_k69_whole_like_makes.Holds := by
  w_on; o_law
  refine HandSHeadRun.head_any (r := OpenLaw.row PySem.Challenge.rw_makebook_k69_whole_like_makes) (q := Fw.L.qv) (H := Fw.L.hk) (ob := Fw.L.ob) (M := 4000) (loose := Fw.L.names) (d := HandSHeadRun.topDef (OpenLaw.row PySem.Challenge.rw_makebook_k69_whole_like_makes).prog 45) (kwd := []) Fw.L.ob_eq
    (by kernel_rfl) (fun s => by kernel_rfl) Fw.L.run (by kernel_rfl) (by kernel_rfl) (by kernel_rfl) (by rfl) (by first | assumption | decide +kernel) (by decide +kernel) ⟨rfl, rfl, rfl, rfl, rfl, by decide +kernel⟩ ?hw ?hc
  case hw => w_witness2
  case hc =>
    refine Fw.walk_end (l := PySem.Challenge.rw_makebook_k69_whole_like_makes) (n := Fw.L.mostN) (k := 16) (x := "script") (fn := Fw.L.f_law) rfl (by decide) (by kernel_rfl) ⟨rfl, by decide, by decide⟩ ?F Fw.L.law_ok
    intro w mg fa h Y G hmg0
    obtain ⟨K, KX, c⟩ := Y
    have T := Fw.L.facts (w := w) c KX G
    obtain ⟨f, fd, F, g⟩ := T.d_law
    have hmg : mg ("law" : PySem.Str) = some (.ref fa) := by
      have e : (HandSHeadRun.topDef (OpenLaw.row PySem.Challenge.rw_makebook_k69_whole_like_makes).prog 45).name = ("law" : PySem.Str) := by kernel_rfl
      rw [← e]
      exact hmg0
    cases g.symm.trans hmg
    have b := L2.FunD.bindsA (ps := ["script"]) F fun _ _ _ _ _ _ us hl => match us, hl with | [_], _ => rfl
    exact ⟨K, fd, KX, fun s v => b s [v] rfl, fun base _ _ => Fw.L.ok_law (P := (PySem.Challenge.rw_makebook_k69_whole_like_makes).prog) T base fa fd F⟩
end TE69
