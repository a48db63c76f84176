import PyProof.Rows.All
import Wide.All
import OpenK.AllK
import Wide.FinOn
import HandS.ForMost
import HandS.ForExc
import HandS.Flow
import HandS.SortInts
import HandS.SetKeys
import HandS.DictTup
import HandS.DictComp
import HandS.StrMore
import HandS.Style
import HandS.RevRange
import HandS.Rev
import HandS.Zip
import HandS.TupAny
import HandS.TupLe
import HandS.CallSlots
import HandS.Wide
import HandS.TupLen
import HandS.Replace
import KE.GoesMore
import KE.KEqDict
import KE.KDictSum
import HandS.SortRule
import HandS.ExcOwn
import HandS.WordsExc
import HandS.Defaults
import HandS.Head0
import HandS.Head1
import HandS.Head2
import HandS.HeadEnd
import HandS.HeadHook1
import HandS.HeadHook2
import HandS.HeadHook3
import HandS.HeadHook4
import KE.KExcSuper
import PyProof.Rows.StrDigits
import HandS.HeadWalk
import PySem.Challenge.RW_knotsooth_k54_texts_of_polynomials
set_option Elab.async false
section
set_option linter.all false
set_option maxRecDepth 100000
/-! Pv1: plain data, the store, the meanings of the constructs (a shallow evaluator). Core Lean alone. -/
namespace Pv

/-- data that never changes any more -/
inductive D where
  | non | bl (b : Bool) | int (i : Int) | str (x : List Nat) | tup (xs : List D) | lst (xs : List D) | scr (xs : List D) | dct (tk : Bool) (kvs : List (D × D))
/-- a value: data, or a thing of the store -/
inductive W where
  | d (x : D) | ref (i : Nat)
inductive Th where
  | lst (ws : List W) | dct (tk : Bool) (kvs : List (D × W))
abbrev Store := List Th
abbrev En := List (Option W)
/-- an exception: its class by number, its argument -/
structure Xc where
  c : Nat
  a : D
inductive P where
  | ok (d : D) | exc (x : Xc) | stuck
inductive R (α : Type) where
  | ok (a : α) (S : Store) | exc (x : Xc) (S : Store) | stuck
inductive SO where
  | nx (e : En) (S : Store) | rt (w : W) (S : Store) | bk (e : En) (S : Store) | ct (e : En) (S : Store) | exc (x : Xc) (e : En) (S : Store) | stuck

def R.bind {α β : Type} (r : R α) (f : α → Store → R β) : R β :=
  match r with
  | .ok a S => f a S
  | .exc x S => .exc x S
  | .stuck => .stuck

abbrev EV := En → Store → R W
abbrev TV := En → Store → R Bool
abbrev SV := En → Store → SO
/-- a target: what it makes of a value -/
abbrev GV := W → En → Store → R En

/-! ### lists -/
/-- below the line of sizes -/
def small {α : Type} (xs : List α) : Bool := Nat.ble xs.length 16777216
def smallN (n : Nat) : Bool := Nat.ble n 16777216
def atL {α : Type} (xs : List α) : Int → Option α
  | .ofNat n => xs[n]?
  | .negSucc n => if Nat.ble (n + 1) xs.length then xs[xs.length - (n + 1)]? else none
/-- the place of an index in a list of n items -/
def plN (n : Nat) : Int → Option Nat
  | .ofNat k => if Nat.blt k n then some k else none
  | .negSucc k => if Nat.ble (k + 1) n then some (n - (k + 1)) else none
/-- a slice's bound: clipped -/
def clip (n d : Nat) : Option Int → Nat
  | none => d
  | some (.ofNat k) => min k n
  | some (.negSucc k) => n - (k + 1)
def cut {α : Type} (xs : List α) (lo hi : Option Int) : List α :=
  (xs.drop (clip xs.length 0 lo)).take (clip xs.length xs.length hi - clip xs.length 0 lo)
def rangeD (lo : Int) : Nat → List W
  | 0 => []
  | n + 1 => .d (.int lo) :: rangeD (lo + 1) n
def rangeC (lo c : Int) : Nat → List W
  | 0 => []
  | n + 1 => .d (.int lo) :: rangeC (lo + c) c n

/-! ### equality of data (as Python compares) -/
mutual
def eqD : D → D → Bool
  | .non, .non => true
  | .bl a, .bl b => a == b
  | .bl a, .int j => (if a then 1 else 0) == j
  | .int i, .bl b => i == (if b then 1 else 0)
  | .int i, .int j => i == j
  | .str x, .str y => x == y
  | .lst xs, .lst ys => eqDs xs ys
  | .tup xs, .tup ys => eqDs xs ys
  | _, _ => false
def eqDs : List D → List D → Bool
  | [], [] => true
  | x :: xs, y :: ys => eqD x y && eqDs xs ys
  | _, _ => false
end
mutual
/-- no dict within, of a depth below n, texts of plain signs -/
def shp : Nat → D → Bool
  | _, .non => true
  | _, .bl _ => true
  | _, .int _ => true
  | _, .str x => x.all fun c => Nat.blt c 1114112
  | n + 1, .tup xs => shps n xs
  | n + 1, .lst xs => shps n xs
  | _, _ => false
def shps : Nat → List D → Bool
  | _, [] => true
  | n, x :: xs => shp n x && shps n xs
end
/-- flat things -/
def flatD : D → Bool
  | .non => true
  | .bl _ => true
  | .int _ => true
  | .str _ => true
  | _ => false
/-- a key of a dict: an int, a text -/
def keyD : D → Bool
  | .int _ => true
  | .str _ => true
  | _ => false
/-- a tuple of ints and texts, none of those at kt (the tuples that the module's top has made) -/
def keyT (kt : List (List D)) : D → Bool
  | .tup xs => xs.all keyD && !(kt.any fun ys => eqDs xs ys)
  | _ => false
/-- equality of keys -/
def eqK : D → D → Bool
  | .int i, .int j => i == j
  | .str x, .str y => x == y
  | .tup xs, .tup ys => eqDs xs ys
  | _, _ => false
/-- no list and no dict within -/
def tupOnly : D → Bool
  | .tup xs => tupOnlys xs
  | .lst _ => false
  | .scr _ => false
  | .dct _ _ => false
  | _ => true
where tupOnlys : List D → Bool
  | [] => true
  | x :: xs => tupOnly x && tupOnlys xs

/-! ### dicts -/
def getK {α : Type} (kvs : List (D × α)) (k : D) : Option α :=
  match kvs with
  | [] => none
  | (k', v) :: r => if eqK k' k then some v else getK r k
def hasK {α : Type} (kvs : List (D × α)) (k : D) : Bool :=
  match kvs with
  | [] => false
  | (k', _) :: r => eqK k' k || hasK r k
def repK {α : Type} (kvs : List (D × α)) (k : D) (v : α) : List (D × α) :=
  match kvs with
  | [] => []
  | (k', v') :: r => (if eqK k' k then (k', v) else (k', v')) :: repK r k v
def putK {α : Type} (kvs : List (D × α)) (k : D) (v : α) : List (D × α) := if hasK kvs k then repK kvs k v else kvs ++ [(k, v)]
/-- a key of the dict's kind: plain, or a tuple -/
def okKey (kt : List (List D)) (tk : Bool) (k : D) : Bool := match tk with
  | false => keyD k
  | true => keyT kt k

/-! ### environments -/
def getV : En → Nat → Option W
  | [], _ => none
  | o :: _, 0 => o
  | _ :: r, n + 1 => getV r n
def setV : En → Nat → W → En
  | [], _, _ => []
  | _ :: r, 0, w => some w :: r
  | o :: r, n + 1, w => o :: setV r n w
def wipeV : En → List Nat → En
  | e, [] => e
  | e, v :: vs => (wipeV e vs).set v none

/-! ### the store -/
def getO : Store → Nat → Option Th
  | [], _ => none
  | o :: _, 0 => some o
  | _ :: r, n + 1 => getO r n
def setO : Store → Nat → Th → Store
  | [], _, _ => []
  | _ :: r, 0, o => o :: r
  | x :: r, n + 1, o => x :: setO r n o
/-- a value as data: a list or dict of the store is read off (all its items are data) -/
def unW : W → Option D
  | .d x => some x
  | .ref _ => none
def unWs : List W → Option (List D)
  | [] => some []
  | .d x :: r => (unWs r).map (x :: ·)
  | .ref _ :: _ => none
def unKW : List (D × W) → Option (List (D × D))
  | [] => some []
  | (k, .d x) :: r => (unKW r).map ((k, x) :: ·)
  | (_, .ref _) :: _ => none
def snap (S : Store) : W → Option D
  | .d x => some x
  | .ref i => match getO S i with
    | some (.lst ws) => (unWs ws).map .lst
    | some (.dct tk kvs) => (unKW kvs).map (.dct tk)
    | none => none
def isRef : W → Bool
  | .d _ => false
  | .ref _ => true

/-! ### expressions -/
def varE (i : Nat) : EV := fun e S => match getV e i with
  | some w => .ok w S
  | none => .stuck
def conE (x : D) : EV := fun _ S => .ok (.d x) S
def op1 (f : W → Store → R W) (a : EV) : EV := fun e S => (a e S).bind f
def op2 (f : W → W → Store → R W) (a b : EV) : EV := fun e S => (a e S).bind fun x S => (b e S).bind fun y S => f x y S
/-- an argument list, from the left -/
def argsF : List EV → En → Store → R (List W)
  | [], _, S => .ok [] S
  | a :: as, e, S => (a e S).bind fun x S => (argsF as e S).bind fun xs S => .ok (x :: xs) S

def dI (i : Int) (S : Store) : R W := .ok (.d (.int i)) S
def dB (b : Bool) (S : Store) : R W := .ok (.d (.bl b)) S

/-- the items of a list (of the store, or data) -/
def itemsL (S : Store) : W → Option (List W)
  | .d (.lst xs) => some (xs.map .d)
  | .ref i => match getO S i with
    | some (.lst ws) => some ws
    | _ => none
  | _ => none
/-- a list as data -/
def dataL (S : Store) : W → Option (List D)
  | .d (.lst xs) => some xs
  | .ref i => match getO S i with
    | some (.lst ws) => unWs ws
    | _ => none
  | _ => none
def addF : W → W → Store → R W
  | .d (.int i), .d (.int j), S => .ok (.d (.int (i + j))) S
  | .d (.str x), .d (.str y), S => if smallN (x.length + y.length) then .ok (.d (.str (x ++ y))) S else .stuck
  | .d (.tup x), .d (.tup y), S => if smallN (x.length + y.length) then .ok (.d (.tup (x ++ y))) S else .stuck
  | x, y, S => match dataL S x, dataL S y with
    | some xs, some ys => if smallN (xs.length + ys.length) then .ok (.d (.lst (xs ++ ys))) S else .stuck
    | _, _ => .stuck
def subF : W → W → Store → R W
  | .d (.int i), .d (.int j), S => .ok (.d (.int (i - j))) S
  | _, _, _ => .stuck
def small64 (i : Int) : Bool := decide (-18446744073709551616 < i) && decide (i < 18446744073709551616)
def wideM (i j : Int) : Bool := Nat.blt (i.natAbs.log2 + j.natAbs.log2) 1000000
def mulF : W → W → Store → R W
  | .d (.int i), .d (.int j), S => if small64 i || (small64 j || wideM i j) then .ok (.d (.int (i * j))) S else .stuck
  | x, .d (.int k), S => match dataL S x with
    | some xs => if decide (-16777216 < k) && decide (k < 16777216) && smallN (xs.length * k.toNat) then .ok (.d (.lst (List.replicate k.toNat xs).flatten)) S else .stuck
    | none => .stuck
  | _, _, _ => .stuck
def divF : W → W → Store → R W
  | .d (.int i), .d (.int j), S => if decide (0 < j) then (if Nat.blt j.natAbs.log2 9000 then .ok (.d (.int (i / j))) S else .stuck)
    else if decide (j ≠ 0) && Nat.blt j.natAbs 1073741824 then .ok (.d (.int (i.fdiv j))) S else .stuck
  | _, _, _ => .stuck
def modF : W → W → Store → R W
  | .d (.int i), .d (.int j), S => if decide (0 < j) then .ok (.d (.int (i % j))) S else if decide (j ≠ 0) then .ok (.d (.int (i.fmod j))) S else .stuck
  | _, _, _ => .stuck
def powF : W → W → Store → R W
  | .d (.int i), .d (.int j), S => if decide (0 ≤ j) && decide (j ≤ 1000) && decide (i.natAbs < 18446744073709551616) then .ok (.d (.int (i ^ j.toNat))) S else .stuck
  | _, _, _ => .stuck
def negF : W → Store → R W
  | .d (.int i), S => .ok (.d (.int (-i))) S
  | _, _ => .stuck
/-- == of two values, as a Bool -/
def eqW (S : Store) (x y : W) : Option Bool :=
  match x, y with
  | .d (.int i), .d (.int j) => some (i == j)
  | .d (.str x), .d (.str y) => some (x == y)
  | x, y => match snap S x, snap S y with
    | some a, some b => if shp 60 a && shp 60 b then some (eqD a b) else none
    | _, _ => none
def eqF (x y : W) (S : Store) : R Bool := match eqW S x y with
  | some b => .ok b S
  | none => .stuck
def neF (x y : W) (S : Store) : R Bool := match eqW S x y with
  | some b => .ok (!b) S
  | none => .stuck
def cmpF (p : Int → Int → Bool) : W → W → Store → R Bool
  | .d (.int i), .d (.int j), S => .ok (p i j) S
  | _, _, _ => .stuck
def ltF : W → W → Store → R Bool := cmpF fun i j => decide (i < j)
def leF : W → W → Store → R Bool := cmpF fun i j => decide (i ≤ j)
def gtF : W → W → Store → R Bool := cmpF fun i j => decide (j < i)
def geF : W → W → Store → R Bool := cmpF fun i j => decide (j ≤ i)
/-- is None -/
def isNon : W → Bool
  | .d .non => true
  | _ => false
def isNF (x : W) (S : Store) : R Bool := .ok (isNon x) S
def notNF (x : W) (S : Store) : R Bool := .ok (!isNon x) S
/-- one text within another -/
def subText (x : List Nat) : List Nat → Bool
  | [] => x.isEmpty
  | c :: r => x.isPrefixOf (c :: r) || subText x r
def inItems (x : D) : List D → Bool
  | [] => false
  | y :: r => eqD y x || inItems x r
def allFlat : List D → Bool
  | [] => true
  | x :: r => flatD x && allFlat r
/-- in -/
def inW (kt : List (List D)) (S : Store) (x y : W) : Option Bool :=
  match x, y with
  | .d (.str [c]), .d (.str z) => some (z.contains c)
  | .d a, .d (.dct tk kvs) => if okKey kt tk a then some (getK kvs a).isSome else none
  | .d a, .ref i => match getO S i with
    | some (.dct tk kvs) => if okKey kt tk a then some (getK kvs a).isSome else none
    | some (.lst ws) => match unWs ws with
      | some xs => if flatD a && allFlat xs then some (inItems a xs) else none
      | none => none
    | none => none
  | .d a, .d (.lst xs) => if flatD a && allFlat xs then some (inItems a xs) else none
  | .d a, .d (.tup xs) => if flatD a && allFlat xs then some (inItems a xs) else none
  | _, _ => none
def inF (kt : List (List D)) (x y : W) (S : Store) : R Bool := match inW kt S x y with
  | some b => .ok b S
  | none => .stuck
def notInF (kt : List (List D)) (x y : W) (S : Store) : R Bool := match inW kt S x y with
  | some b => .ok (!b) S
  | none => .stuck

/-- truth -/
def truW (S : Store) : W → Option Bool
  | .d .non => some false
  | .d (.bl b) => some b
  | .d (.int i) => some (i != 0)
  | .d (.str x) => if small x then some (!x.isEmpty) else none
  | .d (.tup xs) => some (!xs.isEmpty)
  | .d (.lst xs) => some (!xs.isEmpty)
  | .d (.scr _) => none
  | .d (.dct _ _) => none
  | .ref i => match getO S i with
    | some (.lst ws) => some (!ws.isEmpty)
    | _ => none

/-! tests: what `if` asks -/
def t2 (f : W → W → Store → R Bool) (a b : EV) : TV := fun e S => (a e S).bind fun x S => (b e S).bind fun y S => f x y S
def t1 (f : W → Store → R Bool) (a : EV) : TV := fun e S => (a e S).bind f
/-- a value's truth as a test -/
def truT (a : EV) : TV := fun e S => (a e S).bind fun x S => match truW S x with
  | some b => .ok b S
  | none => .stuck
def notT (a : TV) : TV := fun e S => (a e S).bind fun b S => .ok (!b) S
def andT (a b : TV) : TV := fun e S => (a e S).bind fun x S => match x with
  | true => b e S
  | false => .ok false S
def orT (a b : TV) : TV := fun e S => (a e S).bind fun x S => match x with
  | true => .ok true S
  | false => b e S
/-- a op b op' c -/
def chT (f g : W → W → Store → R Bool) (a b c : EV) : TV := fun e S => (a e S).bind fun x S => (b e S).bind fun y S => (f x y S).bind fun k S => match k with
  | true => (c e S).bind fun z S => g y z S
  | false => .ok false S
/-- a test as a value -/
def valE (t : TV) : EV := fun e S => (t e S).bind fun b S => .ok (.d (.bl b)) S
/-- not x as a value -/
def notE (a : EV) : EV := fun e S => (a e S).bind fun x S => match truW S x with
  | some b => .ok (.d (.bl (!b))) S
  | none => .stuck
def andE (a b : EV) : EV := fun e S => (a e S).bind fun x S => match truW S x with
  | some true => b e S
  | some false => .ok x S
  | none => .stuck
def orE (a b : EV) : EV := fun e S => (a e S).bind fun x S => match truW S x with
  | some true => .ok x S
  | some false => b e S
  | none => .stuck
def ifE (t : TV) (a b : EV) : EV := fun e S => (t e S).bind fun k S => match k with
  | true => a e S
  | false => b e S

/-! subscripts -/
def ixF (kt : List (List D)) : W → W → Store → R W
  | .d (.lst xs), .d (.int i), S => match atL xs i with
    | some x => .ok (.d x) S
    | none => .stuck
  | .d (.tup xs), .d (.int i), S => match atL xs i with
    | some x => .ok (.d x) S
    | none => .stuck
  | .d (.str xs), .d (.int i), S => if small xs then (match atL xs i with
    | some c => .ok (.d (.str [c])) S
    | none => .stuck) else .stuck
  | .d (.dct tk kvs), .d k, S => if okKey kt tk k then (match getK kvs k with
    | some x => .ok (.d x) S
    | none => .stuck) else .stuck
  | .ref i, .d k, S => match getO S i with
    | some (.lst ws) => (match k with
      | .int j => (match atL ws j with
        | some w => .ok w S
        | none => .stuck)
      | _ => .stuck)
    | some (.dct tk kvs) => if okKey kt tk k then (match getK kvs k with
      | some w => .ok w S
      | none => .stuck) else .stuck
    | none => .stuck
  | _, _, _ => .stuck
/-- a bound of a slice -/
def bndE (o : Option EV) : En → Store → R (Option Int) := fun e S => match o with
  | none => .ok none S
  | some a => (a e S).bind fun x S => match x with
    | .d (.int i) => .ok (some i) S
    | _ => .stuck
/-- fresh lists: what may be made one of the store -/
abbrev FV := En → Store → R (List W)
/-- a fresh list as data -/
def frzE (f : FV) : EV := fun e S => (f e S).bind fun ws S => match unWs ws with
  | some xs => .ok (.d (.lst xs)) S
  | none => .stuck
/-- a fresh list in the store -/
def newE (f : FV) : EV := fun e S => (f e S).bind fun ws S => .ok (.ref S.length) (S ++ [.lst ws])
/-- .. of a list or tuple -/
def itemsS (S : Store) : W → Option (List W)
  | .d (.lst xs) => some (xs.map .d)
  | .d (.scr xs) => some (xs.map .d)
  | .d (.tup xs) => some (xs.map .d)
  | .ref i => match getO S i with
    | some (.lst ws) => some ws
    | _ => none
  | _ => none
/-- texts, tuples, lists cut -/
def slE (a : EV) (lo hi : Option EV) : EV := fun e S => (a e S).bind fun x S => (bndE lo e S).bind fun l S => (bndE hi e S).bind fun h S => match x with
  | .d (.str xs) => if small xs then .ok (.d (.str (cut xs l h))) S else .stuck
  | .d (.tup xs) => .ok (.d (.tup (cut xs l h))) S
  | x => match dataL S x with
    | some xs => .ok (.d (.lst (cut xs l h))) S
    | none => .stuck
/-- lists cut: a fresh list -/
def slF (a : EV) (lo hi : Option EV) : FV := fun e S => (a e S).bind fun x S => (bndE lo e S).bind fun l S => (bndE hi e S).bind fun h S => match itemsL S x with
  | some ws => .ok (cut ws l h) S
  | none => .stuck
/-- lists put together -/
def catF (a b : EV) : FV := fun e S => (a e S).bind fun x S => (b e S).bind fun y S => match itemsL S x, itemsL S y with
  | some xs, some ys => if smallN (xs.length + ys.length) then .ok (xs ++ ys) S else .stuck
  | _, _ => .stuck
def repF (a b : EV) : FV := fun e S => (a e S).bind fun x S => (b e S).bind fun y S => match itemsL S x, y with
  | some xs, .d (.int k) => if decide (-16777216 < k) && decide (k < 16777216) && smallN (xs.length * k.toNat) then .ok (List.replicate k.toNat xs).flatten S else .stuck
  | _, _ => .stuck
/-- [a, b, ..] -/
def lstF (as : List EV) : FV := fun e S => argsF as e S
/-- a built-in's call that makes a fresh list -/
def callF (g : List W → Store → R (List W)) (as : List EV) : FV := fun e S => (argsF as e S).bind g
/-- what kind of thing has the method: 1 a text, 2 a list, 3 a dict -/
def kindW (S : Store) : W → Nat
  | .d (.str _) => 1
  | .d (.lst _) => 2
  | .d (.dct _ _) => 3
  | .ref i => match getO S i with
    | some (.lst _) => 2
    | some (.dct _ _) => 3
    | none => 0
  | _ => 0
def methF (ks : List Nat) (g : W → List W → Store → R (List W)) (o : EV) (as : List EV) : FV := fun e S => (o e S).bind fun x S => if ks.contains (kindW S x) then (argsF as e S).bind fun ws S => g x ws S else .stuck
/-- a built-in's call, a built-in type's method -/
def callB (g : List W → Store → R W) (as : List EV) : EV := fun e S => (argsF as e S).bind g
def methE (ks : List Nat) (g : W → List W → Store → R W) (o : EV) (as : List EV) : EV := fun e S => (o e S).bind fun x S => if ks.contains (kindW S x) then (argsF as e S).bind fun ws S => g x ws S else .stuck
/-- list(x) of a list or tuple -/
def listG : List W → Store → R (List W)
  | [x], S => match itemsS S x with
    | some ws => .ok ws S
    | none => .stuck
  | _, _ => .stuck
/-- (a, b, ..) -/
def tupE (as : List EV) : EV := fun e S => (argsF as e S).bind fun ws S => match unWs ws with
  | some xs => .ok (.d (.tup xs)) S
  | none => .stuck
/-- tuple(x) -/
def tupleG : List W → Store → R W
  | [x], S => match itemsS S x with
    | some ws => (match unWs ws with
      | some xs => .ok (.d (.tup xs)) S
      | none => .stuck)
    | none => .stuck
  | _, _ => .stuck
def lenF : W → Store → R W
  | .d (.str x), S => if small x then .ok (.d (.int x.length)) S else .stuck
  | .d (.tup xs), S => .ok (.d (.int xs.length)) S
  | .d (.lst xs), S => .ok (.d (.int xs.length)) S
  | .d (.scr xs), S => .ok (.d (.int xs.length)) S
  | .d (.dct _ _), _ => .stuck
  | .ref i, S => match getO S i with
    | some (.lst ws) => .ok (.d (.int ws.length)) S
    | some (.dct tk kvs) => .ok (.d (.int kvs.length)) S
    | none => .stuck
  | _, _ => .stuck
def intsOf : List W → Option (List Int)
  | [] => some []
  | .d (.int i) :: r => (intsOf r).map (i :: ·)
  | _ :: _ => none
def boolsOf : List W → Option (List Bool)
  | [] => some []
  | .d (.bl b) :: r => (boolsOf r).map (b :: ·)
  | _ :: _ => none
def sumF (x : W) (S : Store) : R W := match (itemsL S x).bind intsOf with
  | some ns => .ok (.d (.int ns.sum)) S
  | none => .stuck
def maxL : Int → List Int → Int
  | m, [] => m
  | m, n :: r => maxL (if m < n then n else m) r
def minL : Int → List Int → Int
  | m, [] => m
  | m, n :: r => minL (if n < m then n else m) r
def maxF (x : W) (S : Store) : R W := match (itemsL S x).bind intsOf with
  | some (n :: r) => .ok (.d (.int (maxL n r))) S
  | _ => .stuck
def minF (x : W) (S : Store) : R W := match (itemsL S x).bind intsOf with
  | some (n :: r) => .ok (.d (.int (minL n r))) S
  | _ => .stuck
def anyF (x : W) (S : Store) : R W := match (itemsL S x).bind boolsOf with
  | some bs => .ok (.d (.bl (bs.any id))) S
  | none => .stuck
def allF (x : W) (S : Store) : R W := match (itemsL S x).bind boolsOf with
  | some bs => .ok (.d (.bl (bs.all id))) S
  | none => .stuck
def max2F : W → W → Store → R W
  | .d (.int i), .d (.int j), S => .ok (.d (.int (if j > i then j else i))) S
  | _, _, _ => .stuck
def min2F : W → W → Store → R W
  | .d (.int i), .d (.int j), S => .ok (.d (.int (if j < i then j else i))) S
  | _, _, _ => .stuck
def absF : W → Store → R W
  | .d (.int i), S => .ok (.d (.int (if i < 0 then -i else i))) S
  | _, _ => .stuck
def insI (n : Int) : List Int → List Int
  | [] => [n]
  | m :: r => if n ≤ m then n :: m :: r else m :: insI n r
def sortI : List Int → List Int
  | [] => []
  | n :: r => insI n (sortI r)
/-- sorted of ints -/
def sortG : List W → Store → R (List W)
  | [x], S => match (itemsL S x).bind intsOf with
    | some ns => .ok ((sortI ns).map fun n => .d (.int n)) S
    | none => .stuck
  | _, _ => .stuck
def arg1 (f : W → Store → R W) : List W → Store → R W
  | [x], S => f x S
  | _, _ => .stuck
def arg2 (f : W → W → Store → R W) : List W → Store → R W
  | [x, y], S => f x y S
  | _, _ => .stuck

/-! numbers and texts -/
def digitsN (n : Nat) : List Nat := (Nat.toDigits 10 n).map Char.toNat
def textI (i : Int) : List Nat := if i < 0 then 45 :: digitsN i.natAbs else digitsN i.natAbs
def strF : W → Store → R W
  | .d (.int i), S => if Nat.blt i.natAbs.log2 1920 then .ok (.d (.str (textI i))) S else .stuck
  | _, _ => .stuck
/-- plain digits -/
def digs : List Nat → Nat → Option Nat
  | [], a => some a
  | c :: r, a => if Nat.ble 48 c && Nat.ble c 57 then digs r (a * 10 + (c - 48)) else none
def intText : List Nat → Option Int
  | [] => none
  | 45 :: c :: r => (digs (c :: r) 0).map fun (n : Nat) => -(n : Int)
  | c :: r => (digs (c :: r) 0).map fun (n : Nat) => (n : Int)
def intF : W → Store → R W
  | .d (.int i), S => .ok (.d (.int i)) S
  | .d (.bl b), S => .ok (.d (.int (if b then 1 else 0))) S
  | .d (.str x), S => if Nat.ble x.length 640 then (match intText x with
    | some n => .ok (.d (.int n)) S
    | none => .stuck) else .stuck
  | _, _ => .stuck
/-- split at a text of one sign -/
def splitC (c : Nat) : List Nat → List Nat → List (List Nat)
  | acc, [] => [acc.reverse]
  | acc, x :: r => if x == c then acc.reverse :: splitC c [] r else splitC c (x :: acc) r
def splitG : W → List W → Store → R (List W)
  | .d (.str t), [.d (.str [c])], S => if smallN (t.length + 2) && Nat.blt c 128 then .ok ((splitC c [] t).map fun w => .d (.str w)) S else .stuck
  | _, _, _ => .stuck
def textsOf : List W → Option (List (List Nat))
  | [] => some []
  | .d (.str x) :: r => (textsOf r).map (x :: ·)
  | _ :: _ => none
def joinL (s : List Nat) : List (List Nat) → List Nat
  | [] => []
  | [x] => x
  | x :: y :: r => x ++ (s ++ joinL s (y :: r))
def joinG : W → List W → Store → R W
  | .d (.str s), [y], S => match (itemsS S y).bind textsOf with
    | some xs => if smallN ((xs.map List.length).sum + xs.length * s.length) then .ok (.d (.str (joinL s xs))) S else .stuck
    | none => .stuck
  | _, _, _ => .stuck
def startsG : W → List W → Store → R W
  | .d (.str x), [.d (.str y)], S => .ok (.d (.bl (y.isPrefixOf x))) S
  | _, _, _ => .stuck
/-- the place of a sign that comes once -/
def indexG : W → List W → Store → R W
  | .d (.str x), [.d (.str [c])], S => match x.findIdx? (· == c) with
    | some i => if (x.filter (· == c)).length == 1 then .ok (.d (.int i)) S else .stuck
    | none => .stuck
  | _, _, _ => .stuck

/-! dicts -/
/-- get(k, z) -/
def getG (kt : List (List D)) : W → List W → Store → R W
  | .d (.dct tk kvs), [.d k, z], S => if okKey kt tk k then (match getK kvs k with
    | some x => .ok (.d x) S
    | none => .ok z S) else .stuck
  | .ref i, [.d k, z], S => match getO S i with
    | some (.dct tk kvs) => if okKey kt tk k then (match getK kvs k with
      | some w => .ok w S
      | none => .ok z S) else .stuck
    | _ => .stuck
  | _, _, _ => .stuck
/-- append, extend, pop -/
def appendG : W → List W → Store → R W
  | .ref i, [w], S => match getO S i with
    | some (.lst ws) => if Nat.blt ws.length 16777216 then .ok (.d .non) (setO S i (.lst (ws ++ [w]))) else .stuck
    | _ => .stuck
  | _, _, _ => .stuck
def extendG : W → List W → Store → R W
  | .ref i, [y], S => match getO S i, itemsL S y with
    | some (.lst ws), some us => if smallN (ws.length + us.length) then .ok (.d .non) (setO S i (.lst (ws ++ us))) else .stuck
    | _, _ => .stuck
  | _, _, _ => .stuck
def popG : W → List W → Store → R W
  | .ref i, [], S => match getO S i with
    | some (.lst ws) => (match ws[ws.length - 1]? with
      | some w => .ok w (setO S i (.lst ws.dropLast))
      | none => .stuck)
    | _ => .stuck
  | _, _, _ => .stuck
/-- d == {} -/
def noneF : W → Store → R Bool
  | .d (.dct false kvs), S => .ok kvs.isEmpty S
  | .ref i, S => match getO S i with
    | some (.dct false kvs) => .ok kvs.isEmpty S
    | _ => .stuck
  | _, _ => .stuck
/-- a dict's keys -/
def keysW (S : Store) : W → Option (List D)
  | .d (.dct _ kvs) => some (kvs.map fun kv => kv.1)
  | .ref i => match getO S i with
    | some (.dct _ kvs) => some (kvs.map fun kv => kv.1)
    | _ => none
  | _ => none
def intsD : List D → Option (List Int)
  | [] => some []
  | .int i :: r => (intsD r).map (i :: ·)
  | _ :: _ => none
def pairsD : List D → Option (List (Int × Int))
  | [] => some []
  | .tup [.int i, .int j] :: r => (pairsD r).map ((i, j) :: ·)
  | _ :: _ => none
/-- max, min of a dict's ints; of a list's -/
def maxDF (x : W) (S : Store) : R W := match (keysW S x).bind intsD with
  | some (n :: r) => .ok (.d (.int (maxL n r))) S
  | _ => maxF x S
def minDF (x : W) (S : Store) : R W := match (keysW S x).bind intsD with
  | some (n :: r) => .ok (.d (.int (minL n r))) S
  | _ => minF x S
def leP (p q : Int × Int) : Bool := decide (p.1 < q.1) || (decide (p.1 = q.1) && decide (p.2 ≤ q.2))
def insP (n : Int × Int) : List (Int × Int) → List (Int × Int)
  | [] => [n]
  | m :: r => if leP n m then n :: m :: r else m :: insP n r
def sortP : List (Int × Int) → List (Int × Int)
  | [] => []
  | n :: r => insP n (sortP r)
/-- sorted of a list of ints, of a dict of pairs, of ints -/
def sortDG : List W → Store → R (List W)
  | [x], S => match (keysW S x).bind pairsD with
    | some ps => .ok ((sortP ps).map fun q => .d (.tup [.int q.1, .int q.2])) S
    | none => (match (keysW S x).bind intsD with
      | some ns => if Nat.blt ns.length 64 then .ok ((sortI ns).map fun n => .d (.int n)) S else .stuck
      | none => sortG [x] S)
  | _, _ => .stuck
/-- {} -/
def dictE (tk : Bool) : EV := fun _ S => .ok (.ref S.length) (S ++ [.dct tk []])

/-! ### calls -/
def snaps (S : Store) : List W → Option (List D)
  | [] => some []
  | w :: r => match snap S w, snaps S r with
    | some x, some xs => some (x :: xs)
    | _, _ => none
def anyRef : List W → Bool
  | [] => false
  | .ref _ :: _ => true
  | .d _ :: r => anyRef r
/-- a def that leaves the store alone -/
def callP (f : List D → P) (as : List EV) : EV := fun e S => (argsF as e S).bind fun ws S => match snaps S ws with
  | some ds => (match f ds with
    | .ok x => if anyRef ws && !tupOnly x then .stuck else .ok (.d x) S
    | .exc x => if tupOnly x.a then .exc x S else .stuck
    | .stuck => .stuck)
  | none => .stuck
/-- a def that works on the caller's store -/
def callI (f : List W → Store → R W) (as : List EV) : EV := fun e S => (argsF as e S).bind fun ws S => f ws S

/-! ### targets -/
def nameG (i : Nat) : GV := fun w e S => .ok (setV e i w) S
def eachG : List GV → List W → En → Store → R En
  | [], [], e, S => .ok e S
  | g :: gs, w :: ws, e, S => (g w e S).bind fun e S => eachG gs ws e S
  | _, _, _, _ => .stuck
/-- (a, b, ..) = a tuple -/
def tupG (gs : List GV) : GV := fun w e S => match w with
  | .d (.tup xs) => if xs.length == gs.length then eachG gs (xs.map .d) e S else .stuck
  | _ => .stuck
/-- o[i] = w -/
def setIx (kt : List (List D)) (o i w : W) (S : Store) : R Unit :=
  match o, i with
  | .ref r, .d k => (match getO S r with
    | some (.lst ws) => (match k with
      | .int j => (match plN ws.length j with
        | some p => .ok () (setO S r (.lst (ws.set p w)))
        | none => .stuck)
      | _ => .stuck)
    | some (.dct tk kvs) => if okKey kt tk k && Nat.blt kvs.length 16777216 then .ok () (setO S r (.dct tk (putK kvs k w))) else .stuck
    | none => .stuck)
  | _, _ => .stuck
def subG (kt : List (List D)) (o i : EV) : GV := fun w e S => (o e S).bind fun x S => (i e S).bind fun y S => (setIx kt x y w S).bind fun _ S => .ok e S

/-! ### augmented assignment -/
def iaddF : W → W → Store → R W
  | .d (.int i), .d (.int j), S => .ok (.d (.int (i + j))) S
  | .d (.str x), .d (.str y), S => if smallN (x.length + y.length) then .ok (.d (.str (x ++ y))) S else .stuck
  | _, _, _ => .stuck

/-! ### statements -/
def R.so {α : Type} (r : R α) (e : En) (f : α → Store → SO) : SO :=
  match r with
  | .ok a S => f a S
  | .exc x S => .exc x e S
  | .stuck => .stuck
def nxS : SV := fun e S => .nx e S
def seqS (a b : SV) : SV := fun e S => match a e S with
  | .nx e S => b e S
  | o => o
def dropS (a : EV) : SV := fun e S => (a e S).so e fun _ S => .nx e S
def retS (a : EV) : SV := fun e S => (a e S).so e fun w S => .rt w S
def retN : SV := fun _ S => .rt (.d .non) S
def brkS : SV := fun e S => .bk e S
def cntS : SV := fun e S => .ct e S
def asgS (g : GV) (a : EV) : SV := fun e S => (a e S).so e fun w S => (g w e S).so e fun e S => .nx e S
/-- a, b = x, y: the pair is taken apart at once -/
def asgTT (gs : List GV) (as : List EV) : SV := fun e S => (argsF as e S).so e fun ws S => (eachG gs ws e S).so e fun e S => .nx e S
/-- a, b = x, y at names -/
def parS (i j : Nat) (a b : EV) : SV := fun e S => (a e S).so e fun x S => (b e S).so e fun y S => .nx (setV (setV e i x) j y) S
/-- x op= a -/
def augS (i : Nat) (f : W → W → Store → R W) (a : EV) : SV := fun e S => match getV e i with
  | some x => (a e S).so e fun y S => (f x y S).so e fun z S => .nx (setV e i z) S
  | none => .stuck
/-- o[i] op= a -/
def augX (kt : List (List D)) (f : W → W → Store → R W) (o i a : EV) : SV := fun e S => (o e S).so e fun x S => (i e S).so e fun y S => (ixF kt x y S).so e fun v S => (a e S).so e fun z S => (f v z S).so e fun u S => (setIx kt x y u S).so e fun _ S => .nx e S
def ifS (t : TV) (a b : SV) : SV := fun e S => (t e S).so e fun k S => match k with
  | true => a e S
  | false => b e S
def whileN (t : TV) (b : SV) : Nat → SV
  | 0 => fun _ _ => .stuck
  | n + 1 => fun e S => (t e S).so e fun k S => match k with
    | false => .nx e S
    | true => match b e S with
      | .nx e S => whileN t b n e S
      | .ct e S => whileN t b n e S
      | .bk e S => .nx e S
      | o => o
/-- what a loop walks: a list that stands, or one of the store -/
inductive It where
  | fix (ws : List W) | ref (i : Nat)
abbrev IV := En → Store → R It
def forL (g : GV) (b : SV) : List W → SV
  | [] => fun e S => .nx e S
  | w :: r => fun e S => (g w e S).so e fun e S => match b e S with
    | .nx e S => forL g b r e S
    | .ct e S => forL g b r e S
    | .bk e S => .nx e S
    | o => o
/-- a list of the store, by place -/
def forR (g : GV) (b : SV) (i : Nat) : Nat → Nat → SV
  | 0, _ => fun _ _ => .stuck
  | n + 1, k => fun e S => match getO S i with
    | some (.lst ws) => (match ws[k]? with
      | none => .nx e S
      | some w => (g w e S).so e fun e S => match b e S with
        | .nx e S => forR g b i n (k + 1) e S
        | .ct e S => forR g b i n (k + 1) e S
        | .bk e S => .nx e S
        | o => o)
    | _ => .stuck
def forS (it : IV) (g : GV) (b : SV) : SV := fun e S => (it e S).so e fun t S => match t with
  | .fix ws => forL g b ws e S
  | .ref i => forR g b i 1000000 0 e S

/-- nothing is raised -/
def noX : SO → SO
  | .exc _ _ _ => .stuck
  | o => o
/-- for .. in name: a dict that is data, or a list, a tuple, a text -/
def forN (i : Nat) (it : IV) (g : GV) (b : SV) : SV := fun e S => match getV e i with
  | some (.d (.dct _ kvs)) => noX (forL g b (kvs.map fun kv => .d kv.1) e S)
  | _ => forS it g b e S

/-- raise C(a), a an int -/
def raiseS (c : Nat) (a : EV) : SV := fun e S => (a e S).so e fun w S => match w with
  | .d (.int i) => if decide (i.natAbs < 90000) then .exc ⟨c, .int i⟩ e S else .stuck
  | _ => .stuck
/-- try: b except C as n: return (text, n.att) -/
def tryS (b : SV) (c i : Nat) (t : List Nat) : SV := fun e S => match b e S with
  | .exc x e' S' => if x.c == c then .rt (.d (.tup [.str t, x.a])) S' else .stuck
  | o => o
def stuckS : SV := fun _ _ => .stuck

/-! what is walked -/
def seqI (a : EV) : IV := fun e S => (a e S).bind fun x S => match x with
  | .d (.lst xs) => .ok (.fix (xs.map .d)) S
  | .d (.tup xs) => .ok (.fix (xs.map .d)) S
  | .d (.str xs) => .ok (.fix (xs.map fun c => .d (.str [c]))) S
  | .ref i => (match getO S i with
    | some (.lst _) => .ok (.ref i) S
    | _ => .stuck)
  | _ => .stuck
def big62 (i : Int) : Bool := decide (-4611686018427387904 ≤ i) && decide (i < 4611686018427387904)
def rng1 (a : EV) : IV := fun e S => (a e S).bind fun x S => match x with
  | .d (.int n) => if big62 n then .ok (.fix (rangeD 0 n.toNat)) S else .stuck
  | _ => .stuck
def rng2 (a b : EV) : IV := fun e S => (a e S).bind fun x S => (b e S).bind fun y S => match x, y with
  | .d (.int i), .d (.int j) => if big62 i && big62 j then .ok (.fix (rangeD i (j - i).toNat)) S else .stuck
  | _, _ => .stuck
/-- (0, x), (1, y), .. -/
def enumD (k : Int) : List D → List W
  | [] => []
  | x :: r => .d (.tup [.int k, x]) :: enumD (k + 1) r
def dataS : W → Option (List D)
  | .d (.lst xs) => some xs
  | .d (.tup xs) => some xs
  | _ => none
def enumI (a : EV) : IV := fun e S => (a e S).bind fun x S => match dataS x with
  | some xs => .ok (.fix (enumD 0 xs)) S
  | none => .stuck

/-! comprehensions -/
/-- no exception within -/
def R.bindS {α β : Type} (r : R α) (f : α → Store → R β) : R β :=
  match r with
  | .ok a S => f a S
  | _ => .stuck
def compL (g : GV) (t : TV) (el : EV) (e : En) : List W → List W → Store → R (List W)
  | [], acc, S => .ok acc S
  | w :: r, acc, S => (g w e S).bindS fun e' S => (t e' S).bindS fun k S => match k with
    | false => compL g t el e r acc S
    | true => (el e' S).bindS fun y S => if Nat.blt acc.length 16777216 then compL g t el e r (acc ++ [y]) S else .stuck
/-- .. over a list of the store, by place -/
def compR (g : GV) (t : TV) (el : EV) (e : En) (i : Nat) : Nat → Nat → List W → Store → R (List W)
  | 0, _, _, _ => .stuck
  | n + 1, k, acc, S => match getO S i with
    | some (.lst ws) => (match ws[k]? with
      | none => .ok acc S
      | some w => (g w e S).bindS fun e' S => (t e' S).bindS fun b S => match b with
        | false => compR g t el e i n (k + 1) acc S
        | true => (el e' S).bindS fun y S => if Nat.blt acc.length 16777216 then compR g t el e i n (k + 1) (acc ++ [y]) S else .stuck)
    | _ => .stuck
def compF (own : List Nat) (it : IV) (g : GV) (t : TV) (el : EV) : FV := fun e S => (it e S).bind fun j S => match j with
  | .fix ws => compL g t el (wipeV e own) ws [] S
  | .ref i => compR g t el (wipeV e own) i 1000000 0 [] S
/-- .. over a name: a dict that is data, too -/
def compN (own : List Nat) (i : Nat) (it : IV) (g : GV) (t : TV) (el : EV) : FV := fun e S => match getV e i with
  | some (.d (.dct _ kvs)) => compL g t el (wipeV e own) (kvs.map fun kv => .d kv.1) [] S
  | _ => compF own it g t el e S
/-- {k: v for ..} -/
def compDL (kt : List (List D)) (tk : Bool) (g : GV) (t : TV) (ke ve : EV) (e : En) : List W → List (D × W) → Store → R (List (D × W))
  | [], acc, S => .ok acc S
  | w :: r, acc, S => (g w e S).bindS fun e' S => (t e' S).bindS fun k S => match k with
    | false => compDL kt tk g t ke ve e r acc S
    | true => (ke e' S).bindS fun x S => (ve e' S).bindS fun y S => match x with
      | .d k => if okKey kt tk k && Nat.blt acc.length 16777216 then compDL kt tk g t ke ve e r (putK acc k y) S else .stuck
      | _ => .stuck
def compD (kt : List (List D)) (tk : Bool) (own : List Nat) (it : IV) (g : GV) (t : TV) (ke ve : EV) : EV := fun e S => (it e S).bind fun j S => match j with
  | .fix ws => (compDL kt tk g t ke ve (wipeV e own) ws [] S).bind fun kvs S => .ok (.ref S.length) (S ++ [.dct tk kvs])
  | .ref _ => .stuck
def yesT : TV := fun _ S => .ok true S

/-! ### defs -/
def startV (n : Nat) (ws : List W) : En := ws.map some ++ List.replicate (n - ws.length) none
def runP (np n : Nat) (b : SV) : List D → P := fun ds =>
  if ds.length == np then (match b (startV n (ds.map .d)) [] with
    | .rt w S => (match snap S w with
      | some x => .ok x
      | none => .stuck)
    | .nx _ _ => .ok .non
    | .exc x _ _ => if tupOnly x.a then .exc x else .stuck
    | _ => .stuck) else .stuck
def runI (np n : Nat) (b : SV) : List W → Store → R W := fun ws S =>
  if ws.length == np then (match b (startV n ws) S with
    | .rt w S => .ok w S
    | .nx _ S => .ok (.d .non) S
    | .exc x _ S => if tupOnly x.a then .exc x S else .stuck
    | _ => .stuck) else .stuck
end Pv

end

section
set_option linter.all false
set_option maxRecDepth 100000
set_option linter.all false
set_option maxRecDepth 100000
/-! Pw1: what the meanings compute, by rewriting. No Python, no heap. -/
namespace Pw
open Pv
theorem small_iff {α} {xs : List α} (h : xs.length ≤ 16777216) : small xs = true := Nat.ble_eq_true_of_le h
theorem smallN_iff {n : Nat} (h : n ≤ 16777216) : smallN n = true := Nat.ble_eq_true_of_le h
theorem atL0 {α} {x : α} {r : List α} : atL (x :: r) 0 = some x := rfl
theorem atL1 {α} {x y : α} {r : List α} : atL (x :: y :: r) 1 = some y := rfl
theorem atLn {α} {r : List α} {n : Nat} : atL r (n : Int) = r[n]? := rfl
theorem clipN {n d : Nat} : clip n d none = d := rfl
theorem clip1 {n d : Nat} : clip n d (some 1) = min 1 n := rfl
theorem clip2 {n d : Nat} : clip n d (some 2) = min 2 n := rfl
theorem clipn {n d k : Nat} : clip n d (some (k : Int)) = min k n := rfl
theorem succ0 {k : Nat} : ((k : Int) + 1 == 0) = false := by simp; omega

theorem textsOf_map : ∀ (l : List (List Nat)), textsOf (l.map fun x => W.d (.str x)) = some l
  | [] => rfl
  | x :: r => by simp [textsOf, textsOf_map r]
theorem unWs_map {α} (f : α → D) : ∀ (l : List α), unWs (l.map fun x => W.d (f x)) = some (l.map f)
  | [] => rfl
  | x :: r => by simp [unWs, unWs_map f r]
theorem unWs_d (l : List D) : unWs (l.map W.d) = some l := by
  have := unWs_map (fun x => x) l
  simpa using this

theorem textsOf_comp (l : List (List Nat)) : textsOf (l.map (W.d ∘ D.str)) = some l := textsOf_map l
theorem unWs_comp {α} (f : α → D) (l : List α) : unWs (l.map (W.d ∘ f)) = some (l.map f) := unWs_map f l
/-- a comprehension of pure parts -/
theorem compL_pure {g : GV} {t : TV} {el : EV} {e : En} {S : Store} (p : W → Bool) (q : W → W) : ∀ (ws acc : List W), (∀ w ∈ ws, ∃ e', g w e S = .ok e' S ∧ t e' S = .ok (p w) S ∧ (p w = true → el e' S = .ok (q w) S)) → acc.length + ws.length ≤ 16777216 →
    compL g t el e ws acc S = .ok (acc ++ (ws.filter p).map q) S
  | [], acc, _, _ => by simp [compL]
  | w :: r, acc, h, hl => by
    obtain ⟨e', h1, h2, h3⟩ := h w List.mem_cons_self
    have ih := fun a => compL_pure p q r a (fun w hw => h w (List.mem_cons_of_mem _ hw))
    simp only [List.length_cons] at hl
    unfold compL
    rw [h1]
    simp only [R.bindS, h2]
    cases hp : p w with
    | false =>
      simp only
      rw [ih acc (by omega)]
      simp [hp]
    | true =>
      have hb : Nat.blt acc.length 16777216 = true := by simp [Nat.blt]; omega
      simp only [h3 hp, hb, if_true]
      rw [ih _ (by simp; omega)]
      simp [hp]

/-- what follows a turn of a loop -/
def After (J : En → Store → Prop) (Q : SO → Prop) : SO → Prop
  | .nx e S => J e S
  | .ct e S => J e S
  | .bk e S => Q (.nx e S)
  | o => Q o
/-- a loop over a list that stands -/
theorem forL_ind {g : GV} {b : SV} {ws : List W} (J : Nat → En → Store → Prop) (Q : SO → Prop)
    (step : ∀ k w e S, ws[k]? = some w → J k e S → ∃ e1 S1, g w e S = .ok e1 S1 ∧ After (J (k + 1)) Q (b e1 S1))
    (fin : ∀ e S, J ws.length e S → Q (.nx e S)) {e : En} {S : Store} (h : J 0 e S) : Q (forL g b ws e S) := by
  have key : ∀ (r : List W) (k : Nat) (e : En) (S : Store), k + r.length = ws.length → (∀ i, r[i]? = ws[k + i]?) → J k e S → Q (forL g b r e S) := by
    intro r
    induction r with
    | nil =>
      intro k e S hk _ hJ
      have : k = ws.length := by simpa using hk
      subst this
      exact fin _ _ hJ
    | cons w r ih =>
      intro k e S hk hi hJ
      have hw : ws[k]? = some w := by have := hi 0; simpa using this.symm
      obtain ⟨e1, S1, h1, h2⟩ := step k w e S hw hJ
      have nxt : ∀ e S, J (k + 1) e S → Q (forL g b r e S) := fun e S hJ => ih (k + 1) e S (by simp only [List.length_cons] at hk; omega) (fun i => by have := hi (i + 1); simpa [Nat.add_assoc, Nat.add_comm 1 i] using this) hJ
      unfold forL
      rw [h1]
      simp only [R.so]
      cases hb : b e1 S1 with
      | nx e S => rw [hb] at h2; exact nxt _ _ h2
      | ct e S => rw [hb] at h2; exact nxt _ _ h2
      | bk e S => rw [hb] at h2; exact h2
      | rt w S => rw [hb] at h2; exact h2
      | exc x e S => rw [hb] at h2; exact h2
      | stuck => rw [hb] at h2; exact h2
  exact key ws 0 e S (by simp) (fun i => by simp) h
end Pw

end

section
set_option linter.all false
set_option maxRecDepth 100000
set_option linter.all false
set_option maxRecDepth 100000
/-! Pw2: figures, words, and what texts split into. -/
namespace Pw
open Pv
theorem dgc : ∀ n, n < 10 → (Nat.digitChar n).toNat = 48 + n := by decide
theorem digitsN_lt {n : Nat} (h : n < 10) : digitsN n = [48 + n] := by
  unfold digitsN
  rw [Nat.toDigits_of_lt_base h]
  simp [dgc n h]
theorem digitsN_ge {n : Nat} (h : 10 ≤ n) : digitsN n = digitsN (n / 10) ++ [48 + n % 10] := by
  unfold digitsN
  rw [Nat.toDigits_of_base_le (by omega) h]
  simp [dgc (n % 10) (by omega)]
theorem digitsN_ind {P : Nat → List Nat → Prop} (h0 : ∀ n, n < 10 → P n [48 + n]) (h1 : ∀ n, 10 ≤ n → P (n / 10) (digitsN (n / 10)) → P n (digitsN (n / 10) ++ [48 + n % 10])) : ∀ n, P n (digitsN n) := by
  intro n
  induction n using Nat.strongRecOn with
  | ind n ih =>
    by_cases h : n < 10
    · rw [digitsN_lt h]; exact h0 n h
    · rw [digitsN_ge (by omega)]; exact h1 n (by omega) (ih _ (by omega))
theorem digitsN_ne (n : Nat) : digitsN n ≠ [] := digitsN_ind (P := fun _ l => l ≠ []) (by simp) (by simp) n
theorem digitsN_mem {n c : Nat} (h : c ∈ digitsN n) : 48 ≤ c ∧ c ≤ 57 := by
  revert h
  exact digitsN_ind (P := fun _ l => c ∈ l → 48 ≤ c ∧ c ≤ 57) (by intro n hn h; simp at h; omega) (by
    intro n hn ih h
    simp only [List.mem_append, List.mem_singleton] at h
    rcases h with h | h
    · exact ih h
    · omega) n
theorem digitsN_head {n : Nat} (h : n ≠ 0) : ∃ c r, digitsN n = c :: r ∧ 49 ≤ c ∧ c ≤ 57 := by
  revert h
  exact digitsN_ind (P := fun n l => n ≠ 0 → ∃ c r, l = c :: r ∧ 49 ≤ c ∧ c ≤ 57) (by intro n hn h; exact ⟨_, _, rfl, by omega, by omega⟩) (by
    intro n hn ih h
    obtain ⟨c, r, e, h1, h2⟩ := ih (by omega)
    exact ⟨c, r ++ [48 + n % 10], by rw [e]; rfl, h1, h2⟩) n
theorem digitsN_len {n k : Nat} (hk : 0 < k) : (digitsN n).length ≤ k ↔ n < 10 ^ k := by
  unfold digitsN
  rw [List.length_map]
  exact Nat.length_toDigits_le_iff (by omega) hk
theorem digs_app : ∀ (x y : List Nat) (a : Nat), digs (x ++ y) a = (digs x a).bind (digs y)
  | [], y, a => by simp [digs]
  | c :: r, y, a => by
    simp only [List.cons_append, digs]
    split
    · exact digs_app r y _
    · rfl
theorem digs_digitsN : ∀ n, digs (digitsN n) 0 = some n :=
  digitsN_ind (P := fun n l => digs l 0 = some n) (by
    intro n hn
    have h1 : Nat.ble 48 (48 + n) = true := by rw [Nat.ble_eq]; omega
    have h2 : Nat.ble (48 + n) 57 = true := by rw [Nat.ble_eq]; omega
    simp only [digs, h1, h2, Bool.and_self, if_true]
    congr 1
    omega) (by
    intro n hn ih
    have h1 : Nat.ble 48 (48 + n % 10) = true := by rw [Nat.ble_eq]; omega
    have h2 : Nat.ble (48 + n % 10) 57 = true := by rw [Nat.ble_eq]; omega
    rw [digs_app, ih]
    simp only [Option.bind_some, digs, h1, h2, Bool.and_self, if_true]
    congr 1
    omega)
def isDg (c : Nat) : Bool := Nat.ble 48 c && Nat.ble c 57
theorem isDg_iff {c : Nat} : isDg c = true ↔ 48 ≤ c ∧ c ≤ 57 := by simp [isDg]
theorem digs_some : ∀ (x : List Nat) (a : Nat), x.all isDg = true → ∃ n, digs x a = some n
  | [], a, _ => ⟨a, rfl⟩
  | c :: r, a, h => by
    simp only [List.all_cons, Bool.and_eq_true] at h
    obtain ⟨n, hn⟩ := digs_some r (a * 10 + (c - 48)) h.2
    exact ⟨n, by have := h.1; unfold isDg at this; simp only [digs, this, if_true, hn]⟩
theorem isDg_ten {c : Nat} : [48, 49, 50, 51, 52, 53, 54, 55, 56, 57].contains c = isDg c := by
  by_cases h : 48 ≤ c ∧ c ≤ 57
  · have : c = 48 ∨ c = 49 ∨ c = 50 ∨ c = 51 ∨ c = 52 ∨ c = 53 ∨ c = 54 ∨ c = 55 ∨ c = 56 ∨ c = 57 := by omega
    rcases this with rfl | rfl | rfl | rfl | rfl | rfl | rfl | rfl | rfl | rfl <;> decide
  · have h1 : isDg c = false := by
      rw [← Bool.not_eq_true, isDg_iff]; exact h
    rw [h1, ← Bool.not_eq_true]
    intro h2
    have := List.contains_iff_mem.mp h2
    simp at this
    omega
/-- the figures of a word -/
def figs (w : List Nat) : List Nat := if w.take 1 = [45] then w.drop 1 else w
theorem textI_cases (i : Int) : (0 ≤ i ∧ textI i = digitsN i.natAbs) ∨ (i < 0 ∧ textI i = 45 :: digitsN i.natAbs) := by
  unfold textI
  by_cases h : i < 0
  · exact .inr ⟨h, by rw [if_pos h]⟩
  · exact .inl ⟨by omega, by rw [if_neg h]⟩
theorem digitsN_hd (n : Nat) : ∃ c r, digitsN n = c :: r ∧ 48 ≤ c ∧ c ≤ 57 := by
  cases h : digitsN n with
  | nil => exact absurd h (digitsN_ne n)
  | cons c r => exact ⟨c, r, rfl, digitsN_mem (by rw [h]; exact List.mem_cons_self)⟩
theorem figs_text (i : Int) : figs (textI i) = digitsN i.natAbs := by
  obtain ⟨c, r, e, h1, h2⟩ := digitsN_hd i.natAbs
  rcases textI_cases i with ⟨h, e1⟩ | ⟨h, e1⟩
  · have : c ≠ 45 := by omega
    rw [e1, e]; simp [figs, this]
  · rw [e1, e]; simp [figs]
theorem digitsN_all (n : Nat) : (digitsN n).all isDg = true := by
  rw [List.all_eq_true]
  intro c hc
  exact isDg_iff.mpr (digitsN_mem hc)
theorem intText_text (i : Int) : intText (textI i) = some i := by
  obtain ⟨c, r, e, h1, h2⟩ := digitsN_hd i.natAbs
  have hd := digs_digitsN i.natAbs
  rcases textI_cases i with ⟨h, e1⟩ | ⟨h, e1⟩
  · rw [e1]
    rw [e] at hd ⊢
    unfold intText
    split
    · rename_i h'; cases h'
    · rename_i h'; cases h'; omega
    · rename_i h' ; cases h'; rw [hd]; simp; omega
  · rw [e1]
    rw [e] at hd ⊢
    simp only [intText, hd]
    simp; omega
theorem intText_some {w : List Nat} (h1 : figs w ≠ []) (h2 : (figs w).all isDg = true) : ∃ n, intText w = some n := by
  cases w with
  | nil => simp [figs] at h1
  | cons c r =>
    by_cases hc : c = 45
    · subst hc
      simp only [figs, List.take_succ_cons, List.take_zero, if_true, List.drop_succ_cons, List.drop_zero] at h1 h2
      cases r with
      | nil => simp at h1
      | cons d r =>
        obtain ⟨n, hn⟩ := digs_some (d :: r) 0 h2
        exact ⟨-(n : Int), by simp only [intText, hn, Option.map_some]⟩
    · simp only [figs, List.take_succ_cons, List.take_zero, List.cons.injEq, hc, false_and, if_false] at h1 h2
      obtain ⟨n, hn⟩ := digs_some (c :: r) 0 h2
      refine ⟨(n : Int), ?_⟩
      unfold intText
      split
      · rename_i h'; cases h'
      · rename_i h'; cases h'; exact absurd rfl hc
      · rename_i h'; cases h'; rw [hn]; rfl
/-- the integer that a word writes -/
def rdI (w : List Nat) : Option Int := match intText w with
  | some n => if figs w ≠ [] ∧ w.length ≤ 40 ∧ (figs w).all isDg = true ∧ textI n = w then some n else none
  | none => none
theorem rdI_some {w : List Nat} {n : Int} (h : rdI w = some n) : textI n = w ∧ w.length ≤ 40 := by
  unfold rdI at h
  split at h
  · split at h
    · rename_i h'; cases h; exact ⟨h'.2.2.2, h'.2.1⟩
    · cases h
  · cases h
theorem rdI_text {n : Int} (h : (textI n).length ≤ 40) : rdI (textI n) = some n := by
  unfold rdI
  rw [intText_text]
  show (if figs (textI n) ≠ [] ∧ (textI n).length ≤ 40 ∧ (figs (textI n)).all isDg = true ∧ textI n = textI n then some n else none) = some n
  rw [figs_text, if_pos ⟨digitsN_ne _, h, digitsN_all _, rfl⟩]
theorem rdI_head {w : List Nat} {c : Nat} {r : List Nat} (e : w = c :: r) (h1 : c ≠ 45) (h2 : isDg c = false) : rdI w = none := by
  cases h : rdI w with
  | none => rfl
  | some n =>
    obtain ⟨h3, _⟩ := rdI_some h
    rw [e] at h3
    obtain ⟨d, s, e1, h4, h5⟩ := digitsN_hd n.natAbs
    rcases textI_cases n with ⟨_, e2⟩ | ⟨_, e2⟩
    · rw [e2, e1] at h3; cases h3
      rw [isDg_iff.mpr ⟨h4, h5⟩] at h2; cases h2
    · rw [e2] at h3; cases h3; exact absurd rfl h1
theorem rdI_nil : rdI [] = none := by decide
theorem textI_len {n : Int} {k : Nat} (hk : 0 < k) (h : n.natAbs < 10 ^ k) : (textI n).length ≤ k + 1 := by
  have := (digitsN_len (n := n.natAbs) hk).mpr h
  rcases textI_cases n with ⟨_, e⟩ | ⟨_, e⟩ <;> rw [e] <;> simp <;> omega
theorem textI_len0 {n : Int} {k : Nat} (h0 : 0 ≤ n) (hk : 0 < k) (h : n.natAbs < 10 ^ k) : (textI n).length ≤ k := by
  have := (digitsN_len (n := n.natAbs) hk).mpr h
  rcases textI_cases n with ⟨_, e⟩ | ⟨_, e⟩
  · rw [e]; exact this
  · omega
theorem rdI_bound {w : List Nat} {n : Int} (h : rdI w = some n) : n.natAbs < 10 ^ 40 := by
  obtain ⟨h1, h2⟩ := rdI_some h
  rw [← h1] at h2
  rcases textI_cases n with ⟨_, e⟩ | ⟨_, e⟩
  · rw [e] at h2; exact (digitsN_len (by omega)).mp h2
  · rw [e] at h2; simp at h2; exact (digitsN_len (by omega)).mp (by omega)
theorem log_small {n : Nat} (h : n < 10 ^ 41) : n.log2 < 1920 := by
  by_cases z : n = 0
  · subst z; decide
  · exact (Nat.log2_lt z).mpr (Nat.lt_of_lt_of_le h (Nat.le_trans (m := 2 ^ 200) (by decide) (Nat.pow_le_pow_right (by omega) (by omega))))
/-! words of a text -/
theorem splitC_app (c : Nat) : ∀ (x : List Nat) (acc y : List Nat), (∀ a ∈ x, a ≠ c) → splitC c acc (x ++ y) = splitC c (x.reverse ++ acc) y
  | [], acc, y, _ => rfl
  | a :: r, acc, y, h => by
    have ha := h a List.mem_cons_self
    have hb : (a == c) = false := by simpa using ha
    rw [List.cons_append, splitC, hb]
    simp only [Bool.false_eq_true, if_false]
    rw [splitC_app c r (a :: acc) y fun b hb => h b (List.mem_cons_of_mem _ hb)]
    simp
theorem split_join (c : Nat) : ∀ (ws : List (List Nat)), ws ≠ [] → (∀ w ∈ ws, ∀ a ∈ w, a ≠ c) → splitC c [] (joinL [c] ws) = ws
  | [], h, _ => absurd rfl h
  | [x], _, h => by
    have := splitC_app c x [] [] (h x List.mem_cons_self)
    simp only [List.append_nil] at this
    rw [joinL, this, splitC]
    simp
  | x :: y :: r, _, h => by
    have ih := split_join c (y :: r) (by simp) fun w hw => h w (List.mem_cons_of_mem _ hw)
    rw [joinL, splitC_app c x [] _ (h x List.mem_cons_self)]
    simp only [List.cons_append, List.nil_append, splitC, beq_self_eq_true, if_true, ih]
    simp
theorem splitC_ne (c : Nat) : ∀ (t acc : List Nat), splitC c acc t ≠ []
  | [], acc => by simp [splitC]
  | x :: r, acc => by
    unfold splitC
    split
    · simp
    · exact splitC_ne c r _
theorem splitC_mem (c : Nat) : ∀ (t acc : List Nat), (∀ a ∈ acc, a ≠ c) → ∀ w ∈ splitC c acc t, ∀ a ∈ w, a ≠ c
  | [], acc, h, w, hw, a, ha => by
    simp only [splitC, List.mem_singleton] at hw
    subst hw
    exact h a (List.mem_reverse.mp ha)
  | x :: r, acc, h, w, hw, a, ha => by
    unfold splitC at hw
    by_cases e : x = c
    · simp only [e, beq_self_eq_true, if_true, List.mem_cons] at hw
      rcases hw with rfl | hw
      · exact h a (List.mem_reverse.mp ha)
      · exact splitC_mem c r [] (by simp) w hw a ha
    · have e' : (x == c) = false := by simpa using e
      simp only [e', Bool.false_eq_true, if_false] at hw
      refine splitC_mem c r (x :: acc) ?_ w hw a ha
      intro b hb
      rcases List.mem_cons.mp hb with rfl | hb
      · exact e
      · exact h b hb
theorem splitC_acc (c : Nat) : ∀ (t acc : List Nat), ∃ w r, splitC c [] t = w :: r ∧ splitC c acc t = (acc.reverse ++ w) :: r
  | [], acc => ⟨[], [], rfl, by simp [splitC]⟩
  | x :: t, acc => by
    by_cases e : x = c
    · exact ⟨[], splitC c [] t, by simp [splitC, e], by simp [splitC, e]⟩
    · have e' : (x == c) = false := by simpa using e
      obtain ⟨w, r, h1, h2⟩ := splitC_acc c t [x]
      obtain ⟨w', r', h3, h4⟩ := splitC_acc c t (x :: acc)
      rw [h1] at h3
      cases h3
      refine ⟨[x] ++ w, r, ?_, ?_⟩
      · simp only [splitC, e', Bool.false_eq_true, if_false, h2]; rfl
      · simp only [splitC, e', Bool.false_eq_true, if_false, h4]; simp
theorem split_cons {c x : Nat} (h : x ≠ c) (t : List Nat) : ∃ w r, splitC c [] t = w :: r ∧ splitC c [] (x :: t) = (x :: w) :: r := by
  obtain ⟨w, r, h1, h2⟩ := splitC_acc c t [x]
  have e' : (x == c) = false := by simpa using h
  exact ⟨w, r, h1, by simp only [splitC, e', Bool.false_eq_true, if_false, h2]; rfl⟩
theorem splitC_len (c : Nat) : ∀ (t acc : List Nat), (splitC c acc t).length ≤ t.length + 1
  | [], acc => by simp [splitC]
  | x :: r, acc => by
    unfold splitC
    split
    · have := splitC_len c r []; simp; omega
    · have := splitC_len c r (x :: acc); simp; omega
end Pw

end

section
set_option linter.all false
set_option maxRecDepth 100000
set_option linter.all false
set_option maxRecDepth 100000
/-! Pw3: steps, the store. -/
namespace Pw
open Pv
theorem seqS_nx {a b : SV} {e e' : En} {S S' : Store} (h : a e S = .nx e' S') : seqS a b e S = b e' S' := by unfold seqS; rw [h]
theorem seqS_rt {a b : SV} {e : En} {w : W} {S S' : Store} (h : a e S = .rt w S') : seqS a b e S = .rt w S' := by unfold seqS; rw [h]
theorem seqS_ct {a b : SV} {e e' : En} {S S' : Store} (h : a e S = .ct e' S') : seqS a b e S = .ct e' S' := by unfold seqS; rw [h]
theorem seqS_exc {a b : SV} {e e' : En} {x : Xc} {S S' : Store} (h : a e S = .exc x e' S') : seqS a b e S = .exc x e' S' := by unfold seqS; rw [h]
theorem forS_fix {it : IV} {g : GV} {b : SV} {e : En} {S S' : Store} {ws : List W} (h : it e S = .ok (.fix ws) S') : forS it g b e S = forL g b ws e S' := by unfold forS; rw [h]; rfl
theorem runP_rt {np n : Nat} {b : SV} {ds : List D} {w : W} {S : Store} {x : D} (h1 : (ds.length == np) = true) (h2 : b (startV n (ds.map .d)) [] = .rt w S) (h3 : snap S w = some x) : runP np n b ds = .ok x := by
  unfold runP
  rw [if_pos h1, h2]
  simp only [h3]
theorem runP_exc {np n : Nat} {b : SV} {ds : List D} {e : En} {S : Store} {x : Xc} (h1 : (ds.length == np) = true) (h2 : b (startV n (ds.map .d)) [] = .exc x e S) (h3 : tupOnly x.a = true) : runP np n b ds = .exc x := by
  unfold runP
  rw [if_pos h1, h2]
  simp only [h3, if_true]
theorem runI_rt {np n : Nat} {b : SV} {ws : List W} {w : W} {S S' : Store} (h1 : (ws.length == np) = true) (h2 : b (startV n ws) S = .rt w S') : runI np n b ws S = .ok w S' := by
  unfold runI
  rw [if_pos h1, h2]
theorem ifS_t {t : TV} {a b : SV} {e : En} {S S' : Store} (h : t e S = .ok true S') : ifS t a b e S = a e S' := by unfold ifS; rw [h]; rfl
theorem ifS_f {t : TV} {a b : SV} {e : En} {S S' : Store} (h : t e S = .ok false S') : ifS t a b e S = b e S' := by unfold ifS; rw [h]; rfl
theorem big62_nat {n : Nat} (h : n ≤ 1000000) : big62 (n : Int) = true := by
  unfold big62
  rw [Bool.and_eq_true, decide_eq_true_eq, decide_eq_true_eq]
  omega
theorem big62_int {n : Int} (h : -1000000 ≤ n) (h' : n ≤ 1000000) : big62 n = true := by
  unfold big62
  rw [Bool.and_eq_true, decide_eq_true_eq, decide_eq_true_eq]
  omega
theorem rng1_i {a : EV} {e : En} {S S' : Store} {i : Int} (h : a e S = .ok (.d (.int i)) S') (hb : big62 i = true) : rng1 a e S = .ok (.fix (rangeD 0 i.toNat)) S' := by
  unfold rng1
  rw [h]
  simp only [R.bind, hb, if_true]
theorem rng1_ok {a : EV} {e : En} {S S' : Store} {n : Nat} (h : a e S = .ok (.d (.int (n : Int))) S') (hn : n ≤ 100000) : rng1 a e S = .ok (.fix (rangeD 0 n)) S' := by
  have := rng1_i h (big62_nat (by omega))
  rwa [Int.toNat_natCast] at this
theorem rng2_ok {a b : EV} {e : En} {S S' S'' : Store} {i j : Int} (h : a e S = .ok (.d (.int i)) S') (h' : b e S' = .ok (.d (.int j)) S'') (hi : big62 i = true) (hj : big62 j = true) : rng2 a b e S = .ok (.fix (rangeD i (j - i).toNat)) S'' := by
  unfold rng2
  rw [h]
  simp only [R.bind, h', hi, hj, Bool.and_self, if_true]
/-! the store -/
theorem getO_lt : ∀ (S : Store) (i : Nat) (t : Th), getO S i = some t → i < S.length
  | [], _, _, h => by simp [getO] at h
  | o :: r, 0, _, _ => by simp
  | o :: r, i + 1, t, h => by
    have := getO_lt r i t h
    simp; omega
theorem getO_app : ∀ (S T : Store) (i : Nat), i < S.length → getO (S ++ T) i = getO S i
  | [], _, _, h => by simp at h
  | o :: r, T, 0, _ => rfl
  | o :: r, T, i + 1, h => getO_app r T i (by simpa using h)
theorem getO_end : ∀ (S : Store) (t : Th), getO (S ++ [t]) S.length = some t
  | [], _ => rfl
  | o :: r, t => getO_end r t
theorem getO_some {S : Store} {i : Nat} {t : Th} (T : Store) (h : getO S i = some t) : getO (S ++ T) i = some t := by
  rw [getO_app S T i (getO_lt S i t h), h]
theorem getO_setO : ∀ (S : Store) (i : Nat) (t : Th), i < S.length → getO (setO S i t) i = some t
  | [], _, _, h => by simp at h
  | o :: r, 0, t, _ => rfl
  | o :: r, i + 1, t, h => getO_setO r i t (by simpa using h)
theorem getO_set : ∀ {S : Store} {i : Nat} {t t' : Th}, getO S i = some t' → getO (setO S i t) i = some t
  | S, i, t, t', h => getO_setO S i t (getO_lt S i t' h)
theorem getO_ne : ∀ (S : Store) (i j : Nat) (t : Th), i ≠ j → getO (setO S i t) j = getO S j
  | [], _, _, _, _ => rfl
  | o :: r, 0, 0, _, h => absurd rfl h
  | o :: r, 0, j + 1, t, _ => rfl
  | o :: r, i + 1, 0, t, _ => rfl
  | o :: r, i + 1, j + 1, t, h => getO_ne r i j t (by omega)
theorem setO_len : ∀ (S : Store) (i : Nat) (t : Th), (setO S i t).length = S.length
  | [], _, _ => rfl
  | o :: r, 0, t => rfl
  | o :: r, i + 1, t => by simp [setO, setO_len r i t]
theorem setO_setO : ∀ (S : Store) (i : Nat) (t t' : Th), setO (setO S i t) i t' = setO S i t'
  | [], _, _, _ => rfl
  | o :: r, 0, t, _ => rfl
  | o :: r, i + 1, t, t' => by simp [setO, setO_setO r i t t']
/-! data that is as Python compares it -/
mutual
theorem eqD_refl : ∀ (n : Nat) (x : D), shp n x = true → eqD x x = true
  | _, .non, _ => rfl
  | _, .bl b, _ => by simp [eqD]
  | _, .int i, _ => by simp [eqD]
  | _, .str x, _ => by simp [eqD]
  | 0, .tup xs, h => by simp [shp] at h
  | n + 1, .tup xs, h => by unfold eqD; exact eqDs_refl n xs (by simpa [shp] using h)
  | 0, .lst xs, h => by simp [shp] at h
  | n + 1, .lst xs, h => by unfold eqD; exact eqDs_refl n xs (by simpa [shp] using h)
  | n, .scr xs, h => by cases n <;> simp [shp] at h
  | n, .dct a b, h => by cases n <;> simp [shp] at h
theorem eqDs_refl : ∀ (n : Nat) (xs : List D), shps n xs = true → eqDs xs xs = true
  | _, [], _ => rfl
  | n, x :: r, h => by
    simp only [shps, Bool.and_eq_true] at h
    simp only [eqDs, Bool.and_eq_true]
    exact ⟨eqD_refl n x h.1, eqDs_refl n r h.2⟩
end
theorem eqF_refl {S : Store} {x : D} (h : shp 60 x = true) : eqF (.d x) (.d x) S = .ok true S := by
  have hr := eqD_refl 60 x h
  have : eqW S (.d x) (.d x) = some true := by
    unfold eqW
    split
    · rename_i h1 h2; cases h1; cases h2; simp
    · rename_i h1 h2; cases h1; cases h2; simp
    · simp [snap, h, hr]
  unfold eqF
  rw [this]
theorem neF_refl {S : Store} {x : D} (h : shp 60 x = true) : neF (.d x) (.d x) S = .ok false S := by
  have := eqF_refl (S := S) h
  unfold eqF at this
  unfold neF
  split at this
  · rename_i b hb; cases this; rfl
  · cases this
theorem shp_ints {n : Nat} : ∀ (xs : List Int), shps n (xs.map .int) = true
  | [] => by cases n <;> rfl
  | x :: r => by
    have := shp_ints (n := n) r
    cases n <;> simp_all [shps, shp]
theorem unWs_int (xs : List Int) : unWs (xs.map fun x => W.d (.int x)) = some (xs.map .int) := unWs_map .int xs
theorem enumD_get : ∀ (xs : List D) (c : Int) (k : Nat), (enumD c xs)[k]? = (xs[k]?).map fun x => W.d (.tup [.int (c + k), x])
  | [], c, k => by simp [enumD]
  | x :: r, c, 0 => by simp [enumD]
  | x :: r, c, k + 1 => by
    have := enumD_get r (c + 1) k
    simp only [enumD, List.getElem?_cons_succ, this]
    congr 1
    funext y
    rw [show c + 1 + (k : Int) = c + ((k + 1 : Nat) : Int) by omega]
theorem enumD_len : ∀ (xs : List D) (c : Int), (enumD c xs).length = xs.length
  | [], _ => rfl
  | x :: r, c => by simp [enumD, enumD_len r]
theorem rangeD_get : ∀ (n : Nat) (c : Int) (k : Nat), (rangeD c n)[k]? = if k < n then some (W.d (.int (c + k))) else none
  | 0, c, k => by simp [rangeD]
  | n + 1, c, 0 => by simp [rangeD]
  | n + 1, c, k + 1 => by
    have := rangeD_get n (c + 1) k
    simp only [rangeD, List.getElem?_cons_succ, this]
    rw [show c + 1 + (k : Int) = c + ((k + 1 : Nat) : Int) by omega]
    by_cases h : k < n
    · rw [if_pos h, if_pos (by omega)]
    · rw [if_neg h, if_neg (by omega)]
theorem rangeD_len : ∀ (n : Nat) (c : Int), (rangeD c n).length = n
  | 0, _ => rfl
  | n + 1, c => by simp [rangeD, rangeD_len n]
/-- a while with a measure -/
theorem while_ind {t : TV} {b : SV} (J : Nat → En → Store → Prop) (Q : SO → Prop)
    (step : ∀ m e S, J m e S → ∃ k S1, t e S = .ok k S1 ∧ (k = false → Q (.nx e S1)) ∧ (k = true → (∃ e' S' m', (b e S1 = .nx e' S' ∨ b e S1 = .ct e' S') ∧ m' < m ∧ J m' e' S') ∨ (∃ e' S', b e S1 = .bk e' S' ∧ Q (.nx e' S')) ∨ (∃ w S', b e S1 = .rt w S' ∧ Q (.rt w S')))) :
    ∀ (n m : Nat) (e : En) (S : Store), m < n → J m e S → Q (whileN t b n e S) := by
  intro n
  induction n with
  | zero => intro m e S h; omega
  | succ n ih =>
    intro m e S h hJ
    obtain ⟨k, S1, h1, h2, h3⟩ := step m e S hJ
    unfold whileN
    rw [h1]
    simp only [R.so]
    cases k with
    | false => exact h2 rfl
    | true =>
      rcases h3 rfl with ⟨e', S', m', hb, hm, hJ'⟩ | ⟨e', S', hb, hQ⟩ | ⟨w, S', hb, hQ⟩
      · rcases hb with hb | hb <;> simp only [hb] <;> exact ih m' e' S' (by omega) hJ'
      · simp only [hb]; exact hQ
      · simp only [hb]; exact hQ
end Pw

end

section
set_option linter.all false
set_option maxRecDepth 100000
set_option linter.all false
set_option maxRecDepth 100000
/-! Pw4: draws. -/
namespace Pw
open Pv
def drawI (kt : List (List D)) : SV :=
    (seqS (ifS (t2 geF (op2 (ixF kt) (varE 0) (conE (.int 1))) (callB (arg1 lenF) [(op2 (ixF kt) (varE 0) (conE (.int 0)))]))
      (retS (conE (.int 0)))
      nxS)
    (seqS (asgS (nameG 3) (op2 (ixF kt) (op2 (ixF kt) (varE 0) (conE (.int 0))) (op2 (ixF kt) (varE 0) (conE (.int 1)))))
    (seqS (ifS (t2 ltF (varE 3) (conE (.int 0)))
      (asgS (nameG 3) (op2 subF (op1 negF (conE (.int 1))) (varE 3)))
      nxS)
    (seqS (asgS (subG kt (varE 0) (conE (.int 1))) (op2 addF (op2 (ixF kt) (varE 0) (conE (.int 1))) (conE (.int 1))))
    (seqS (asgS (subG kt (varE 0) (conE (.int 2))) (varE 3))
    (seqS (asgS (subG kt (varE 0) (conE (.int 4))) (valE (t2 geF (varE 3) (op2 powF (conE (.int 10)) (conE (.int 18))))))
    (seqS (asgS (subG kt (varE 0) (conE (.int 3))) (conE (.int 6)))
    (ifS (truT (op2 (ixF kt) (varE 0) (conE (.int 4))))
      (asgS (subG kt (varE 0) (conE (.int 3))) (conE (.int 60)))
      nxS))))))))
def drawJ (kt : List (List D)) : SV :=
  (seqS (asgS (subG kt (varE 0) (conE (.int 3))) (op2 subF (op2 (ixF kt) (varE 0) (conE (.int 3))) (conE (.int 1))))
  (seqS (ifS (truT (op2 (ixF kt) (varE 0) (conE (.int 4))))
    (seqS (asgS (nameG 4) (op2 modF (callB (arg1 intF) [(op2 (ixF kt) (varE 0) (conE (.int 2)))]) (varE 1)))
    (seqS (asgS (subG kt (varE 0) (conE (.int 2))) (op2 divF (op2 (ixF kt) (varE 0) (conE (.int 2))) (varE 1)))
    (seqS (ifS (t2 eqF (op2 (ixF kt) (varE 0) (conE (.int 2))) (conE (.int 0)))
      (asgS (subG kt (varE 0) (conE (.int 3))) (conE (.int 0)))
      nxS)
    (retS (varE 4)))))
    nxS)
  (seqS (asgS (nameG 2) (op2 modF (callB (arg1 intF) [(op2 addF (op2 addF (op2 mulF (op2 (ixF kt) (varE 0) (conE (.int 2))) (conE (.int 48271))) (op2 mulF (op2 (ixF kt) (varE 0) (conE (.int 3))) (conE (.int 69621)))) (conE (.int 7)))]) (conE (.int 2147483647))))
  (seqS (asgS (nameG 2) (op2 modF (callB (arg1 intF) [(op2 addF (op2 addF (op2 mulF (varE 2) (varE 2)) (op2 mulF (op2 (ixF kt) (varE 0) (conE (.int 2))) (conE (.int 31)))) (op2 (ixF kt) (varE 0) (conE (.int 3))))]) (conE (.int 1000003))))
  (retS (op2 modF (callB (arg1 intF) [(varE 2)]) (varE 1)))))))
def drawB (kt : List (List D)) : SV :=
  (seqS (ifS (t2 eqF (op2 (ixF kt) (varE 0) (conE (.int 3))) (conE (.int 0))) (drawI kt) nxS) (drawJ kt))
/-- the state of draws -/
def stT (ns : List Int) (i c m : Int) (b : Bool) : Th := .lst [.d (.lst (ns.map .int)), .d (.int i), .d (.int c), .d (.int m), .d (.bl b), .d (.int 500)]
def St (ns : List Int) (S : Store) (r : Nat) : Prop := ∃ i c m b, getO S r = some (stT ns i c m b) ∧ 0 ≤ i
theorem atLk {α} {r : List α} {i : Int} (h : 0 ≤ i) : atL r i = r[i.toNat]? := by
  obtain ⟨n, rfl⟩ := Int.eq_ofNat_of_zero_le h
  rfl
theorem atL2 {α} {x y z : α} {r : List α} : atL (x :: y :: z :: r) 2 = some z := rfl
theorem atL3 {α} {x y z u : α} {r : List α} : atL (x :: y :: z :: u :: r) 3 = some u := rfl
theorem atL4 {α} {x y z u v : α} {r : List α} : atL (x :: y :: z :: u :: v :: r) 4 = some v := rfl
theorem pl1 {n : Nat} (h : 1 < n) : plN n 1 = some 1 := by show (if Nat.blt 1 n then some 1 else none) = some 1; rw [if_pos]; exact Nat.ble_eq_true_of_le h
theorem pl2 {n : Nat} (h : 2 < n) : plN n 2 = some 2 := by show (if Nat.blt 2 n then some 2 else none) = some 2; rw [if_pos]; exact Nat.ble_eq_true_of_le h
theorem pl3 {n : Nat} (h : 3 < n) : plN n 3 = some 3 := by show (if Nat.blt 3 n then some 3 else none) = some 3; rw [if_pos]; exact Nat.ble_eq_true_of_le h
theorem pl4 {n : Nat} (h : 4 < n) : plN n 4 = some 4 := by show (if Nat.blt 4 n then some 4 else none) = some 4; rw [if_pos]; exact Nat.ble_eq_true_of_le h
theorem sm64 {i : Int} (h : -18446744073709551616 < i) (h' : i < 18446744073709551616) : small64 i = true := by unfold small64; simp [h, h']
theorem drawJ_ok (kt : List (List D)) {ns : List Int} {S : Store} {r : Nat} {i c m : Int} {b : Bool} {lim : Int} {x2 x3 x4 : Option W} (h : getO S r = some (stT ns i c m b)) (hi : 0 ≤ i) (hl : 0 < lim) (hl' : lim ≤ 1000000) :
    ∃ d c' m', 0 ≤ d ∧ d < lim ∧ drawJ kt [some (.ref r), some (.d (.int lim)), x2, x3, x4] S = .rt (.d (.int d)) (setO S r (stT ns i c' m' b)) := by
  have g : ∀ t, getO (setO S r t) r = some t := fun t => getO_set h
  have s := setO_setO S r
  have hlog : Nat.blt lim.natAbs.log2 9000 = true := by
    simp only [Nat.blt, Nat.ble_eq]
    have : lim.natAbs.log2 < 20 := (Nat.log2_lt (by omega)).mpr (by omega)
    omega
  cases b with
  | true =>
    refine ⟨c % lim, c / lim, if c / lim = 0 then 0 else m - 1, Int.emod_nonneg _ (by omega), Int.emod_lt_of_pos _ hl, ?_⟩
    by_cases z : c / lim = 0
    · simp (disch := omega) [small_iff, smallN_iff, succ0, atL0, atL1, atLn, clipN, clip1, clip2, clipn, runP, runI, startV, seqS, asgS, ifS, t2, t1, andT, orT, notT, truT, varE, conE, getV, setV, nameG, eqF, neF, eqW, R.bind, R.so, retS, nxS, frzE, newE, lstF, argsF, unWs, unW, snap, op2, op1, addF, subF, mulF, ixF, callB, callF, arg1, strF, valE, intF, dataL, ifE, notNF, isNF, isNon, lenF, absF, callP, callI, snaps, anyRef, tupOnly, List.replicate, ltF, gtF, geF, leF, cmpF, slE, bndE, cut, methE, methF, kindW, dropS, tupE, listG, itemsS, truW, joinG, textsOf, negF, drawJ, subG, setIx, h, stT, g, s, pl1, pl2, pl3, pl4, atL2, atL3, atL4, modF, divF, hl, hlog, z]
    · have z' : (c / lim == 0) = false := by simpa using z
      simp (disch := omega) [small_iff, smallN_iff, succ0, atL0, atL1, atLn, clipN, clip1, clip2, clipn, runP, runI, startV, seqS, asgS, ifS, t2, t1, andT, orT, notT, truT, varE, conE, getV, setV, nameG, eqF, neF, eqW, R.bind, R.so, retS, nxS, frzE, newE, lstF, argsF, unWs, unW, snap, op2, op1, addF, subF, mulF, ixF, callB, callF, arg1, strF, valE, intF, dataL, ifE, notNF, isNF, isNon, lenF, absF, callP, callI, snaps, anyRef, tupOnly, List.replicate, ltF, gtF, geF, leF, cmpF, slE, bndE, cut, methE, methF, kindW, dropS, tupE, listG, itemsS, truW, joinG, textsOf, negF, drawJ, subG, setIx, h, stT, g, s, pl1, pl2, pl3, pl4, atL2, atL3, atL4, modF, divF, hl, hlog, z, z']
  | false =>
    have p1 := Int.emod_nonneg (c * 48271 + (m - 1) * 69621 + 7) (b := 2147483647) (by omega)
    have p2 := Int.emod_lt_of_pos (c * 48271 + (m - 1) * 69621 + 7) (b := 2147483647) (by omega)
    have q1 : small64 48271 = true := rfl
    have q2 : small64 69621 = true := rfl
    have q3 : small64 31 = true := rfl
    generalize hx : (c * 48271 + (m - 1) * 69621 + 7) % 2147483647 = x at p1 p2
    have q4 : small64 x = true := sm64 (by omega) (by omega)
    refine ⟨(x * x + c * 31 + (m - 1)) % 1000003 % lim, c, m - 1, Int.emod_nonneg _ (by omega), Int.emod_lt_of_pos _ hl, ?_⟩
    simp (disch := omega) [small_iff, smallN_iff, succ0, atL0, atL1, atLn, clipN, clip1, clip2, clipn, runP, runI, startV, seqS, asgS, ifS, t2, t1, andT, orT, notT, truT, varE, conE, getV, setV, nameG, eqF, neF, eqW, R.bind, R.so, retS, nxS, frzE, newE, lstF, argsF, unWs, unW, snap, op2, op1, addF, subF, mulF, ixF, callB, callF, arg1, strF, valE, intF, dataL, ifE, notNF, isNF, isNon, lenF, absF, callP, callI, snaps, anyRef, tupOnly, List.replicate, ltF, gtF, geF, leF, cmpF, slE, bndE, cut, methE, methF, kindW, dropS, tupE, listG, itemsS, truW, joinG, textsOf, negF, drawJ, subG, setIx, h, stT, g, s, pl1, pl2, pl3, pl4, atL2, atL3, atL4, modF, divF, hl, hlog, q1, q2, q3, q4, hx]
theorem drawI_ok (kt : List (List D)) {ns : List Int} {S : Store} {r : Nat} {i c m : Int} {b : Bool} {lim : Int} (h : getO S r = some (stT ns i c m b)) (hi : 0 ≤ i) (hn : ns.length ≤ 63) :
    (drawI kt [some (.ref r), some (.d (.int lim)), none, none, none] S = .rt (.d (.int 0)) S) ∨ ∃ x3 i' c' m' b', 0 ≤ i' ∧ drawI kt [some (.ref r), some (.d (.int lim)), none, none, none] S = .nx [some (.ref r), some (.d (.int lim)), none, x3, none] (setO S r (stT ns i' c' m' b')) := by
  have g : ∀ t, getO (setO S r t) r = some t := fun t => getO_set h
  have s := setO_setO S r
  by_cases e : (ns.length : Int) ≤ i
  · left
    simp (disch := omega) [small_iff, smallN_iff, succ0, atL0, atL1, atLn, clipN, clip1, clip2, clipn, runP, runI, startV, seqS, asgS, ifS, t2, t1, andT, orT, notT, truT, varE, conE, getV, setV, nameG, eqF, neF, eqW, R.bind, R.so, retS, nxS, frzE, newE, lstF, argsF, unWs, unW, snap, op2, op1, addF, subF, mulF, ixF, callB, callF, arg1, strF, valE, intF, dataL, ifE, notNF, isNF, isNon, lenF, absF, callP, callI, snaps, anyRef, tupOnly, List.replicate, ltF, gtF, geF, leF, cmpF, slE, bndE, cut, methE, methF, kindW, dropS, tupE, listG, itemsS, truW, joinG, textsOf, negF, drawI, h, stT, e]
  · right
    obtain ⟨k, rfl⟩ := Int.eq_ofNat_of_zero_le hi
    have hk : k < ns.length := by omega
    obtain ⟨n, hn⟩ : ∃ n, ns[k] = n := ⟨_, rfl⟩
    by_cases e2 : n < 0
    · refine ⟨some (.d (.int (-1 - n))), (k : Int) + 1, -1 - n, if 10 ^ 18 ≤ -1 - n then 60 else 6, decide (10 ^ 18 ≤ -1 - n), by omega, ?_⟩
      by_cases e3 : 1000000000000000000 ≤ -1 - n
      · simp (disch := omega) [small_iff, smallN_iff, succ0, atL0, atL1, atLn, clipN, clip1, clip2, clipn, runP, runI, startV, seqS, asgS, ifS, t2, t1, andT, orT, notT, truT, varE, conE, getV, setV, nameG, eqF, neF, eqW, R.bind, R.so, retS, nxS, frzE, newE, lstF, argsF, unWs, unW, snap, op2, op1, addF, subF, mulF, ixF, callB, callF, arg1, strF, valE, intF, dataL, ifE, notNF, isNF, isNon, lenF, absF, callP, callI, snaps, anyRef, tupOnly, List.replicate, ltF, gtF, geF, leF, cmpF, slE, bndE, cut, methE, methF, kindW, dropS, tupE, listG, itemsS, truW, joinG, textsOf, negF, drawI, h, stT, e, hk, hn, e2, subG, setIx, g, s, pl1, pl2, pl3, pl4, atL2, atL3, atL4, powF, e3]
      · simp (disch := omega) [small_iff, smallN_iff, succ0, atL0, atL1, atLn, clipN, clip1, clip2, clipn, runP, runI, startV, seqS, asgS, ifS, t2, t1, andT, orT, notT, truT, varE, conE, getV, setV, nameG, eqF, neF, eqW, R.bind, R.so, retS, nxS, frzE, newE, lstF, argsF, unWs, unW, snap, op2, op1, addF, subF, mulF, ixF, callB, callF, arg1, strF, valE, intF, dataL, ifE, notNF, isNF, isNon, lenF, absF, callP, callI, snaps, anyRef, tupOnly, List.replicate, ltF, gtF, geF, leF, cmpF, slE, bndE, cut, methE, methF, kindW, dropS, tupE, listG, itemsS, truW, joinG, textsOf, negF, drawI, h, stT, e, hk, hn, e2, subG, setIx, g, s, pl1, pl2, pl3, pl4, atL2, atL3, atL4, powF, e3]
    · refine ⟨some (.d (.int n)), (k : Int) + 1, n, if 10 ^ 18 ≤ n then 60 else 6, decide (10 ^ 18 ≤ n), by omega, ?_⟩
      by_cases e3 : 1000000000000000000 ≤ n
      · simp (disch := omega) [small_iff, smallN_iff, succ0, atL0, atL1, atLn, clipN, clip1, clip2, clipn, runP, runI, startV, seqS, asgS, ifS, t2, t1, andT, orT, notT, truT, varE, conE, getV, setV, nameG, eqF, neF, eqW, R.bind, R.so, retS, nxS, frzE, newE, lstF, argsF, unWs, unW, snap, op2, op1, addF, subF, mulF, ixF, callB, callF, arg1, strF, valE, intF, dataL, ifE, notNF, isNF, isNon, lenF, absF, callP, callI, snaps, anyRef, tupOnly, List.replicate, ltF, gtF, geF, leF, cmpF, slE, bndE, cut, methE, methF, kindW, dropS, tupE, listG, itemsS, truW, joinG, textsOf, negF, drawI, h, stT, e, hk, hn, e2, subG, setIx, g, s, pl1, pl2, pl3, pl4, atL2, atL3, atL4, powF, e3]
      · simp (disch := omega) [small_iff, smallN_iff, succ0, atL0, atL1, atLn, clipN, clip1, clip2, clipn, runP, runI, startV, seqS, asgS, ifS, t2, t1, andT, orT, notT, truT, varE, conE, getV, setV, nameG, eqF, neF, eqW, R.bind, R.so, retS, nxS, frzE, newE, lstF, argsF, unWs, unW, snap, op2, op1, addF, subF, mulF, ixF, callB, callF, arg1, strF, valE, intF, dataL, ifE, notNF, isNF, isNon, lenF, absF, callP, callI, snaps, anyRef, tupOnly, List.replicate, ltF, gtF, geF, leF, cmpF, slE, bndE, cut, methE, methF, kindW, dropS, tupE, listG, itemsS, truW, joinG, textsOf, negF, drawI, h, stT, e, hk, hn, e2, subG, setIx, g, s, pl1, pl2, pl3, pl4, atL2, atL3, atL4, powF, e3]
/-- a draw: a number below the limit; nothing but the state is changed -/
theorem draw_ok (kt : List (List D)) {ns : List Int} {S : Store} {r : Nat} {lim : Int} (h : St ns S r) (hn : ns.length ≤ 63) (hl : 0 < lim) (hl' : lim ≤ 1000000) :
    ∃ d t, 0 ≤ d ∧ d < lim ∧ runI 2 5 (drawB kt) [.ref r, .d (.int lim)] S = .ok (.d (.int d)) (setO S r t) ∧ St ns (setO S r t) r := by
  obtain ⟨i, c, m, b, h, hi⟩ := h
  have g : ∀ t, getO (setO S r t) r = some t := fun t => getO_set h
  have hS : setO S r (stT ns i c m b) = S := by
    have : ∀ (S : Store) (r : Nat) (t : Th), getO S r = some t → setO S r t = S := by
      intro S
      induction S with
      | nil => intro r t h; rfl
      | cons o S ih =>
        intro r t h
        cases r with
        | zero => simp only [getO, Option.some.injEq] at h; subst h; rfl
        | succ r => simp only [setO, ih r t h]
    exact this S r _ h
  have key : ∀ (S' : Store) x3 i' c' m' b', 0 ≤ i' → S' = setO S r (stT ns i' c' m' b') → ∃ d t, 0 ≤ d ∧ d < lim ∧ drawJ kt [some (.ref r), some (.d (.int lim)), none, x3, none] S' = .rt (.d (.int d)) (setO S r t) ∧ St ns (setO S r t) r := by
    rintro S' x3 i' c' m' b' hi' rfl
    obtain ⟨d, c2, m2, h1, h2, h3⟩ := drawJ_ok kt (x2 := none) (x3 := x3) (x4 := none) (g (stT ns i' c' m' b')) hi' hl hl'
    rw [setO_setO] at h3
    exact ⟨d, _, h1, h2, h3, _, _, _, _, g _, hi'⟩
  by_cases z : m = 0
  · have ht : t2 eqF (op2 (ixF kt) (varE 0) (conE (.int 3))) (conE (.int 0)) [some (.ref r), some (.d (.int lim)), none, none, none] S = .ok true S := by
      simp (disch := omega) [small_iff, smallN_iff, succ0, atL0, atL1, atLn, clipN, clip1, clip2, clipn, runP, runI, startV, seqS, asgS, ifS, t2, t1, andT, orT, notT, truT, varE, conE, getV, setV, nameG, eqF, neF, eqW, R.bind, R.so, retS, nxS, frzE, newE, lstF, argsF, unWs, unW, snap, op2, op1, addF, subF, mulF, ixF, callB, callF, arg1, strF, valE, intF, dataL, ifE, notNF, isNF, isNon, lenF, absF, callP, callI, snaps, anyRef, tupOnly, List.replicate, ltF, gtF, geF, leF, cmpF, slE, bndE, cut, methE, methF, kindW, dropS, tupE, listG, itemsS, truW, joinG, textsOf, negF, h, stT, atL3, z]
    rcases drawI_ok kt (lim := lim) h hi hn with h1 | ⟨x3, i', c', m', b', hi', h1⟩
    · refine ⟨0, stT ns i c m b, by omega, by omega, ?_, _, _, _, _, g _, hi⟩
      rw [hS]
      exact runI_rt rfl (by
        show seqS _ _ [some (.ref r), some (.d (.int lim)), none, none, none] S = _
        exact seqS_rt (by rw [ifS_t ht]; exact h1))
    · obtain ⟨d, t, h2, h3, h4, h5⟩ := key _ x3 i' c' m' b' hi' rfl
      refine ⟨d, t, h2, h3, ?_, h5⟩
      exact runI_rt rfl (by
        show seqS _ _ [some (.ref r), some (.d (.int lim)), none, none, none] S = _
        rw [seqS_nx (by rw [ifS_t ht]; exact h1)]
        exact h4)
  · have z' : (m == 0) = false := by simpa using z
    have ht : t2 eqF (op2 (ixF kt) (varE 0) (conE (.int 3))) (conE (.int 0)) [some (.ref r), some (.d (.int lim)), none, none, none] S = .ok false S := by
      simp (disch := omega) [small_iff, smallN_iff, succ0, atL0, atL1, atLn, clipN, clip1, clip2, clipn, runP, runI, startV, seqS, asgS, ifS, t2, t1, andT, orT, notT, truT, varE, conE, getV, setV, nameG, eqF, neF, eqW, R.bind, R.so, retS, nxS, frzE, newE, lstF, argsF, unWs, unW, snap, op2, op1, addF, subF, mulF, ixF, callB, callF, arg1, strF, valE, intF, dataL, ifE, notNF, isNF, isNon, lenF, absF, callP, callI, snaps, anyRef, tupOnly, List.replicate, ltF, gtF, geF, leF, cmpF, slE, bndE, cut, methE, methF, kindW, dropS, tupE, listG, itemsS, truW, joinG, textsOf, negF, h, stT, atL3, z']
    obtain ⟨d, t, h2, h3, h4, h5⟩ := key S none i c m b hi hS.symm
    refine ⟨d, t, h2, h3, ?_, h5⟩
    exact runI_rt rfl (by
      show seqS _ _ [some (.ref r), some (.d (.int lim)), none, none, none] S = _
      rw [seqS_nx (by rw [ifS_f ht]; rfl)]
      exact h4)
end Pw

end

section
set_option linter.all false
set_option maxRecDepth 100000
set_option linter.all false
set_option maxRecDepth 100000
/-! Pw5: the integer that a word writes: the program's way, and the laws'. -/
namespace Pw
open Pv
theorem digs_up : ∀ (ds : List Nat) (a n : Nat), 0 < a → digs ds a = some n → digitsN n = digitsN a ++ ds
  | [], a, n, _, h => by simp only [digs, Option.some.injEq] at h; subst h; simp
  | c :: r, a, n, ha, h => by
    simp only [digs] at h
    split at h
    · rename_i hc
      have hc' := isDg_iff.mp hc
      rw [digs_up r _ n (by omega) h, digitsN_ge (n := a * 10 + (c - 48)) (by omega)]
      rw [show (a * 10 + (c - 48)) / 10 = a by omega, show 48 + (a * 10 + (c - 48)) % 10 = c by omega]
      simp
    · cases h
theorem digs_canon {c : Nat} {r : List Nat} {n : Nat} (h1 : c ≠ 48 ∨ r = []) (h : digs (c :: r) 0 = some n) : digitsN n = c :: r := by
  simp only [digs] at h
  split at h
  · rename_i hc
    have hc' := isDg_iff.mp hc
    by_cases e : c = 48
    · have : r = [] := by rcases h1 with h1 | h1; · exact absurd e h1
                          · exact h1
      subst this e
      simp only [digs, Option.some.injEq] at h
      subst h
      rfl
    · have := digs_up r _ n (by omega) h
      rw [this, digitsN_lt (by omega), show 48 + (0 * 10 + (c - 48)) = c by omega]
      rfl
  · cases h
theorem digs_zero {r : List Nat} {n : Nat} (h : digs (48 :: r) 0 = some n) (hr : r ≠ []) : digitsN n ≠ 48 :: r := by
  intro e
  by_cases z : n = 0
  · subst z
    rw [digitsN_lt (by omega)] at e
    cases e
    exact hr rfl
  · obtain ⟨c, s, e1, h1, _⟩ := digitsN_head z
    rw [e1] at e
    cases e
    omega
/-- what rdI asks, by figures -/
def okW (w : List Nat) : Bool := !(figs w).isEmpty && decide (w.length ≤ 40) && (figs w).all isDg
def leadZ (w : List Nat) : Bool := (decide (1 < (figs w).length) && ((figs w).take 1 == [48])) || w == [45, 48]
theorem rdI_no {w : List Nat} (h : okW w = false) : rdI w = none := by
  unfold rdI
  cases h2 : intText w with
  | none => rfl
  | some n =>
    simp only
    rw [if_neg]
    rintro ⟨a, b, c, _⟩
    have : okW w = true := by
      unfold okW
      simp only [b, c, decide_true, Bool.and_true, Bool.not_eq_true']
      cases hf : figs w with
      | nil => exact absurd hf a
      | cons => rfl
    rw [this] at h; cases h
def valW (w : List Nat) : Int := if w.take 1 = [45] then -(((digs (figs w) 0).getD 0 : Nat) : Int) else (((digs (figs w) 0).getD 0 : Nat) : Int)
theorem okW_text {w : List Nat} (h : okW w = true) : intText w = some (valW w) ∧ ∃ n, digs (figs w) 0 = some n := by
  unfold okW at h
  simp only [Bool.and_eq_true, Bool.not_eq_true', decide_eq_true_eq] at h
  obtain ⟨⟨h1, h2⟩, h3⟩ := h
  obtain ⟨n, hn⟩ := digs_some _ 0 h3
  refine ⟨?_, n, hn⟩
  unfold valW
  rw [hn]
  cases w with
  | nil => simp [figs] at h1
  | cons c r =>
    by_cases hc : c = 45
    · subst hc
      simp only [figs, List.take_succ_cons, List.take_zero, if_true, List.drop_succ_cons, List.drop_zero] at h1 hn ⊢
      cases r with
      | nil => simp at h1
      | cons d r => simp only [intText, hn, Option.map_some, Option.getD_some]
    · simp only [figs, List.take_succ_cons, List.take_zero, List.cons.injEq, hc, false_and, if_false] at hn ⊢
      unfold intText
      split
      · rename_i h'; cases h'
      · rename_i h'; cases h'; exact absurd rfl hc
      · rename_i h'; cases h'; rw [hn]; rfl
theorem rdI_lead {w : List Nat} (h : okW w = true) : rdI w = if leadZ w then none else some (valW w) := by
  obtain ⟨h1, n, hn⟩ := okW_text h
  have h' := h
  unfold okW at h'
  simp only [Bool.and_eq_true, Bool.not_eq_true', decide_eq_true_eq] at h'
  obtain ⟨⟨h2, h3⟩, h4⟩ := h'
  have hf : figs w ≠ [] := by intro e; rw [e] at h2; cases h2
  have key : (textI (valW w) = w) ↔ leadZ w = false := by
    cases hfig : figs w with
    | nil => exact absurd hfig hf
    | cons c r =>
      rw [hfig] at hn
      have hv : valW w = if w.take 1 = [45] then -(n : Int) else (n : Int) := by unfold valW; rw [hfig, hn]; rfl
      unfold leadZ
      rw [hfig]
      by_cases hm : w.take 1 = [45]
      · rw [if_pos hm] at hv
        have hw : w = 45 :: c :: r := by
          cases w with
          | nil => simp at hm
          | cons a b =>
            have : a = 45 := by simpa using hm
            subst this
            simp only [figs, List.take_succ_cons, List.take_zero, if_true, List.drop_succ_cons, List.drop_zero] at hfig
            rw [hfig]
        rw [hv, hw]
        by_cases hz : n = 0
        · subst hz
          have : c = 48 := by
            by_cases e : c = 48
            · exact e
            · have := digs_canon (.inl e) hn
              rw [digitsN_lt (by omega)] at this
              cases this; rfl
          subst this
          have hd : digitsN 0 = [48] := digitsN_lt (by omega)
          cases r with
          | nil => simp [textI, hd]
          | cons => simp [textI, hd]
        · have e : textI (-(n : Int)) = 45 :: digitsN n := by
            unfold textI; rw [if_pos (by omega)]; simp
          rw [e]
          by_cases hc : c = 48
          · subst hc
            cases r with
            | nil =>
              simp only [digs] at hn
              have : n = 0 := by simpa using hn.symm
              exact absurd this hz
            | cons d s =>
              have := digs_zero hn (by simp)
              simp [this]
          · have := digs_canon (.inl hc) hn
            simp [this, hc]
      · rw [if_neg hm] at hv
        have hw : w = c :: r := by
          simp only [figs, if_neg hm] at hfig; exact hfig
        have hne : c ≠ 45 := by intro e; apply hm; rw [hw, e]; rfl
        rw [hv, hw]
        have e : textI (n : Int) = digitsN n := by
          unfold textI; rw [if_neg (by omega)]; simp
        rw [e]
        by_cases hc : c = 48
        · subst hc
          cases r with
          | nil => have := digs_canon (.inr rfl) hn; simp [this]
          | cons d s =>
            have := digs_zero hn (by simp)
            simp [this]
        · have := digs_canon (.inl hc) hn
          simp [this, hc, hne]
  unfold rdI
  rw [h1]
  simp only
  by_cases hl : leadZ w = true
  · rw [if_pos hl, if_neg]
    rintro ⟨_, _, _, e⟩
    rw [key.mp e] at hl; cases hl
  · have hl' : leadZ w = false := by simpa using hl
    rw [if_neg hl, if_pos ⟨hf, h3, h4, key.mpr hl'⟩]
def encI : Option Int → D
  | none => .non
  | some n => .int n
theorem orT_f {a b : TV} {e : En} {S S' : Store} (h : a e S = .ok false S') : orT a b e S = b e S' := by unfold orT; rw [h]; rfl
theorem orT_t {a b : TV} {e : En} {S S' : Store} (h : a e S = .ok true S') : orT a b e S = .ok true S' := by unfold orT; rw [h]; rfl
theorem andT_f {a b : TV} {e : En} {S S' : Store} (h : a e S = .ok false S') : andT a b e S = .ok false S' := by unfold andT; rw [h]; rfl
theorem andT_t {a b : TV} {e : En} {S S' : Store} (h : a e S = .ok true S') : andT a b e S = b e S' := by unfold andT; rw [h]; rfl
/-! the program's integer_of -/
def intB (kt : List (List D)) : SV :=
  (seqS (asgS (nameG 1) (ifE (t2 eqF (slE (varE 0) none (some (conE (.int 1)))) (conE (.str [45]))) (slE (varE 0) (some (conE (.int 1))) none) (varE 0)))
  (seqS (ifS (orT (t2 eqF (varE 1) (conE (.str []))) (orT (t2 gtF (callB (arg1 lenF) [(varE 0)]) (conE (.int 40))) (truT (callB (arg1 anyF) [(frzE (compN [2] 1 (seqI (varE 1)) (nameG 2) yesT (valE (t2 (notInF kt) (varE 2) (conE (.str [48, 49, 50, 51, 52, 53, 54, 55, 56, 57]))))))]))))
    (retS (conE (.non)))
    nxS)
  (retS (ifE (t2 eqF (callB (arg1 strF) [(callB (arg1 intF) [(varE 0)])]) (varE 0)) (callB (arg1 intF) [(varE 0)]) (conE (.non))))))
theorem unWs_bl (l : List Bool) : unWs (l.map fun x => W.d (.bl x)) = some (l.map .bl) := unWs_map .bl l
theorem boolsOf_map : ∀ (l : List Bool), boolsOf (l.map fun x => W.d (.bl x)) = some l
  | [] => rfl
  | x :: r => by simp [boolsOf, boolsOf_map r]
theorem any_not : ∀ (l : List Nat), (l.map fun c => !isDg c).any id = !l.all isDg
  | [] => rfl
  | c :: r => by
    have := any_not r
    simp only [List.map_cons, List.any_cons, List.all_cons, this, id]
    cases isDg c <;> simp
theorem cut_one (w : List Nat) : cut w none (some 1) = w.take 1 := by
  unfold cut
  cases w with
  | nil => rfl
  | cons c r => simp [clip]
theorem cut_rest (w : List Nat) : cut w (some 1) none = w.drop 1 := by
  unfold cut
  cases w with
  | nil => rfl
  | cons c r => simp [clip]
theorem take_one (w : List Nat) : (w.take 1 == [45]) = decide (w.take 1 = [45]) := by
  by_cases h : w.take 1 = [45] <;> simp [h]
theorem figs_len (w : List Nat) : (figs w).length ≤ w.length := by
  unfold figs; split <;> simp
theorem figs_asg (kt : List (List D)) {w : List Nat} {x1 x2 : Option W} (hw : w.length ≤ 16777216) :
    asgS (nameG 1) (ifE (t2 eqF (slE (varE 0) none (some (conE (.int 1)))) (conE (.str [45]))) (slE (varE 0) (some (conE (.int 1))) none) (varE 0)) [some (.d (.str w)), x1, x2] [] = .nx [some (.d (.str w)), some (.d (.str (figs w))), x2] [] := by
  have hs := small_iff hw
  unfold figs
  by_cases h : w.take 1 = [45]
  · have h' : (w.take 1 == [45]) = true := by simpa using h
    simp [asgS, ifE, t2, slE, varE, conE, getV, bndE, R.bind, hs, cut_one, cut_rest, eqF, eqW, h, R.so, nameG, setV]
  · have h' : (w.take 1 == [45]) = false := by simpa using h
    simp only [asgS, ifE, t2, slE, varE, conE, getV, bndE, R.bind, hs, cut_one, cut_rest, eqF, eqW, h', R.so, nameG, setV, if_true, if_false, h]
theorem figs_comp (kt : List (List D)) {x : List Nat} {e : En} {S : Store} (hx : x.length ≤ 16777216) (he : getV e 1 = some (.d (.str x))) (h2 : ∀ c, varE 2 (setV (wipeV e [2]) 2 (.d (.str [c]))) S = .ok (.d (.str [c])) S) :
    frzE (compN [2] 1 (seqI (varE 1)) (nameG 2) yesT (valE (t2 (notInF kt) (varE 2) (conE (.str [48, 49, 50, 51, 52, 53, 54, 55, 56, 57]))))) e S = .ok (.d (.lst (x.map fun c => .bl (!isDg c)))) S := by
  have hc : compN [2] 1 (seqI (varE 1)) (nameG 2) yesT (valE (t2 (notInF kt) (varE 2) (conE (.str [48, 49, 50, 51, 52, 53, 54, 55, 56, 57])))) e S = .ok ((x.map fun c => !isDg c).map fun b => W.d (.bl b)) S := by
    have := compL_pure (g := nameG 2) (t := yesT) (el := valE (t2 (notInF kt) (varE 2) (conE (.str [48, 49, 50, 51, 52, 53, 54, 55, 56, 57])))) (e := wipeV e [2]) (S := S)
      (fun _ => true) (fun w => match w with | .d (.str [c]) => .d (.bl (!isDg c)) | w => w) (x.map fun c => W.d (.str [c])) [] (by
        intro w hw
        obtain ⟨c, _, rfl⟩ := List.mem_map.mp hw
        refine ⟨_, rfl, rfl, fun _ => ?_⟩
        simp only [valE, t2, h2, R.bind, conE, notInF, inW, isDg_ten]) (by simpa using hx)
    simp only [compN, he, compF, seqI, varE, R.bind]
    rw [this, List.filter_eq_self.mpr (fun _ _ => rfl)]
    simp [Function.comp_def]
  unfold frzE
  rw [hc]
  simp only [R.bind, unWs_bl]
  simp [Function.comp_def]
theorem integer_ok (kt : List (List D)) {w : List Nat} (hw : w.length ≤ 16777216) : runP 1 3 (intB kt) [.str w] = .ok (encI (rdI w)) := by
  have key : intB kt [some (.d (.str w)), none, none] [] = .rt (.d (encI (rdI w))) [] := by
    unfold intB
    rw [seqS_nx (figs_asg kt hw)]
    have hfl : (figs w).length ≤ 16777216 := Nat.le_trans (figs_len w) hw
    have hcomp := figs_comp kt (x := figs w) (e := [some (.d (.str w)), some (.d (.str (figs w))), none]) (S := []) hfl rfl (fun c => rfl)
    have hT : orT (t2 eqF (varE 1) (conE (.str []))) (orT (t2 gtF (callB (arg1 lenF) [(varE 0)]) (conE (.int 40))) (truT (callB (arg1 anyF) [(frzE (compN [2] 1 (seqI (varE 1)) (nameG 2) yesT (valE (t2 (notInF kt) (varE 2) (conE (.str [48, 49, 50, 51, 52, 53, 54, 55, 56, 57]))))))]))) [some (.d (.str w)), some (.d (.str (figs w))), none] [] = .ok (!okW w) [] := by
      have hany : boolsOf ((figs w).map (W.d ∘ fun c => D.bl (!isDg c))) = some ((figs w).map fun c => !isDg c) := by
        have := boolsOf_map ((figs w).map fun c => !isDg c)
        simpa [Function.comp_def] using this
      have hal : callB (arg1 anyF) [(frzE (compN [2] 1 (seqI (varE 1)) (nameG 2) yesT (valE (t2 (notInF kt) (varE 2) (conE (.str [48, 49, 50, 51, 52, 53, 54, 55, 56, 57]))))))] [some (.d (.str w)), some (.d (.str (figs w))), none] [] = .ok (.d (.bl (!(figs w).all isDg))) [] := by
        simp only [callB, argsF, hcomp, R.bind, arg1, anyF, itemsL, Option.bind_some, List.map_map, hany, any_not]
      unfold okW
      by_cases a : figs w = []
      · simp [orT, t2, varE, conE, getV, R.bind, eqF, eqW, a]
      · have a' : (figs w == []) = false := by simpa using a
        have a2 : (figs w).isEmpty = false := by simpa using a
        by_cases b : w.length ≤ 40
        · have b' : ¬ ((40 : Int) < w.length) := by omega
          rw [orT_f (by simp [t2, varE, conE, getV, R.bind, eqF, eqW, a'] : _ = R.ok false []), orT_f (by simp [t2, varE, conE, getV, R.bind, callB, argsF, arg1, lenF, small_iff hw, gtF, cmpF, b'] : _ = R.ok false [])]
          simp [truT, hal, truW, R.bind, a2, b]
        · have b' : ((40 : Int) < w.length) := by omega
          simp [orT, t2, varE, conE, getV, R.bind, eqF, eqW, a', a2, callB, argsF, arg1, lenF, small_iff hw, gtF, cmpF, b', b]
    cases ho : okW w with
    | false =>
      rw [ho] at hT
      rw [seqS_rt (by rw [ifS_t hT]; rfl), rdI_no ho]
      rfl
    | true =>
      rw [ho] at hT
      rw [seqS_nx (by rw [ifS_f hT]; rfl)]
      obtain ⟨h1, n, hn⟩ := okW_text ho
      have h40 : w.length ≤ 40 := by unfold okW at ho; simp at ho; exact ho.1.2
      have hr : rdI w = if textI (valW w) = w then some (valW w) else none := by
        have := rdI_lead ho
        unfold rdI at this ⊢
        rw [h1] at this ⊢
        unfold okW at ho
        simp at ho
        simp [ho.1.1, ho.1.2, ho.2]
        by_cases hh : textI (valW w) = w
        · rw [if_pos ⟨fun c hc => ho.2 c hc, hh⟩, if_pos hh]
        · rw [if_neg (fun x => hh x.2), if_neg hh]
      have hlog : Nat.blt (valW w).natAbs.log2 1920 = true := by
        have hb : (valW w).natAbs < 10 ^ 41 := by
          have : (valW w).natAbs = n := by unfold valW; rw [hn]; simp only [Option.getD_some]; split <;> omega
          rw [this]
          have hfl2 : (figs w).length ≤ 40 := Nat.le_trans (figs_len w) h40
          have bound : ∀ (ds : List Nat) (a m : Nat), digs ds a = some m → m < (a + 1) * 10 ^ ds.length := by
            intro ds
            induction ds with
            | nil => intro a m h; simp [digs] at h; subst h; simp
            | cons c r ih =>
              intro a m h
              simp only [digs] at h
              split at h
              · rename_i hc
                have hc' := isDg_iff.mp hc
                have := ih _ _ h
                refine Nat.lt_of_lt_of_le this ?_
                rw [List.length_cons, Nat.pow_succ, Nat.mul_comm (10 ^ r.length) 10, ← Nat.mul_assoc]
                exact Nat.mul_le_mul_right _ (by omega)
              · cases h
          have := bound _ _ _ hn
          simp only [Nat.zero_add, Nat.one_mul] at this
          exact Nat.lt_of_lt_of_le this (Nat.pow_le_pow_right (by omega) (by omega))
        have := log_small hb
        exact Nat.ble_eq_true_of_le this
      have hb : Nat.ble w.length 640 = true := Nat.ble_eq_true_of_le (by omega)
      rw [hr]
      by_cases hh : textI (valW w) = w
      · rw [if_pos hh]
        simp [retS, ifE, t2, callB, argsF, arg1, varE, getV, R.bind, intF, hb, h1, strF, hlog, eqF, eqW, hh, R.so, encI]
      · rw [if_neg hh]
        have hh' : (textI (valW w) == w) = false := by simpa using hh
        simp [retS, ifE, t2, callB, argsF, arg1, varE, getV, R.bind, intF, hb, h1, strF, hlog, eqF, eqW, hh', R.so, encI, conE]
  exact runP_rt rfl key rfl
end Pw

end

section
set_option linter.all false
set_option maxRecDepth 100000
set_option linter.all false
set_option maxRecDepth 100000
/-! Pw6: the laws' reading of integers. -/
namespace Pw
open Pv
def lawIntL : SV :=
  (asgS (nameG 2) (op2 addF (op2 mulF (conE (.int 10)) (varE 2)) (methE [1] indexG (conE (.str [48, 49, 50, 51, 52, 53, 54, 55, 56, 57])) [(varE 3)])))
def lawIntA (kt : List (List D)) : TV := (orT (t2 eqF (callB (arg1 lenF) [(varE 1)]) (conE (.int 0))) (orT (t2 gtF (callB (arg1 lenF) [(varE 0)]) (conE (.int 40))) (t2 gtF (callB (arg1 lenF) [(frzE (compN [3] 1 (seqI (varE 1)) (nameG 3) (t2 (notInF kt) (varE 3) (conE (.str [48, 49, 50, 51, 52, 53, 54, 55, 56, 57]))) (varE 3)))]) (conE (.int 0)))))
def lawIntZ (kt : List (List D)) : TV := (orT (andT (t2 gtF (callB (arg1 lenF) [(varE 1)]) (conE (.int 1))) (t2 eqF (op2 (ixF kt) (varE 1) (conE (.int 0))) (conE (.str [48])))) (t2 eqF (varE 0) (conE (.str [45, 48]))))
def lawIntR (kt : List (List D)) : EV := (op2 (ixF kt) (frzE (lstF [(varE 2), (op2 subF (conE (.int 0)) (varE 2))])) (callB (arg1 intF) [(valE (t2 eqF (slE (varE 0) none (some (conE (.int 1)))) (conE (.str [45]))))]))
def lawIntB (kt : List (List D)) : SV :=
  (seqS (asgS (nameG 1) (varE 0))
  (seqS (ifS (t2 eqF (slE (varE 0) none (some (conE (.int 1)))) (conE (.str [45])))
    (asgS (nameG 1) (slE (varE 0) (some (conE (.int 1))) none))
    nxS)
  (seqS (ifS (lawIntA kt)
    (retS (conE (.non)))
    nxS)
  (seqS (ifS (lawIntZ kt)
    (retS (conE (.non)))
    nxS)
  (seqS (asgS (nameG 2) (conE (.int 0)))
  (seqS (forN 1 (seqI (varE 1)) (nameG 3) lawIntL)
  (retS (lawIntR kt))))))))
theorem index_ten {c : Nat} (h : isDg c = true) {S : Store} : indexG (.d (.str [48, 49, 50, 51, 52, 53, 54, 55, 56, 57])) [.d (.str [c])] S = .ok (.d (.int ((c - 48 : Nat) : Int))) S := by
  have := isDg_iff.mp h
  have : c = 48 ∨ c = 49 ∨ c = 50 ∨ c = 51 ∨ c = 52 ∨ c = 53 ∨ c = 54 ∨ c = 55 ∨ c = 56 ∨ c = 57 := by omega
  rcases this with rfl | rfl | rfl | rfl | rfl | rfl | rfl | rfl | rfl | rfl <;> rfl
theorem bad_comp (kt : List (List D)) {x : List Nat} {w : D} {x2 x3 : Option W} {S : Store} (hx : x.length ≤ 16777216) :
    frzE (compN [3] 1 (seqI (varE 1)) (nameG 3) (t2 (notInF kt) (varE 3) (conE (.str [48, 49, 50, 51, 52, 53, 54, 55, 56, 57]))) (varE 3)) [some (.d w), some (.d (.str x)), x2, x3] S = .ok (.d (.lst ((x.filter fun c => !isDg c).map fun c => .str [c]))) S := by
  have hc : compN [3] 1 (seqI (varE 1)) (nameG 3) (t2 (notInF kt) (varE 3) (conE (.str [48, 49, 50, 51, 52, 53, 54, 55, 56, 57]))) (varE 3) [some (.d w), some (.d (.str x)), x2, x3] S = .ok ((x.filter fun c => !isDg c).map fun c => W.d (.str [c])) S := by
    have := compL_pure (g := nameG 3) (t := t2 (notInF kt) (varE 3) (conE (.str [48, 49, 50, 51, 52, 53, 54, 55, 56, 57]))) (el := varE 3) (e := [some (.d w), some (.d (.str x)), x2, none]) (S := S)
      (fun w => match w with | .d (.str [c]) => !isDg c | w => false) id (x.map fun c => W.d (.str [c])) [] (by
        intro w hw
        obtain ⟨c, _, rfl⟩ := List.mem_map.mp hw
        refine ⟨_, rfl, ?_, fun _ => rfl⟩
        simp only [t2, varE, getV, setV, R.bind, conE, notInF, inW, isDg_ten]) (by simpa using hx)
    simp only [compN, compF, seqI, varE, R.bind, getV, wipeV, List.set]
    rw [this, List.filter_map]
    simp [Function.comp_def]
  unfold frzE
  rw [hc]
  have := unWs_map (fun c => D.str [c]) (x.filter fun c => !isDg c)
  simp only [R.bind, this]
theorem len_filter (x : List Nat) : decide (0 < (x.filter fun c => !isDg c).length) = !x.all isDg := by
  induction x with
  | nil => rfl
  | cons c r ih =>
    cases h : isDg c with
    | true => simp only [List.filter_cons, h, Bool.not_true, Bool.false_eq_true, if_false, List.all_cons, Bool.true_and]; exact ih
    | false => simp [h]
theorem law_integer_ok (kt : List (List D)) {w : List Nat} (hw : w.length ≤ 16777216) : runP 1 4 (lawIntB kt) [.str w] = .ok (encI (rdI w)) := by
  have hs := small_iff hw
  have hfl : (figs w).length ≤ 16777216 := Nat.le_trans (figs_len w) hw
  have hsf := small_iff hfl
  have key : lawIntB kt [some (.d (.str w)), none, none, none] [] = .rt (.d (encI (rdI w))) [] := by
    unfold lawIntB
    rw [seqS_nx (e' := [some (.d (.str w)), some (.d (.str w)), none, none]) (S' := []) (by rfl)]
    have h1 : ifS (t2 eqF (slE (varE 0) none (some (conE (.int 1)))) (conE (.str [45]))) (asgS (nameG 1) (slE (varE 0) (some (conE (.int 1))) none)) nxS [some (.d (.str w)), some (.d (.str w)), none, none] [] = .nx [some (.d (.str w)), some (.d (.str (figs w))), none, none] [] := by
      have ht : t2 eqF (slE (varE 0) none (some (conE (.int 1)))) (conE (.str [45])) [some (.d (.str w)), some (.d (.str w)), none, none] [] = .ok (decide (w.take 1 = [45])) [] := by
        simp only [t2, slE, varE, getV, R.bind, bndE, conE, hs, cut_one, if_true, eqF, eqW, take_one]
      unfold figs
      by_cases h : w.take 1 = [45]
      · rw [ifS_t (by rw [ht]; simp [h]; rfl), if_pos h]
        simp only [asgS, slE, varE, getV, R.bind, bndE, conE, hs, cut_rest, if_true, nameG, setV, R.so]
      · rw [ifS_f (by rw [ht]; simp [h]; rfl), if_neg h]
        rfl
    rw [seqS_nx h1]
    have hT : lawIntA kt [some (.d (.str w)), some (.d (.str (figs w))), none, none] [] = .ok (!okW w) [] := by
      have hbad : t2 gtF (callB (arg1 lenF) [(frzE (compN [3] 1 (seqI (varE 1)) (nameG 3) (t2 (notInF kt) (varE 3) (conE (.str [48, 49, 50, 51, 52, 53, 54, 55, 56, 57]))) (varE 3)))]) (conE (.int 0)) [some (.d (.str w)), some (.d (.str (figs w))), none, none] [] = .ok (!(figs w).all isDg) [] := by
        have := len_filter (figs w)
        simp only [t2, callB, argsF, bad_comp kt hfl, R.bind, arg1, lenF, conE, gtF, cmpF, List.length_map]
        rw [← this]
        congr 1
        simp
      unfold lawIntA okW
      by_cases a : figs w = []
      · simp [orT, t2, varE, conE, getV, R.bind, callB, argsF, arg1, lenF, eqF, eqW, a, small]
      · have a2 : (figs w).isEmpty = false := by simpa using a
        have a3 : (((figs w).length : Int) == 0) = false := by
          cases hf : figs w with
          | nil => exact absurd hf a
          | cons => exact succ0
        rw [orT_f (by simp [t2, varE, conE, getV, R.bind, callB, argsF, arg1, lenF, hsf, eqF, eqW, a3, a] : _ = R.ok false [])]
        by_cases b : w.length ≤ 40
        · have b' : ¬ ((40 : Int) < w.length) := by omega
          rw [orT_f (by simp [t2, varE, conE, getV, R.bind, callB, argsF, arg1, lenF, hs, gtF, cmpF, b'] : _ = R.ok false []), hbad]
          simp [a2, b]
        · have b' : ((40 : Int) < w.length) := by omega
          rw [orT_t (by simp [t2, varE, conE, getV, R.bind, callB, argsF, arg1, lenF, hs, gtF, cmpF, b'] : _ = R.ok true [])]
          simp [b]
    cases ho : okW w with
    | false =>
      rw [ho] at hT
      rw [seqS_rt (by rw [ifS_t hT]; rfl), rdI_no ho]
      rfl
    | true =>
      rw [ho] at hT
      rw [seqS_nx (by rw [ifS_f hT]; rfl), rdI_lead ho]
      obtain ⟨_, n, hn⟩ := okW_text ho
      have ho' := ho
      unfold okW at ho'
      simp only [Bool.and_eq_true, Bool.not_eq_true', decide_eq_true_eq] at ho'
      have hZ : lawIntZ kt [some (.d (.str w)), some (.d (.str (figs w))), none, none] [] = .ok (leadZ w) [] := by
        unfold lawIntZ leadZ
        cases hf : figs w with
        | nil => rw [hf] at ho'; simp at ho'
        | cons c r =>
          rw [hf] at hsf
          by_cases hr : 1 < (c :: r).length
          · have hr' : (1 : Int) < ((c :: r).length : Int) := by omega
            by_cases hc : c = 48
            · subst hc
              have hd : decide (1 < (48 :: r).length) = true := by simpa using hr
              rw [orT_t (S' := [])]
              · simp only [hd]; simp
              · rw [andT_t (S' := [])]
                · simp only [t2, varE, conE, getV, R.bind, op2, ixF, hsf, atL0, eqF, eqW, if_true]; rfl
                · simp only [t2, varE, conE, getV, R.bind, callB, argsF, arg1, lenF, hsf, gtF, cmpF, hr', decide_true, if_true]
            · have hc' : ([c] == [48]) = false := by simpa using hc
              rw [orT_f (S' := [])]
              · simp [t2, varE, conE, getV, R.bind, eqF, eqW, hc]
              · rw [andT_t (S' := [])]
                · simp only [t2, varE, conE, getV, R.bind, op2, ixF, hsf, atL0, eqF, eqW, hc', if_true]
                · simp only [t2, varE, conE, getV, R.bind, callB, argsF, arg1, lenF, hsf, gtF, cmpF, hr', decide_true, if_true]
          · have hr' : ¬ (1 : Int) < ((c :: r).length : Int) := by omega
            rw [orT_f (S' := [])]
            · simp only [t2, varE, conE, getV, R.bind, eqF, eqW, hr, decide_false, Bool.false_and, Bool.false_or]
            · rw [andT_f (S' := [])]
              simp only [t2, varE, conE, getV, R.bind, callB, argsF, arg1, lenF, hsf, gtF, cmpF, hr', decide_false, if_true]
      cases hl : leadZ w with
      | true =>
        rw [hl] at hZ
        rw [seqS_rt (by rw [ifS_t hZ]; rfl)]
        rfl
      | false =>
        rw [hl] at hZ
        rw [seqS_nx (by rw [ifS_f hZ]; rfl), seqS_nx (e' := [some (.d (.str w)), some (.d (.str (figs w))), some (.d (.int 0)), none]) (S' := []) (by rfl)]
        have loop := forL_ind (g := nameG 3) (b := lawIntL) (ws := (figs w).map fun c => W.d (.str [c]))
          (fun k e S => S = [] ∧ ∃ m x3, digs ((figs w).take k) 0 = some m ∧ e = [some (.d (.str w)), some (.d (.str (figs w))), some (.d (.int (m : Nat))), x3])
          (fun o => ∃ x3, o = .nx [some (.d (.str w)), some (.d (.str (figs w))), some (.d (.int (n : Nat))), x3] [])
          (by
            rintro k x e S hx ⟨rfl, m, x3, hm, rfl⟩
            simp only [List.getElem?_map, Option.map_eq_some_iff] at hx
            obtain ⟨c, hc, rfl⟩ := hx
            have hd : isDg c = true := List.all_eq_true.mp ho'.2 c (List.mem_of_getElem? hc)
            refine ⟨_, _, rfl, ?_⟩
            have q : small64 10 = true := rfl
            have hi := index_ten (c := c) hd (S := [])
            have ht : (figs w).take (k + 1) = (figs w).take k ++ [c] := by rw [List.take_succ, hc]; rfl
            have hd2 : digs ((figs w).take (k + 1)) 0 = some (m * 10 + (c - 48)) := by
              rw [ht, digs_app, hm]
              simp only [Option.bind_some, digs]
              unfold isDg at hd
              rw [if_pos hd]
            have : lawIntL (setV [some (.d (.str w)), some (.d (.str (figs w))), some (.d (.int (m : Nat))), x3] 3 (.d (.str [c]))) [] = .nx [some (.d (.str w)), some (.d (.str (figs w))), some (.d (.int ((m * 10 + (c - 48) : Nat) : Int))), some (.d (.str [c]))] [] := by
              simp only [lawIntL, asgS, op2, conE, R.bind, varE, getV, setV, mulF, q, Bool.true_or, if_true, methE, kindW, argsF, hi, addF, R.so, nameG]
              have hk : [1].contains 1 = true := rfl
              simp only [hk, if_true, R.bind, R.so, hi, addF]
              have : (10 * (m : Int) + ((c - 48 : Nat) : Int)) = ((m * 10 + (c - 48) : Nat) : Int) := by omega
              rw [this]
            rw [this]
            exact ⟨rfl, _, _, hd2, rfl⟩)
          (by
            rintro e S ⟨rfl, m, x3, hm, rfl⟩
            rw [List.length_map, List.take_length, hn] at hm
            cases hm
            exact ⟨x3, rfl⟩) (e := [some (.d (.str w)), some (.d (.str (figs w))), some (.d (.int 0)), none]) (S := []) ⟨rfl, 0, none, rfl, rfl⟩
        obtain ⟨x3, hh⟩ := loop
        have hfor : forN 1 (seqI (varE 1)) (nameG 3) lawIntL [some (.d (.str w)), some (.d (.str (figs w))), some (.d (.int 0)), none] [] = .nx [some (.d (.str w)), some (.d (.str (figs w))), some (.d (.int (n : Nat))), x3] [] := by
          show forS _ _ _ _ _ = _
          rw [forS_fix (S' := []) (ws := (figs w).map fun c => W.d (.str [c])) (by simp only [seqI, varE, getV, R.bind])]
          exact hh
        rw [seqS_nx hfor]
        have hv : valW w = if w.take 1 = [45] then -(n : Int) else (n : Int) := by unfold valW; rw [hn]; rfl
        have hix : ∀ (b : Bool), intF (.d (.bl b)) [] = .ok (.d (.int (if b then 1 else 0))) [] := fun b => rfl
        have hR : lawIntR kt [some (.d (.str w)), some (.d (.str (figs w))), some (.d (.int (n : Nat))), x3] [] = .ok (.d (.int (valW w))) [] := by
          rw [hv]
          by_cases h : w.take 1 = [45]
          · simp [lawIntR, op2, frzE, lstF, argsF, varE, getV, R.bind, conE, subF, unWs, callB, arg1, valE, t2, slE, bndE, hs, cut_one, eqF, eqW, h, intF, ixF, atL1]
          · have h' : (w.take 1 == [45]) = false := by simpa using h
            have e1 : valE (t2 eqF (slE (varE 0) none (some (conE (.int 1)))) (conE (.str [45]))) [some (.d (.str w)), some (.d (.str (figs w))), some (.d (.int (n : Nat))), x3] [] = .ok (.d (.bl false)) [] := by
              simp only [valE, t2, slE, bndE, hs, cut_one, eqF, eqW, h', varE, getV, R.bind, conE, if_true]
            simp [lawIntR, op2, frzE, lstF, argsF, varE, getV, R.bind, conE, subF, unWs, callB, arg1, e1, intF, ixF, atL0, h]
        simp only [retS, hR, R.so]
        rfl
  exact runP_rt rfl key rfl
end Pw

end

section
set_option linter.all false
set_option maxRecDepth 100000
set_option linter.all false
set_option maxRecDepth 100000
/-! Pw7: cuts, the second tactic. -/
namespace Pw
open Pv
theorem cutT {α : Type} (w : List α) (k : Nat) : cut w none (some (k : Int)) = w.take k := by
  unfold cut
  simp only [clip, List.drop_zero, Nat.sub_zero]
  rcases Nat.le_total k w.length with h | h
  · rw [Nat.min_eq_left h]
  · rw [Nat.min_eq_right h, List.take_length, List.take_of_length_le h]
theorem cutD {α : Type} (w : List α) (k : Nat) : cut w (some (k : Int)) none = w.drop k := by
  unfold cut
  simp only [clip]
  rcases Nat.le_total k w.length with h | h
  · rw [Nat.min_eq_left h, List.take_of_length_le (by rw [List.length_drop]; exact Nat.le_refl _)]
  · rw [Nat.min_eq_right h, Nat.sub_self, List.take_zero, List.drop_of_length_le h]
theorem cutTD {α : Type} (w : List α) (j k : Nat) : cut w (some (j : Int)) (some (k : Int)) = (w.take k).drop j := by
  unfold cut
  simp only [clip]
  rw [← List.drop_take]
  have : w.take (min k w.length) = w.take k := by
    rcases Nat.le_total k w.length with h | h
    · rw [Nat.min_eq_left h]
    · rw [Nat.min_eq_right h, List.take_length, List.take_of_length_le h]
  rw [this]
  rcases Nat.le_total j w.length with h | h
  · rw [Nat.min_eq_left h]
  · rw [Nat.min_eq_right h]
    have h1 : (w.take k).length ≤ w.length := by rw [List.length_take]; omega
    rw [List.drop_of_length_le h1, List.drop_of_length_le (Nat.le_trans h1 h)]
theorem cutT1 {α : Type} (w : List α) : cut w none (some 1) = w.take 1 := cutT w 1
theorem cutT2 {α : Type} (w : List α) : cut w none (some 2) = w.take 2 := cutT w 2
theorem cutD1 {α : Type} (w : List α) : cut w (some 1) none = w.drop 1 := cutD w 1
theorem cutD2 {α : Type} (w : List α) : cut w (some 2) none = w.drop 2 := cutD w 2
theorem sm1 {α : Type} {c : α} : small [c] = true := rfl
theorem sm0 {α : Type} : small ([] : List α) = true := rfl
end Pw

end

section
set_option linter.all false
set_option maxRecDepth 100000
namespace K54
open Pv
def kt : List (List D) := [[], [.int 0, .tup []]]
def t0_normal : TV :=
  ((andT (t2 gtF (varE 3) (varE 2)) (t2 eqF (op2 (ixF kt) (varE 1) (op2 subF (varE 3) (conE (.int 1)))) (conE (.int 0)))))
def l1_normal : SV :=
  (augS 3 subF (conE (.int 1)))
def t2_normal : TV :=
  ((andT (t2 ltF (varE 2) (callB (arg1 lenF) [(varE 1)])) (t2 eqF (op2 (ixF kt) (varE 1) (varE 2)) (conE (.int 0)))))
def l3_normal : SV :=
  (augS 2 iaddF (conE (.int 1)))
def b_normal : SV :=
  (seqS (asgS (nameG 2) (conE (.int 0)))
  (seqS (whileN t2_normal l3_normal 1000000)
  (seqS (asgS (nameG 3) (callB (arg1 lenF) [(varE 1)]))
  (seqS (whileN t0_normal l1_normal 1000000)
  (seqS (ifS (t2 eqF (varE 2) (varE 3))
    (retS (conE (.tup [.int 0, .tup []])))
    nxS)
  (retS (tupE [(op2 addF (varE 0) (varE 2)), (callB (tupleG) [(slE (varE 1) (some (varE 2)) (some (varE 3)))])])))))))
def normal_ : List D → Pv.P := runP 2 4 b_normal
def b_from_terms : SV :=
  (seqS (ifS (t1 noneF (varE 0))
    (retS (conE (.tup [.int 0, .tup []])))
    nxS)
  (seqS (asgS (nameG 1) (callB (arg1 minDF) [(varE 0)]))
  (retS (callP normal_ [(varE 1), (frzE (compF [2] (rng2 (varE 1) (op2 addF (callB (arg1 maxDF) [(varE 0)]) (conE (.int 1)))) (nameG 2) yesT (methE [3] (getG kt) (varE 0) [(varE 2), (conE (.int 0))])))]))))
def from_terms_ : List D → Pv.P := runP 1 3 b_from_terms
def b_two_from_terms : SV :=
  (retS (callB (tupleG) [(frzE (compF [1] (seqI (frzE (callF sortDG [(varE 0)]))) (nameG 1) (t2 neF (op2 (ixF kt) (varE 0) (varE 1)) (conE (.int 0))) (op2 addF (varE 1) (tupE [(op2 (ixF kt) (varE 0) (varE 1))]))))]))
def two_from_terms_ : List D → Pv.P := runP 1 2 b_two_from_terms
def b_integer_of : SV :=
  (seqS (asgS (nameG 1) (ifE (t2 eqF (slE (varE 0) none (some (conE (.int 1)))) (conE (.str [45]))) (slE (varE 0) (some (conE (.int 1))) none) (varE 0)))
  (seqS (ifS (orT (t2 eqF (varE 1) (conE (.str []))) (orT (t2 gtF (callB (arg1 lenF) [(varE 0)]) (conE (.int 40))) (truT (callB (arg1 anyF) [(frzE (compN [2] 1 (seqI (varE 1)) (nameG 2) yesT (valE (t2 (notInF kt) (varE 2) (conE (.str [48, 49, 50, 51, 52, 53, 54, 55, 56, 57]))))))]))))
    (retS (conE (.non)))
    nxS)
  (retS (ifE (t2 eqF (callB (arg1 strF) [(callB (arg1 intF) [(varE 0)])]) (varE 0)) (callB (arg1 intF) [(varE 0)]) (conE (.non))))))
def integer_of_ : List D → Pv.P := runP 1 3 b_integer_of
def b__power_text : SV :=
  (seqS (ifS (t2 eqF (varE 1) (conE (.int 0)))
    (retS (conE (.str [])))
    nxS)
  (retS (ifE (t2 eqF (varE 1) (conE (.int 1))) (varE 0) (op2 addF (op2 addF (varE 0) (conE (.str [94]))) (callB (arg1 strF) [(varE 1)])))))
def _power_text_ : List D → Pv.P := runP 2 2 b__power_text
def b__term_text : SV :=
  (seqS (asgS (nameG 2) (frzE (compN [3] 1 (seqI (varE 1)) (nameG 3) (t2 neF (varE 3) (conE (.str []))) (varE 3))))
  (seqS (ifS (orT (t2 neF (varE 0) (conE (.int 1))) (notT (truT (varE 2))))
    (asgS (nameG 2) (op2 addF (frzE (lstF [(callB (arg1 strF) [(varE 0)])])) (varE 2)))
    nxS)
  (retS (methE [1] joinG (conE (.str [32])) [(varE 2)]))))
def _term_text_ : List D → Pv.P := runP 2 4 b__term_text
def l0__sum_text : SV :=
  (seqS (asgS (nameG 4) (callP _term_text_ [(callB (arg1 absF) [(varE 2)]), (varE 3)]))
  (ifS (t2 eqF (varE 1) (conE (.str [])))
    (asgS (nameG 1) (ifE (t2 ltF (varE 2) (conE (.int 0))) (op2 addF (conE (.str [45])) (varE 4)) (varE 4)))
    (augS 1 iaddF (op2 addF (ifE (t2 ltF (varE 2) (conE (.int 0))) (conE (.str [32, 45, 32])) (conE (.str [32, 43, 32]))) (varE 4)))))
def b__sum_text : SV :=
  (seqS (ifS (notT (truT (varE 0)))
    (retS (conE (.str [48])))
    nxS)
  (seqS (asgS (nameG 1) (conE (.str [])))
  (seqS (forN 0 (seqI (varE 0)) (tupG [(nameG 2), (nameG 3)]) l0__sum_text)
  (retS (varE 1)))))
def _sum_text_ : List D → Pv.P := runP 1 5 b__sum_text
def l0_format_polynomial : SV :=
  (ifS (t2 neF (varE 4) (conE (.int 0)))
    (dropS (methE [2] appendG (varE 2) [(tupE [(varE 4), (frzE (lstF [(callP _power_text_ [(varE 1), (op2 addF (op2 (ixF kt) (varE 0) (conE (.int 0))) (varE 3))])]))])]))
    nxS)
def b_format_polynomial : SV :=
  (seqS (asgS (nameG 2) (newE (lstF [])))
  (seqS (forS (enumI (op2 (ixF kt) (varE 0) (conE (.int 1)))) (tupG [(nameG 3), (nameG 4)]) l0_format_polynomial)
  (retS (callP _sum_text_ [(varE 2)]))))
def format_polynomial_ : List D → Pv.P := runP 2 5 b_format_polynomial
def b_format_two : SV :=
  (retS (callP _sum_text_ [(frzE (compN [1, 2, 3] 0 (seqI (varE 0)) (tupG [(nameG 1), (nameG 2), (nameG 3)]) yesT (tupE [(varE 3), (frzE (lstF [(callP _power_text_ [(conE (.str [118])), (varE 1)]), (callP _power_text_ [(conE (.str [122])), (varE 2)])]))])))]))
def format_two_ : List D → Pv.P := runP 1 4 b_format_two
def b__exponent_of : SV :=
  (seqS (ifS (t2 eqF (varE 0) (varE 1))
    (retS (conE (.int 1)))
    nxS)
  (seqS (ifS (notT (truT (methE [1] startsG (varE 0) [(op2 addF (varE 1) (conE (.str [94])))])))
    (retS (conE (.non)))
    nxS)
  (seqS (asgS (nameG 2) (callP integer_of_ [(slE (varE 0) (some (op2 addF (callB (arg1 lenF) [(varE 1)]) (conE (.int 1)))) none)]))
  (retS (ifE (t2 (inF kt) (varE 2) (tupE [(conE (.non)), (conE (.int 0)), (conE (.int 1))])) (conE (.non)) (varE 2))))))
def _exponent_of_ : List D → Pv.P := runP 2 3 b__exponent_of
def l0__term_of : SV :=
  (seqS (asgS (nameG 6) (ifE (truT (varE 3)) (callP _exponent_of_ [(op2 (ixF kt) (varE 3) (conE (.int 0))), (varE 5)]) (conE (.non))))
  (seqS (dropS (methE [2] appendG (varE 4) [(ifE (t1 isNF (varE 6)) (conE (.int 0)) (varE 6))]))
  (ifS (t1 notNF (varE 6))
    (asgS (nameG 3) (slE (varE 3) (some (conE (.int 1))) none))
    nxS)))
def b__term_of : SV :=
  (seqS (asgS (nameG 2) (conE (.int 1)))
  (seqS (asgS (nameG 3) (frzE (callF listG [(varE 0)])))
  (seqS (ifS (andT (truT (varE 3)) (t1 notNF (callP integer_of_ [(op2 (ixF kt) (varE 3) (conE (.int 0)))])))
    (seqS (asgS (nameG 2) (callP integer_of_ [(op2 (ixF kt) (varE 3) (conE (.int 0)))]))
    (seqS (ifS (orT (t2 ltF (varE 2) (conE (.int 1))) (andT (t2 eqF (varE 2) (conE (.int 1))) (t2 gtF (callB (arg1 lenF) [(varE 3)]) (conE (.int 1)))))
      (retS (conE (.non)))
      nxS)
    (asgS (nameG 3) (slE (varE 3) (some (conE (.int 1))) none))))
    (ifS (notT (truT (varE 3)))
      (retS (conE (.non)))
      nxS))
  (seqS (asgS (nameG 4) (newE (lstF [])))
  (seqS (forN 1 (seqI (varE 1)) (nameG 5) l0__term_of)
  (retS (ifE (truT (varE 3)) (conE (.non)) (tupE [(varE 2), (callB (tupleG) [(varE 4)])]))))))))
def _term_of_ : List D → Pv.P := runP 2 7 b__term_of
def l0__terms_of : SV :=
  (ifS (t2 (inF kt) (varE 5) (tupE [(conE (.str [43])), (conE (.str [45]))]))
    (seqS (asgS (nameG 6) (callP _term_of_ [(varE 4), (varE 1)]))
    (seqS (ifS (t1 isNF (varE 6))
      (retS (conE (.non)))
      nxS)
    (seqS (dropS (methE [2] appendG (varE 3) [(tupE [(op2 mulF (varE 2) (op2 (ixF kt) (varE 6) (conE (.int 0)))), (op2 (ixF kt) (varE 6) (conE (.int 1)))])]))
    (seqS (asgS (nameG 2) (ifE (t2 eqF (varE 5) (conE (.str [43]))) (conE (.int 1)) (op1 negF (conE (.int 1)))))
    (asgS (nameG 4) (newE (lstF [])))))))
    (dropS (methE [2] appendG (varE 4) [(varE 5)])))
def b__terms_of : SV :=
  (seqS (ifS (t2 eqF (varE 0) (conE (.str [48])))
    (retS (frzE (lstF [])))
    nxS)
  (seqS (asgS (nameG 2) (conE (.int 1)))
  (seqS (ifS (truT (methE [1] startsG (varE 0) [(conE (.str [45]))]))
    (seqS (asgS (nameG 2) (op1 negF (conE (.int 1))))
    (asgS (nameG 0) (slE (varE 0) (some (conE (.int 1))) none)))
    nxS)
  (seqS (asgS (nameG 3) (newE (lstF [])))
  (seqS (asgS (nameG 4) (newE (lstF [])))
  (seqS (forS (seqI (op2 addF (frzE (methF [1] splitG (varE 0) [(conE (.str [32]))])) (frzE (lstF [(conE (.str [43]))])))) (nameG 5) l0__terms_of)
  (retS (varE 3))))))))
def _terms_of_ : List D → Pv.P := runP 2 7 b__terms_of
def b_parse_polynomial : SV :=
  (seqS (asgS (nameG 2) (callP _terms_of_ [(varE 0), (tupE [(varE 1)])]))
  (seqS (ifS (t1 isNF (varE 2))
    (raiseS 0 (conE (.int 0)))
    nxS)
  (seqS (asgS (nameG 3) (callP from_terms_ [(compD kt false [4, 5] (seqI (varE 2)) (tupG [(nameG 4), (nameG 5)]) yesT (op2 (ixF kt) (varE 5) (conE (.int 0))) (varE 4))]))
  (seqS (ifS (t2 neF (callP format_polynomial_ [(varE 3), (varE 1)]) (varE 0))
    (raiseS 0 (conE (.int 0)))
    nxS)
  (retS (varE 3))))))
def parse_polynomial_ : List D → Pv.P := runP 2 6 b_parse_polynomial
def b_parse_two : SV :=
  (seqS (asgS (nameG 1) (callP _terms_of_ [(varE 0), (tupE [(conE (.str [118])), (conE (.str [122]))])]))
  (seqS (ifS (t1 isNF (varE 1))
    (raiseS 0 (conE (.int 0)))
    nxS)
  (seqS (asgS (nameG 2) (callP two_from_terms_ [(compD kt true [3, 4] (seqI (varE 1)) (tupG [(nameG 3), (nameG 4)]) yesT (varE 4) (varE 3))]))
  (seqS (ifS (t2 neF (callP format_two_ [(varE 2)]) (varE 0))
    (raiseS 0 (conE (.int 0)))
    nxS)
  (retS (varE 2))))))
def parse_two_ : List D → Pv.P := runP 1 5 b_parse_two
def b__law_state : SV :=
  (retS (newE (lstF [(frzE (callF listG [(varE 0)])), (conE (.int 0)), (conE (.int 0)), (conE (.int 0)), (conE (.bl false)), (conE (.int 500))])))
def _law_state_ : List W → Store → R W := runI 1 1 b__law_state
def b__law_draw : SV :=
  (seqS (ifS (t2 eqF (op2 (ixF kt) (varE 0) (conE (.int 3))) (conE (.int 0)))
    (seqS (ifS (t2 geF (op2 (ixF kt) (varE 0) (conE (.int 1))) (callB (arg1 lenF) [(op2 (ixF kt) (varE 0) (conE (.int 0)))]))
      (retS (conE (.int 0)))
      nxS)
    (seqS (asgS (nameG 3) (op2 (ixF kt) (op2 (ixF kt) (varE 0) (conE (.int 0))) (op2 (ixF kt) (varE 0) (conE (.int 1)))))
    (seqS (ifS (t2 ltF (varE 3) (conE (.int 0)))
      (asgS (nameG 3) (op2 subF (op1 negF (conE (.int 1))) (varE 3)))
      nxS)
    (seqS (asgS (subG kt (varE 0) (conE (.int 1))) (op2 addF (op2 (ixF kt) (varE 0) (conE (.int 1))) (conE (.int 1))))
    (seqS (asgS (subG kt (varE 0) (conE (.int 2))) (varE 3))
    (seqS (asgS (subG kt (varE 0) (conE (.int 4))) (valE (t2 geF (varE 3) (op2 powF (conE (.int 10)) (conE (.int 18))))))
    (seqS (asgS (subG kt (varE 0) (conE (.int 3))) (conE (.int 6)))
    (ifS (truT (op2 (ixF kt) (varE 0) (conE (.int 4))))
      (asgS (subG kt (varE 0) (conE (.int 3))) (conE (.int 60)))
      nxS))))))))
    nxS)
  (seqS (asgS (subG kt (varE 0) (conE (.int 3))) (op2 subF (op2 (ixF kt) (varE 0) (conE (.int 3))) (conE (.int 1))))
  (seqS (ifS (truT (op2 (ixF kt) (varE 0) (conE (.int 4))))
    (seqS (asgS (nameG 4) (op2 modF (callB (arg1 intF) [(op2 (ixF kt) (varE 0) (conE (.int 2)))]) (varE 1)))
    (seqS (asgS (subG kt (varE 0) (conE (.int 2))) (op2 divF (op2 (ixF kt) (varE 0) (conE (.int 2))) (varE 1)))
    (seqS (ifS (t2 eqF (op2 (ixF kt) (varE 0) (conE (.int 2))) (conE (.int 0)))
      (asgS (subG kt (varE 0) (conE (.int 3))) (conE (.int 0)))
      nxS)
    (retS (varE 4)))))
    nxS)
  (seqS (asgS (nameG 2) (op2 modF (callB (arg1 intF) [(op2 addF (op2 addF (op2 mulF (op2 (ixF kt) (varE 0) (conE (.int 2))) (conE (.int 48271))) (op2 mulF (op2 (ixF kt) (varE 0) (conE (.int 3))) (conE (.int 69621)))) (conE (.int 7)))]) (conE (.int 2147483647))))
  (seqS (asgS (nameG 2) (op2 modF (callB (arg1 intF) [(op2 addF (op2 addF (op2 mulF (varE 2) (varE 2)) (op2 mulF (op2 (ixF kt) (varE 0) (conE (.int 2))) (conE (.int 31)))) (op2 (ixF kt) (varE 0) (conE (.int 3))))]) (conE (.int 1000003))))
  (retS (op2 modF (callB (arg1 intF) [(varE 2)]) (varE 1))))))))
def _law_draw_ : List W → Store → R W := runI 2 5 b__law_draw
def b__law_poly : SV :=
  (seqS (asgS (nameG 1) (frzE (callF sortDG [(frzE (compN [3] 0 (seqI (varE 0)) (nameG 3) (t2 neF (op2 (ixF kt) (varE 0) (varE 3)) (conE (.int 0))) (varE 3)))])))
  (seqS (ifS (t2 eqF (callB (arg1 lenF) [(varE 1)]) (conE (.int 0)))
    (retS (tupE [(conE (.int 0)), (tupE [])]))
    nxS)
  (seqS (asgS (nameG 2) (op2 (ixF kt) (varE 1) (conE (.int 0))))
  (retS (tupE [(varE 2), (callB (tupleG) [(frzE (compF [3] (rng2 (varE 2) (op2 addF (op2 (ixF kt) (varE 1) (op2 subF (callB (arg1 lenF) [(varE 1)]) (conE (.int 1)))) (conE (.int 1)))) (nameG 3) yesT (methE [3] (getG kt) (varE 0) [(varE 3), (conE (.int 0))])))])])))))
def _law_poly_ : List D → Pv.P := runP 1 4 b__law_poly
def l0__law_drawn_poly : SV :=
  (seqS (asgS (nameG 5) (op2 subF (callI _law_draw_ [(varE 0), (conE (.int 9))]) (conE (.int 4))))
  (seqS (ifS (t2 eqF (callI _law_draw_ [(varE 0), (conE (.int 8))]) (conE (.int 7)))
    (asgS (nameG 5) (op2 addF (op2 mulF (op2 subF (callI _law_draw_ [(varE 0), (conE (.int 2001))]) (conE (.int 1000))) (op2 powF (conE (.int 10)) (conE (.int 20)))) (callI _law_draw_ [(varE 0), (conE (.int 99))])))
    nxS)
  (asgS (subG kt (varE 2) (op2 addF (varE 3) (varE 4))) (varE 5))))
def b__law_drawn_poly : SV :=
  (seqS (asgS (nameG 2) (dictE false))
  (seqS (asgS (nameG 3) (op2 subF (callI _law_draw_ [(varE 0), (conE (.int 9))]) (conE (.int 5))))
  (seqS (forS (rng1 (callI _law_draw_ [(varE 0), (op2 addF (varE 1) (conE (.int 1)))])) (nameG 4) l0__law_drawn_poly)
  (retS (callP _law_poly_ [(varE 2)])))))
def _law_drawn_poly_ : List W → Store → R W := runI 2 6 b__law_drawn_poly
def l0__law_integer : SV :=
  (asgS (nameG 2) (op2 addF (op2 mulF (conE (.int 10)) (varE 2)) (methE [1] indexG (conE (.str [48, 49, 50, 51, 52, 53, 54, 55, 56, 57])) [(varE 3)])))
def b__law_integer : SV :=
  (seqS (asgS (nameG 1) (varE 0))
  (seqS (ifS (t2 eqF (slE (varE 0) none (some (conE (.int 1)))) (conE (.str [45])))
    (asgS (nameG 1) (slE (varE 0) (some (conE (.int 1))) none))
    nxS)
  (seqS (ifS (orT (t2 eqF (callB (arg1 lenF) [(varE 1)]) (conE (.int 0))) (orT (t2 gtF (callB (arg1 lenF) [(varE 0)]) (conE (.int 40))) (t2 gtF (callB (arg1 lenF) [(frzE (compN [3] 1 (seqI (varE 1)) (nameG 3) (t2 (notInF kt) (varE 3) (conE (.str [48, 49, 50, 51, 52, 53, 54, 55, 56, 57]))) (varE 3)))]) (conE (.int 0)))))
    (retS (conE (.non)))
    nxS)
  (seqS (ifS (orT (andT (t2 gtF (callB (arg1 lenF) [(varE 1)]) (conE (.int 1))) (t2 eqF (op2 (ixF kt) (varE 1) (conE (.int 0))) (conE (.str [48])))) (t2 eqF (varE 0) (conE (.str [45, 48]))))
    (retS (conE (.non)))
    nxS)
  (seqS (asgS (nameG 2) (conE (.int 0)))
  (seqS (forN 1 (seqI (varE 1)) (nameG 3) l0__law_integer)
  (retS (op2 (ixF kt) (frzE (lstF [(varE 2), (op2 subF (conE (.int 0)) (varE 2))])) (callB (arg1 intF) [(valE (t2 eqF (slE (varE 0) none (some (conE (.int 1)))) (conE (.str [45]))))])))))))))
def _law_integer_ : List D → Pv.P := runP 1 4 b__law_integer
def b__law_power : SV :=
  (seqS (ifS (t2 eqF (varE 1) (conE (.int 0)))
    (retS (frzE (lstF [])))
    nxS)
  (retS (frzE (lstF [(op2 addF (varE 0) (op2 (ixF kt) (frzE (lstF [(conE (.str [])), (op2 addF (conE (.str [94])) (callB (arg1 strF) [(varE 1)]))])) (callB (arg1 intF) [(valE (t2 neF (varE 1) (conE (.int 1))))])))]))))
def _law_power_ : List D → Pv.P := runP 2 2 b__law_power
def l0__law_sum : SV :=
  (seqS (asgS (nameG 4) (frzE (callF listG [(varE 3)])))
  (seqS (ifS (orT (t2 neF (callB (arg1 absF) [(varE 2)]) (conE (.int 1))) (t2 eqF (callB (arg1 lenF) [(varE 4)]) (conE (.int 0))))
    (asgS (nameG 4) (op2 addF (frzE (lstF [(callB (arg1 strF) [(callB (arg1 absF) [(varE 2)])])])) (varE 4)))
    nxS)
  (seqS (asgS (nameG 5) (op2 (ixF kt) (frzE (lstF [(conE (.str [])), (conE (.str [45]))])) (callB (arg1 intF) [(valE (t2 ltF (varE 2) (conE (.int 0))))])))
  (seqS (ifS (t2 neF (varE 1) (conE (.str [])))
    (asgS (nameG 5) (op2 (ixF kt) (frzE (lstF [(conE (.str [32, 43, 32])), (conE (.str [32, 45, 32]))])) (callB (arg1 intF) [(valE (t2 ltF (varE 2) (conE (.int 0))))])))
    nxS)
  (asgS (nameG 1) (op2 addF (op2 addF (varE 1) (varE 5)) (methE [1] joinG (conE (.str [32])) [(varE 4)])))))))
def b__law_sum : SV :=
  (seqS (ifS (t2 eqF (callB (arg1 lenF) [(varE 0)]) (conE (.int 0)))
    (retS (conE (.str [48])))
    nxS)
  (seqS (asgS (nameG 1) (conE (.str [])))
  (seqS (forN 0 (seqI (varE 0)) (tupG [(nameG 2), (nameG 3)]) l0__law_sum)
  (retS (varE 1)))))
def _law_sum_ : List D → Pv.P := runP 1 6 b__law_sum
def l0__law_one : SV :=
  (ifS (t2 neF (op2 (ixF kt) (op2 (ixF kt) (varE 0) (conE (.int 1))) (varE 3)) (conE (.int 0)))
    (dropS (methE [2] appendG (varE 2) [(tupE [(op2 (ixF kt) (op2 (ixF kt) (varE 0) (conE (.int 1))) (varE 3)), (callP _law_power_ [(varE 1), (op2 addF (op2 (ixF kt) (varE 0) (conE (.int 0))) (varE 3))])])]))
    nxS)
def b__law_one : SV :=
  (seqS (asgS (nameG 2) (newE (lstF [])))
  (seqS (forS (rng1 (callB (arg1 lenF) [(op2 (ixF kt) (varE 0) (conE (.int 1)))])) (nameG 3) l0__law_one)
  (retS (callP _law_sum_ [(varE 2)]))))
def _law_one_ : List D → Pv.P := runP 2 4 b__law_one
def b__law_two : SV :=
  (retS (callP _law_sum_ [(frzE (compN [1, 2, 3] 0 (seqI (varE 0)) (tupG [(nameG 1), (nameG 2), (nameG 3)]) yesT (tupE [(varE 3), (op2 addF (callP _law_power_ [(conE (.str [118])), (varE 1)]) (callP _law_power_ [(conE (.str [122])), (varE 2)]))])))]))
def _law_two_ : List D → Pv.P := runP 1 4 b__law_two
def b__law_exponent : SV :=
  (seqS (ifS (t2 eqF (varE 0) (varE 1))
    (retS (conE (.int 1)))
    nxS)
  (seqS (ifS (t2 neF (slE (varE 0) none (some (op2 addF (callB (arg1 lenF) [(varE 1)]) (conE (.int 1))))) (op2 addF (varE 1) (conE (.str [94]))))
    (retS (conE (.non)))
    nxS)
  (retS (callP _law_integer_ [(slE (varE 0) (some (op2 addF (callB (arg1 lenF) [(varE 1)]) (conE (.int 1)))) none)]))))
def _law_exponent_ : List D → Pv.P := runP 2 2 b__law_exponent
def l0__law_terms_of : SV :=
  (seqS (asgS (nameG 9) (conE (.int 0)))
  (seqS (ifS (andT (t2 gtF (callB (arg1 lenF) [(varE 4)]) (conE (.int 0))) (t1 notNF (callP _law_exponent_ [(op2 (ixF kt) (varE 4) (conE (.int 0))), (varE 8)])))
    (seqS (asgS (nameG 9) (callP _law_exponent_ [(op2 (ixF kt) (varE 4) (conE (.int 0))), (varE 8)]))
    (asgS (nameG 4) (newE (slF (varE 4) (some (conE (.int 1))) none))))
    nxS)
  (dropS (methE [2] appendG (varE 7) [(varE 9)]))))
def l1__law_terms_of : SV :=
  (seqS (ifS (t2 (notInF kt) (varE 5) (frzE (lstF [(conE (.str [43])), (conE (.str [45]))])))
    (seqS (dropS (methE [2] appendG (varE 4) [(varE 5)]))
    cntS)
    nxS)
  (seqS (asgS (nameG 6) (conE (.int 1)))
  (seqS (ifS (t2 eqF (callB (arg1 lenF) [(varE 4)]) (conE (.int 0)))
    (retS (conE (.non)))
    nxS)
  (seqS (ifS (t1 notNF (callP _law_integer_ [(op2 (ixF kt) (varE 4) (conE (.int 0)))]))
    (seqS (asgS (nameG 6) (callP _law_integer_ [(op2 (ixF kt) (varE 4) (conE (.int 0)))]))
    (asgS (nameG 4) (newE (slF (varE 4) (some (conE (.int 1))) none))))
    nxS)
  (seqS (asgS (nameG 7) (newE (lstF [])))
  (seqS (forN 1 (seqI (varE 1)) (nameG 8) l0__law_terms_of)
  (seqS (ifS (t2 gtF (callB (arg1 lenF) [(varE 4)]) (conE (.int 0)))
    (retS (conE (.non)))
    nxS)
  (seqS (asgS (subG kt (varE 3) (callB (tupleG) [(varE 7)])) (op2 mulF (varE 2) (varE 6)))
  (asgS (nameG 2) (op2 (ixF kt) (frzE (lstF [(conE (.int 1)), (op1 negF (conE (.int 1)))])) (callB (arg1 intF) [(valE (t2 eqF (varE 5) (conE (.str [45]))))])))))))))))
def b__law_terms_of : SV :=
  (seqS (ifS (t2 eqF (varE 0) (conE (.str [48])))
    (retS (dictE true))
    nxS)
  (seqS (asgS (nameG 2) (conE (.int 1)))
  (seqS (ifS (t2 eqF (slE (varE 0) none (some (conE (.int 1)))) (conE (.str [45])))
    (seqS (asgS (nameG 2) (op1 negF (conE (.int 1))))
    (asgS (nameG 0) (slE (varE 0) (some (conE (.int 1))) none)))
    nxS)
  (seqS (asgS (nameG 3) (dictE true))
  (seqS (asgS (nameG 4) (newE (lstF [])))
  (seqS (forS (seqI (op2 addF (frzE (methF [1] splitG (varE 0) [(conE (.str [32]))])) (frzE (lstF [(conE (.str [43]))])))) (nameG 5) l1__law_terms_of)
  (retS (varE 3))))))))
def _law_terms_of_ : List D → Pv.P := runP 2 10 b__law_terms_of
def b__law_turned : SV :=
  (seqS (asgS (nameG 2) (frzE (methF [1] splitG (varE 1) [(conE (.str [32]))])))
  (seqS (asgS (nameG 3) (callI _law_draw_ [(varE 0), (callB (arg1 lenF) [(varE 2)])]))
  (seqS (asgS (nameG 4) (frzE (lstF [(conE (.str [])), (conE (.str [48])), (conE (.str [43])), (conE (.str [45])), (conE (.str [65])), (conE (.str [65, 94, 49])), (conE (.str [65, 94, 48])), (conE (.str [65, 94, 50])), (conE (.str [118])), (conE (.str [122, 94, 45, 49])), (conE (.str [49])), (conE (.str [50])), (conE (.str [45, 51])), (conE (.str [48, 49])), (conE (.str [65, 94])), (conE (.str [116, 94, 50])), (conE (.str [118, 94, 48, 50]))])))
  (seqS (asgS (nameG 5) (callI _law_draw_ [(varE 0), (conE (.int 4))]))
  (seqS (ifS (t2 eqF (varE 5) (conE (.int 0)))
    (asgS (nameG 2) (op2 addF (slE (varE 2) none (some (varE 3))) (slE (varE 2) (some (op2 addF (varE 3) (conE (.int 1)))) none)))
    nxS)
  (seqS (ifS (t2 eqF (varE 5) (conE (.int 1)))
    (asgS (nameG 2) (op2 addF (op2 addF (slE (varE 2) none (some (varE 3))) (slE (varE 2) (some (varE 3)) (some (op2 addF (varE 3) (conE (.int 1)))))) (slE (varE 2) (some (varE 3)) none)))
    nxS)
  (seqS (ifS (t2 eqF (varE 5) (conE (.int 2)))
    (asgS (nameG 2) (op2 addF (op2 addF (slE (varE 2) none (some (varE 3))) (frzE (lstF [(op2 (ixF kt) (varE 4) (callI _law_draw_ [(varE 0), (callB (arg1 lenF) [(varE 4)])]))]))) (slE (varE 2) (some (op2 addF (varE 3) (conE (.int 1)))) none)))
    nxS)
  (seqS (ifS (t2 eqF (varE 5) (conE (.int 3)))
    (asgS (nameG 2) (op2 addF (op2 addF (slE (varE 2) none (some (varE 3))) (frzE (lstF [(op2 (ixF kt) (varE 4) (callI _law_draw_ [(varE 0), (callB (arg1 lenF) [(varE 4)])]))]))) (slE (varE 2) (some (varE 3)) none)))
    nxS)
  (retS (methE [1] joinG (conE (.str [32])) [(varE 2)]))))))))))
def _law_turned_ : List W → Store → R W := runI 2 6 b__law_turned
def b__law_read : SV :=
  (tryS (seqS (ifS (t2 eqF (varE 1) (conE (.str [])))
      (retS (tupE [(conE (.str [114, 101, 97, 100])), (callP parse_two_ [(varE 0)])]))
      nxS)
    (retS (tupE [(conE (.str [114, 101, 97, 100])), (callP parse_polynomial_ [(varE 0), (varE 1)])]))) 0 2 [114, 101, 102, 117, 115, 101, 100])
def _law_read_ : List D → Pv.P := runP 2 3 b__law_read
def l0__law_due : SV :=
  (asgS (subG kt (varE 3) (op2 (ixF kt) (varE 4) (conE (.int 0)))) (op2 (ixF kt) (varE 2) (varE 4)))
def b__law_due : SV :=
  (seqS (ifS (t2 eqF (varE 1) (conE (.str [])))
    (seqS (asgS (nameG 2) (callP _law_terms_of_ [(varE 0), (frzE (lstF [(conE (.str [118])), (conE (.str [122]))]))]))
    (seqS (ifS (t1 isNF (varE 2))
      (retS (tupE [(conE (.str [114, 101, 102, 117, 115, 101, 100])), (conE (.int 0))]))
      nxS)
    (seqS (asgS (nameG 5) (callB (tupleG) [(frzE (compF [4] (seqI (frzE (callF sortDG [(varE 2)]))) (nameG 4) (t2 neF (op2 (ixF kt) (varE 2) (varE 4)) (conE (.int 0))) (op2 addF (varE 4) (tupE [(op2 (ixF kt) (varE 2) (varE 4))]))))]))
    (retS (op2 (ixF kt) (frzE (lstF [(tupE [(conE (.str [114, 101, 102, 117, 115, 101, 100])), (conE (.int 0))]), (tupE [(conE (.str [114, 101, 97, 100])), (varE 5)])])) (callB (arg1 intF) [(valE (t2 eqF (callP _law_two_ [(varE 5)]) (varE 0)))]))))))
    nxS)
  (seqS (asgS (nameG 2) (callP _law_terms_of_ [(varE 0), (frzE (lstF [(varE 1)]))]))
  (seqS (ifS (t1 isNF (varE 2))
    (retS (tupE [(conE (.str [114, 101, 102, 117, 115, 101, 100])), (conE (.int 0))]))
    nxS)
  (seqS (asgS (nameG 3) (dictE false))
  (seqS (forN 2 (seqI (varE 2)) (nameG 4) l0__law_due)
  (seqS (asgS (nameG 5) (callP _law_poly_ [(varE 3)]))
  (retS (op2 (ixF kt) (frzE (lstF [(tupE [(conE (.str [114, 101, 102, 117, 115, 101, 100])), (conE (.int 0))]), (tupE [(conE (.str [114, 101, 97, 100])), (varE 5)])])) (callB (arg1 intF) [(valE (t2 eqF (callP _law_one_ [(varE 5), (varE 1)]) (varE 0)))])))))))))
def _law_due_ : List D → Pv.P := runP 2 6 b__law_due
def l0_law : SV :=
  (seqS (asgS (nameG 10) (callI _law_turned_ [(varE 1), (varE 5)]))
  (seqS (ifS (t2 neF (callP _law_read_ [(varE 10), (varE 3)]) (callP _law_due_ [(varE 10), (varE 3)]))
    (retS (conE (.bl false)))
    nxS)
  (seqS (asgS (nameG 10) (callI _law_turned_ [(varE 1), (varE 9)]))
  (ifS (t2 neF (callP _law_read_ [(varE 10), (conE (.str []))]) (callP _law_due_ [(varE 10), (conE (.str []))]))
    (retS (conE (.bl false)))
    nxS))))
def l1_law : SV :=
  (asgS (subG kt (varE 6) (tupE [(op2 subF (callI _law_draw_ [(varE 1), (conE (.int 7))]) (conE (.int 3))), (op2 subF (callI _law_draw_ [(varE 1), (conE (.int 7))]) (conE (.int 3)))])) (op2 (ixF kt) (frzE (lstF [(op2 subF (callI _law_draw_ [(varE 1), (conE (.int 9))]) (conE (.int 4))), (op2 subF (op2 powF (conE (.int 10)) (conE (.int 30))) (conE (.int 7)))])) (callB (arg1 intF) [(valE (t2 eqF (callI _law_draw_ [(varE 1), (conE (.int 8))]) (conE (.int 7))))])))
def l2_law : SV :=
  (seqS (asgS (nameG 3) (op2 (ixF kt) (frzE (lstF [(conE (.str [65])), (conE (.str [116])), (conE (.str [122]))])) (callI _law_draw_ [(varE 1), (conE (.int 3))])))
  (seqS (asgS (nameG 4) (callI _law_drawn_poly_ [(varE 1), (conE (.int 6))]))
  (seqS (asgS (nameG 5) (callP _law_one_ [(varE 4), (varE 3)]))
  (seqS (ifS (orT (t2 neF (callP format_polynomial_ [(varE 4), (varE 3)]) (varE 5)) (t2 neF (callP _law_read_ [(varE 5), (varE 3)]) (tupE [(conE (.str [114, 101, 97, 100])), (varE 4)])))
    (retS (conE (.bl false)))
    nxS)
  (seqS (asgS (nameG 6) (dictE true))
  (seqS (forS (rng1 (callI _law_draw_ [(varE 1), (conE (.int 6))])) (nameG 7) l1_law)
  (seqS (asgS (nameG 8) (callB (tupleG) [(frzE (compF [11] (seqI (frzE (callF sortDG [(varE 6)]))) (nameG 11) (t2 neF (op2 (ixF kt) (varE 6) (varE 11)) (conE (.int 0))) (op2 addF (varE 11) (tupE [(op2 (ixF kt) (varE 6) (varE 11))]))))]))
  (seqS (asgS (nameG 9) (callP _law_two_ [(varE 8)]))
  (seqS (ifS (orT (t2 neF (callP format_two_ [(varE 8)]) (varE 9)) (t2 neF (callP _law_read_ [(varE 9), (conE (.str []))]) (tupE [(conE (.str [114, 101, 97, 100])), (varE 8)])))
    (retS (conE (.bl false)))
    nxS)
  (forS (rng1 (conE (.int 5))) (nameG 7) l0_law))))))))))
def b_law : SV :=
  (seqS (asgS (nameG 1) (callI _law_state_ [(varE 0)]))
  (seqS (forS (rng1 (conE (.int 3))) (nameG 2) l2_law)
  (retS (andE (valE (t2 eqF (callP _law_read_ [(conE (.str [])), (conE (.str [65]))]) (tupE [(conE (.str [114, 101, 102, 117, 115, 101, 100])), (conE (.int 0))]))) (valE (t2 eqF (callP _law_read_ [(conE (.str [48])), (conE (.str []))]) (tupE [(conE (.str [114, 101, 97, 100])), (tupE [])])))))))
def law_ : List D → Pv.P := runP 1 12 b_law

end K54
end

section
set_option linter.all false
set_option maxRecDepth 100000
set_option linter.all false
set_option maxRecDepth 100000
namespace K54
open Pv Pw
theorem law_power (l : List Nat) (n : Int) (hn : n.natAbs.log2 < 1920) (hl : l.length ≤ 1000) (hs : (textI n).length ≤ 1000) :
  _law_power_ [.str l, .int n] = .ok (.lst (if n = 0 then [] else [.str (if n = 1 then l else l ++ (94 :: textI n))])) := by
  by_cases a : n = 0
  · simp (disch := omega) [small_iff, smallN_iff, succ0, atL0, atL1, atLn, clipN, clip1, clip2, clipn, runP, runI, startV, seqS, asgS, ifS, t2, t1, andT, orT, notT, truT, varE, conE, getV, setV, nameG, eqF, neF, eqW, R.bind, R.so, retS, nxS, frzE, newE, lstF, argsF, unWs, unW, snap, op2, op1, addF, subF, mulF, ixF, callB, callF, arg1, strF, valE, intF, dataL, ifE, notNF, isNF, isNon, lenF, absF, callP, callI, snaps, anyRef, tupOnly, List.replicate, ltF, gtF, geF, leF, cmpF, slE, bndE, cut, methE, methF, kindW, dropS, tupE, listG, itemsS, truW, joinG, textsOf, negF, _law_power_, b__law_power, a]
  · have a' : (n == 0) = false := by simpa using a
    by_cases b : n = 1
    · have h4 : Nat.log2 1 < 1920 := by decide
      subst b
      simp (disch := omega) [small_iff, smallN_iff, succ0, atL0, atL1, atLn, clipN, clip1, clip2, clipn, runP, runI, startV, seqS, asgS, ifS, t2, t1, andT, orT, notT, truT, varE, conE, getV, setV, nameG, eqF, neF, eqW, R.bind, R.so, retS, nxS, frzE, newE, lstF, argsF, unWs, unW, snap, op2, op1, addF, subF, mulF, ixF, callB, callF, arg1, strF, valE, intF, dataL, ifE, notNF, isNF, isNon, lenF, absF, callP, callI, snaps, anyRef, tupOnly, List.replicate, ltF, gtF, geF, leF, cmpF, slE, bndE, cut, methE, methF, kindW, dropS, tupE, listG, itemsS, truW, joinG, textsOf, negF, _law_power_, b__law_power, h4]
    · have b' : (n == 1) = false := by simpa using b
      simp (disch := omega) [small_iff, smallN_iff, succ0, atL0, atL1, atLn, clipN, clip1, clip2, clipn, runP, runI, startV, seqS, asgS, ifS, t2, t1, andT, orT, notT, truT, varE, conE, getV, setV, nameG, eqF, neF, eqW, R.bind, R.so, retS, nxS, frzE, newE, lstF, argsF, unWs, unW, snap, op2, op1, addF, subF, mulF, ixF, callB, callF, arg1, strF, valE, intF, dataL, ifE, notNF, isNF, isNon, lenF, absF, callP, callI, snaps, anyRef, tupOnly, List.replicate, ltF, gtF, geF, leF, cmpF, slE, bndE, cut, methE, methF, kindW, dropS, tupE, listG, itemsS, truW, joinG, textsOf, negF, _law_power_, b__law_power, a, b, a', b', hn]
theorem power_text (l : List Nat) (n : Int) (hn : n.natAbs.log2 < 1920) (hl : l.length ≤ 1000) (hs : (textI n).length ≤ 1000) :
  _power_text_ [.str l, .int n] = .ok (.str (if n = 0 then [] else if n = 1 then l else l ++ (94 :: textI n))) := by
  by_cases a : n = 0
  · simp (disch := omega) [small_iff, smallN_iff, succ0, atL0, atL1, atLn, clipN, clip1, clip2, clipn, runP, runI, startV, seqS, asgS, ifS, t2, t1, andT, orT, notT, truT, varE, conE, getV, setV, nameG, eqF, neF, eqW, R.bind, R.so, retS, nxS, frzE, newE, lstF, argsF, unWs, unW, snap, op2, op1, addF, subF, mulF, ixF, callB, callF, arg1, strF, valE, intF, dataL, ifE, notNF, isNF, isNon, lenF, absF, callP, callI, snaps, anyRef, tupOnly, List.replicate, ltF, gtF, geF, leF, cmpF, slE, bndE, cut, methE, methF, kindW, dropS, tupE, listG, itemsS, truW, joinG, textsOf, negF, _power_text_, b__power_text, a]
  · have a' : (n == 0) = false := by simpa using a
    by_cases b : n = 1
    · simp (disch := omega) [small_iff, smallN_iff, succ0, atL0, atL1, atLn, clipN, clip1, clip2, clipn, runP, runI, startV, seqS, asgS, ifS, t2, t1, andT, orT, notT, truT, varE, conE, getV, setV, nameG, eqF, neF, eqW, R.bind, R.so, retS, nxS, frzE, newE, lstF, argsF, unWs, unW, snap, op2, op1, addF, subF, mulF, ixF, callB, callF, arg1, strF, valE, intF, dataL, ifE, notNF, isNF, isNon, lenF, absF, callP, callI, snaps, anyRef, tupOnly, List.replicate, ltF, gtF, geF, leF, cmpF, slE, bndE, cut, methE, methF, kindW, dropS, tupE, listG, itemsS, truW, joinG, textsOf, negF, _power_text_, b__power_text, b]
    · have b' : (n == 1) = false := by simpa using b
      simp (disch := omega) [small_iff, smallN_iff, succ0, atL0, atL1, atLn, clipN, clip1, clip2, clipn, runP, runI, startV, seqS, asgS, ifS, t2, t1, andT, orT, notT, truT, varE, conE, getV, setV, nameG, eqF, neF, eqW, R.bind, R.so, retS, nxS, frzE, newE, lstF, argsF, unWs, unW, snap, op2, op1, addF, subF, mulF, ixF, callB, callF, arg1, strF, valE, intF, dataL, ifE, notNF, isNF, isNon, lenF, absF, callP, callI, snaps, anyRef, tupOnly, List.replicate, ltF, gtF, geF, leF, cmpF, slE, bndE, cut, methE, methF, kindW, dropS, tupE, listG, itemsS, truW, joinG, textsOf, negF, _power_text_, b__power_text, a, b, a', b', hn]
def partsT (n : Int) (ps : List (List Nat)) : List (List Nat) := if n = 1 ∧ ps.filter (fun x => !x.isEmpty) ≠ [] then ps.filter (fun x => !x.isEmpty) else textI n :: ps.filter (fun x => !x.isEmpty)
def termT (n : Int) (ps : List (List Nat)) : List Nat := joinL [32] (partsT n ps)
theorem sum_le {c : Nat} : ∀ (l : List (List Nat)), (∀ x ∈ l, x.length ≤ c) → (l.map List.length).sum ≤ l.length * c
  | [], _ => by simp
  | x :: r, h => by
    have h1 := h x List.mem_cons_self
    have h2 := sum_le r fun y hy => h y (List.mem_cons_of_mem _ hy)
    simp only [List.map_cons, List.sum_cons, List.length_cons, Nat.add_mul, Nat.one_mul]
    omega
theorem term_text (n : Int) (ps : List (List Nat)) (hn : n.natAbs.log2 < 1920) (h1 : (textI n).length ≤ 1000) (h2 : ps.length ≤ 100) (h3 : ∀ p ∈ ps, p.length ≤ 1000) :
    _term_text_ [.int n, .lst (ps.map .str)] = .ok (.str (termT n ps)) := by
  have hc : ∀ (S : Store), compN [3] 1 (seqI (varE 1)) (nameG 3) (t2 neF (varE 3) (conE (.str []))) (varE 3) [some (.d (.int n)), some (.d (.lst (ps.map .str))), none, none] S = .ok ((ps.filter fun x => !x.isEmpty).map fun x => W.d (.str x)) S := by
    intro S
    have := compL_pure (g := nameG 3) (t := t2 neF (varE 3) (conE (.str []))) (el := varE 3) (e := [some (.d (.int n)), some (.d (.lst (ps.map .str))), none, none]) (S := S)
      (fun w => match w with | .d (.str x) => !x.isEmpty | _ => false) id (ps.map fun x => W.d (.str x)) [] (by
        intro w hw
        obtain ⟨x, hx, rfl⟩ := List.mem_map.mp hw
        refine ⟨_, rfl, ?_, fun _ => ?_⟩
        · simp (disch := omega) [small_iff, smallN_iff, succ0, atL0, atL1, atLn, clipN, clip1, clip2, clipn, runP, runI, startV, seqS, asgS, ifS, t2, t1, andT, orT, notT, truT, varE, conE, getV, setV, nameG, eqF, neF, eqW, R.bind, R.so, retS, nxS, frzE, newE, lstF, argsF, unWs, unW, snap, op2, op1, addF, subF, mulF, ixF, callB, callF, arg1, strF, valE, intF, dataL, ifE, notNF, isNF, isNon, lenF, absF, callP, callI, snaps, anyRef, tupOnly, List.replicate, ltF, gtF, geF, leF, cmpF, slE, bndE, cut, methE, methF, kindW, dropS, tupE, listG, itemsS, truW, joinG, textsOf, negF]
        · simp (disch := omega) [small_iff, smallN_iff, succ0, atL0, atL1, atLn, clipN, clip1, clip2, clipn, runP, runI, startV, seqS, asgS, ifS, t2, t1, andT, orT, notT, truT, varE, conE, getV, setV, nameG, eqF, neF, eqW, R.bind, R.so, retS, nxS, frzE, newE, lstF, argsF, unWs, unW, snap, op2, op1, addF, subF, mulF, ixF, callB, callF, arg1, strF, valE, intF, dataL, ifE, notNF, isNF, isNon, lenF, absF, callP, callI, snaps, anyRef, tupOnly, List.replicate, ltF, gtF, geF, leF, cmpF, slE, bndE, cut, methE, methF, kindW, dropS, tupE, listG, itemsS, truW, joinG, textsOf, negF]) (by simp; omega)
    simp only [compN, getV, compF, seqI, varE, R.bind, wipeV, List.map_map, List.set] at this ⊢
    rw [show (W.d ∘ D.str) = (fun x => W.d (D.str x)) from rfl, this]
    simp [List.filter_map]
    rfl
  have hq : (ps.filter fun x => !x.isEmpty).length ≤ 100 := Nat.le_trans (List.length_filter_le _ _) h2
  have hs := sum_le (c := 1000) (ps.filter fun x => !x.isEmpty) fun x hx => h3 x (List.mem_filter.mp hx).1
  have htx := textsOf_map (ps.filter fun x => !x.isEmpty)
  generalize hg : (ps.filter fun x => !x.isEmpty) = q at *
  unfold termT partsT
  rw [hg]
  by_cases a : n = 1
  · subst a
    cases q with
    | nil =>
      have h4 : Nat.log2 1 < 1920 := by decide
      simp (disch := omega) [small_iff, smallN_iff, succ0, atL0, atL1, atLn, clipN, clip1, clip2, clipn, runP, runI, startV, seqS, asgS, ifS, t2, t1, andT, orT, notT, truT, varE, conE, getV, setV, nameG, eqF, neF, eqW, R.bind, R.so, retS, nxS, frzE, newE, lstF, argsF, unWs, unW, snap, op2, op1, addF, subF, mulF, ixF, callB, callF, arg1, strF, valE, intF, dataL, ifE, notNF, isNF, isNon, lenF, absF, callP, callI, snaps, anyRef, tupOnly, List.replicate, ltF, gtF, geF, leF, cmpF, slE, bndE, cut, methE, methF, kindW, dropS, tupE, listG, itemsS, truW, joinG, textsOf, negF, _term_text_, b__term_text, hc, unWs_map, h4, joinL]
    | cons x r =>
      simp only [List.map_cons, List.sum_cons, List.length_cons] at hs hq
      simp (disch := omega) [small_iff, smallN_iff, succ0, atL0, atL1, atLn, clipN, clip1, clip2, clipn, runP, runI, startV, seqS, asgS, ifS, t2, t1, andT, orT, notT, truT, varE, conE, getV, setV, nameG, eqF, neF, eqW, R.bind, R.so, retS, nxS, frzE, newE, lstF, argsF, unWs, unW, snap, op2, op1, addF, subF, mulF, ixF, callB, callF, arg1, strF, valE, intF, dataL, ifE, notNF, isNF, isNon, lenF, absF, callP, callI, snaps, anyRef, tupOnly, List.replicate, ltF, gtF, geF, leF, cmpF, slE, bndE, cut, methE, methF, kindW, dropS, tupE, listG, itemsS, truW, joinG, textsOf, negF, _term_text_, b__term_text, hc, unWs_map, textsOf_comp]
  · have a' : (n == 1) = false := by simpa using a
    simp (disch := omega) [small_iff, smallN_iff, succ0, atL0, atL1, atLn, clipN, clip1, clip2, clipn, runP, runI, startV, seqS, asgS, ifS, t2, t1, andT, orT, notT, truT, varE, conE, getV, setV, nameG, eqF, neF, eqW, R.bind, R.so, retS, nxS, frzE, newE, lstF, argsF, unWs, unW, snap, op2, op1, addF, subF, mulF, ixF, callB, callF, arg1, strF, valE, intF, dataL, ifE, notNF, isNF, isNon, lenF, absF, callP, callI, snaps, anyRef, tupOnly, List.replicate, ltF, gtF, geF, leF, cmpF, slE, bndE, cut, methE, methF, kindW, dropS, tupE, listG, itemsS, truW, joinG, textsOf, negF, _term_text_, b__term_text, hc, unWs_map, textsOf_comp, a, a', hn]

theorem joinL_len (s : List Nat) : ∀ (l : List (List Nat)), (joinL s l).length ≤ (l.map List.length).sum + l.length * s.length
  | [] => by simp [joinL]
  | [x] => by simp [joinL]
  | x :: y :: r => by
    have := joinL_len s (y :: r)
    simp only [joinL, List.length_append, List.map_cons, List.sum_cons, List.length_cons, Nat.add_mul] at this ⊢
    omega
def ab (i : Int) : Int := if i < 0 then -i else i
theorem ab_nat (i : Int) : (ab i).natAbs = i.natAbs := by unfold ab; split <;> simp
structure OkT (t : Int × List (List Nat)) : Prop where
  l : t.1.natAbs.log2 < 1920
  n : (textI (ab t.1)).length ≤ 1000
  k : t.2.length ≤ 100
  p : ∀ p ∈ t.2, p.length ≤ 1000
theorem termT_len {t : Int × List (List Nat)} (h : OkT t) : (termT (ab t.1) t.2).length ≤ 110000 := by
  have hq : (t.2.filter fun x => !x.isEmpty).length ≤ 100 := Nat.le_trans (List.length_filter_le _ _) h.k
  have hs := sum_le (c := 1000) (t.2.filter fun x => !x.isEmpty) fun x hx => h.p x (List.mem_filter.mp hx).1
  have h1 := h.n
  unfold termT partsT
  refine Nat.le_trans (joinL_len _ _) ?_
  split
  · simp only [List.length_singleton]; omega
  · simp only [List.map_cons, List.sum_cons, List.length_cons, List.length_nil]; omega
def sgnT (n : Int) : List Nat := if n < 0 then [45] else []
def sepT (n : Int) : List Nat := if n < 0 then [32, 45, 32] else [32, 43, 32]
def addT (f : List Nat) (t : Int × List (List Nat)) : List Nat := if f = [] then sgnT t.1 ++ termT (ab t.1) t.2 else f ++ (sepT t.1 ++ termT (ab t.1) t.2)
def sumT (ts : List (Int × List (List Nat))) : List Nat := if ts = [] then [48] else ts.foldl addT []
def dT (t : Int × List (List Nat)) : D := .tup [.int t.1, .lst (t.2.map .str)]
theorem addT_len {f : List Nat} {t : Int × List (List Nat)} (h : OkT t) : (addT f t).length ≤ f.length + 110003 := by
  have := termT_len h
  unfold addT sgnT sepT
  split <;> split <;> simp <;> omega
theorem fold_len : ∀ (ts : List (Int × List (List Nat))) (f : List Nat), (∀ t ∈ ts, OkT t) → (ts.foldl addT f).length ≤ f.length + ts.length * 110003
  | [], _, _ => by simp
  | t :: r, f, h => by
    have h1 := addT_len (f := f) (h t List.mem_cons_self)
    have h2 := fold_len r (addT f t) fun x hx => h x (List.mem_cons_of_mem _ hx)
    simp only [List.foldl_cons, List.length_cons, Nat.add_mul] at h2 ⊢
    omega
theorem take_next {α : Type} {l : List α} {k : Nat} {x : α} (h : l[k]? = some x) : l.take (k + 1) = l.take k ++ [x] := by rw [List.take_succ, h]; rfl
theorem sum_text (ts : List (Int × List (List Nat))) (h : ∀ t ∈ ts, OkT t) (hl : ts.length ≤ 100) : _sum_text_ [.lst (ts.map dT)] = .ok (.str (sumT ts)) := by
  by_cases z : ts = []
  · subst z
    simp (disch := omega) [small_iff, smallN_iff, succ0, atL0, atL1, atLn, clipN, clip1, clip2, clipn, runP, runI, startV, seqS, asgS, ifS, t2, t1, andT, orT, notT, truT, varE, conE, getV, setV, nameG, eqF, neF, eqW, R.bind, R.so, retS, nxS, frzE, newE, lstF, argsF, unWs, unW, snap, op2, op1, addF, subF, mulF, ixF, callB, callF, arg1, strF, valE, intF, dataL, ifE, notNF, isNF, isNon, lenF, absF, callP, callI, snaps, anyRef, tupOnly, List.replicate, ltF, gtF, geF, leF, cmpF, slE, bndE, cut, methE, methF, kindW, dropS, tupE, listG, itemsS, truW, joinG, textsOf, negF, _sum_text_, b__sum_text, sumT]
  · have hz : (ts.map dT).isEmpty = false := by cases ts <;> simp_all
    have hz' : ts.isEmpty = false := by cases ts <;> simp_all
    have loop := forL_ind (g := tupG [nameG 2, nameG 3]) (b := l0__sum_text)
      (ws := ts.map (W.d ∘ dT)) (fun k e S => S = [] ∧ ∃ x2 x3 x4, e = [some (.d (.lst (ts.map dT))), some (.d (.str ((ts.take k).foldl addT []))), x2, x3, x4])
      (fun o => ∃ x2 x3 x4, o = .nx [some (.d (.lst (ts.map dT))), some (.d (.str (sumT ts))), x2, x3, x4] [])
      (by
        rintro k w e S hw ⟨rfl, x2, x3, x4, rfl⟩
        simp only [List.getElem?_map, Option.map_map, Option.map_eq_some_iff] at hw
        obtain ⟨t, ht, rfl⟩ := hw
        have hk := h t (List.mem_of_getElem? ht)
        have hfl := fold_len (ts.take k) [] fun x hx => h x (List.mem_of_mem_take hx)
        have hk2 : (ts.take k).length ≤ 100 := by rw [List.length_take]; omega
        have htl := termT_len hk
        simp only [List.length_nil, Nat.zero_add] at hfl
        rw [take_next ht, List.foldl_append]
        generalize (ts.take k).foldl addT [] = f at *
        refine ⟨_, _, rfl, ?_⟩
        have hx := term_text (ab t.1) t.2 (by rw [ab_nat]; exact hk.l) hk.n hk.k hk.p
        by_cases e2 : t.1 < 0
        · have hab : ab t.1 = -t.1 := by simp [ab, e2]
          rw [hab] at hx htl
          by_cases e1 : f = []
          · subst e1
            simp (disch := omega) [small_iff, smallN_iff, succ0, atL0, atL1, atLn, clipN, clip1, clip2, clipn, runP, runI, startV, seqS, asgS, ifS, t2, t1, andT, orT, notT, truT, varE, conE, getV, setV, nameG, eqF, neF, eqW, R.bind, R.so, retS, nxS, frzE, newE, lstF, argsF, unWs, unW, snap, op2, op1, addF, subF, mulF, ixF, callB, callF, arg1, strF, valE, intF, dataL, ifE, notNF, isNF, isNon, lenF, absF, callP, callI, snaps, anyRef, tupOnly, List.replicate, ltF, gtF, geF, leF, cmpF, slE, bndE, cut, methE, methF, kindW, dropS, tupE, listG, itemsS, truW, joinG, textsOf, negF, l0__sum_text, dT, eachG, After, tupG, hab, hx, addT, sgnT, e2]
          · have e1' : (f == []) = false := by simpa using e1
            simp (disch := omega) [small_iff, smallN_iff, succ0, atL0, atL1, atLn, clipN, clip1, clip2, clipn, runP, runI, startV, seqS, asgS, ifS, t2, t1, andT, orT, notT, truT, varE, conE, getV, setV, nameG, eqF, neF, eqW, R.bind, R.so, retS, nxS, frzE, newE, lstF, argsF, unWs, unW, snap, op2, op1, addF, subF, mulF, ixF, callB, callF, arg1, strF, valE, intF, dataL, ifE, notNF, isNF, isNon, lenF, absF, callP, callI, snaps, anyRef, tupOnly, List.replicate, ltF, gtF, geF, leF, cmpF, slE, bndE, cut, methE, methF, kindW, dropS, tupE, listG, itemsS, truW, joinG, textsOf, negF, l0__sum_text, dT, eachG, After, tupG, hab, hx, addT, sepT, e1, e1', e2, augS, iaddF]
        · have hab : ab t.1 = t.1 := by simp [ab, e2]
          rw [hab] at hx htl
          by_cases e1 : f = []
          · subst e1
            simp (disch := omega) [small_iff, smallN_iff, succ0, atL0, atL1, atLn, clipN, clip1, clip2, clipn, runP, runI, startV, seqS, asgS, ifS, t2, t1, andT, orT, notT, truT, varE, conE, getV, setV, nameG, eqF, neF, eqW, R.bind, R.so, retS, nxS, frzE, newE, lstF, argsF, unWs, unW, snap, op2, op1, addF, subF, mulF, ixF, callB, callF, arg1, strF, valE, intF, dataL, ifE, notNF, isNF, isNon, lenF, absF, callP, callI, snaps, anyRef, tupOnly, List.replicate, ltF, gtF, geF, leF, cmpF, slE, bndE, cut, methE, methF, kindW, dropS, tupE, listG, itemsS, truW, joinG, textsOf, negF, l0__sum_text, dT, eachG, After, tupG, hab, hx, addT, sgnT, e2]
          · have e1' : (f == []) = false := by simpa using e1
            simp (disch := omega) [small_iff, smallN_iff, succ0, atL0, atL1, atLn, clipN, clip1, clip2, clipn, runP, runI, startV, seqS, asgS, ifS, t2, t1, andT, orT, notT, truT, varE, conE, getV, setV, nameG, eqF, neF, eqW, R.bind, R.so, retS, nxS, frzE, newE, lstF, argsF, unWs, unW, snap, op2, op1, addF, subF, mulF, ixF, callB, callF, arg1, strF, valE, intF, dataL, ifE, notNF, isNF, isNon, lenF, absF, callP, callI, snaps, anyRef, tupOnly, List.replicate, ltF, gtF, geF, leF, cmpF, slE, bndE, cut, methE, methF, kindW, dropS, tupE, listG, itemsS, truW, joinG, textsOf, negF, l0__sum_text, dT, eachG, After, tupG, hab, hx, addT, sepT, e1, e1', e2, augS, iaddF]) (by
        rintro e S ⟨rfl, x2, x3, x4, rfl⟩
        exact ⟨x2, x3, x4, by simp [sumT, z]⟩) (e := [some (.d (.lst (ts.map dT))), some (.d (.str [])), none, none, none]) (S := []) ⟨rfl, none, none, none, rfl⟩
    obtain ⟨x2, x3, x4, hh⟩ := loop
    simp (disch := omega) [small_iff, smallN_iff, succ0, atL0, atL1, atLn, clipN, clip1, clip2, clipn, runP, runI, startV, seqS, asgS, ifS, t2, t1, andT, orT, notT, truT, varE, conE, getV, setV, nameG, eqF, neF, eqW, R.bind, R.so, retS, nxS, frzE, newE, lstF, argsF, unWs, unW, snap, op2, op1, addF, subF, mulF, ixF, callB, callF, arg1, strF, valE, intF, dataL, ifE, notNF, isNF, isNon, lenF, absF, callP, callI, snaps, anyRef, tupOnly, List.replicate, ltF, gtF, geF, leF, cmpF, slE, bndE, cut, methE, methF, kindW, dropS, tupE, listG, itemsS, truW, joinG, textsOf, negF, _sum_text_, b__sum_text, forN, forS, seqI, hz, hz', hh]
end K54

end

section
set_option linter.all false
set_option maxRecDepth 100000
set_option linter.all false
set_option maxRecDepth 100000
namespace K54
open Pv Pw
theorem filt_id {ps : List (List Nat)} (h : ∀ p ∈ ps, p ≠ []) : ps.filter (fun x => !x.isEmpty) = ps := by
  rw [List.filter_eq_self]
  intro p hp
  have := h p hp
  cases p <;> simp_all
theorem law_sum (ts : List (Int × List (List Nat))) (h : ∀ t ∈ ts, OkT t) (hl : ts.length ≤ 100) (he : ∀ t ∈ ts, ∀ p ∈ t.2, p ≠ []) : _law_sum_ [.lst (ts.map dT)] = .ok (.str (sumT ts)) := by
  by_cases z : ts = []
  · subst z
    simp (disch := omega) [small_iff, smallN_iff, succ0, atL0, atL1, atLn, clipN, clip1, clip2, clipn, runP, runI, startV, seqS, asgS, ifS, t2, t1, andT, orT, notT, truT, varE, conE, getV, setV, nameG, eqF, neF, eqW, R.bind, R.so, retS, nxS, frzE, newE, lstF, argsF, unWs, unW, snap, op2, op1, addF, subF, mulF, ixF, callB, callF, arg1, strF, valE, intF, dataL, ifE, notNF, isNF, isNon, lenF, absF, callP, callI, snaps, anyRef, tupOnly, List.replicate, ltF, gtF, geF, leF, cmpF, slE, bndE, cut, methE, methF, kindW, dropS, tupE, listG, itemsS, truW, joinG, textsOf, negF, _law_sum_, b__law_sum, sumT]
  · have hz : ((ts.length : Int) == 0) = false := by cases ts with
      | nil => exact absurd rfl z
      | cons => simp; omega
    have loop := forL_ind (g := tupG [nameG 2, nameG 3]) (b := l0__law_sum)
      (ws := ts.map (W.d ∘ dT)) (fun k e S => S = [] ∧ ∃ x2 x3 x4 x5, e = [some (.d (.lst (ts.map dT))), some (.d (.str ((ts.take k).foldl addT []))), x2, x3, x4, x5])
      (fun o => ∃ x2 x3 x4 x5, o = .nx [some (.d (.lst (ts.map dT))), some (.d (.str (sumT ts))), x2, x3, x4, x5] [])
      (by
        rintro k w e S hw ⟨rfl, x2, x3, x4, x5, rfl⟩
        simp only [List.getElem?_map, Option.map_map, Option.map_eq_some_iff] at hw
        obtain ⟨t, ht, rfl⟩ := hw
        have hk := h t (List.mem_of_getElem? ht)
        have hfl := fold_len (ts.take k) [] fun x hx => h x (List.mem_of_mem_take hx)
        have hk2 : (ts.take k).length ≤ 100 := by rw [List.length_take]; omega
        have htl := termT_len hk
        simp only [List.length_nil, Nat.zero_add] at hfl
        rw [take_next ht, List.foldl_append]
        generalize (ts.take k).foldl addT [] = f at *
        refine ⟨_, _, rfl, ?_⟩
        have hf := filt_id (he t (List.mem_of_getElem? ht))
        obtain ⟨n, ps⟩ := t
        have hs := sum_le (c := 1000) ps hk.p
        have hp := hk.k
        have hln := hk.n
        have hlg := hk.l
        simp only at hf hs hp hln hlg htl
        have hT : addT f (n, ps) = (if f = [] then sgnT n else f ++ sepT n) ++ joinL [32] (if ab n = 1 ∧ ps ≠ [] then ps else textI (ab n) :: ps) := by
          unfold addT termT partsT
          simp only [hf]
          split <;> simp
        have hL : (joinL [32] (if ab n = 1 ∧ ps ≠ [] then ps else textI (ab n) :: ps)).length ≤ 110000 := by
          have : termT (ab n) ps = joinL [32] (if ab n = 1 ∧ ps ≠ [] then ps else textI (ab n) :: ps) := by unfold termT partsT; simp only [hf]
          rw [← this]; exact htl
        rw [List.foldl_cons, List.foldl_nil, hT]
        have e1' : f ≠ [] → (f == []) = false := by intro e; simpa using e
        have main : ∀ a : Int, ab n = a → (if n < 0 then -n else n) = a → a.natAbs.log2 < 1920 → After (fun e S => S = [] ∧ ∃ x2 x3 x4 x5, e = [some (.d (.lst (ts.map dT))), some (.d (.str ((if f = [] then sgnT n else f ++ sepT n) ++ joinL [32] (if a = 1 ∧ ps ≠ [] then ps else textI a :: ps)))), x2, x3, x4, x5])
            (fun o => ∃ x2 x3 x4 x5, o = .nx [some (.d (.lst (ts.map dT))), some (.d (.str (sumT ts))), x2, x3, x4, x5] []) (l0__law_sum [some (.d (.lst (ts.map dT))), some (.d (.str f)), some (.d (.int n)), some (.d (.lst (ps.map .str))), x4, x5] []) := by
          intro a ha ha' hla
          rw [ha] at hL hln
          have hb : ∀ b : Bool, (a == 1) = b → (l0__law_sum [some (.d (.lst (ts.map dT))), some (.d (.str f)), some (.d (.int n)), some (.d (.lst (ps.map .str))), x4, x5] []) =
              .nx [some (.d (.lst (ts.map dT))), some (.d (.str ((if f = [] then sgnT n else f ++ sepT n) ++ joinL [32] (if a = 1 ∧ ps ≠ [] then ps else textI a :: ps)))), some (.d (.int n)), some (.d (.lst (ps.map .str))),
                some (.d (.lst ((if a = 1 ∧ ps ≠ [] then ps else textI a :: ps).map .str))), some (.d (.str (if f = [] then sgnT n else sepT n)))] [] := by
            intro b hb
            have hdec : (a = 1) = (b = true) := by rw [← hb]; simp
            cases b <;> by_cases e2 : n < 0 <;> by_cases e1 : f = [] <;> rcases ps with _ | ⟨p, r⟩ <;> simp only [e2, if_true, if_false] at ha'
            all_goals
              first
              | (subst ha'
                 simp only [hdec, e1, List.map_cons, List.sum_cons, List.length_cons, ne_eq, reduceCtorEq, not_false_eq_true, and_self, if_true, if_false, Bool.false_eq_true, false_and, not_true_eq_false, and_false, List.map_nil, List.sum_nil, List.length_nil] at hL hs hp
                 simp (disch := omega) [small_iff, smallN_iff, succ0, atL0, atL1, atLn, clipN, clip1, clip2, clipn, runP, runI, startV, seqS, asgS, ifS, t2, t1, andT, orT, notT, truT, varE, conE, getV, setV, nameG, eqF, neF, eqW, R.bind, R.so, retS, nxS, frzE, newE, lstF, argsF, unWs, unW, snap, op2, op1, addF, subF, mulF, ixF, callB, callF, arg1, strF, valE, intF, dataL, ifE, notNF, isNF, isNon, lenF, absF, callP, callI, snaps, anyRef, tupOnly, List.replicate, ltF, gtF, geF, leF, cmpF, slE, bndE, cut, methE, methF, kindW, dropS, tupE, listG, itemsS, truW, joinG, textsOf, negF, l0__law_sum, e2, e1, e1', hb, hla, hlg, unWs_comp, textsOf_comp, sgnT, sepT, hdec])
          rw [hb _ rfl]
          exact ⟨rfl, _, _, _, _, rfl⟩
        exact main (ab n) rfl rfl (by rw [ab_nat]; exact hlg)) (by
        rintro e S ⟨rfl, x2, x3, x4, x5, rfl⟩
        exact ⟨x2, x3, x4, x5, by simp [sumT, z]⟩) (e := [some (.d (.lst (ts.map dT))), some (.d (.str [])), none, none, none, none]) (S := []) ⟨rfl, none, none, none, none, rfl⟩
    obtain ⟨x2, x3, x4, x5, hh⟩ := loop
    simp (disch := omega) [small_iff, smallN_iff, succ0, atL0, atL1, atLn, clipN, clip1, clip2, clipn, runP, runI, startV, seqS, asgS, ifS, t2, t1, andT, orT, notT, truT, varE, conE, getV, setV, nameG, eqF, neF, eqW, R.bind, R.so, retS, nxS, frzE, newE, lstF, argsF, unWs, unW, snap, op2, op1, addF, subF, mulF, ixF, callB, callF, arg1, strF, valE, intF, dataL, ifE, notNF, isNF, isNon, lenF, absF, callP, callI, snaps, anyRef, tupOnly, List.replicate, ltF, gtF, geF, leF, cmpF, slE, bndE, cut, methE, methF, kindW, dropS, tupE, listG, itemsS, truW, joinG, textsOf, negF, _law_sum_, b__law_sum, forN, forS, seqI, hz, hh]
end K54

end

section
set_option linter.all false
set_option maxRecDepth 100000
set_option linter.all false
set_option maxRecDepth 100000
namespace K54
open Pv Pw
def powT (l : List Nat) (n : Int) : List Nat := if n = 0 then [] else if n = 1 then l else l ++ (94 :: textI n)
/-- the terms of a polynomial in one letter, least exponent a -/
def termsL (l : List Nat) (a : Int) : List Int → List (Int × List (List Nat))
  | [] => []
  | n :: r => if n = 0 then termsL l (a + 1) r else (n, [powT l a]) :: termsL l (a + 1) r
theorem termsL_app (l : List Nat) : ∀ (xs ys : List Int) (a : Int), termsL l a (xs ++ ys) = termsL l a xs ++ termsL l (a + xs.length) ys
  | [], ys, a => by simp [termsL]
  | x :: r, ys, a => by
    have ih := termsL_app l r ys (a + 1)
    simp only [List.cons_append, termsL, ih, List.length_cons]
    rw [show a + 1 + (r.length : Int) = a + ((r.length + 1 : Nat) : Int) by omega]
    split <;> simp
theorem termsL_len (l : List Nat) : ∀ (xs : List Int) (a : Int), (termsL l a xs).length ≤ xs.length
  | [], _ => by simp [termsL]
  | x :: r, a => by
    have := termsL_len l r (a + 1)
    simp only [termsL]
    split <;> simp <;> omega
/-- the law's terms have no empty power -/
def clean (t : Int × List (List Nat)) : Int × List (List Nat) := (t.1, t.2.filter fun x => !x.isEmpty)
theorem partsT_clean (n : Int) (ps : List (List Nat)) : partsT n (ps.filter fun x => !x.isEmpty) = partsT n ps := by
  unfold partsT
  simp [List.filter_filter]
theorem addT_clean (f : List Nat) (t : Int × List (List Nat)) : addT f (clean t) = addT f t := by
  unfold addT termT clean
  simp only [partsT_clean]
theorem sumT_clean (ts : List (Int × List (List Nat))) : sumT (ts.map clean) = sumT ts := by
  unfold sumT
  rw [List.foldl_map]
  simp only [addT_clean, List.map_eq_nil_iff]
end K54

end

section
set_option linter.all false
set_option maxRecDepth 100000
set_option linter.all false
set_option maxRecDepth 100000
namespace K54
open Pv Pw
/-- small enough for its text -/
structure Sm (i : Int) : Prop where
  l : i.natAbs.log2 < 1920
  t : (textI i).length ≤ 900
structure OkP (l : List Nat) (a : Int) (ns : List Int) : Prop where
  l : l.length ≤ 10
  n : ns.length ≤ 100
  s : ∀ n ∈ ns, Sm (ab n)
  e : ∀ k : Nat, k < ns.length → Sm (a + k)
theorem powT_len {l : List Nat} {n : Int} (hl : l.length ≤ 10) (h : Sm n) : (powT l n).length ≤ 1000 := by
  have := h.t
  unfold powT
  split
  · simp
  · split
    · omega
    · simp; omega
theorem termsL_ok {l : List Nat} : ∀ {ns : List Int} {a : Int}, OkP l a ns → ∀ t ∈ termsL l a ns, OkT t
  | [], a, _, t, ht => by simp [termsL] at ht
  | n :: r, a, h, t, ht => by
    have hr : OkP l (a + 1) r := ⟨h.l, by have := h.n; simp at this; omega, fun m hm => h.s m (List.mem_cons_of_mem _ hm), fun k hk => by
      have := h.e (k + 1) (by simp; omega)
      rw [show a + 1 + (k : Int) = a + ((k + 1 : Nat) : Int) by omega]
      exact this⟩
    have h0 : Sm a := by have := h.e 0 (by simp); simpa using this
    have hn := h.s n List.mem_cons_self
    unfold termsL at ht
    split at ht
    · exact termsL_ok hr t ht
    · rcases List.mem_cons.mp ht with rfl | ht
      · exact ⟨by have := hn.l; rwa [ab_nat] at this, by have := hn.t; show (textI (ab n)).length ≤ 1000; omega, by simp, by
          intro p hp
          simp only [List.mem_singleton] at hp
          subst hp
          exact powT_len h.l h0⟩
      · exact termsL_ok hr t ht
theorem unWs_dT (ts : List (Int × List (List Nat))) : unWs (ts.map (W.d ∘ dT)) = some (ts.map dT) := unWs_comp dT ts
theorem format_poly {l : List Nat} {a : Int} {ns : List Int} (h : OkP l a ns) : format_polynomial_ [.tup [.int a, .tup (ns.map .int)], .str l] = .ok (.str (sumT (termsL l a ns))) := by
  have loop := forL_ind (g := tupG [nameG 3, nameG 4]) (b := l0_format_polynomial) (ws := enumD 0 (ns.map .int))
    (fun k e S => S = [.lst ((termsL l a (ns.take k)).map (W.d ∘ dT))] ∧ ∃ x3 x4, e = [some (.d (.tup [.int a, .tup (ns.map .int)])), some (.d (.str l)), some (.ref 0), x3, x4])
    (fun o => ∃ x3 x4, o = .nx [some (.d (.tup [.int a, .tup (ns.map .int)])), some (.d (.str l)), some (.ref 0), x3, x4] [.lst ((termsL l a ns).map (W.d ∘ dT))])
    (by
      rintro k w e S hw ⟨rfl, x3, x4, rfl⟩
      rw [enumD_get] at hw
      simp only [List.getElem?_map, Option.map_map, Option.map_eq_some_iff] at hw
      obtain ⟨n, hn, rfl⟩ := hw
      have hk : k < ns.length := (List.getElem?_eq_some_iff.mp hn).1
      have hs := h.e k hk
      have hp := power_text l (a + k) hs.l (by have := h.l; omega) (by have := hs.t; omega)
      have hlen := termsL_len l (ns.take k) a
      have hk2 : (ns.take k).length = k := by rw [List.length_take]; omega
      have hnl := h.n
      rw [hk2] at hlen
      refine ⟨_, _, rfl, ?_⟩
      rw [take_next hn, termsL_app, hk2]
      generalize termsL l a (ns.take k) = ts at *
      have hb : Nat.blt ts.length 16777216 = true := by simp [Nat.blt]; omega
      by_cases z : n = 0
      · simp (disch := omega) [small_iff, smallN_iff, succ0, atL0, atL1, atLn, clipN, clip1, clip2, clipn, runP, runI, startV, seqS, asgS, ifS, t2, t1, andT, orT, notT, truT, varE, conE, getV, setV, nameG, eqF, neF, eqW, R.bind, R.so, retS, nxS, frzE, newE, lstF, argsF, unWs, unW, snap, op2, op1, addF, subF, mulF, ixF, callB, callF, arg1, strF, valE, intF, dataL, ifE, notNF, isNF, isNon, lenF, absF, callP, callI, snaps, anyRef, tupOnly, List.replicate, ltF, gtF, geF, leF, cmpF, slE, bndE, cut, methE, methF, kindW, dropS, tupE, listG, itemsS, truW, joinG, textsOf, negF, l0_format_polynomial, After, z, termsL]
      · have z' : (n == 0) = false := by simpa using z
        simp (disch := omega) [small_iff, smallN_iff, succ0, atL0, atL1, atLn, clipN, clip1, clip2, clipn, runP, runI, startV, seqS, asgS, ifS, t2, t1, andT, orT, notT, truT, varE, conE, getV, setV, nameG, eqF, neF, eqW, R.bind, R.so, retS, nxS, frzE, newE, lstF, argsF, unWs, unW, snap, op2, op1, addF, subF, mulF, ixF, callB, callF, arg1, strF, valE, intF, dataL, ifE, notNF, isNF, isNon, lenF, absF, callP, callI, snaps, anyRef, tupOnly, List.replicate, ltF, gtF, geF, leF, cmpF, slE, bndE, cut, methE, methF, kindW, dropS, tupE, listG, itemsS, truW, joinG, textsOf, negF, l0_format_polynomial, After, z, z', termsL, hp, appendG, getO, setO, hb, dT, powT])
    (by
      rintro e S ⟨rfl, x3, x4, rfl⟩
      exact ⟨x3, x4, by simp [enumD_len]⟩) (e := [some (.d (.tup [.int a, .tup (ns.map .int)])), some (.d (.str l)), some (.ref 0), none, none]) (S := [.lst []]) ⟨rfl, none, none, rfl⟩
  obtain ⟨x3, x4, hh⟩ := loop
  have hs := sum_text (termsL l a ns) (termsL_ok h) (Nat.le_trans (termsL_len l ns a) h.n)
  simp (disch := omega) [small_iff, smallN_iff, succ0, atL0, atL1, atLn, clipN, clip1, clip2, clipn, runP, runI, startV, seqS, asgS, ifS, t2, t1, andT, orT, notT, truT, varE, conE, getV, setV, nameG, eqF, neF, eqW, R.bind, R.so, retS, nxS, frzE, newE, lstF, argsF, unWs, unW, snap, op2, op1, addF, subF, mulF, ixF, callB, callF, arg1, strF, valE, intF, dataL, ifE, notNF, isNF, isNon, lenF, absF, callP, callI, snaps, anyRef, tupOnly, List.replicate, ltF, gtF, geF, leF, cmpF, slE, bndE, cut, methE, methF, kindW, dropS, tupE, listG, itemsS, truW, joinG, textsOf, negF, format_polynomial_, b_format_polynomial, forS, enumI, dataS, hh, getO, unWs_dT, hs]
end K54

end

section
set_option linter.all false
set_option maxRecDepth 100000
set_option linter.all false
set_option maxRecDepth 100000
namespace K54
open Pv Pw
theorem law_pow {l : List Nat} {n : Int} (hl : l.length ≤ 10) (hn : l ≠ []) (h : Sm n) : _law_power_ [.str l, .int n] = .ok (.lst (([powT l n].filter fun x => !x.isEmpty).map .str)) := by
  rw [law_power l n h.l (by omega) (by have := h.t; omega)]
  unfold powT
  by_cases a : n = 0
  · simp [a]
  · by_cases b : n = 1
    · subst b
      cases l with
      | nil => exact absurd rfl hn
      | cons => simp
    · simp [a, b]
theorem clean_ok {t : Int × List (List Nat)} (h : OkT t) : OkT (clean t) :=
  ⟨h.l, h.n, Nat.le_trans (List.length_filter_le _ _) h.k, fun p hp => h.p p (List.mem_filter.mp hp).1⟩
theorem law_one {l : List Nat} {a : Int} {ns : List Int} (h : OkP l a ns) (hl : l ≠ []) : _law_one_ [.tup [.int a, .tup (ns.map .int)], .str l] = .ok (.str (sumT (termsL l a ns))) := by
  have loop := forL_ind (g := nameG 3) (b := l0__law_one) (ws := rangeD 0 ns.length)
    (fun k e S => S = [.lst (((termsL l a (ns.take k)).map clean).map (W.d ∘ dT))] ∧ ∃ x3, e = [some (.d (.tup [.int a, .tup (ns.map .int)])), some (.d (.str l)), some (.ref 0), x3])
    (fun o => ∃ x3, o = .nx [some (.d (.tup [.int a, .tup (ns.map .int)])), some (.d (.str l)), some (.ref 0), x3] [.lst (((termsL l a ns).map clean).map (W.d ∘ dT))])
    (by
      rintro k w e S hw ⟨rfl, x3, rfl⟩
      rw [rangeD_get] at hw
      split at hw
      · rename_i hk
        cases hw
        obtain ⟨n, hn'⟩ : ∃ n, ns[k] = n := ⟨_, rfl⟩
        have hn : ns[k]? = some n := by rw [List.getElem?_eq_getElem hk, hn']
        have hs := h.e k hk
        have hp := law_pow h.l hl hs
        have hlen := termsL_len l (ns.take k) a
        have hk2 : (ns.take k).length = k := by rw [List.length_take]; omega
        have hnl := h.n
        rw [hk2] at hlen
        refine ⟨_, _, rfl, ?_⟩
        rw [take_next hn, termsL_app, hk2]
        generalize termsL l a (ns.take k) = ts at *
        have hb : Nat.blt ts.length 16777216 = true := by simp [Nat.blt]; omega
        by_cases z : n = 0
        · simp (disch := omega) [small_iff, smallN_iff, succ0, atL0, atL1, atLn, clipN, clip1, clip2, clipn, runP, runI, startV, seqS, asgS, ifS, t2, t1, andT, orT, notT, truT, varE, conE, getV, setV, nameG, eqF, neF, eqW, R.bind, R.so, retS, nxS, frzE, newE, lstF, argsF, unWs, unW, snap, op2, op1, addF, subF, mulF, ixF, callB, callF, arg1, strF, valE, intF, dataL, ifE, notNF, isNF, isNon, lenF, absF, callP, callI, snaps, anyRef, tupOnly, List.replicate, ltF, gtF, geF, leF, cmpF, slE, bndE, cut, methE, methF, kindW, dropS, tupE, listG, itemsS, truW, joinG, textsOf, negF, l0__law_one, After, z, termsL, hn, hn']
        · have z' : (n == 0) = false := by simpa using z
          simp (disch := omega) [small_iff, smallN_iff, succ0, atL0, atL1, atLn, clipN, clip1, clip2, clipn, runP, runI, startV, seqS, asgS, ifS, t2, t1, andT, orT, notT, truT, varE, conE, getV, setV, nameG, eqF, neF, eqW, R.bind, R.so, retS, nxS, frzE, newE, lstF, argsF, unWs, unW, snap, op2, op1, addF, subF, mulF, ixF, callB, callF, arg1, strF, valE, intF, dataL, ifE, notNF, isNF, isNon, lenF, absF, callP, callI, snaps, anyRef, tupOnly, List.replicate, ltF, gtF, geF, leF, cmpF, slE, bndE, cut, methE, methF, kindW, dropS, tupE, listG, itemsS, truW, joinG, textsOf, negF, l0__law_one, After, z, z', termsL, hp, appendG, getO, setO, hb, dT, clean, hn, hn']
      · cases hw)
    (by
      rintro e S ⟨rfl, x3, rfl⟩
      exact ⟨x3, by simp [rangeD_len]⟩) (e := [some (.d (.tup [.int a, .tup (ns.map .int)])), some (.d (.str l)), some (.ref 0), none]) (S := [.lst []]) ⟨rfl, none, rfl⟩
  obtain ⟨x3, hh⟩ := loop
  have hs := law_sum ((termsL l a ns).map clean) (fun t ht => by
      obtain ⟨t', ht', rfl⟩ := List.mem_map.mp ht
      exact clean_ok (termsL_ok h t' ht')) (by rw [List.length_map]; exact Nat.le_trans (termsL_len l ns a) h.n) (fun t ht p hp => by
      obtain ⟨t', ht', rfl⟩ := List.mem_map.mp ht
      have := (List.mem_filter.mp hp).2
      intro e
      subst e
      simp at this)
  rw [sumT_clean] at hs
  have hn100 : ns.length ≤ 100000 := Nat.le_trans h.n (Nat.le_of_ble_eq_true rfl)
  have e1 : callB (arg1 lenF) [op2 (ixF kt) (varE 0) (conE (.int 1))] [some (.d (.tup [.int a, .tup (ns.map .int)])), some (.d (.str l)), some (.ref 0), none] [.lst []] = .ok (.d (.int (ns.length : Int))) [.lst []] := by simp (disch := omega) [small_iff, smallN_iff, succ0, atL0, atL1, atLn, clipN, clip1, clip2, clipn, runP, runI, startV, seqS, asgS, ifS, t2, t1, andT, orT, notT, truT, varE, conE, getV, setV, nameG, eqF, neF, eqW, R.bind, R.so, retS, nxS, frzE, newE, lstF, argsF, unWs, unW, snap, op2, op1, addF, subF, mulF, ixF, callB, callF, arg1, strF, valE, intF, dataL, ifE, notNF, isNF, isNon, lenF, absF, callP, callI, snaps, anyRef, tupOnly, List.replicate, ltF, gtF, geF, leF, cmpF, slE, bndE, cut, methE, methF, kindW, dropS, tupE, listG, itemsS, truW, joinG, textsOf, negF]
  have hr := rng1_ok e1 hn100
  have hu := unWs_dT ((termsL l a ns).map clean)
  generalize (termsL l a ns).map clean = ts at *
  have hf : forS (rng1 (callB (arg1 lenF) [op2 (ixF kt) (varE 0) (conE (.int 1))])) (nameG 3) l0__law_one [some (.d (.tup [.int a, .tup (ns.map .int)])), some (.d (.str l)), some (.ref 0), none] [.lst []] = .nx [some (.d (.tup [.int a, .tup (ns.map .int)])), some (.d (.str l)), some (.ref 0), x3] [.lst (ts.map (W.d ∘ dT))] := by
    rw [forS_fix hr]
    exact hh
  have hf' : (seqS (forS (rng1 (callB (arg1 lenF) [op2 (ixF kt) (varE 0) (conE (.int 1))])) (nameG 3) l0__law_one) (retS (callP _law_sum_ [varE 2]))) [some (.d (.tup [.int a, .tup (ns.map .int)])), some (.d (.str l)), some (.ref 0), none] [.lst []] = .rt (.d (.str (sumT (termsL l a ns)))) [.lst (ts.map (W.d ∘ dT))] := by
    rw [seqS_nx hf]
    simp (disch := omega) [small_iff, smallN_iff, succ0, atL0, atL1, atLn, clipN, clip1, clip2, clipn, runP, runI, startV, seqS, asgS, ifS, t2, t1, andT, orT, notT, truT, varE, conE, getV, setV, nameG, eqF, neF, eqW, R.bind, R.so, retS, nxS, frzE, newE, lstF, argsF, unWs, unW, snap, op2, op1, addF, subF, mulF, ixF, callB, callF, arg1, strF, valE, intF, dataL, ifE, notNF, isNF, isNon, lenF, absF, callP, callI, snaps, anyRef, tupOnly, List.replicate, ltF, gtF, geF, leF, cmpF, slE, bndE, cut, methE, methF, kindW, dropS, tupE, listG, itemsS, truW, joinG, textsOf, negF, getO, hu, hs]
  have hb : b__law_one [some (.d (.tup [.int a, .tup (ns.map .int)])), some (.d (.str l)), none, none] [] = .rt (.d (.str (sumT (termsL l a ns)))) [.lst (ts.map (W.d ∘ dT))] := by
    unfold b__law_one
    rw [seqS_nx (e' := [some (.d (.tup [.int a, .tup (ns.map .int)])), some (.d (.str l)), some (.ref 0), none]) (S' := [.lst []]) (by simp (disch := omega) [small_iff, smallN_iff, succ0, atL0, atL1, atLn, clipN, clip1, clip2, clipn, runP, runI, startV, seqS, asgS, ifS, t2, t1, andT, orT, notT, truT, varE, conE, getV, setV, nameG, eqF, neF, eqW, R.bind, R.so, retS, nxS, frzE, newE, lstF, argsF, unWs, unW, snap, op2, op1, addF, subF, mulF, ixF, callB, callF, arg1, strF, valE, intF, dataL, ifE, notNF, isNF, isNon, lenF, absF, callP, callI, snaps, anyRef, tupOnly, List.replicate, ltF, gtF, geF, leF, cmpF, slE, bndE, cut, methE, methF, kindW, dropS, tupE, listG, itemsS, truW, joinG, textsOf, negF])]
    exact hf'
  exact runP_rt (by rfl) hb rfl
end K54

end

section
set_option linter.all false
set_option maxRecDepth 100000
set_option linter.all false
set_option maxRecDepth 100000
namespace K54
open Pv Pw
theorem int_of {w : List Nat} (hw : w.length ≤ 16777216) : integer_of_ [.str w] = .ok (encI (rdI w)) := integer_ok kt hw
theorem law_int {w : List Nat} (hw : w.length ≤ 16777216) : _law_integer_ [.str w] = .ok (encI (rdI w)) := law_integer_ok kt hw
def exO (w : List Nat) (l : Nat) : Option Int := if w = [l] then some 1 else if w.take 2 = [l, 94] then (match rdI (w.drop 2) with
  | some e => if e = 0 ∨ e = 1 then none else some e
  | none => none) else none
def exL (w : List Nat) (l : Nat) : Option Int := if w = [l] then some 1 else if w.take 2 = [l, 94] then rdI (w.drop 2) else none
theorem pre_two (w : List Nat) (l : Nat) : [l, 94].isPrefixOf w = decide (w.take 2 = [l, 94]) := by
  rcases w with _ | ⟨c, _ | ⟨d, r⟩⟩
  · rfl
  · simp [List.isPrefixOf]
  · simp only [List.isPrefixOf, Bool.and_true, List.take_succ_cons, List.take_zero, List.cons.injEq, and_true]
    by_cases h : l = c
    · subst h
      by_cases h2 : 94 = d
      · subst h2; simp
      · have h3 : ¬ d = 94 := fun e => h2 e.symm
        have h2' : (94 == d) = false := by simpa using h2
        simp [h3, h2']
    · have h3 : ¬ c = l := fun e => h e.symm
      have h' : (l == c) = false := by simpa using h
      simp [h3, h']
theorem exp_of {w : List Nat} {l : Nat} (hw : w.length ≤ 16777216) : _exponent_of_ [.str w, .str [l]] = .ok (encI (exO w l)) := by
  have hs := small_iff hw
  unfold exO
  by_cases a : w = [l]
  · simp (disch := omega) [small_iff, smallN_iff, sm1, sm0, succ0, atL0, atL1, atLn, cutT1, cutT2, cutD1, cutD2, cutT, cutD, cutTD, runP, runI, startV, seqS, asgS, ifS, t2, t1, andT, orT, notT, truT, varE, conE, getV, setV, nameG, eqF, neF, eqW, R.bind, R.so, retS, nxS, frzE, newE, lstF, argsF, unWs, unW, snap, op2, op1, addF, subF, mulF, ixF, callB, callF, arg1, strF, valE, intF, dataL, ifE, notNF, isNF, isNon, lenF, absF, callP, callI, snaps, anyRef, tupOnly, List.replicate, ltF, gtF, geF, leF, cmpF, slE, bndE, methE, methF, kindW, dropS, tupE, listG, itemsS, truW, joinG, textsOf, negF, _exponent_of_, b__exponent_of, a, encI]
  · have a' : (w == [l]) = false := by simpa using a
    by_cases b : w.take 2 = [l, 94]
    · have hd : (w.drop 2).length ≤ 16777216 := by rw [List.length_drop]; omega
      have hi := int_of hd
      have c : [l, 94].isPrefixOf w = true := by rw [pre_two]; simpa using b
      have key : b__exponent_of [some (.d (.str w)), some (.d (.str [l])), none] [] = .rt (.d (encI (match rdI (w.drop 2) with
          | some e => if e = 0 ∨ e = 1 then none else some e
          | none => none))) [] := by
        unfold b__exponent_of
        rw [seqS_nx (e' := [some (.d (.str w)), some (.d (.str [l])), none]) (S' := []) (by simp only [ifS, t2, varE, getV, R.bind, eqF, eqW, a', R.so]; rfl)]
        rw [seqS_nx (e' := [some (.d (.str w)), some (.d (.str [l])), none]) (S' := []) (by simp (disch := omega) [small_iff, smallN_iff, sm1, sm0, succ0, atL0, atL1, atLn, cutT1, cutT2, cutD1, cutD2, cutT, cutD, cutTD, runP, runI, startV, seqS, asgS, ifS, t2, t1, andT, orT, notT, truT, varE, conE, getV, setV, nameG, eqF, neF, eqW, R.bind, R.so, retS, nxS, frzE, newE, lstF, argsF, unWs, unW, snap, op2, op1, addF, subF, mulF, ixF, callB, callF, arg1, strF, valE, intF, dataL, ifE, notNF, isNF, isNon, lenF, absF, callP, callI, snaps, anyRef, tupOnly, List.replicate, ltF, gtF, geF, leF, cmpF, slE, bndE, methE, methF, kindW, dropS, tupE, listG, itemsS, truW, joinG, textsOf, negF, startsG, c])]
        rw [seqS_nx (e' := [some (.d (.str w)), some (.d (.str [l])), some (.d (encI (rdI (w.drop 2))))]) (S' := []) (by simp (disch := omega) [small_iff, smallN_iff, sm1, sm0, succ0, atL0, atL1, atLn, cutT1, cutT2, cutD1, cutD2, cutT, cutD, cutTD, runP, runI, startV, seqS, asgS, ifS, t2, t1, andT, orT, notT, truT, varE, conE, getV, setV, nameG, eqF, neF, eqW, R.bind, R.so, retS, nxS, frzE, newE, lstF, argsF, unWs, unW, snap, op2, op1, addF, subF, mulF, ixF, callB, callF, arg1, strF, valE, intF, dataL, ifE, notNF, isNF, isNon, lenF, absF, callP, callI, snaps, anyRef, tupOnly, List.replicate, ltF, gtF, geF, leF, cmpF, slE, bndE, methE, methF, kindW, dropS, tupE, listG, itemsS, truW, joinG, textsOf, negF, hi])]
        cases hr : rdI (w.drop 2) with
        | none => simp (disch := omega) [small_iff, smallN_iff, sm1, sm0, succ0, atL0, atL1, atLn, cutT1, cutT2, cutD1, cutD2, cutT, cutD, cutTD, runP, runI, startV, seqS, asgS, ifS, t2, t1, andT, orT, notT, truT, varE, conE, getV, setV, nameG, eqF, neF, eqW, R.bind, R.so, retS, nxS, frzE, newE, lstF, argsF, unWs, unW, snap, op2, op1, addF, subF, mulF, ixF, callB, callF, arg1, strF, valE, intF, dataL, ifE, notNF, isNF, isNon, lenF, absF, callP, callI, snaps, anyRef, tupOnly, List.replicate, ltF, gtF, geF, leF, cmpF, slE, bndE, methE, methF, kindW, dropS, tupE, listG, itemsS, truW, joinG, textsOf, negF, encI, inF, inW, allFlat, flatD, inItems, eqD]
        | some e =>
          by_cases e0 : e = 0
          · simp (disch := omega) [small_iff, smallN_iff, sm1, sm0, succ0, atL0, atL1, atLn, cutT1, cutT2, cutD1, cutD2, cutT, cutD, cutTD, runP, runI, startV, seqS, asgS, ifS, t2, t1, andT, orT, notT, truT, varE, conE, getV, setV, nameG, eqF, neF, eqW, R.bind, R.so, retS, nxS, frzE, newE, lstF, argsF, unWs, unW, snap, op2, op1, addF, subF, mulF, ixF, callB, callF, arg1, strF, valE, intF, dataL, ifE, notNF, isNF, isNon, lenF, absF, callP, callI, snaps, anyRef, tupOnly, List.replicate, ltF, gtF, geF, leF, cmpF, slE, bndE, methE, methF, kindW, dropS, tupE, listG, itemsS, truW, joinG, textsOf, negF, encI, inF, inW, allFlat, flatD, inItems, eqD, e0]
          · by_cases e1 : e = 1
            · simp (disch := omega) [small_iff, smallN_iff, sm1, sm0, succ0, atL0, atL1, atLn, cutT1, cutT2, cutD1, cutD2, cutT, cutD, cutTD, runP, runI, startV, seqS, asgS, ifS, t2, t1, andT, orT, notT, truT, varE, conE, getV, setV, nameG, eqF, neF, eqW, R.bind, R.so, retS, nxS, frzE, newE, lstF, argsF, unWs, unW, snap, op2, op1, addF, subF, mulF, ixF, callB, callF, arg1, strF, valE, intF, dataL, ifE, notNF, isNF, isNon, lenF, absF, callP, callI, snaps, anyRef, tupOnly, List.replicate, ltF, gtF, geF, leF, cmpF, slE, bndE, methE, methF, kindW, dropS, tupE, listG, itemsS, truW, joinG, textsOf, negF, encI, inF, inW, allFlat, flatD, inItems, eqD, e1]
            · have q0 : ((0 : Int) == e) = false := by simpa using fun h => e0 h.symm
              have q1 : ((1 : Int) == e) = false := by simpa using fun h => e1 h.symm
              have q0' : ¬ (0 : Int) = e := fun h => e0 h.symm
              have q1' : ¬ (1 : Int) = e := fun h => e1 h.symm
              simp (disch := omega) [small_iff, smallN_iff, sm1, sm0, succ0, atL0, atL1, atLn, cutT1, cutT2, cutD1, cutD2, cutT, cutD, cutTD, runP, runI, startV, seqS, asgS, ifS, t2, t1, andT, orT, notT, truT, varE, conE, getV, setV, nameG, eqF, neF, eqW, R.bind, R.so, retS, nxS, frzE, newE, lstF, argsF, unWs, unW, snap, op2, op1, addF, subF, mulF, ixF, callB, callF, arg1, strF, valE, intF, dataL, ifE, notNF, isNF, isNon, lenF, absF, callP, callI, snaps, anyRef, tupOnly, List.replicate, ltF, gtF, geF, leF, cmpF, slE, bndE, methE, methF, kindW, dropS, tupE, listG, itemsS, truW, joinG, textsOf, negF, encI, inF, inW, allFlat, flatD, inItems, eqD, e0, e1, q0, q1, q0', q1']
      rw [if_neg a, if_pos b]
      exact runP_rt rfl key rfl
    · have c : [l, 94].isPrefixOf w = false := by rw [pre_two]; simpa using b
      rw [if_neg a, if_neg b]
      simp (disch := omega) [small_iff, smallN_iff, sm1, sm0, succ0, atL0, atL1, atLn, cutT1, cutT2, cutD1, cutD2, cutT, cutD, cutTD, runP, runI, startV, seqS, asgS, ifS, t2, t1, andT, orT, notT, truT, varE, conE, getV, setV, nameG, eqF, neF, eqW, R.bind, R.so, retS, nxS, frzE, newE, lstF, argsF, unWs, unW, snap, op2, op1, addF, subF, mulF, ixF, callB, callF, arg1, strF, valE, intF, dataL, ifE, notNF, isNF, isNon, lenF, absF, callP, callI, snaps, anyRef, tupOnly, List.replicate, ltF, gtF, geF, leF, cmpF, slE, bndE, methE, methF, kindW, dropS, tupE, listG, itemsS, truW, joinG, textsOf, negF, _exponent_of_, b__exponent_of, a', a, startsG, c, encI]
theorem law_exp {w : List Nat} {l : Nat} (hw : w.length ≤ 16777216) : _law_exponent_ [.str w, .str [l]] = .ok (encI (exL w l)) := by
  have hs := small_iff hw
  unfold exL
  by_cases a : w = [l]
  · simp (disch := omega) [small_iff, smallN_iff, sm1, sm0, succ0, atL0, atL1, atLn, cutT1, cutT2, cutD1, cutD2, cutT, cutD, cutTD, runP, runI, startV, seqS, asgS, ifS, t2, t1, andT, orT, notT, truT, varE, conE, getV, setV, nameG, eqF, neF, eqW, R.bind, R.so, retS, nxS, frzE, newE, lstF, argsF, unWs, unW, snap, op2, op1, addF, subF, mulF, ixF, callB, callF, arg1, strF, valE, intF, dataL, ifE, notNF, isNF, isNon, lenF, absF, callP, callI, snaps, anyRef, tupOnly, List.replicate, ltF, gtF, geF, leF, cmpF, slE, bndE, methE, methF, kindW, dropS, tupE, listG, itemsS, truW, joinG, textsOf, negF, _law_exponent_, b__law_exponent, a, encI]
  · have a' : (w == [l]) = false := by simpa using a
    by_cases b : w.take 2 = [l, 94]
    · have hd : (w.drop 2).length ≤ 16777216 := by rw [List.length_drop]; omega
      have hi := law_int hd
      have b' : (w.take 2 == [l, 94]) = true := by simpa using b
      rw [if_neg a, if_pos b]
      have key : b__law_exponent [some (.d (.str w)), some (.d (.str [l]))] [] = .rt (.d (encI (rdI (w.drop 2)))) [] := by
        unfold b__law_exponent
        rw [seqS_nx (e' := [some (.d (.str w)), some (.d (.str [l]))]) (S' := []) (by simp only [ifS, t2, varE, getV, R.bind, eqF, eqW, a', R.so]; rfl)]
        rw [seqS_nx (e' := [some (.d (.str w)), some (.d (.str [l]))]) (S' := []) (by simp (disch := omega) [small_iff, smallN_iff, sm1, sm0, succ0, atL0, atL1, atLn, cutT1, cutT2, cutD1, cutD2, cutT, cutD, cutTD, runP, runI, startV, seqS, asgS, ifS, t2, t1, andT, orT, notT, truT, varE, conE, getV, setV, nameG, eqF, neF, eqW, R.bind, R.so, retS, nxS, frzE, newE, lstF, argsF, unWs, unW, snap, op2, op1, addF, subF, mulF, ixF, callB, callF, arg1, strF, valE, intF, dataL, ifE, notNF, isNF, isNon, lenF, absF, callP, callI, snaps, anyRef, tupOnly, List.replicate, ltF, gtF, geF, leF, cmpF, slE, bndE, methE, methF, kindW, dropS, tupE, listG, itemsS, truW, joinG, textsOf, negF, b'])]
        simp (disch := omega) [small_iff, smallN_iff, sm1, sm0, succ0, atL0, atL1, atLn, cutT1, cutT2, cutD1, cutD2, cutT, cutD, cutTD, runP, runI, startV, seqS, asgS, ifS, t2, t1, andT, orT, notT, truT, varE, conE, getV, setV, nameG, eqF, neF, eqW, R.bind, R.so, retS, nxS, frzE, newE, lstF, argsF, unWs, unW, snap, op2, op1, addF, subF, mulF, ixF, callB, callF, arg1, strF, valE, intF, dataL, ifE, notNF, isNF, isNon, lenF, absF, callP, callI, snaps, anyRef, tupOnly, List.replicate, ltF, gtF, geF, leF, cmpF, slE, bndE, methE, methF, kindW, dropS, tupE, listG, itemsS, truW, joinG, textsOf, negF, hi]
      exact runP_rt rfl key rfl
    · rw [if_neg a, if_neg b]
      have b' : (w.take 2 == [l, 94]) = false := by simpa using b
      have key : b__law_exponent [some (.d (.str w)), some (.d (.str [l]))] [] = .rt (.d .non) [] := by
        unfold b__law_exponent
        rw [seqS_nx (e' := [some (.d (.str w)), some (.d (.str [l]))]) (S' := []) (by simp only [ifS, t2, varE, getV, R.bind, eqF, eqW, a', R.so]; rfl)]
        rw [seqS_rt (w := .d .non) (S' := []) (by simp (disch := omega) [small_iff, smallN_iff, sm1, sm0, succ0, atL0, atL1, atLn, cutT1, cutT2, cutD1, cutD2, cutT, cutD, cutTD, runP, runI, startV, seqS, asgS, ifS, t2, t1, andT, orT, notT, truT, varE, conE, getV, setV, nameG, eqF, neF, eqW, R.bind, R.so, retS, nxS, frzE, newE, lstF, argsF, unWs, unW, snap, op2, op1, addF, subF, mulF, ixF, callB, callF, arg1, strF, valE, intF, dataL, ifE, notNF, isNF, isNon, lenF, absF, callP, callI, snaps, anyRef, tupOnly, List.replicate, ltF, gtF, geF, leF, cmpF, slE, bndE, methE, methF, kindW, dropS, tupE, listG, itemsS, truW, joinG, textsOf, negF, b'])]
      exact runP_rt rfl key rfl
end K54

end

section
set_option linter.all false
set_option maxRecDepth 100000
set_option linter.all false
set_option maxRecDepth 100000
namespace Pw
open Pv
theorem forL_nx {g : GV} {b : SV} {w : W} {r : List W} {e e1 e2 : En} {S S1 S2 : Store} (h : g w e S = .ok e1 S1) (h' : b e1 S1 = .nx e2 S2) : forL g b (w :: r) e S = forL g b r e2 S2 := by
  conv => lhs; unfold forL
  rw [h]
  simp only [R.so, h']
theorem forL_ct {g : GV} {b : SV} {w : W} {r : List W} {e e1 e2 : En} {S S1 S2 : Store} (h : g w e S = .ok e1 S1) (h' : b e1 S1 = .ct e2 S2) : forL g b (w :: r) e S = forL g b r e2 S2 := by
  conv => lhs; unfold forL
  rw [h]
  simp only [R.so, h']
theorem forL_rt {g : GV} {b : SV} {w : W} {r : List W} {e e1 : En} {v : W} {S S1 S2 : Store} (h : g w e S = .ok e1 S1) (h' : b e1 S1 = .rt v S2) : forL g b (w :: r) e S = .rt v S2 := by
  conv => lhs; unfold forL
  rw [h]
  simp only [R.so, h']
theorem blt16 {n : Nat} (h : n < 16777216) : Nat.blt n 16777216 = true := Nat.ble_eq_true_of_le h
end Pw
namespace K54
open Pv Pw
def expsG (ex : List Nat → Nat → Option Int) : List (List Nat) → List Nat → List Int × List (List Nat)
  | ws, [] => ([], ws)
  | [], _ :: ls => (0 :: (expsG ex [] ls).1, (expsG ex [] ls).2)
  | w :: ws, l :: ls => match ex w l with
    | none => (0 :: (expsG ex (w :: ws) ls).1, (expsG ex (w :: ws) ls).2)
    | some e => (e :: (expsG ex ws ls).1, (expsG ex ws ls).2)
def wI (es : List Int) : List W := es.map fun e => W.d (.int e)
theorem wI_app (a : List Int) (e : Int) : wI a ++ [W.d (.int e)] = wI (a ++ [e]) := by simp [wI]
theorem wI_len (a : List Int) : (wI a).length = a.length := by simp [wI]
theorem unWs_wI (a : List Int) : unWs (wI a) = some (a.map .int) := unWs_int a
theorem term_loop : ∀ (ls : List Nat) (ws : List (List Nat)) (es : List Int) (W0 L N x5 x6 : Option W), (∀ w ∈ ws, w.length ≤ 16777216) → es.length + ls.length ≤ 1000 → ∃ x5' x6', forL (nameG 5) l0__term_of (ls.map fun l => W.d (.str [l])) [W0, L, N, some (.d (.lst (ws.map .str))), some (.ref 0), x5, x6] [.lst (wI es)] =
    .nx [W0, L, N, some (.d (.lst ((expsG exO ws ls).2.map .str))), some (.ref 0), x5', x6'] [.lst (wI (es ++ (expsG exO ws ls).1))]
  | [], ws, es, W0, L, N, x5, x6, _, _ => ⟨x5, x6, by simp [forL, expsG]⟩
  | l :: ls, [], es, W0, L, N, x5, x6, h, hl => by
    simp only [List.length_cons] at hl
    obtain ⟨x5', x6', ih⟩ := term_loop ls [] (es ++ [0]) W0 L N (some (.d (.str [l]))) (some (.d .non)) h (by simp; omega)
    refine ⟨x5', x6', ?_⟩
    have hb : Nat.blt es.length 16777216 = true := blt16 (by omega)
    rw [List.map_cons, forL_nx (e1 := [W0, L, N, some (.d (.lst [])), some (.ref 0), some (.d (.str [l])), x6]) (S1 := [.lst (wI es)]) (by rfl)
      (e2 := [W0, L, N, some (.d (.lst [])), some (.ref 0), some (.d (.str [l])), some (.d .non)]) (S2 := [.lst (wI (es ++ [0]))])
      (by simp (disch := omega) [small_iff, smallN_iff, sm1, sm0, succ0, atL0, atL1, atLn, cutT1, cutT2, cutD1, cutD2, cutT, cutD, cutTD, runP, runI, startV, seqS, asgS, ifS, t2, t1, andT, orT, notT, truT, varE, conE, getV, setV, nameG, eqF, neF, eqW, R.bind, R.so, retS, nxS, frzE, newE, lstF, argsF, unWs, unW, snap, op2, op1, addF, subF, mulF, ixF, callB, callF, arg1, strF, valE, intF, dataL, ifE, notNF, isNF, isNon, lenF, absF, callP, callI, snaps, anyRef, tupOnly, List.replicate, ltF, gtF, geF, leF, cmpF, slE, bndE, methE, methF, kindW, dropS, tupE, listG, itemsS, truW, joinG, textsOf, negF, l0__term_of, appendG, getO, setO, wI_len, hb, wI_app])]
    rw [List.append_assoc] at ih
    exact ih
  | l :: ls, w :: ws, es, W0, L, N, x5, x6, h, hl => by
    simp only [List.length_cons] at hl
    have hb : Nat.blt es.length 16777216 = true := blt16 (by omega)
    have he := exp_of (w := w) (l := l) (h w List.mem_cons_self)
    cases hx : exO w l with
    | none =>
      obtain ⟨x5', x6', ih⟩ := term_loop ls (w :: ws) (es ++ [0]) W0 L N (some (.d (.str [l]))) (some (.d .non)) h (by simp; omega)
      refine ⟨x5', x6', ?_⟩
      rw [hx] at he
      rw [List.map_cons, forL_nx (e1 := [W0, L, N, some (.d (.lst ((w :: ws).map .str))), some (.ref 0), some (.d (.str [l])), x6]) (S1 := [.lst (wI es)]) (by rfl)
        (e2 := [W0, L, N, some (.d (.lst ((w :: ws).map .str))), some (.ref 0), some (.d (.str [l])), some (.d .non)]) (S2 := [.lst (wI (es ++ [0]))])
        (by simp (disch := omega) [small_iff, smallN_iff, sm1, sm0, succ0, atL0, atL1, atLn, cutT1, cutT2, cutD1, cutD2, cutT, cutD, cutTD, runP, runI, startV, seqS, asgS, ifS, t2, t1, andT, orT, notT, truT, varE, conE, getV, setV, nameG, eqF, neF, eqW, R.bind, R.so, retS, nxS, frzE, newE, lstF, argsF, unWs, unW, snap, op2, op1, addF, subF, mulF, ixF, callB, callF, arg1, strF, valE, intF, dataL, ifE, notNF, isNF, isNon, lenF, absF, callP, callI, snaps, anyRef, tupOnly, List.replicate, ltF, gtF, geF, leF, cmpF, slE, bndE, methE, methF, kindW, dropS, tupE, listG, itemsS, truW, joinG, textsOf, negF, l0__term_of, appendG, getO, setO, wI_len, hb, wI_app, he, encI])]
      rw [List.append_assoc] at ih
      simp only [expsG, hx]
      exact ih
    | some x =>
      obtain ⟨x5', x6', ih⟩ := term_loop ls ws (es ++ [x]) W0 L N (some (.d (.str [l]))) (some (.d (.int x))) (fun w hw => h w (List.mem_cons_of_mem _ hw)) (by simp; omega)
      refine ⟨x5', x6', ?_⟩
      rw [hx] at he
      rw [List.map_cons, forL_nx (e1 := [W0, L, N, some (.d (.lst ((w :: ws).map .str))), some (.ref 0), some (.d (.str [l])), x6]) (S1 := [.lst (wI es)]) (by rfl)
        (e2 := [W0, L, N, some (.d (.lst (ws.map .str))), some (.ref 0), some (.d (.str [l])), some (.d (.int x))]) (S2 := [.lst (wI (es ++ [x]))])
        (by simp (disch := omega) [small_iff, smallN_iff, sm1, sm0, succ0, atL0, atL1, atLn, cutT1, cutT2, cutD1, cutD2, cutT, cutD, cutTD, runP, runI, startV, seqS, asgS, ifS, t2, t1, andT, orT, notT, truT, varE, conE, getV, setV, nameG, eqF, neF, eqW, R.bind, R.so, retS, nxS, frzE, newE, lstF, argsF, unWs, unW, snap, op2, op1, addF, subF, mulF, ixF, callB, callF, arg1, strF, valE, intF, dataL, ifE, notNF, isNF, isNon, lenF, absF, callP, callI, snaps, anyRef, tupOnly, List.replicate, ltF, gtF, geF, leF, cmpF, slE, bndE, methE, methF, kindW, dropS, tupE, listG, itemsS, truW, joinG, textsOf, negF, l0__term_of, appendG, getO, setO, wI_len, hb, wI_app, he, encI])]
      rw [List.append_assoc] at ih
      simp only [expsG, hx]
      exact ih
def numOf (ws : List (List Nat)) : Option (Int × List (List Nat)) := match ws with
  | [] => none
  | w :: r => match rdI w with
    | some n => if n < 1 ∨ (n = 1 ∧ r ≠ []) then none else some (n, r)
    | none => some (1, w :: r)
def termOf (ws : List (List Nat)) (ls : List Nat) : Option (Int × List Int) := match numOf ws with
  | none => none
  | some (n, r) => if (expsG exO r ls).2 = [] then some (n, (expsG exO r ls).1) else none
def encT : Option (Int × List Int) → D
  | none => .non
  | some (n, es) => .tup [.int n, .tup (es.map .int)]
theorem term_of {ws : List (List Nat)} {ls : List Nat} (h : ∀ w ∈ ws, w.length ≤ 16777216) (hl : ls.length ≤ 1000) : _term_of_ [.lst (ws.map .str), .tup (ls.map fun l => .str [l])] = .ok (encT (termOf ws ls)) := by
  -- behind the number
  have tail : ∀ (n : Int) (r : List (List Nat)), (∀ w ∈ r, w.length ≤ 16777216) → (seqS (asgS (nameG 4) (newE (lstF [])))
      (seqS (forN 1 (seqI (varE 1)) (nameG 5) l0__term_of)
      (retS (ifE (truT (varE 3)) (conE (.non)) (tupE [(varE 2), (callB (tupleG) [(varE 4)])]))))) [some (.d (.lst (ws.map .str))), some (.d (.tup (ls.map fun l => .str [l]))), some (.d (.int n)), some (.d (.lst (r.map .str))), none, none, none] [] =
      .rt (.d (encT (if (expsG exO r ls).2 = [] then some (n, (expsG exO r ls).1) else none))) [.lst (wI (expsG exO r ls).1)] := by
    intro n r hr
    rw [seqS_nx (e' := [some (.d (.lst (ws.map .str))), some (.d (.tup (ls.map fun l => .str [l]))), some (.d (.int n)), some (.d (.lst (r.map .str))), some (.ref 0), none, none]) (S' := [.lst []]) (by rfl)]
    obtain ⟨x5, x6, hh⟩ := term_loop ls r [] (some (.d (.lst (ws.map .str)))) (some (.d (.tup (ls.map fun l => .str [l])))) (some (.d (.int n))) none none hr (by simpa using hl)
    rw [seqS_nx (e' := _) (S' := _) (by
      show forS _ _ _ _ _ = _
      rw [forS_fix (S' := [.lst []]) (ws := ls.map fun l => W.d (.str [l])) (by simp [seqI, varE, getV, R.bind, Function.comp_def])]
      exact hh)]
    cases hq : (expsG exO r ls).2 with
    | nil => simp (disch := omega) [small_iff, smallN_iff, sm1, sm0, succ0, atL0, atL1, atLn, cutT1, cutT2, cutD1, cutD2, cutT, cutD, cutTD, runP, runI, startV, seqS, asgS, ifS, t2, t1, andT, orT, notT, truT, varE, conE, getV, setV, nameG, eqF, neF, eqW, R.bind, R.so, retS, nxS, frzE, newE, lstF, argsF, unWs, unW, snap, op2, op1, addF, subF, mulF, ixF, callB, callF, arg1, strF, valE, intF, dataL, ifE, notNF, isNF, isNon, lenF, absF, callP, callI, snaps, anyRef, tupOnly, List.replicate, ltF, gtF, geF, leF, cmpF, slE, bndE, methE, methF, kindW, dropS, tupE, listG, itemsS, truW, joinG, textsOf, negF, hq, tupleG, getO, unWs_wI, encT]
    | cons => simp (disch := omega) [small_iff, smallN_iff, sm1, sm0, succ0, atL0, atL1, atLn, cutT1, cutT2, cutD1, cutD2, cutT, cutD, cutTD, runP, runI, startV, seqS, asgS, ifS, t2, t1, andT, orT, notT, truT, varE, conE, getV, setV, nameG, eqF, neF, eqW, R.bind, R.so, retS, nxS, frzE, newE, lstF, argsF, unWs, unW, snap, op2, op1, addF, subF, mulF, ixF, callB, callF, arg1, strF, valE, intF, dataL, ifE, notNF, isNF, isNon, lenF, absF, callP, callI, snaps, anyRef, tupOnly, List.replicate, ltF, gtF, geF, leF, cmpF, slE, bndE, methE, methF, kindW, dropS, tupE, listG, itemsS, truW, joinG, textsOf, negF, hq, encT]
  have key : ∃ S, b__term_of [some (.d (.lst (ws.map .str))), some (.d (.tup (ls.map fun l => .str [l]))), none, none, none, none, none] [] = .rt (.d (encT (termOf ws ls))) S := by
    unfold b__term_of
    rw [seqS_nx (e' := [some (.d (.lst (ws.map .str))), some (.d (.tup (ls.map fun l => .str [l]))), some (.d (.int 1)), none, none, none, none]) (S' := []) (by rfl)]
    rw [seqS_nx (e' := [some (.d (.lst (ws.map .str))), some (.d (.tup (ls.map fun l => .str [l]))), some (.d (.int 1)), some (.d (.lst (ws.map .str))), none, none, none]) (S' := []) (by simp (disch := omega) [small_iff, smallN_iff, sm1, sm0, succ0, atL0, atL1, atLn, cutT1, cutT2, cutD1, cutD2, cutT, cutD, cutTD, runP, runI, startV, seqS, asgS, ifS, t2, t1, andT, orT, notT, truT, varE, conE, getV, setV, nameG, eqF, neF, eqW, R.bind, R.so, retS, nxS, frzE, newE, lstF, argsF, unWs, unW, snap, op2, op1, addF, subF, mulF, ixF, callB, callF, arg1, strF, valE, intF, dataL, ifE, notNF, isNF, isNon, lenF, absF, callP, callI, snaps, anyRef, tupOnly, List.replicate, ltF, gtF, geF, leF, cmpF, slE, bndE, methE, methF, kindW, dropS, tupE, listG, itemsS, truW, joinG, textsOf, negF, unWs_comp])]
    cases ws with
    | nil =>
      rw [seqS_rt (w := .d .non) (S' := []) (by simp (disch := omega) [small_iff, smallN_iff, sm1, sm0, succ0, atL0, atL1, atLn, cutT1, cutT2, cutD1, cutD2, cutT, cutD, cutTD, runP, runI, startV, seqS, asgS, ifS, t2, t1, andT, orT, notT, truT, varE, conE, getV, setV, nameG, eqF, neF, eqW, R.bind, R.so, retS, nxS, frzE, newE, lstF, argsF, unWs, unW, snap, op2, op1, addF, subF, mulF, ixF, callB, callF, arg1, strF, valE, intF, dataL, ifE, notNF, isNF, isNon, lenF, absF, callP, callI, snaps, anyRef, tupOnly, List.replicate, ltF, gtF, geF, leF, cmpF, slE, bndE, methE, methF, kindW, dropS, tupE, listG, itemsS, truW, joinG, textsOf, negF])]
      exact ⟨_, rfl⟩
    | cons w r =>
      have hi := int_of (h w List.mem_cons_self)
      have hr : ∀ w ∈ r, w.length ≤ 16777216 := fun w hw => h w (List.mem_cons_of_mem _ hw)
      cases hw : rdI w with
      | none =>
        rw [hw] at hi
        rw [seqS_nx (e' := [some (.d (.lst ((w :: r).map .str))), some (.d (.tup (ls.map fun l => .str [l]))), some (.d (.int 1)), some (.d (.lst ((w :: r).map .str))), none, none, none]) (S' := []) (by simp (disch := omega) [small_iff, smallN_iff, sm1, sm0, succ0, atL0, atL1, atLn, cutT1, cutT2, cutD1, cutD2, cutT, cutD, cutTD, runP, runI, startV, seqS, asgS, ifS, t2, t1, andT, orT, notT, truT, varE, conE, getV, setV, nameG, eqF, neF, eqW, R.bind, R.so, retS, nxS, frzE, newE, lstF, argsF, unWs, unW, snap, op2, op1, addF, subF, mulF, ixF, callB, callF, arg1, strF, valE, intF, dataL, ifE, notNF, isNF, isNon, lenF, absF, callP, callI, snaps, anyRef, tupOnly, List.replicate, ltF, gtF, geF, leF, cmpF, slE, bndE, methE, methF, kindW, dropS, tupE, listG, itemsS, truW, joinG, textsOf, negF, hi, encI])]
        rw [tail 1 (w :: r) h]
        exact ⟨_, by simp only [termOf, numOf, hw]; rfl⟩
      | some n =>
        rw [hw] at hi
        by_cases a : n < 1 ∨ (n = 1 ∧ r ≠ [])
        · refine ⟨[], ?_⟩
          rw [seqS_rt (w := .d .non) (S' := []) (by
            rcases a with a | ⟨rfl, a⟩
            · simp (disch := omega) [small_iff, smallN_iff, sm1, sm0, succ0, atL0, atL1, atLn, cutT1, cutT2, cutD1, cutD2, cutT, cutD, cutTD, runP, runI, startV, seqS, asgS, ifS, t2, t1, andT, orT, notT, truT, varE, conE, getV, setV, nameG, eqF, neF, eqW, R.bind, R.so, retS, nxS, frzE, newE, lstF, argsF, unWs, unW, snap, op2, op1, addF, subF, mulF, ixF, callB, callF, arg1, strF, valE, intF, dataL, ifE, notNF, isNF, isNon, lenF, absF, callP, callI, snaps, anyRef, tupOnly, List.replicate, ltF, gtF, geF, leF, cmpF, slE, bndE, methE, methF, kindW, dropS, tupE, listG, itemsS, truW, joinG, textsOf, negF, hi, encI, a]
            · have : (1 : Int) < (r.length : Int) + 1 := by cases r with
                | nil => exact absurd rfl a
                | cons => simp; omega
              simp (disch := omega) [small_iff, smallN_iff, sm1, sm0, succ0, atL0, atL1, atLn, cutT1, cutT2, cutD1, cutD2, cutT, cutD, cutTD, runP, runI, startV, seqS, asgS, ifS, t2, t1, andT, orT, notT, truT, varE, conE, getV, setV, nameG, eqF, neF, eqW, R.bind, R.so, retS, nxS, frzE, newE, lstF, argsF, unWs, unW, snap, op2, op1, addF, subF, mulF, ixF, callB, callF, arg1, strF, valE, intF, dataL, ifE, notNF, isNF, isNon, lenF, absF, callP, callI, snaps, anyRef, tupOnly, List.replicate, ltF, gtF, geF, leF, cmpF, slE, bndE, methE, methF, kindW, dropS, tupE, listG, itemsS, truW, joinG, textsOf, negF, hi, encI, this])]
          simp only [termOf, numOf, hw, if_pos a]
          rfl
        · have a1 : ¬ n < 1 := fun x => a (.inl x)
          have a2 : ¬ (n = 1 ∧ r ≠ []) := fun x => a (.inr x)
          rw [seqS_nx (e' := [some (.d (.lst ((w :: r).map .str))), some (.d (.tup (ls.map fun l => .str [l]))), some (.d (.int n)), some (.d (.lst (r.map .str))), none, none, none]) (S' := []) (by
            by_cases e : n = 1
            · have : r = [] := by
                cases r with
                | nil => rfl
                | cons => exact absurd ⟨e, by simp⟩ a2
              subst this e
              simp (disch := omega) [small_iff, smallN_iff, sm1, sm0, succ0, atL0, atL1, atLn, cutT1, cutT2, cutD1, cutD2, cutT, cutD, cutTD, runP, runI, startV, seqS, asgS, ifS, t2, t1, andT, orT, notT, truT, varE, conE, getV, setV, nameG, eqF, neF, eqW, R.bind, R.so, retS, nxS, frzE, newE, lstF, argsF, unWs, unW, snap, op2, op1, addF, subF, mulF, ixF, callB, callF, arg1, strF, valE, intF, dataL, ifE, notNF, isNF, isNon, lenF, absF, callP, callI, snaps, anyRef, tupOnly, List.replicate, ltF, gtF, geF, leF, cmpF, slE, bndE, methE, methF, kindW, dropS, tupE, listG, itemsS, truW, joinG, textsOf, negF, hi, encI]
            · have e' : (n == 1) = false := by simpa using e
              simp (disch := omega) [small_iff, smallN_iff, sm1, sm0, succ0, atL0, atL1, atLn, cutT1, cutT2, cutD1, cutD2, cutT, cutD, cutTD, runP, runI, startV, seqS, asgS, ifS, t2, t1, andT, orT, notT, truT, varE, conE, getV, setV, nameG, eqF, neF, eqW, R.bind, R.so, retS, nxS, frzE, newE, lstF, argsF, unWs, unW, snap, op2, op1, addF, subF, mulF, ixF, callB, callF, arg1, strF, valE, intF, dataL, ifE, notNF, isNF, isNon, lenF, absF, callP, callI, snaps, anyRef, tupOnly, List.replicate, ltF, gtF, geF, leF, cmpF, slE, bndE, methE, methF, kindW, dropS, tupE, listG, itemsS, truW, joinG, textsOf, negF, hi, encI, a1, e', e])]
          rw [tail n r hr]
          exact ⟨_, by simp only [termOf, numOf, hw, if_neg a]; rfl⟩
  obtain ⟨S, hk⟩ := key
  exact runP_rt rfl hk rfl
end K54

end

section
set_option linter.all false
set_option maxRecDepth 100000
set_option linter.all false
set_option maxRecDepth 100000
namespace Pw
open Pv
theorem in_words (kt : List (List D)) {S : Store} (w : List Nat) (ws : List (List Nat)) : inW kt S (.d (.str w)) (.d (.tup (ws.map .str))) = some (ws.contains w) := by
  have hf : ∀ ws : List (List Nat), allFlat (ws.map D.str) = true := by
    intro ws; induction ws with
    | nil => rfl
    | cons x r ih => simp [allFlat, flatD, ih]
  have hi : ∀ ws : List (List Nat), inItems (.str w) (ws.map D.str) = ws.contains w := by
    intro ws; induction ws with
    | nil => rfl
    | cons x r ih =>
      simp only [List.map_cons, inItems, eqD, ih, List.contains_cons]
      congr 1
      by_cases h : w = x
      · simp [h]
      · have h1 : (x == w) = false := by simpa using fun e => h e.symm
        have h2 : (w == x) = false := by simpa using h
        rw [h1, h2]
  have h1 := hf ws
  have h2 := hi ws
  rcases w with _ | ⟨c, _ | ⟨d, r⟩⟩ <;> simp [inW, flatD, h1, h2]
theorem in_wordsL (kt : List (List D)) {S : Store} (w : List Nat) (ws : List (List Nat)) : inW kt S (.d (.str w)) (.d (.lst (ws.map .str))) = some (ws.contains w) := by
  have hf : ∀ ws : List (List Nat), allFlat (ws.map D.str) = true := by
    intro ws; induction ws with
    | nil => rfl
    | cons x r ih => simp [allFlat, flatD, ih]
  have hi : ∀ ws : List (List Nat), inItems (.str w) (ws.map D.str) = ws.contains w := by
    intro ws; induction ws with
    | nil => rfl
    | cons x r ih =>
      simp only [List.map_cons, inItems, eqD, ih, List.contains_cons]
      congr 1
      by_cases h : w = x
      · simp [h]
      · have h1 : (x == w) = false := by simpa using fun e => h e.symm
        have h2 : (w == x) = false := by simpa using h
        rw [h1, h2]
  have h1 := hf ws
  have h2 := hi ws
  rcases w with _ | ⟨c, _ | ⟨d, r⟩⟩ <;> simp [inW, flatD, h1, h2]
theorem tups_int : ∀ (es : List Int), tupOnly.tupOnlys (es.map .int) = true
  | [] => rfl
  | e :: r => by simp [tupOnly.tupOnlys, tupOnly, tups_int r]
end Pw
namespace K54
open Pv Pw
def goG (tm : List (List Nat) → Option (Int × List Int)) : Int → List (List Nat) → List (List Nat) → List (Int × List Int) → Option (List (Int × List Int))
  | _, _, [], F => some F
  | s, acc, w :: r, F => if w = [43] ∨ w = [45] then (match tm acc with
    | none => none
    | some (n, es) => goG tm (if w = [43] then 1 else -1) [] r (F ++ [(s * n, es)])) else goG tm s (acc ++ [w]) r F
def goT (ls : List Nat) := goG fun ws => termOf ws ls
def encF (t : Int × List Int) : D := .tup [.int t.1, .tup (t.2.map .int)]
def wF (F : List (Int × List Int)) : List W := F.map (W.d ∘ encF)
def wS (ws : List (List Nat)) : List W := ws.map (W.d ∘ D.str)
theorem wF_app (F : List (Int × List Int)) (n : Int) (es : List Int) : wF F ++ [W.d (.tup [.int n, .tup (es.map .int)])] = wF (F ++ [(n, es)]) := by simp [wF, encF]
theorem wF_len (F : List (Int × List Int)) : (wF F).length = F.length := by simp [wF]
theorem unWs_wF (F : List (Int × List Int)) : unWs (wF F) = some (F.map encF) := unWs_comp encF F
theorem wS_app (ws : List (List Nat)) (w : List Nat) : wS ws ++ [W.d (.str w)] = wS (ws ++ [w]) := by simp [wS]
theorem wS_len (ws : List (List Nat)) : (wS ws).length = ws.length := by simp [wS]
theorem unWs_wS (ws : List (List Nat)) : unWs (wS ws) = some (ws.map .str) := unWs_comp D.str ws
theorem terms_loop (ls : List Nat) (hls : ls.length ≤ 1000) (T : Option W) : ∀ (ws : List (List Nat)) (s : Int) (acc : List (List Nat)) (F : List (Int × List Int)) (S : Store) (k : Nat) (x5 x6 : Option W), (∀ w ∈ ws, w.length ≤ 16777216) → (∀ w ∈ acc, w.length ≤ 16777216) → acc.length + ws.length ≤ 10000000 → F.length + ws.length ≤ 10000000 → (s = 1 ∨ s = -1) → k ≠ 0 →
    getO S 0 = some (.lst (wF F)) → getO S k = some (.lst (wS acc)) →
    (match goT ls s acc ws F with
    | none => ∃ S', forL (nameG 5) l0__terms_of (wS ws) [T, some (.d (.tup (ls.map fun l => .str [l]))), some (.d (.int s)), some (.ref 0), some (.ref k), x5, x6] S = .rt (.d .non) S'
    | some F' => ∃ s' k' x5' x6' S', forL (nameG 5) l0__terms_of (wS ws) [T, some (.d (.tup (ls.map fun l => .str [l]))), some (.d (.int s)), some (.ref 0), some (.ref k), x5, x6] S = .nx [T, some (.d (.tup (ls.map fun l => .str [l]))), s', some (.ref 0), k', x5', x6'] S' ∧ getO S' 0 = some (.lst (wF F')))
  | [], s, acc, F, S, k, x5, x6, _, _, _, _, _, _, h0, _ => by
    simp only [goT, goG]
    exact ⟨_, _, _, _, S, rfl, h0⟩
  | w :: r, s, acc, F, S, k, x5, x6, hw, ha, h1, h2, hs, hk, h0, h3 => by
    simp only [List.length_cons] at h1 h2
    have hr : ∀ w ∈ r, w.length ≤ 16777216 := fun w h => hw w (List.mem_cons_of_mem _ h)
    have hin := in_words kt (S := S) w [[43], [45]]
    by_cases hsep : w = [43] ∨ w = [45]
    · have hc : ([[43], [45]] : List (List Nat)).contains w = true := by
        rcases hsep with rfl | rfl <;> rfl
      rw [hc] at hin
      have ht := term_of (ls := ls) ha hls
      simp only [goT, goG, if_pos hsep]
      cases hto : termOf acc ls with
      | none =>
        rw [hto] at ht
        simp only
        refine ⟨S, ?_⟩
        refine forL_rt (e1 := [T, some (.d (.tup (ls.map fun l => .str [l]))), some (.d (.int s)), some (.ref 0), some (.ref k), some (.d (.str w)), x6]) (S1 := S) (by rfl) ?_
        simp only [List.map_cons, List.map_nil] at hin
        simp (disch := omega) [small_iff, smallN_iff, sm1, sm0, succ0, atL0, atL1, atLn, cutT1, cutT2, cutD1, cutD2, cutT, cutD, cutTD, runP, runI, startV, seqS, asgS, ifS, t2, t1, andT, orT, notT, truT, varE, conE, getV, setV, nameG, eqF, neF, eqW, R.bind, R.so, retS, nxS, frzE, newE, lstF, argsF, unWs, unW, snap, op2, op1, addF, subF, mulF, ixF, callB, callF, arg1, strF, valE, intF, dataL, ifE, notNF, isNF, isNon, lenF, absF, callP, callI, snaps, anyRef, tupOnly, List.replicate, ltF, gtF, geF, leF, cmpF, slE, bndE, methE, methF, kindW, dropS, tupE, listG, itemsS, truW, joinG, textsOf, negF, l0__terms_of, inF, hin, h3, unWs_wS, ht, encT]
      | some q =>
        obtain ⟨n, es⟩ := q
        rw [hto] at ht
        simp only
        have hb : Nat.blt F.length 16777216 = true := blt16 (by omega)
        have hsm : small64 s = true := by rcases hs with rfl | rfl <;> rfl
        have e1 : l0__terms_of [T, some (.d (.tup (ls.map fun l => .str [l]))), some (.d (.int s)), some (.ref 0), some (.ref k), some (.d (.str w)), x6] S =
            .nx [T, some (.d (.tup (ls.map fun l => .str [l]))), some (.d (.int (if w = [43] then 1 else -1))), some (.ref 0), some (.ref S.length), some (.d (.str w)), some (.d (encT (some (n, es))))] (setO S 0 (.lst (wF (F ++ [(s * n, es)]))) ++ [.lst []]) := by
          simp only [List.map_cons, List.map_nil] at hin
          rcases hsep with rfl | rfl
          · simp (disch := omega) [small_iff, smallN_iff, sm1, sm0, succ0, atL0, atL1, atLn, cutT1, cutT2, cutD1, cutD2, cutT, cutD, cutTD, runP, runI, startV, seqS, asgS, ifS, t2, t1, andT, orT, notT, truT, varE, conE, getV, setV, nameG, eqF, neF, eqW, R.bind, R.so, retS, nxS, frzE, newE, lstF, argsF, unWs, unW, snap, op2, op1, addF, subF, mulF, ixF, callB, callF, arg1, strF, valE, intF, dataL, ifE, notNF, isNF, isNon, lenF, absF, callP, callI, snaps, anyRef, tupOnly, List.replicate, ltF, gtF, geF, leF, cmpF, slE, bndE, methE, methF, kindW, dropS, tupE, listG, itemsS, truW, joinG, textsOf, negF, l0__terms_of, inF, hin, h3, unWs_wS, ht, encT, tupOnly.tupOnlys, tups_int, hsm, appendG, h0, wF_len, hb, wF_app, setO_len]
          · simp (disch := omega) [small_iff, smallN_iff, sm1, sm0, succ0, atL0, atL1, atLn, cutT1, cutT2, cutD1, cutD2, cutT, cutD, cutTD, runP, runI, startV, seqS, asgS, ifS, t2, t1, andT, orT, notT, truT, varE, conE, getV, setV, nameG, eqF, neF, eqW, R.bind, R.so, retS, nxS, frzE, newE, lstF, argsF, unWs, unW, snap, op2, op1, addF, subF, mulF, ixF, callB, callF, arg1, strF, valE, intF, dataL, ifE, notNF, isNF, isNon, lenF, absF, callP, callI, snaps, anyRef, tupOnly, List.replicate, ltF, gtF, geF, leF, cmpF, slE, bndE, methE, methF, kindW, dropS, tupE, listG, itemsS, truW, joinG, textsOf, negF, l0__terms_of, inF, hin, h3, unWs_wS, ht, encT, tupOnly.tupOnlys, tups_int, hsm, appendG, h0, wF_len, hb, wF_app, setO_len]
        have h00 : 0 < S.length := getO_lt S 0 _ h0
        have ih := terms_loop ls hls T r (if w = [43] then 1 else -1) [] (F ++ [(s * n, es)]) (setO S 0 (.lst (wF (F ++ [(s * n, es)]))) ++ [.lst []]) S.length (some (.d (.str w))) (some (.d (encT (some (n, es))))) hr (by simp) (by simp; omega) (by simp; omega) (by split <;> simp) (by omega)
          (getO_some _ (getO_set h0)) (by have := getO_end (setO S 0 (.lst (wF (F ++ [(s * n, es)])))) (.lst []); rwa [setO_len] at this)
        have hf : forL (nameG 5) l0__terms_of (wS (w :: r)) [T, some (.d (.tup (ls.map fun l => .str [l]))), some (.d (.int s)), some (.ref 0), some (.ref k), x5, x6] S = _ := forL_nx (by rfl) e1
        rw [hf]
        exact ih
    · have hc : ([[43], [45]] : List (List Nat)).contains w = false := by
        have a : ¬ w = [43] := fun h => hsep (.inl h)
        have b : ¬ w = [45] := fun h => hsep (.inr h)
        simp [a, b]
      rw [hc] at hin
      simp only [goT, goG, if_neg hsep]
      have hb : Nat.blt acc.length 16777216 = true := blt16 (by omega)
      have e1 : l0__terms_of [T, some (.d (.tup (ls.map fun l => .str [l]))), some (.d (.int s)), some (.ref 0), some (.ref k), some (.d (.str w)), x6] S =
            .nx [T, some (.d (.tup (ls.map fun l => .str [l]))), some (.d (.int s)), some (.ref 0), some (.ref k), some (.d (.str w)), x6] (setO S k (.lst (wS (acc ++ [w])))) := by
        simp only [List.map_cons, List.map_nil] at hin
        simp (disch := omega) [small_iff, smallN_iff, sm1, sm0, succ0, atL0, atL1, atLn, cutT1, cutT2, cutD1, cutD2, cutT, cutD, cutTD, runP, runI, startV, seqS, asgS, ifS, t2, t1, andT, orT, notT, truT, varE, conE, getV, setV, nameG, eqF, neF, eqW, R.bind, R.so, retS, nxS, frzE, newE, lstF, argsF, unWs, unW, snap, op2, op1, addF, subF, mulF, ixF, callB, callF, arg1, strF, valE, intF, dataL, ifE, notNF, isNF, isNon, lenF, absF, callP, callI, snaps, anyRef, tupOnly, List.replicate, ltF, gtF, geF, leF, cmpF, slE, bndE, methE, methF, kindW, dropS, tupE, listG, itemsS, truW, joinG, textsOf, negF, l0__terms_of, inF, hin, appendG, h3, wS_len, hb, wS_app]
      have ih := terms_loop ls hls T r s (acc ++ [w]) F (setO S k (.lst (wS (acc ++ [w])))) k (some (.d (.str w))) x6 hr (by
          intro x hx
          rcases List.mem_append.mp hx with hx | hx
          · exact ha x hx
          · simp only [List.mem_singleton] at hx; subst hx; exact hw _ List.mem_cons_self) (by simp; omega) (by omega) hs hk (by rw [getO_ne _ _ _ _ hk]; exact h0) (getO_set h3)
      have hf : forL (nameG 5) l0__terms_of (wS (w :: r)) [T, some (.d (.tup (ls.map fun l => .str [l]))), some (.d (.int s)), some (.ref 0), some (.ref k), x5, x6] S = _ := forL_nx (by rfl) e1
      rw [hf]
      exact ih
def signOf (t : List Nat) : Int := if t.take 1 = [45] then -1 else 1
def restOf (t : List Nat) : List Nat := if t.take 1 = [45] then t.drop 1 else t
def termsG (tm : List (List Nat) → Option (Int × List Int)) (t : List Nat) : Option (List (Int × List Int)) := if t = [48] then some [] else goG tm (signOf t) [] (splitC 32 [] (restOf t) ++ [[43]]) []
def termsOf (t : List Nat) (ls : List Nat) : Option (List (Int × List Int)) := termsG (fun ws => termOf ws ls) t
def encFs : Option (List (Int × List Int)) → D
  | none => .non
  | some F => .lst (F.map encF)
theorem pre_one (w : List Nat) : [45].isPrefixOf w = decide (w.take 1 = [45]) := by
  rcases w with _ | ⟨c, r⟩
  · rfl
  · simp only [List.isPrefixOf, Bool.and_true, List.take_succ_cons, List.take_zero, List.cons.injEq, and_true]
    by_cases h : 45 = c
    · subst h; rfl
    · have h3 : ¬ c = 45 := fun e => h e.symm
      have h' : (45 == c) = false := by simpa using h
      simp [h3, h']
theorem restOf_len (t : List Nat) : (restOf t).length ≤ t.length := by unfold restOf; split <;> simp
theorem split_len2 (c : Nat) : ∀ (t acc : List Nat), ∀ w ∈ splitC c acc t, w.length ≤ t.length + acc.length
  | [], acc, w, hw => by simp only [splitC, List.mem_singleton] at hw; subst hw; simp
  | x :: r, acc, w, hw => by
    unfold splitC at hw
    split at hw
    · rcases List.mem_cons.mp hw with rfl | hw
      · simp
      · have := split_len2 c r [] w hw; simp at this ⊢; omega
    · have := split_len2 c r (x :: acc) w hw; simp at this ⊢; omega
theorem terms_of {t : List Nat} {ls : List Nat} (ht : t.length ≤ 5000000) (hls : ls.length ≤ 1000) : _terms_of_ [.str t, .tup (ls.map fun l => .str [l])] = .ok (encFs (termsOf t ls)) := by
  have hs : small t = true := small_iff (by omega)
  have key : ∃ w S, b__terms_of [some (.d (.str t)), some (.d (.tup (ls.map fun l => .str [l]))), none, none, none, none, none] [] = .rt w S ∧ snap S w = some (encFs (termsOf t ls)) := by
    unfold b__terms_of termsOf termsG
    by_cases a : t = [48]
    · rw [seqS_rt (w := .d (.lst [])) (S' := []) (by simp (disch := omega) [small_iff, smallN_iff, sm1, sm0, succ0, atL0, atL1, atLn, cutT1, cutT2, cutD1, cutD2, cutT, cutD, cutTD, runP, runI, startV, seqS, asgS, ifS, t2, t1, andT, orT, notT, truT, varE, conE, getV, setV, nameG, eqF, neF, eqW, R.bind, R.so, retS, nxS, frzE, newE, lstF, argsF, unWs, unW, snap, op2, op1, addF, subF, mulF, ixF, callB, callF, arg1, strF, valE, intF, dataL, ifE, notNF, isNF, isNon, lenF, absF, callP, callI, snaps, anyRef, tupOnly, List.replicate, ltF, gtF, geF, leF, cmpF, slE, bndE, methE, methF, kindW, dropS, tupE, listG, itemsS, truW, joinG, textsOf, negF, a])]
      exact ⟨_, _, rfl, by rw [if_pos a]; rfl⟩
    · have a' : (t == [48]) = false := by simpa using a
      rw [seqS_nx (e' := [some (.d (.str t)), some (.d (.tup (ls.map fun l => .str [l]))), none, none, none, none, none]) (S' := []) (by simp only [ifS, t2, varE, getV, R.bind, eqF, eqW, a', R.so, conE]; rfl)]
      rw [seqS_nx (e' := [some (.d (.str t)), some (.d (.tup (ls.map fun l => .str [l]))), some (.d (.int 1)), none, none, none, none]) (S' := []) (by rfl)]
      rw [seqS_nx (e' := [some (.d (.str (restOf t))), some (.d (.tup (ls.map fun l => .str [l]))), some (.d (.int (signOf t))), none, none, none, none]) (S' := []) (by
        have hp := pre_one t
        unfold restOf signOf
        by_cases b : t.take 1 = [45]
        · have b' : [45].isPrefixOf t = true := by rw [hp]; simpa using b
          simp (disch := omega) [small_iff, smallN_iff, sm1, sm0, succ0, atL0, atL1, atLn, cutT1, cutT2, cutD1, cutD2, cutT, cutD, cutTD, runP, runI, startV, seqS, asgS, ifS, t2, t1, andT, orT, notT, truT, varE, conE, getV, setV, nameG, eqF, neF, eqW, R.bind, R.so, retS, nxS, frzE, newE, lstF, argsF, unWs, unW, snap, op2, op1, addF, subF, mulF, ixF, callB, callF, arg1, strF, valE, intF, dataL, ifE, notNF, isNF, isNon, lenF, absF, callP, callI, snaps, anyRef, tupOnly, List.replicate, ltF, gtF, geF, leF, cmpF, slE, bndE, methE, methF, kindW, dropS, tupE, listG, itemsS, truW, joinG, textsOf, negF, startsG, b', b]
        · have b' : [45].isPrefixOf t = false := by rw [hp]; simpa using b
          simp (disch := omega) [small_iff, smallN_iff, sm1, sm0, succ0, atL0, atL1, atLn, cutT1, cutT2, cutD1, cutD2, cutT, cutD, cutTD, runP, runI, startV, seqS, asgS, ifS, t2, t1, andT, orT, notT, truT, varE, conE, getV, setV, nameG, eqF, neF, eqW, R.bind, R.so, retS, nxS, frzE, newE, lstF, argsF, unWs, unW, snap, op2, op1, addF, subF, mulF, ixF, callB, callF, arg1, strF, valE, intF, dataL, ifE, notNF, isNF, isNon, lenF, absF, callP, callI, snaps, anyRef, tupOnly, List.replicate, ltF, gtF, geF, leF, cmpF, slE, bndE, methE, methF, kindW, dropS, tupE, listG, itemsS, truW, joinG, textsOf, negF, startsG, b', b])]
      rw [seqS_nx (e' := [some (.d (.str (restOf t))), some (.d (.tup (ls.map fun l => .str [l]))), some (.d (.int (signOf t))), some (.ref 0), none, none, none]) (S' := [.lst []]) (by rfl)]
      rw [seqS_nx (e' := [some (.d (.str (restOf t))), some (.d (.tup (ls.map fun l => .str [l]))), some (.d (.int (signOf t))), some (.ref 0), some (.ref 1), none, none]) (S' := [.lst [], .lst []]) (by rfl)]
      have hrl := restOf_len t
      have hws : (splitC 32 [] (restOf t)).length ≤ (restOf t).length + 1 := splitC_len 32 (restOf t) []
      have hwm := split_len2 32 (restOf t) []
      have hfix : seqI (op2 addF (frzE (methF [1] splitG (varE 0) [(conE (.str [32]))])) (frzE (lstF [(conE (.str [43]))]))) [some (.d (.str (restOf t))), some (.d (.tup (ls.map fun l => .str [l]))), some (.d (.int (signOf t))), some (.ref 0), some (.ref 1), none, none] [.lst [], .lst []] = .ok (.fix (wS (splitC 32 [] (restOf t) ++ [[43]]))) [.lst [], .lst []] := by
        have hsn : smallN ((restOf t).length + 2) = true := smallN_iff (by omega)
        have hbl : Nat.blt 32 128 = true := rfl
        have hu := unWs_map D.str (splitC 32 [] (restOf t))
        simp (disch := omega) [small_iff, smallN_iff, sm1, sm0, succ0, atL0, atL1, atLn, cutT1, cutT2, cutD1, cutD2, cutT, cutD, cutTD, runP, runI, startV, seqS, asgS, ifS, t2, t1, andT, orT, notT, truT, varE, conE, getV, setV, nameG, eqF, neF, eqW, R.bind, R.so, retS, nxS, frzE, newE, lstF, argsF, unWs, unW, snap, op2, op1, addF, subF, mulF, ixF, callB, callF, arg1, strF, valE, intF, dataL, ifE, notNF, isNF, isNon, lenF, absF, callP, callI, snaps, anyRef, tupOnly, List.replicate, ltF, gtF, geF, leF, cmpF, slE, bndE, methE, methF, kindW, dropS, tupE, listG, itemsS, truW, joinG, textsOf, negF, seqI, splitG, hsn, hbl, hu, wS]
      have loop := terms_loop ls hls (some (.d (.str (restOf t)))) (splitC 32 [] (restOf t) ++ [[43]]) (signOf t) [] [] [.lst [], .lst []] 1 none none (by
          intro w hw
          rcases List.mem_append.mp hw with hw | hw
          · have := hwm w hw; simp at this; omega
          · simp only [List.mem_singleton] at hw; subst hw; simp) (by simp) (by simp; omega) (by simp; omega) (by unfold signOf; split <;> simp) (by omega) rfl rfl
      rw [if_neg a]
      show ∃ w S, _ = _ ∧ snap S w = some (encFs (goT ls (signOf t) [] (splitC 32 [] (restOf t) ++ [[43]]) []))
      cases hg : goT ls (signOf t) [] (splitC 32 [] (restOf t) ++ [[43]]) [] with
      | none =>
        rw [hg] at loop
        obtain ⟨S', h⟩ := loop
        rw [seqS_rt (by rw [forS_fix hfix]; exact h)]
        exact ⟨_, _, rfl, rfl⟩
      | some F =>
        rw [hg] at loop
        obtain ⟨s', k', x5, x6, S', h, h'⟩ := loop
        rw [seqS_nx (by rw [forS_fix hfix]; exact h)]
        refine ⟨.ref 0, S', rfl, ?_⟩
        simp only [snap, h', unWs_wF]
        try rfl
  obtain ⟨w, S, h1, h2⟩ := key
  exact runP_rt rfl h1 h2
end K54

end

section
set_option linter.all false
set_option maxRecDepth 100000
set_option linter.all false
set_option maxRecDepth 100000
namespace Pw
open Pv
/-! dicts of numbers, with keys of one kind -/
section
variable {κ : Type} [DecidableEq κ]
def putP (kvs : List (κ × Int)) (k : κ) (v : Int) : List (κ × Int) := if kvs.any (fun p => decide (p.1 = k)) then kvs.map (fun p => if p.1 = k then (p.1, v) else p) else kvs ++ [(k, v)]
def getP : List (κ × Int) → κ → Option Int
  | [], _ => none
  | p :: r, k => if p.1 = k then some p.2 else getP r k
def encW (ek : κ → D) (kvs : List (κ × Int)) : List (D × W) := kvs.map fun p => (ek p.1, W.d (.int p.2))
def encD (ek : κ → D) (kvs : List (κ × Int)) : List (D × D) := kvs.map fun p => (ek p.1, D.int p.2)
theorem unKW_enc (ek : κ → D) : ∀ (kvs : List (κ × Int)), unKW (encW ek kvs) = some (encD ek kvs)
  | [] => rfl
  | p :: r => by
    have := unKW_enc ek r
    simp only [encW, encD, List.map_cons, unKW] at this ⊢
    rw [this]; rfl
theorem hasK_enc {ek : κ → D} (hek : ∀ a b, eqK (ek a) (ek b) = decide (a = b)) (k : κ) : ∀ (kvs : List (κ × Int)), hasK (encW ek kvs) (ek k) = kvs.any (fun p => decide (p.1 = k))
  | [] => rfl
  | p :: r => by
    have := hasK_enc hek k r
    simp only [encW, List.map_cons, hasK, List.any_cons, hek] at this ⊢
    rw [this]
theorem repK_enc {ek : κ → D} (hek : ∀ a b, eqK (ek a) (ek b) = decide (a = b)) (k : κ) (v : Int) : ∀ (kvs : List (κ × Int)), repK (encW ek kvs) (ek k) (.d (.int v)) = encW ek (kvs.map (fun p => if p.1 = k then (p.1, v) else p))
  | [] => rfl
  | p :: r => by
    have := repK_enc hek k v r
    simp only [encW, List.map_cons, repK, hek] at this ⊢
    rw [this]
    by_cases h : p.1 = k <;> simp [h]
theorem putK_enc {ek : κ → D} (hek : ∀ a b, eqK (ek a) (ek b) = decide (a = b)) (k : κ) (v : Int) (kvs : List (κ × Int)) : putK (encW ek kvs) (ek k) (.d (.int v)) = encW ek (putP kvs k v) := by
  unfold putK putP
  rw [hasK_enc hek, repK_enc hek]
  split
  · rfl
  · simp [encW]
theorem getK_encW {ek : κ → D} (hek : ∀ a b, eqK (ek a) (ek b) = decide (a = b)) (k : κ) : ∀ (kvs : List (κ × Int)), getK (encW ek kvs) (ek k) = (getP kvs k).map fun v => W.d (.int v)
  | [] => rfl
  | p :: r => by
    have := getK_encW hek k r
    simp only [encW, List.map_cons, getK, getP, hek] at this ⊢
    rw [this]
    by_cases h : p.1 = k <;> simp [h]
theorem getK_encD {ek : κ → D} (hek : ∀ a b, eqK (ek a) (ek b) = decide (a = b)) (k : κ) : ∀ (kvs : List (κ × Int)), getK (encD ek kvs) (ek k) = (getP kvs k).map D.int
  | [] => rfl
  | p :: r => by
    have := getK_encD hek k r
    simp only [encD, List.map_cons, getK, getP, hek] at this ⊢
    rw [this]
    by_cases h : p.1 = k <;> simp [h]
theorem getP_mem {kvs : List (κ × Int)} {k : κ} {v : Int} (h : getP kvs k = some v) : (k, v) ∈ kvs := by
  induction kvs with
  | nil => cases h
  | cons p r ih =>
    simp only [getP] at h
    split at h
    · rename_i e; cases h; subst e; exact List.mem_cons_self
    · exact List.mem_cons_of_mem _ (ih h)
theorem getP_key {kvs : List (κ × Int)} {k : κ} (h : k ∈ kvs.map (·.1)) : ∃ v, getP kvs k = some v := by
  induction kvs with
  | nil => simp at h
  | cons p r ih =>
    simp only [getP]
    by_cases e : p.1 = k
    · exact ⟨p.2, by rw [if_pos e]⟩
    · rw [if_neg e]
      simp only [List.map_cons, List.mem_cons] at h
      rcases h with h | h
      · exact absurd h.symm e
      · exact ih h
theorem getP_nd {kvs : List (κ × Int)} (hn : (kvs.map (·.1)).Nodup) {k : κ} {v : Int} (h : (k, v) ∈ kvs) : getP kvs k = some v := by
  induction kvs with
  | nil => simp at h
  | cons p r ih =>
    simp only [List.map_cons, List.nodup_cons] at hn
    simp only [getP]
    rcases List.mem_cons.mp h with h | h
    · subst h; rw [if_pos rfl]
    · rw [if_neg]
      · exact ih hn.2 h
      · intro e; exact hn.1 (List.mem_map.mpr ⟨_, h, e.symm⟩)
theorem putP_keys (kvs : List (κ × Int)) (k : κ) (v : Int) : (putP kvs k v).map (·.1) = if k ∈ kvs.map (·.1) then kvs.map (·.1) else kvs.map (·.1) ++ [k] := by
  unfold putP
  have e : (kvs.any (fun p => decide (p.1 = k))) = decide (k ∈ kvs.map (·.1)) := by
    rw [Bool.eq_iff_iff, List.any_eq_true, decide_eq_true_eq, List.mem_map]
    constructor
    · rintro ⟨p, h1, h2⟩; exact ⟨p, h1, by simpa using h2⟩
    · rintro ⟨p, h1, h2⟩; exact ⟨p, h1, by simpa using h2⟩
  rw [e]
  by_cases h : k ∈ kvs.map (·.1)
  · rw [if_pos (by simpa using h), if_pos h, List.map_map]
    congr 1
    funext p
    simp only [Function.comp]
    split <;> rfl
  · rw [if_neg (by simpa using h), if_neg h]
    simp
theorem putP_nd {kvs : List (κ × Int)} (hn : (kvs.map (·.1)).Nodup) (k : κ) (v : Int) : ((putP kvs k v).map (·.1)).Nodup := by
  rw [putP_keys]
  split
  · exact hn
  · rename_i h
    rw [List.nodup_append]
    refine ⟨hn, by simp, ?_⟩
    intro a ha b hb
    simp only [List.mem_singleton] at hb
    subst hb
    intro e; subst e; exact h ha
theorem putP_mem {kvs : List (κ × Int)} {k : κ} {v : Int} {p : κ × Int} (h : p ∈ putP kvs k v) : p ∈ kvs ∨ p = (k, v) := by
  unfold putP at h
  split at h
  · obtain ⟨q, hq, e⟩ := List.mem_map.mp h
    split at e
    · rename_i e2; right; rw [← e, e2]
    · left; rw [← e]; exact hq
  · rcases List.mem_append.mp h with h | h
    · exact .inl h
    · exact .inr (by simpa using h)
theorem putP_new {kvs : List (κ × Int)} {k : κ} {v : Int} (h : k ∉ kvs.map (·.1)) : putP kvs k v = kvs ++ [(k, v)] := by
  unfold putP
  rw [if_neg]
  intro e
  rw [List.any_eq_true] at e
  obtain ⟨p, hp, e⟩ := e
  exact h (List.mem_map.mpr ⟨p, hp, by simpa using e⟩)
def dictP (F : List (κ × Int)) (d : List (κ × Int)) : List (κ × Int) := F.foldl (fun d t => putP d t.1 t.2) d
theorem dictP_nd : ∀ (F d : List (κ × Int)), (d.map (·.1)).Nodup → ((dictP F d).map (·.1)).Nodup
  | [], d, h => h
  | t :: r, d, h => dictP_nd r (putP d t.1 t.2) (putP_nd h _ _)
theorem dictP_mem : ∀ (F d : List (κ × Int)) {p : κ × Int}, p ∈ dictP F d → p ∈ d ∨ p ∈ F
  | [], d, p, h => .inl h
  | t :: r, d, p, h => by
    rcases dictP_mem r (putP d t.1 t.2) h with h | h
    · rcases putP_mem h with h | h
      · exact .inl h
      · exact .inr (by rw [h]; exact List.mem_cons_self)
    · exact .inr (List.mem_cons_of_mem _ h)
theorem dictP_new : ∀ (F d : List (κ × Int)), ((d ++ F).map (·.1)).Nodup → dictP F d = d ++ F
  | [], d, _ => by simp [dictP]
  | t :: r, d, h => by
    have h1 : t.1 ∉ d.map (·.1) := by
      rw [List.map_append, List.nodup_append] at h
      intro hm
      exact h.2.2 _ hm _ (by simp) rfl
    have ih := dictP_new r (d ++ [t]) (by rw [List.append_assoc]; exact h)
    show dictP r (putP d t.1 t.2) = _
    rw [putP_new h1, ih, List.append_assoc]
    rfl
theorem dictP_len : ∀ (F d : List (κ × Int)), (dictP F d).length ≤ d.length + F.length
  | [], d => by simp [dictP]
  | t :: r, d => by
    have h := dictP_len r (putP d t.1 t.2)
    have : (putP d t.1 t.2).length ≤ d.length + 1 := by unfold putP; split <;> simp
    show (dictP r (putP d t.1 t.2)).length ≤ _
    simp only [List.length_cons]; omega
end
theorem hek_int (a b : Int) : eqK (.int a) (.int b) = decide (a = b) := by
  simp only [eqK]
  rw [Bool.eq_iff_iff]; simp
def eTup (es : List Int) : D := .tup (es.map .int)
theorem eqDs_int : ∀ (a b : List Int), eqDs (a.map .int) (b.map .int) = decide (a = b)
  | [], [] => rfl
  | [], _ :: _ => by simp [eqDs]
  | _ :: _, [] => by simp [eqDs]
  | x :: r, y :: s => by
    have := eqDs_int r s
    simp only [List.map_cons, eqDs, eqD, this]
    rw [Bool.eq_iff_iff]; simp
theorem hek_tup (a b : List Int) : eqK (eTup a) (eTup b) = decide (a = b) := eqDs_int a b
/-- a comprehension of a dict -/
theorem compDL_pure {κ : Type} [DecidableEq κ] {ek : κ → D} (hek : ∀ a b, eqK (ek a) (ek b) = decide (a = b)) {kt : List (List D)} {tk : Bool} (hk : ∀ k : κ, okKey kt tk (ek k) = true ∨ True) {g : GV} {ke ve : EV} {e : En} {S : Store} {α : Type} (q : α → W) (f : α → κ × Int) :
    ∀ (ws : List α) (d : List (κ × Int)), (∀ w ∈ ws, okKey kt tk (ek (f w).1) = true ∧ ∃ e', g (q w) e S = .ok e' S ∧ ke e' S = .ok (.d (ek (f w).1)) S ∧ ve e' S = .ok (.d (.int (f w).2)) S) → d.length + ws.length ≤ 16777216 →
    compDL kt tk g yesT ke ve e (ws.map q) (encW ek d) S = .ok (encW ek (dictP (ws.map f) d)) S
  | [], d, _, _ => rfl
  | w :: r, d, h, hl => by
    simp only [List.length_cons] at hl
    obtain ⟨h0, e', h1, h2, h3⟩ := h w List.mem_cons_self
    have hp : (putP d (f w).1 (f w).2).length ≤ d.length + 1 := by unfold putP; split <;> simp
    have ih := compDL_pure hek hk q f r (putP d (f w).1 (f w).2) (fun w hw => h w (List.mem_cons_of_mem _ hw)) (by omega)
    have hb : Nat.blt (encW ek d).length 16777216 = true := by
      have : (encW ek d).length = d.length := by simp [encW]
      rw [this]; exact blt16 (by omega)
    rw [List.map_cons]
    unfold compDL
    rw [h1]
    simp only [R.bindS, yesT, h2, h3, h0, hb, Bool.and_self, if_true, putK_enc hek]
    exact ih
end Pw

end

section
set_option linter.all false
set_option maxRecDepth 100000
set_option linter.all false
set_option maxRecDepth 100000
namespace Pw
open Pv
theorem minL_spec : ∀ (r : List Int) (m : Int), (minL m r ∈ m :: r) ∧ ∀ x ∈ m :: r, minL m r ≤ x
  | [], m => ⟨by simp [minL], by simp [minL]⟩
  | n :: r, m => by
    have ih := minL_spec r (if n < m then n else m)
    simp only [minL]
    obtain ⟨q, hq⟩ : ∃ q, (if n < m then n else m) = q := ⟨_, rfl⟩
    have hq1 : q = n ∨ q = m := by rw [← hq]; split <;> simp
    have hq2 : q ≤ n ∧ q ≤ m := by rw [← hq]; split <;> omega
    rw [hq] at ih ⊢
    refine ⟨?_, ?_⟩
    · rcases List.mem_cons.mp ih.1 with h | h
      · rw [h]; rcases hq1 with e | e <;> simp [e]
      · simp [h]
    · intro x hx
      have h0 := ih.2 _ List.mem_cons_self
      simp only [List.mem_cons] at hx
      rcases hx with rfl | rfl | hx
      · omega
      · omega
      · exact ih.2 x (List.mem_cons_of_mem _ hx)
theorem maxL_spec : ∀ (r : List Int) (m : Int), (maxL m r ∈ m :: r) ∧ ∀ x ∈ m :: r, x ≤ maxL m r
  | [], m => ⟨by simp [maxL], by simp [maxL]⟩
  | n :: r, m => by
    have ih := maxL_spec r (if m < n then n else m)
    simp only [maxL]
    obtain ⟨q, hq⟩ : ∃ q, (if m < n then n else m) = q := ⟨_, rfl⟩
    have hq1 : q = n ∨ q = m := by rw [← hq]; split <;> simp
    have hq2 : n ≤ q ∧ m ≤ q := by rw [← hq]; split <;> omega
    rw [hq] at ih ⊢
    refine ⟨?_, ?_⟩
    · rcases List.mem_cons.mp ih.1 with h | h
      · rw [h]; rcases hq1 with e | e <;> simp [e]
      · simp [h]
    · intro x hx
      have h0 := ih.2 _ List.mem_cons_self
      simp only [List.mem_cons] at hx
      rcases hx with rfl | rfl | hx
      · omega
      · omega
      · exact ih.2 x (List.mem_cons_of_mem _ hx)
theorem intsD_map : ∀ (l : List Int), intsD (l.map .int) = some l
  | [] => rfl
  | x :: r => by simp [intsD, intsD_map r]
end Pw
namespace K54
open Pv Pw
/-- a polynomial's numbers without needless zeros -/
structure Nrm (a : Int) (ns : List Int) : Prop where
  z : ns = [] → a = 0
  h : ns[0]? ≠ some 0
  l : ns[ns.length - 1]? ≠ some 0
theorem loop1 (a : Int) (ns : List Int) (hl : ns.length ≤ 10000) : ∃ f : Nat, f ≤ ns.length ∧ (∀ i, i < f → ns[i]? = some 0) ∧ ns[f]? ≠ some 0 ∧
    whileN t2_normal l3_normal 1000000 [some (.d (.int a)), some (.d (.lst (ns.map .int))), some (.d (.int 0)), none] [] = .nx [some (.d (.int a)), some (.d (.lst (ns.map .int))), some (.d (.int f)), none] [] := by
  have := while_ind (t := t2_normal) (b := l3_normal) (fun m e S => S = [] ∧ ∃ f : Nat, m = ns.length - f ∧ f ≤ ns.length ∧ (∀ i, i < f → ns[i]? = some 0) ∧ e = [some (.d (.int a)), some (.d (.lst (ns.map .int))), some (.d (.int f)), none])
    (fun o => ∃ f : Nat, f ≤ ns.length ∧ (∀ i, i < f → ns[i]? = some 0) ∧ ns[f]? ≠ some 0 ∧ o = .nx [some (.d (.int a)), some (.d (.lst (ns.map .int))), some (.d (.int f)), none] [])
    (by
      rintro m e S ⟨rfl, f, rfl, hf, hz, rfl⟩
      by_cases c : f < ns.length
      · obtain ⟨n, hn'⟩ : ∃ n, ns[f] = n := ⟨_, rfl⟩
        have hn : ns[f]? = some n := by rw [List.getElem?_eq_getElem c, hn']
        by_cases z : n = 0
        · refine ⟨true, [], by simp (disch := omega) [small_iff, smallN_iff, sm1, sm0, succ0, atL0, atL1, atLn, cutT1, cutT2, cutD1, cutD2, cutT, cutD, cutTD, runP, runI, startV, seqS, asgS, ifS, t2, t1, andT, orT, notT, truT, varE, conE, getV, setV, nameG, eqF, neF, eqW, R.bind, R.so, retS, nxS, frzE, newE, lstF, argsF, unWs, unW, snap, op2, op1, addF, subF, mulF, ixF, callB, callF, arg1, strF, valE, intF, dataL, ifE, notNF, isNF, isNon, lenF, absF, callP, callI, snaps, anyRef, tupOnly, List.replicate, ltF, gtF, geF, leF, cmpF, slE, bndE, methE, methF, kindW, dropS, tupE, listG, itemsS, truW, joinG, textsOf, negF, t2_normal, c, hn, z, hn'], by simp, fun _ => .inl ⟨_, _, ns.length - (f + 1), .inl rfl, by omega, rfl, f + 1, rfl, by omega, ?_, ?_⟩⟩
          · intro i hi
            by_cases e : i = f
            · subst e; rw [hn, z]
            · exact hz i (by omega)
          · simp (disch := omega) [small_iff, smallN_iff, sm1, sm0, succ0, atL0, atL1, atLn, cutT1, cutT2, cutD1, cutD2, cutT, cutD, cutTD, runP, runI, startV, seqS, asgS, ifS, t2, t1, andT, orT, notT, truT, varE, conE, getV, setV, nameG, eqF, neF, eqW, R.bind, R.so, retS, nxS, frzE, newE, lstF, argsF, unWs, unW, snap, op2, op1, addF, subF, mulF, ixF, callB, callF, arg1, strF, valE, intF, dataL, ifE, notNF, isNF, isNon, lenF, absF, callP, callI, snaps, anyRef, tupOnly, List.replicate, ltF, gtF, geF, leF, cmpF, slE, bndE, methE, methF, kindW, dropS, tupE, listG, itemsS, truW, joinG, textsOf, negF, augS, iaddF, l3_normal]
        · have z' : (n == 0) = false := by simpa using z
          exact ⟨false, [], by simp (disch := omega) [small_iff, smallN_iff, sm1, sm0, succ0, atL0, atL1, atLn, cutT1, cutT2, cutD1, cutD2, cutT, cutD, cutTD, runP, runI, startV, seqS, asgS, ifS, t2, t1, andT, orT, notT, truT, varE, conE, getV, setV, nameG, eqF, neF, eqW, R.bind, R.so, retS, nxS, frzE, newE, lstF, argsF, unWs, unW, snap, op2, op1, addF, subF, mulF, ixF, callB, callF, arg1, strF, valE, intF, dataL, ifE, notNF, isNF, isNon, lenF, absF, callP, callI, snaps, anyRef, tupOnly, List.replicate, ltF, gtF, geF, leF, cmpF, slE, bndE, methE, methF, kindW, dropS, tupE, listG, itemsS, truW, joinG, textsOf, negF, t2_normal, c, hn, z, z', hn'], fun _ => ⟨f, hf, hz, by rw [hn]; simpa using z, rfl⟩, by simp⟩
      · exact ⟨false, [], by simp (disch := omega) [small_iff, smallN_iff, sm1, sm0, succ0, atL0, atL1, atLn, cutT1, cutT2, cutD1, cutD2, cutT, cutD, cutTD, runP, runI, startV, seqS, asgS, ifS, t2, t1, andT, orT, notT, truT, varE, conE, getV, setV, nameG, eqF, neF, eqW, R.bind, R.so, retS, nxS, frzE, newE, lstF, argsF, unWs, unW, snap, op2, op1, addF, subF, mulF, ixF, callB, callF, arg1, strF, valE, intF, dataL, ifE, notNF, isNF, isNon, lenF, absF, callP, callI, snaps, anyRef, tupOnly, List.replicate, ltF, gtF, geF, leF, cmpF, slE, bndE, methE, methF, kindW, dropS, tupE, listG, itemsS, truW, joinG, textsOf, negF, t2_normal, c], fun _ => ⟨f, hf, hz, by rw [List.getElem?_eq_none (by omega)]; simp, rfl⟩, by simp⟩)
    1000000 (ns.length - 0) _ [] (by omega) ⟨rfl, 0, rfl, by omega, by intro i hi; omega, rfl⟩
  exact this
theorem loop2 (a : Int) (ns : List Int) (f : Nat) (hl : ns.length ≤ 10000) (hf : f ≤ ns.length) : ∃ l : Nat, f ≤ l ∧ l ≤ ns.length ∧ (∀ i, l ≤ i → i < ns.length → ns[i]? = some 0) ∧ (f < l → ns[l - 1]? ≠ some 0) ∧
    whileN t0_normal l1_normal 1000000 [some (.d (.int a)), some (.d (.lst (ns.map .int))), some (.d (.int f)), some (.d (.int ns.length))] [] = .nx [some (.d (.int a)), some (.d (.lst (ns.map .int))), some (.d (.int f)), some (.d (.int l))] [] := by
  have := while_ind (t := t0_normal) (b := l1_normal) (fun m e S => S = [] ∧ ∃ l : Nat, m = l ∧ f ≤ l ∧ l ≤ ns.length ∧ (∀ i, l ≤ i → i < ns.length → ns[i]? = some 0) ∧ e = [some (.d (.int a)), some (.d (.lst (ns.map .int))), some (.d (.int f)), some (.d (.int l))])
    (fun o => ∃ l : Nat, f ≤ l ∧ l ≤ ns.length ∧ (∀ i, l ≤ i → i < ns.length → ns[i]? = some 0) ∧ (f < l → ns[l - 1]? ≠ some 0) ∧ o = .nx [some (.d (.int a)), some (.d (.lst (ns.map .int))), some (.d (.int f)), some (.d (.int l))] [])
    (by
      rintro m e S ⟨rfl, l, rfl, hfl, hl2, hz, rfl⟩
      by_cases c : f < m
      · have hm : m - 1 < ns.length := by omega
        obtain ⟨n, hn'⟩ : ∃ n, ns[m - 1] = n := ⟨_, rfl⟩
        have hn : ns[m - 1]? = some n := by rw [List.getElem?_eq_getElem hm, hn']
        have hi : (m : Int) - 1 = ((m - 1 : Nat) : Int) := by omega
        by_cases z : n = 0
        · refine ⟨true, [], by simp (disch := omega) [small_iff, smallN_iff, sm1, sm0, succ0, atL0, atL1, atLn, cutT1, cutT2, cutD1, cutD2, cutT, cutD, cutTD, runP, runI, startV, seqS, asgS, ifS, t2, t1, andT, orT, notT, truT, varE, conE, getV, setV, nameG, eqF, neF, eqW, R.bind, R.so, retS, nxS, frzE, newE, lstF, argsF, unWs, unW, snap, op2, op1, addF, subF, mulF, ixF, callB, callF, arg1, strF, valE, intF, dataL, ifE, notNF, isNF, isNon, lenF, absF, callP, callI, snaps, anyRef, tupOnly, List.replicate, ltF, gtF, geF, leF, cmpF, slE, bndE, methE, methF, kindW, dropS, tupE, listG, itemsS, truW, joinG, textsOf, negF, t0_normal, c, hi, hm, hn', z], by simp, fun _ => .inl ⟨_, _, m - 1, .inl rfl, by omega, rfl, m - 1, rfl, by omega, by omega, ?_, ?_⟩⟩
          · intro i hi1 hi2
            by_cases e : i = m - 1
            · subst e; rw [hn, z]
            · exact hz i (by omega) hi2
          · simp (disch := omega) [small_iff, smallN_iff, sm1, sm0, succ0, atL0, atL1, atLn, cutT1, cutT2, cutD1, cutD2, cutT, cutD, cutTD, runP, runI, startV, seqS, asgS, ifS, t2, t1, andT, orT, notT, truT, varE, conE, getV, setV, nameG, eqF, neF, eqW, R.bind, R.so, retS, nxS, frzE, newE, lstF, argsF, unWs, unW, snap, op2, op1, addF, subF, mulF, ixF, callB, callF, arg1, strF, valE, intF, dataL, ifE, notNF, isNF, isNon, lenF, absF, callP, callI, snaps, anyRef, tupOnly, List.replicate, ltF, gtF, geF, leF, cmpF, slE, bndE, methE, methF, kindW, dropS, tupE, listG, itemsS, truW, joinG, textsOf, negF, augS, iaddF, l1_normal, hi]
        · have z' : (n == 0) = false := by simpa using z
          exact ⟨false, [], by simp (disch := omega) [small_iff, smallN_iff, sm1, sm0, succ0, atL0, atL1, atLn, cutT1, cutT2, cutD1, cutD2, cutT, cutD, cutTD, runP, runI, startV, seqS, asgS, ifS, t2, t1, andT, orT, notT, truT, varE, conE, getV, setV, nameG, eqF, neF, eqW, R.bind, R.so, retS, nxS, frzE, newE, lstF, argsF, unWs, unW, snap, op2, op1, addF, subF, mulF, ixF, callB, callF, arg1, strF, valE, intF, dataL, ifE, notNF, isNF, isNon, lenF, absF, callP, callI, snaps, anyRef, tupOnly, List.replicate, ltF, gtF, geF, leF, cmpF, slE, bndE, methE, methF, kindW, dropS, tupE, listG, itemsS, truW, joinG, textsOf, negF, t0_normal, c, hi, hm, hn', z, z'], fun _ => ⟨m, hfl, hl2, hz, fun _ => by rw [hn]; simpa using z, rfl⟩, by simp⟩
      · exact ⟨false, [], by simp (disch := omega) [small_iff, smallN_iff, sm1, sm0, succ0, atL0, atL1, atLn, cutT1, cutT2, cutD1, cutD2, cutT, cutD, cutTD, runP, runI, startV, seqS, asgS, ifS, t2, t1, andT, orT, notT, truT, varE, conE, getV, setV, nameG, eqF, neF, eqW, R.bind, R.so, retS, nxS, frzE, newE, lstF, argsF, unWs, unW, snap, op2, op1, addF, subF, mulF, ixF, callB, callF, arg1, strF, valE, intF, dataL, ifE, notNF, isNF, isNon, lenF, absF, callP, callI, snaps, anyRef, tupOnly, List.replicate, ltF, gtF, geF, leF, cmpF, slE, bndE, methE, methF, kindW, dropS, tupE, listG, itemsS, truW, joinG, textsOf, negF, t0_normal, c], fun _ => ⟨m, hfl, hl2, hz, fun h => absurd h c, rfl⟩, by simp⟩)
    1000000 ns.length _ [] (by omega) ⟨rfl, ns.length, rfl, by omega, by omega, by intro i h1 h2; omega, rfl⟩
  exact this
theorem normal_ok (a : Int) (ns : List Int) (hl : ns.length ≤ 10000) : ∃ b ms, normal_ [.int a, .lst (ns.map .int)] = .ok (.tup [.int b, .tup (ms.map .int)]) ∧ Nrm b ms ∧ (∀ m ∈ ms, m ∈ ns) ∧ (ms ≠ [] → a ≤ b ∧ b + ms.length ≤ a + ns.length) ∧ (Nrm a ns → b = a ∧ ms = ns) := by
  obtain ⟨f, hf, hf1, hf2, hw1⟩ := loop1 a ns hl
  obtain ⟨l, hl1, hl2, hl3, hl4, hw2⟩ := loop2 a ns f hl hf
  have hstart : ∀ w S, (ifS (t2 eqF (varE 2) (varE 3)) (retS (conE (.tup [.int 0, .tup []]))) nxS |> fun x => seqS x (retS (tupE [(op2 addF (varE 0) (varE 2)), (callB (tupleG) [(slE (varE 1) (some (varE 2)) (some (varE 3)))])]))) [some (.d (.int a)), some (.d (.lst (ns.map .int))), some (.d (.int f)), some (.d (.int l))] [] = .rt w S →
      b_normal [some (.d (.int a)), some (.d (.lst (ns.map .int))), none, none] [] = .rt w S := by
    intro w S h
    unfold b_normal
    rw [seqS_nx (e' := [some (.d (.int a)), some (.d (.lst (ns.map .int))), some (.d (.int 0)), none]) (S' := []) (by rfl), seqS_nx hw1,
      seqS_nx (e' := [some (.d (.int a)), some (.d (.lst (ns.map .int))), some (.d (.int f)), some (.d (.int ns.length))]) (S' := []) (by simp (disch := omega) [small_iff, smallN_iff, sm1, sm0, succ0, atL0, atL1, atLn, cutT1, cutT2, cutD1, cutD2, cutT, cutD, cutTD, runP, runI, startV, seqS, asgS, ifS, t2, t1, andT, orT, notT, truT, varE, conE, getV, setV, nameG, eqF, neF, eqW, R.bind, R.so, retS, nxS, frzE, newE, lstF, argsF, unWs, unW, snap, op2, op1, addF, subF, mulF, ixF, callB, callF, arg1, strF, valE, intF, dataL, ifE, notNF, isNF, isNon, lenF, absF, callP, callI, snaps, anyRef, tupOnly, List.replicate, ltF, gtF, geF, leF, cmpF, slE, bndE, methE, methF, kindW, dropS, tupE, listG, itemsS, truW, joinG, textsOf, negF]), seqS_nx hw2]
    exact h
  by_cases e : f = l
  · subst e
    refine ⟨0, [], runP_rt rfl (hstart (.d (.tup [.int 0, .tup []])) [] (by simp (disch := omega) [small_iff, smallN_iff, sm1, sm0, succ0, atL0, atL1, atLn, cutT1, cutT2, cutD1, cutD2, cutT, cutD, cutTD, runP, runI, startV, seqS, asgS, ifS, t2, t1, andT, orT, notT, truT, varE, conE, getV, setV, nameG, eqF, neF, eqW, R.bind, R.so, retS, nxS, frzE, newE, lstF, argsF, unWs, unW, snap, op2, op1, addF, subF, mulF, ixF, callB, callF, arg1, strF, valE, intF, dataL, ifE, notNF, isNF, isNon, lenF, absF, callP, callI, snaps, anyRef, tupOnly, List.replicate, ltF, gtF, geF, leF, cmpF, slE, bndE, methE, methF, kindW, dropS, tupE, listG, itemsS, truW, joinG, textsOf, negF])) rfl, ⟨fun _ => rfl, by simp, by simp⟩, by simp, by simp, ?_⟩
    intro hn
    have : ns = [] := by
      by_cases h0 : f = 0
      · subst h0
        cases ns with
        | nil => rfl
        | cons x r =>
          exfalso
          have := hl3 0 (by omega) (by simp)
          exact hn.h this
      · exfalso; exact hn.h (hf1 0 (by omega))
    subst this
    exact ⟨(hn.z rfl).symm, rfl⟩
  · have hlt : f < l := by omega
    have e' : ((f : Int) == (l : Int)) = false := by
      rw [beq_eq_false_iff_ne]; omega
    have e2 : ¬ (f = l) := e
    refine ⟨a + f, (ns.take l).drop f, runP_rt rfl (hstart (.d (.tup [.int (a + f), .tup (((ns.take l).drop f).map .int)])) [] ?_) rfl, ⟨?_, ?_, ?_⟩, ?_, ?_, ?_⟩
    · have hu : unWs (List.drop f (List.take l (List.map (W.d ∘ D.int) ns))) = some (List.drop f (List.take l (List.map D.int ns))) := by
        rw [← List.map_take, ← List.map_drop, unWs_comp]; simp
      simp (disch := omega) [small_iff, smallN_iff, sm1, sm0, succ0, atL0, atL1, atLn, cutT1, cutT2, cutD1, cutD2, cutT, cutD, cutTD, runP, runI, startV, seqS, asgS, ifS, t2, t1, andT, orT, notT, truT, varE, conE, getV, setV, nameG, eqF, neF, eqW, R.bind, R.so, retS, nxS, frzE, newE, lstF, argsF, unWs, unW, snap, op2, op1, addF, subF, mulF, ixF, callB, callF, arg1, strF, valE, intF, dataL, ifE, notNF, isNF, isNon, lenF, absF, callP, callI, snaps, anyRef, tupOnly, List.replicate, ltF, gtF, geF, leF, cmpF, slE, bndE, methE, methF, kindW, dropS, tupE, listG, itemsS, truW, joinG, textsOf, negF, e', e2, tupleG, hu]
    · intro h
      have := congrArg List.length h
      simp at this; omega
    · rw [List.getElem?_drop, List.getElem?_take, if_pos (by omega)]
      simpa using hf2
    · have hlen : ((ns.take l).drop f).length = l - f := by simp; omega
      rw [hlen, List.getElem?_drop, List.getElem?_take, if_pos (by omega)]
      have := hl4 hlt
      rwa [show f + (l - f - 1) = l - 1 by omega]
    · intro m hm
      exact List.mem_of_mem_take (List.mem_of_mem_drop hm)
    · intro _
      have hlen : ((ns.take l).drop f).length = l - f := by simp; omega
      rw [hlen]; omega
    · intro hn
      have hf0 : f = 0 := by
        by_cases h0 : f = 0
        · exact h0
        · exfalso; exact hn.h (hf1 0 (by omega))
      have hll : l = ns.length := by
        by_cases h0 : l = ns.length
        · exact h0
        · exfalso; exact hn.l (hl3 (ns.length - 1) (by omega) (by omega))
      subst hf0 hll
      exact ⟨by simp, by simp⟩
end K54

end

section
set_option linter.all false
set_option maxRecDepth 100000
set_option linter.all false
set_option maxRecDepth 100000
namespace Pw
open Pv
theorem rangeD_map : ∀ (n : Nat) (c : Int), rangeD c n = (List.range n).map fun k : Nat => W.d (.int (c + (k : Int)))
  | 0, c => rfl
  | n + 1, c => by
    rw [List.range_succ_eq_map, List.map_cons, List.map_map, rangeD, rangeD_map n (c + 1)]
    congr 1
    · simp
    · apply List.map_congr_left
      intro k _
      simp only [Function.comp]
      congr 2
      omega
theorem intsOf_map : ∀ (l : List Int), intsOf (l.map fun x => W.d (.int x)) = some l
  | [] => rfl
  | x :: r => by simp [intsOf, intsOf_map r]
theorem insI_mem (n x : Int) : ∀ (l : List Int), x ∈ insI n l ↔ x = n ∨ x ∈ l
  | [] => by simp [insI]
  | m :: r => by
    simp only [insI]
    split
    · simp
    · simp only [List.mem_cons, insI_mem n x r]
      constructor
      · rintro (h | h | h) <;> simp [h]
      · rintro (h | h | h) <;> simp [h]
theorem sortI_mem (x : Int) : ∀ (l : List Int), x ∈ sortI l ↔ x ∈ l
  | [] => by simp [sortI]
  | m :: r => by simp only [sortI, insI_mem, sortI_mem x r, List.mem_cons]
theorem insI_sorted (n : Int) : ∀ (l : List Int), l.Pairwise (· ≤ ·) → (insI n l).Pairwise (· ≤ ·)
  | [], _ => by simp [insI]
  | m :: r, h => by
    simp only [insI]
    split
    · rename_i hle
      rw [List.pairwise_cons]
      refine ⟨?_, h⟩
      intro x hx
      rcases List.mem_cons.mp hx with rfl | hx
      · exact hle
      · exact Int.le_trans hle ((List.pairwise_cons.mp h).1 x hx)
    · rename_i hle
      have hp := List.pairwise_cons.mp h
      rw [List.pairwise_cons]
      refine ⟨?_, insI_sorted n r hp.2⟩
      intro x hx
      rcases (insI_mem n x r).mp hx with rfl | hx
      · omega
      · exact hp.1 x hx
theorem sortI_sorted : ∀ (l : List Int), (sortI l).Pairwise (· ≤ ·)
  | [] => by simp [sortI]
  | m :: r => insI_sorted m _ (sortI_sorted r)
theorem insI_len (n : Int) : ∀ (l : List Int), (insI n l).length = l.length + 1
  | [] => rfl
  | m :: r => by
    simp only [insI]
    split
    · simp
    · simp [insI_len n r]
theorem sortI_len : ∀ (l : List Int), (sortI l).length = l.length
  | [] => rfl
  | m :: r => by simp only [sortI, insI_len, sortI_len r, List.length_cons]
/-- the numbers of a dict from a place on -/
def numsOf (d : List (Int × Int)) (lo : Int) (n : Nat) : List Int := (List.range n).map fun k : Nat => (getP d (lo + (k : Int))).getD 0
theorem numsOf_len (d : List (Int × Int)) (lo : Int) (n : Nat) : (numsOf d lo n).length = n := by simp [numsOf]
theorem numsOf_mem {d : List (Int × Int)} {lo : Int} {n : Nat} {m : Int} (h : m ∈ numsOf d lo n) : m = 0 ∨ ∃ k, (k, m) ∈ d := by
  obtain ⟨k, _, rfl⟩ := List.mem_map.mp h
  cases hg : getP d (lo + k) with
  | none => exact .inl rfl
  | some v => exact .inr ⟨_, getP_mem hg⟩
theorem get_ent (kt : List (List D)) {d : List (Int × Int)} {S : Store} {k : Int} : getG kt (.d (.dct false (encD .int d))) [.d (.int k), .d (.int 0)] S = .ok (.d (.int ((getP d k).getD 0))) S := by
  have := getK_encD (ek := .int) hek_int k d
  simp only [getG, okKey, keyD, if_true, this]
  cases getP d k <;> rfl
/-- [d.get(p, 0) for p in range(lo, hi)] -/
theorem nums_comp (kt : List (List D)) {it : IV} {v : Nat} {own : List Nat} {d : List (Int × Int)} {e : En} {S : Store} {lo : Int} {n : Nat} (h : it e S = .ok (.fix (rangeD lo n)) S) (hn : n ≤ 10000)
    (h0 : ∀ w, getV (setV (wipeV e own) v w) 0 = some (.d (.dct false (encD .int d)))) (hv : ∀ w, getV (setV (wipeV e own) v w) v = some w) :
    frzE (compF own it (nameG v) yesT (methE [3] (getG kt) (varE 0) [(varE v), (conE (.int 0))])) e S = .ok (.d (.lst ((numsOf d lo n).map .int))) S := by
  have hc := compL_pure (g := nameG v) (t := yesT) (el := methE [3] (getG kt) (varE 0) [(varE v), (conE (.int 0))]) (e := wipeV e own) (S := S)
      (fun _ => true) (fun w => match w with | .d (.int k) => .d (.int ((getP d k).getD 0)) | w => w) (rangeD lo n) [] (by
        intro w hw
        rw [rangeD_map] at hw
        obtain ⟨k, _, rfl⟩ := List.mem_map.mp hw
        refine ⟨_, rfl, rfl, fun _ => ?_⟩
        have hk : [3].contains 3 = true := rfl
        simp only [methE, varE, h0, hv, R.bind, kindW, hk, if_true, argsF, conE, get_ent]) (by rw [rangeD_len]; simp; omega)
  rw [List.filter_eq_self.mpr (fun _ _ => rfl), rangeD_map, List.map_map] at hc
  have hu := unWs_wI' (numsOf d lo n)
  unfold frzE compF
  simp only [h, R.bind, rangeD_map, hc, List.nil_append]
  rw [show (List.map ((fun w => match w with | .d (.int k) => W.d (.int ((getP d k).getD 0)) | w => w) ∘ fun k : Nat => W.d (.int (lo + (k : Int)))) (List.range n)) = (numsOf d lo n).map fun x => W.d (.int x) from by simp [numsOf, Function.comp_def], hu]
where unWs_wI' (l : List Int) : unWs (l.map fun x => W.d (.int x)) = some (l.map .int) := unWs_map .int l
end Pw
namespace K54
open Pv Pw
def ent : Int → List Int → List (Int × Int)
  | _, [] => []
  | a, x :: r => if x = 0 then ent (a + 1) r else (a, x) :: ent (a + 1) r
theorem ent_key : ∀ (ns : List Int) (a : Int), ∀ p ∈ ent a ns, a ≤ p.1 ∧ p.1 < a + ns.length ∧ p.2 ≠ 0 ∧ p.2 ∈ ns
  | [], a, p, h => by simp [ent] at h
  | x :: r, a, p, h => by
    simp only [ent] at h
    simp only [List.length_cons]
    split at h
    · have := ent_key r (a + 1) p h
      exact ⟨by omega, by omega, this.2.2.1, List.mem_cons_of_mem _ this.2.2.2⟩
    · rename_i hx
      rcases List.mem_cons.mp h with rfl | h
      · exact ⟨by simp, by simp; omega, hx, List.mem_cons_self⟩
      · have := ent_key r (a + 1) p h
        exact ⟨by omega, by omega, this.2.2.1, List.mem_cons_of_mem _ this.2.2.2⟩
theorem getP_none {d : List (Int × Int)} {k : Int} (h : ∀ p ∈ d, p.1 ≠ k) : getP d k = none := by
  cases hg : getP d k with
  | none => rfl
  | some v => exact absurd rfl (h _ (getP_mem hg))
theorem ent_get : ∀ (ns : List Int) (a : Int) (k : Nat) (x : Int), ns[k]? = some x → (getP (ent a ns) (a + k)).getD 0 = x
  | [], a, k, x, h => by simp at h
  | y :: r, a, 0, x, h => by
    have hy : y = x := by simpa using h
    subst hy
    simp only [ent]
    split
    · rename_i hy
      rw [getP_none]
      · simp [hy]
      · intro p hp
        have := ent_key r (a + 1) p hp
        simp; omega
    · simp [getP]
  | y :: r, a, k + 1, x, h => by
    have ih := ent_get r (a + 1) k x (by simpa using h)
    rw [show a + 1 + (k : Int) = a + ((k + 1 : Nat) : Int) by omega] at ih
    simp only [ent]
    split
    · exact ih
    · simp only [getP]
      rw [if_neg (by omega)]
      exact ih
theorem ent_mem : ∀ (ns : List Int) (a : Int) (k : Nat) (x : Int), ns[k]? = some x → x ≠ 0 → (a + (k : Int), x) ∈ ent a ns
  | [], a, k, x, h, _ => by simp at h
  | y :: r, a, 0, x, h, hx => by
    have hy : y = x := by simpa using h
    subst hy
    simp [ent, hx]
  | y :: r, a, k + 1, x, h, hx => by
    have ih := ent_mem r (a + 1) k x (by simpa using h) hx
    rw [show a + 1 + (k : Int) = a + ((k + 1 : Nat) : Int) by omega] at ih
    simp only [ent]
    split
    · exact ih
    · exact List.mem_cons_of_mem _ ih
theorem ent_nd : ∀ (ns : List Int) (a : Int), ((ent a ns).map (·.1)).Nodup
  | [], a => by simp [ent]
  | y :: r, a => by
    have ih := ent_nd r (a + 1)
    simp only [ent]
    split
    · exact ih
    · rw [List.map_cons, List.nodup_cons]
      refine ⟨?_, ih⟩
      intro h
      obtain ⟨p, hp, e⟩ := List.mem_map.mp h
      have := ent_key r (a + 1) p hp
      omega
theorem numsOf_ent (ns : List Int) (a : Int) : numsOf (ent a ns) a ns.length = ns := by
  apply List.ext_getElem?
  intro k
  by_cases hk : k < ns.length
  · have h := ent_get ns a k ns[k] (List.getElem?_eq_getElem hk)
    unfold numsOf
    rw [List.getElem?_map, List.getElem?_range hk, List.getElem?_eq_getElem hk]
    simp only [Option.map_some, h]
  · rw [List.getElem?_eq_none (by rw [numsOf_len]; omega), List.getElem?_eq_none (by omega)]
theorem nrm_ends {a : Int} {ns : List Int} (h : Nrm a ns) (hn : ns ≠ []) : a ∈ (ent a ns).map (·.1) ∧ a + ns.length - 1 ∈ (ent a ns).map (·.1) := by
  have hl : 0 < ns.length := List.length_pos_iff.mpr hn
  constructor
  · have h0 : ns[0]? = some ns[0] := List.getElem?_eq_getElem hl
    have := ent_mem ns a 0 ns[0] h0 (by intro e; exact h.h (by rw [h0, e]))
    exact List.mem_map.mpr ⟨_, this, by simp⟩
  · have h1 : ns.length - 1 < ns.length := by omega
    have h0 : ns[ns.length - 1]? = some ns[ns.length - 1] := List.getElem?_eq_getElem h1
    have := ent_mem ns a (ns.length - 1) _ h0 (by intro e; exact h.l (by rw [h0, e]))
    exact List.mem_map.mpr ⟨_, this, by simp; omega⟩
/-- what from_terms and the law's way make of a dict -/
structure PolyOf (d : List (Int × Int)) (b : Int) (ms : List Int) : Prop where
  n : Nrm b ms
  m : ∀ m ∈ ms, m = 0 ∨ ∃ k, (k, m) ∈ d
  k : ms ≠ [] → ∀ lo hi : Int, (∀ p ∈ d, lo ≤ p.1 ∧ p.1 ≤ hi) → lo ≤ b ∧ b + ms.length ≤ hi + 1
  r : ∀ a ns, Nrm a ns → d = ent a ns → b = a ∧ ms = ns
theorem from_terms_ok (d : List (Int × Int)) (hk : ∀ p ∈ d, -1000 ≤ p.1 ∧ p.1 ≤ 1000) : ∃ b ms, from_terms_ [.dct false (encD .int d)] = .ok (.tup [.int b, .tup (ms.map .int)]) ∧ PolyOf d b ms := by
  cases hd : d with
  | nil =>
    refine ⟨0, [], ?_, ⟨⟨fun _ => rfl, by simp, by simp⟩, by simp, by simp, ?_⟩⟩
    · have hn : noneF (.d (.dct false (encD .int ([] : List (Int × Int))))) [] = .ok true [] := rfl
      simp (disch := omega) [small_iff, smallN_iff, sm1, sm0, succ0, atL0, atL1, atLn, cutT1, cutT2, cutD1, cutD2, cutT, cutD, cutTD, runP, runI, startV, seqS, asgS, ifS, t2, t1, andT, orT, notT, truT, varE, conE, getV, setV, nameG, eqF, neF, eqW, R.bind, R.so, retS, nxS, frzE, newE, lstF, argsF, unWs, unW, snap, op2, op1, addF, subF, mulF, ixF, callB, callF, arg1, strF, valE, intF, dataL, ifE, notNF, isNF, isNon, lenF, absF, callP, callI, snaps, anyRef, tupOnly, List.replicate, ltF, gtF, geF, leF, cmpF, slE, bndE, methE, methF, kindW, dropS, tupE, listG, itemsS, truW, joinG, textsOf, negF, from_terms_, b_from_terms, hn]
    · intro a ns hn he
      have : ns = [] := by
        cases ns with
        | nil => rfl
        | cons x r =>
          have := (nrm_ends hn (by simp)).1
          rw [← he] at this
          simp at this
      subst this
      exact ⟨(hn.z rfl).symm, rfl⟩
  | cons p r =>
    rw [← hd]
    have hkeys : (encD .int d).map (fun kv => kv.1) = (d.map (·.1)).map D.int := by simp [encD, Function.comp_def]
    have hki : keysW [] (.d (.dct false (encD .int d))) = some ((d.map (·.1)).map D.int) := by rw [← hkeys]; rfl
    have hdm : d.map (·.1) = p.1 :: r.map (·.1) := by rw [hd]; rfl
    have hmn := minL_spec (r.map (·.1)) p.1
    have hmx := maxL_spec (r.map (·.1)) p.1
    rw [← hdm] at hmn hmx
    have hmin : minDF (.d (.dct false (encD .int d))) [] = .ok (.d (.int (minL p.1 (r.map (·.1))))) [] := by
      unfold minDF
      rw [hki, Option.bind_some, intsD_map, hdm]
    have hmax : maxDF (.d (.dct false (encD .int d))) [] = .ok (.d (.int (maxL p.1 (r.map (·.1))))) [] := by
      unfold maxDF
      rw [hki, Option.bind_some, intsD_map, hdm]
    generalize minL p.1 (r.map (·.1)) = lo at hmn hmin
    generalize maxL p.1 (r.map (·.1)) = hi at hmx hmax
    obtain ⟨pl, hpl, epl⟩ := List.mem_map.mp hmn.1
    obtain ⟨ph, hph, eph⟩ := List.mem_map.mp hmx.1
    have b1 := hk pl hpl
    have b2 := hk ph hph
    have hlh : lo ≤ hi := hmn.2 _ hmx.1
    obtain ⟨b, ms, h1, h2, h3, h4, h5⟩ := normal_ok lo (numsOf d lo (hi + 1 - lo).toNat) (by rw [numsOf_len]; omega)
    rw [numsOf_len] at h4
    refine ⟨b, ms, ?_, ⟨h2, fun m hm => numsOf_mem (h3 m hm), ?_, ?_⟩⟩
    · have hne : noneF (.d (.dct false (encD .int d))) [] = .ok false [] := by
        unfold noneF; rw [hd]; rfl
      have key : b_from_terms [some (.d (.dct false (encD .int d))), none, none] [] = .rt (.d (.tup [.int b, .tup (ms.map .int)])) [] := by
        unfold b_from_terms
        rw [seqS_nx (e' := [some (.d (.dct false (encD .int d))), none, none]) (S' := []) (by simp (disch := omega) [small_iff, smallN_iff, sm1, sm0, succ0, atL0, atL1, atLn, cutT1, cutT2, cutD1, cutD2, cutT, cutD, cutTD, runP, runI, startV, seqS, asgS, ifS, t2, t1, andT, orT, notT, truT, varE, conE, getV, setV, nameG, eqF, neF, eqW, R.bind, R.so, retS, nxS, frzE, newE, lstF, argsF, unWs, unW, snap, op2, op1, addF, subF, mulF, ixF, callB, callF, arg1, strF, valE, intF, dataL, ifE, notNF, isNF, isNon, lenF, absF, callP, callI, snaps, anyRef, tupOnly, List.replicate, ltF, gtF, geF, leF, cmpF, slE, bndE, methE, methF, kindW, dropS, tupE, listG, itemsS, truW, joinG, textsOf, negF, hne])]
        rw [seqS_nx (e' := [some (.d (.dct false (encD .int d))), some (.d (.int lo)), none]) (S' := []) (by simp (disch := omega) [small_iff, smallN_iff, sm1, sm0, succ0, atL0, atL1, atLn, cutT1, cutT2, cutD1, cutD2, cutT, cutD, cutTD, runP, runI, startV, seqS, asgS, ifS, t2, t1, andT, orT, notT, truT, varE, conE, getV, setV, nameG, eqF, neF, eqW, R.bind, R.so, retS, nxS, frzE, newE, lstF, argsF, unWs, unW, snap, op2, op1, addF, subF, mulF, ixF, callB, callF, arg1, strF, valE, intF, dataL, ifE, notNF, isNF, isNon, lenF, absF, callP, callI, snaps, anyRef, tupOnly, List.replicate, ltF, gtF, geF, leF, cmpF, slE, bndE, methE, methF, kindW, dropS, tupE, listG, itemsS, truW, joinG, textsOf, negF, hmin])]
        have hr : rng2 (varE 1) (op2 addF (callB (arg1 maxDF) [(varE 0)]) (conE (.int 1))) [some (.d (.dct false (encD .int d))), some (.d (.int lo)), none] [] = .ok (.fix (rangeD lo (hi + 1 - lo).toNat)) [] :=
          rng2_ok (S' := []) (by rfl) (by simp (disch := omega) [small_iff, smallN_iff, sm1, sm0, succ0, atL0, atL1, atLn, cutT1, cutT2, cutD1, cutD2, cutT, cutD, cutTD, runP, runI, startV, seqS, asgS, ifS, t2, t1, andT, orT, notT, truT, varE, conE, getV, setV, nameG, eqF, neF, eqW, R.bind, R.so, retS, nxS, frzE, newE, lstF, argsF, unWs, unW, snap, op2, op1, addF, subF, mulF, ixF, callB, callF, arg1, strF, valE, intF, dataL, ifE, notNF, isNF, isNon, lenF, absF, callP, callI, snaps, anyRef, tupOnly, List.replicate, ltF, gtF, geF, leF, cmpF, slE, bndE, methE, methF, kindW, dropS, tupE, listG, itemsS, truW, joinG, textsOf, negF, hmax]) (big62_int (by omega) (by omega)) (big62_int (by omega) (by omega))
        have hc := nums_comp kt (v := 2) (own := [2]) (d := d) hr (by omega) (fun w => rfl) (fun w => rfl)
        simp only [retS, callP, argsF, varE, getV, R.bind, hc, snaps, snap, h1, anyRef, R.so]
        simp
      exact runP_rt rfl key rfl
    · intro hms lo' hi' hb
      have := h4 hms
      have q1 := hb pl hpl
      have q2 := hb ph hph
      omega
    · intro a ns hn he
      have hns : ns ≠ [] := by
        intro e; subst e
        rw [hd] at he; simp [ent] at he
      have hends := nrm_ends hn hns
      rw [← he] at hends
      have e1 : lo = a := by
        have := hmn.2 _ hends.1
        have := ent_key ns a pl (by rw [← he]; exact hpl)
        omega
      have e2 : hi = a + ns.length - 1 := by
        have := hmx.2 _ hends.2
        have := ent_key ns a ph (by rw [← he]; exact hph)
        omega
      have e3 : (hi + 1 - lo).toNat = ns.length := by omega
      have e4 : numsOf d lo (hi + 1 - lo).toNat = ns := by rw [e3, he, e1, numsOf_ent]
      have := h5 (by rw [e4, e1]; exact hn)
      rw [e4, e1] at this
      exact this
end K54

end

section
set_option linter.all false
set_option maxRecDepth 100000
set_option linter.all false
set_option maxRecDepth 100000
namespace Pw
open Pv
theorem pairsD_map : ∀ (l : List (Int × Int)), pairsD (l.map fun p => D.tup [.int p.1, .int p.2]) = some l
  | [] => rfl
  | x :: r => by simp [pairsD, pairsD_map r]
theorem frzE_ok {f : FV} {e : En} {S S' : Store} {ws : List W} {xs : List D} (h : f e S = .ok ws S') (h' : unWs ws = some xs) : frzE f e S = .ok (.d (.lst xs)) S' := by
  unfold frzE; rw [h]; simp only [R.bind, h']
theorem compF_fix {own : List Nat} {it : IV} {g : GV} {t : TV} {el : EV} {e : En} {S S' : Store} {ws : List W} (h : it e S = .ok (.fix ws) S') : compF own it g t el e S = compL g t el (wipeV e own) ws [] S' := by
  unfold compF; rw [h]; rfl
theorem filter_int (P : Int → Bool) (l : List Int) : List.filter (fun w => match w with | W.d (.int k) => P k | _ => false) (l.map fun k => W.d (.int k)) = (l.filter P).map fun k => W.d (.int k) := by
  rw [List.filter_map]; rfl
def ltP (p q : Int × Int) : Prop := p.1 < q.1 ∨ (p.1 = q.1 ∧ p.2 < q.2)
theorem leP_iff (p q : Int × Int) : leP p q = true ↔ ltP p q ∨ p = q := by
  unfold leP ltP
  simp only [Bool.or_eq_true, Bool.and_eq_true, decide_eq_true_eq, Prod.ext_iff]
  omega
theorem leP_tot {p q : Int × Int} (h : leP p q = false) : ltP q p := by
  unfold leP at h
  unfold ltP
  simp only [Bool.or_eq_false_iff, Bool.and_eq_false_iff, decide_eq_false_iff_not] at h
  omega
theorem ltP_trans {p q r : Int × Int} (h : ltP p q) (h' : ltP q r) : ltP p r := by unfold ltP at *; omega
theorem insP_mem (n x : Int × Int) : ∀ (l : List (Int × Int)), x ∈ insP n l ↔ x = n ∨ x ∈ l
  | [] => by simp [insP]
  | m :: r => by
    simp only [insP]
    split
    · simp
    · simp only [List.mem_cons, insP_mem n x r]
      constructor
      · rintro (h | h | h) <;> simp [h]
      · rintro (h | h | h) <;> simp [h]
theorem sortP_mem (x : Int × Int) : ∀ (l : List (Int × Int)), x ∈ sortP l ↔ x ∈ l
  | [] => by simp [sortP]
  | m :: r => by simp only [sortP, insP_mem, sortP_mem x r, List.mem_cons]
theorem insP_sorted (n : Int × Int) : ∀ (l : List (Int × Int)), n ∉ l → l.Pairwise ltP → (insP n l).Pairwise ltP
  | [], _, _ => by simp [insP]
  | m :: r, hn, h => by
    simp only [insP]
    have hne : n ≠ m := fun e => hn (by rw [e]; exact List.mem_cons_self)
    split
    · rename_i hle
      have hlt : ltP n m := by
        rcases (leP_iff n m).mp hle with h | h
        · exact h
        · exact absurd h hne
      rw [List.pairwise_cons]
      refine ⟨?_, h⟩
      intro x hx
      rcases List.mem_cons.mp hx with rfl | hx
      · exact hlt
      · exact ltP_trans hlt ((List.pairwise_cons.mp h).1 x hx)
    · rename_i hle
      have hp := List.pairwise_cons.mp h
      rw [List.pairwise_cons]
      refine ⟨?_, insP_sorted n r (fun h => hn (List.mem_cons_of_mem _ h)) hp.2⟩
      intro x hx
      rcases (insP_mem n x r).mp hx with rfl | hx
      · exact leP_tot (by simpa using hle)
      · exact hp.1 x hx
theorem sortP_sorted : ∀ (l : List (Int × Int)), l.Nodup → (sortP l).Pairwise ltP
  | [], _ => by simp [sortP]
  | m :: r, h => by
    have h' := List.nodup_cons.mp h
    exact insP_sorted m _ (by rw [sortP_mem]; exact h'.1) (sortP_sorted r h'.2)
theorem sortP_id : ∀ (l : List (Int × Int)), l.Pairwise ltP → sortP l = l
  | [], _ => rfl
  | m :: r, h => by
    have h' := List.pairwise_cons.mp h
    rw [sortP, sortP_id r h'.2]
    cases r with
    | nil => rfl
    | cons x s =>
      have : leP m x = true := (leP_iff m x).mpr (.inl (h'.1 x List.mem_cons_self))
      simp [insP, this]
theorem insP_len (n : Int × Int) : ∀ (l : List (Int × Int)), (insP n l).length = l.length + 1
  | [] => rfl
  | m :: r => by
    simp only [insP]
    split
    · simp
    · simp [insP_len n r]
theorem sortP_len : ∀ (l : List (Int × Int)), (sortP l).length = l.length
  | [] => rfl
  | m :: r => by simp only [sortP, insP_len, sortP_len r, List.length_cons]
/-- keys that are pairs -/
def eP (p : Int × Int) : D := .tup [.int p.1, .int p.2]
theorem hek_P (a b : Int × Int) : eqK (eP a) (eP b) = decide (a = b) := by
  rw [Bool.eq_iff_iff]
  simp [eqK, eP, eqDs, eqD, Prod.ext_iff]
/-- keys of one number -/
def eT (a : Int) : D := .tup [.int a]
theorem hek_T (a b : Int) : eqK (eT a) (eT b) = decide (a = b) := by
  rw [Bool.eq_iff_iff]
  simp [eqK, eT, eqDs, eqD]
/-- the terms in two letters, in order -/
def tw (d : List ((Int × Int) × Int)) : List (Int × Int × Int) := ((sortP (d.map (·.1))).filter fun p => (getP d p).getD 0 != 0).map fun p => (p.1, p.2, (getP d p).getD 0)
def e3 (q : Int × Int × Int) : D := .tup [.int q.1, .int q.2.1, .int q.2.2]
theorem sort_keys {d : List ((Int × Int) × Int)} {S : Store} {w : W} (h : keysW S w = some ((d.map (·.1)).map eP)) : sortDG [w] S = .ok ((sortP (d.map (·.1))).map fun p => W.d (eP p)) S := by
  have : pairsD ((d.map (·.1)).map eP) = some (d.map (·.1)) := by exact pairsD_map _
  simp only [sortDG, h, Option.bind_some, this]
  rfl
theorem tw_comp (kt : List (List D)) {i v : Nat} {own : List Nat} {d : List ((Int × Int) × Int)} {e : En} {S : Store} {w : W} (hw : getV e i = some w) (hk : keysW S w = some ((d.map (·.1)).map eP)) (hl : d.length ≤ 10000)
    (hi : ∀ p x, getP d p = some x → ixF kt w (.d (eP p)) S = .ok (.d (.int x)) S) (h0 : ∀ u, getV (setV (wipeV e own) v u) i = some w) (hv : ∀ u, getV (setV (wipeV e own) v u) v = some u) :
    frzE (compF own (seqI (frzE (callF sortDG [(varE i)]))) (nameG v) (t2 neF (op2 (ixF kt) (varE i) (varE v)) (conE (.int 0))) (op2 addF (varE v) (tupE [(op2 (ixF kt) (varE i) (varE v))]))) e S = .ok (.d (.lst ((tw d).map e3))) S := by
  have hu := unWs_map eP (sortP (d.map (·.1)))
  have hs : seqI (frzE (callF sortDG [(varE i)])) e S = .ok (.fix ((sortP (d.map (·.1))).map (W.d ∘ eP))) S := by
    simp only [seqI, frzE, callF, argsF, varE, hw, R.bind, sort_keys hk, hu, List.map_map]
  have hc := compL_pure (g := nameG v) (t := t2 neF (op2 (ixF kt) (varE i) (varE v)) (conE (.int 0))) (el := op2 addF (varE v) (tupE [(op2 (ixF kt) (varE i) (varE v))])) (e := wipeV e own) (S := S)
      (fun w => match w with | .d (.tup [.int a, .int b]) => (getP d (a, b)).getD 0 != 0 | _ => false) (fun w => match w with | .d (.tup [.int a, .int b]) => .d (e3 (a, b, (getP d (a, b)).getD 0)) | w => w) ((sortP (d.map (·.1))).map (W.d ∘ eP)) [] (by
        intro u hu
        obtain ⟨p, hp, rfl⟩ := List.mem_map.mp hu
        rw [sortP_mem] at hp
        obtain ⟨x, hx⟩ := getP_key hp
        have hi' := hi p x hx
        simp only [eP] at hi'
        refine ⟨_, rfl, ?_, fun _ => ?_⟩
        · simp only [t2, op2, varE, h0, hv, R.bind, Function.comp, hi', conE, neF, eqW, eP, hx, Option.getD_some, hi']
          try rfl
        · simp only [op2, varE, h0, hv, R.bind, Function.comp, tupE, argsF, hi', unWs, Option.map_some, eP, addF, hx, Option.getD_some, e3, hi']
          try rfl) (by simp [sortP_len]; omega)
  refine frzE_ok (ws := (tw d).map fun x => W.d (e3 x)) ?_ (unWs_map e3 (tw d))
  rw [compF_fix hs, hc]
  simp only [List.nil_append, List.filter_map, List.map_map, tw]
  rfl
/-- in order, without zeros -/
structure Nr2 (q : List (Int × Int × Int)) : Prop where
  s : (q.map fun t => (t.1, t.2.1)).Pairwise ltP
  z : ∀ t ∈ q, t.2.2 ≠ 0
theorem tw_nrm {d : List ((Int × Int) × Int)} (h : (d.map (·.1)).Nodup) : Nr2 (tw d) := by
  constructor
  · unfold tw
    rw [List.map_map]
    have : ((fun t : Int × Int × Int => (t.1, t.2.1)) ∘ fun p : Int × Int => (p.1, p.2, (getP d p).getD 0)) = id := by funext p; rfl
    rw [this, List.map_id]
    exact (sortP_sorted _ h).filter _
  · intro t ht
    unfold tw at ht
    obtain ⟨p, hp, rfl⟩ := List.mem_map.mp ht
    have := (List.mem_filter.mp hp).2
    simpa using this
theorem tw_mem {d : List ((Int × Int) × Int)} {t : Int × Int × Int} (h : t ∈ tw d) : ((t.1, t.2.1), t.2.2) ∈ d := by
  unfold tw at h
  obtain ⟨p, hp, rfl⟩ := List.mem_map.mp h
  have h1 := (List.mem_filter.mp hp).1
  rw [sortP_mem] at h1
  obtain ⟨x, hx⟩ := getP_key h1
  simp only [hx, Option.getD_some]
  exact getP_mem hx
def ents (q : List (Int × Int × Int)) : List ((Int × Int) × Int) := q.map fun t => ((t.1, t.2.1), t.2.2)
theorem ltP_irr (p : Int × Int) : ¬ ltP p p := by unfold ltP; omega
theorem ents_nd {q : List (Int × Int × Int)} (h : Nr2 q) : ((ents q).map (·.1)).Nodup := by
  have := h.s
  unfold ents
  rw [List.map_map]
  refine List.Pairwise.imp ?_ this
  intro a b hab e
  subst e
  exact ltP_irr _ hab
theorem tw_ents {q : List (Int × Int × Int)} (h : Nr2 q) : tw (ents q) = q := by
  have hg : ∀ t ∈ q, getP (ents q) (t.1, t.2.1) = some t.2.2 := fun t ht => getP_nd (ents_nd h) (List.mem_map.mpr ⟨t, ht, rfl⟩)
  have e1 : (ents q).map (·.1) = q.map fun t => (t.1, t.2.1) := by unfold ents; rw [List.map_map]; rfl
  unfold tw
  rw [e1, sortP_id _ h.s, List.filter_map, List.map_map]
  rw [List.filter_eq_self.mpr (by
    intro t ht
    simp only [Function.comp, hg t ht, Option.getD_some]
    simpa using h.z t ht)]
  conv => rhs; rw [← List.map_id q]
  apply List.map_congr_left
  intro t ht
  simp only [Function.comp, hg t ht, Option.getD_some, id]
end Pw
namespace K54
open Pv Pw
theorem keyP (p : Int × Int) : okKey kt true (eP p) = true := by
  simp [okKey, keyT, eP, keyD, kt, eqDs, eqD]
theorem keyT1 (a : Int) : okKey kt true (eT a) = true := by
  simp [okKey, keyT, eT, keyD, kt, eqDs, eqD]
theorem two_from_ok (d : List ((Int × Int) × Int)) (hl : d.length ≤ 10000) : two_from_terms_ [.dct true (encD eP d)] = .ok (.tup ((tw d).map e3)) := by
  have hc := tw_comp kt (i := 0) (v := 1) (own := [1]) (d := d) (e := [some (.d (.dct true (encD eP d))), none]) (S := []) (w := .d (.dct true (encD eP d))) rfl (by
    simp only [keysW, encD, List.map_map]; rfl) hl (by
    intro p x hx
    have := getK_encD (ek := eP) hek_P p d
    rw [hx] at this
    simp only [ixF, keyP, if_true, this, Option.map_some]) (fun u => rfl) (fun u => rfl)
  have key : b_two_from_terms [some (.d (.dct true (encD eP d))), none] [] = .rt (.d (.tup ((tw d).map e3))) [] := by
    unfold b_two_from_terms retS callB argsF
    rw [hc]
    have := unWs_d ((tw d).map e3)
    rw [List.map_map] at this
    simp only [R.bind, argsF, tupleG, itemsS, List.map_map, this, R.so]
  exact runP_rt rfl key rfl
theorem ixP (S : Store) (d : List ((Int × Int) × Int)) (p : Int × Int) (x : Int) (h : getP d p = some x) (r : Nat) (hr : getO S r = some (.dct true (encW eP d))) : ixF kt (.ref r) (.d (eP p)) S = .ok (.d (.int x)) S := by
  have := getK_encW (ek := eP) hek_P p d
  rw [h] at this
  simp only [ixF, hr, keyP, if_true, this, Option.map_some]
theorem law_poly_ok (d : List (Int × Int)) (hk : ∀ p ∈ d, -1000 ≤ p.1 ∧ p.1 ≤ 1000) (hl : d.length ≤ 10000) : ∃ b ms, _law_poly_ [.dct false (encD .int d)] = .ok (.tup [.int b, .tup (ms.map .int)]) ∧ PolyOf d b ms := by
  -- the places that are kept
  obtain ⟨L, hL⟩ : ∃ L, sortI ((d.map (·.1)).filter fun k => (getP d k).getD 0 != 0) = L := ⟨_, rfl⟩
  have hmem : ∀ k, k ∈ L ↔ (∃ x, getP d k = some x ∧ x ≠ 0) := by
    intro k
    rw [← hL, sortI_mem, List.mem_filter]
    constructor
    · rintro ⟨h1, h2⟩
      obtain ⟨x, hx⟩ := getP_key h1
      rw [hx] at h2
      exact ⟨x, hx, by simpa using h2⟩
    · rintro ⟨x, hx, h2⟩
      exact ⟨List.mem_map.mpr ⟨_, getP_mem hx, rfl⟩, by rw [hx]; simpa using h2⟩
  have hsorted : L.Pairwise (· ≤ ·) := by rw [← hL]; exact sortI_sorted _
  have hc : frzE (compN [3] 0 (seqI (varE 0)) (nameG 3) (t2 neF (op2 (ixF kt) (varE 0) (varE 3)) (conE (.int 0))) (varE 3)) [some (.d (.dct false (encD .int d))), none, none, none] [] = .ok (.d (.lst ((((d.map (·.1)).filter fun k => (getP d k).getD 0 != 0)).map .int))) [] := by
    have hc := compL_pure (g := nameG 3) (t := t2 neF (op2 (ixF kt) (varE 0) (varE 3)) (conE (.int 0))) (el := varE 3) (e := [some (.d (.dct false (encD .int d))), none, none, none]) (S := [])
      (fun w => match w with | .d (.int k) => (getP d k).getD 0 != 0 | _ => false) id ((d.map (·.1)).map fun k => W.d (.int k)) [] (by
        intro u hu
        obtain ⟨k, hk, rfl⟩ := List.mem_map.mp hu
        obtain ⟨x, hx⟩ := getP_key hk
        refine ⟨_, rfl, ?_, fun _ => rfl⟩
        have := getK_encD (ek := .int) hek_int k d
        rw [hx] at this
        simp only [t2, op2, varE, getV, setV, R.bind, ixF, okKey, keyD, if_true, this, Option.map_some, conE, neF, eqW, hx, Option.getD_some]
        rfl) (by simp; omega)
    have e1 : (encD D.int d).map (fun kv => W.d kv.1) = (d.map (·.1)).map fun k => W.d (.int k) := by simp [encD, Function.comp_def]
    refine frzE_ok (ws := ((d.map (·.1)).filter fun k => (getP d k).getD 0 != 0).map fun k => W.d (.int k)) ?_ (unWs_int _)
    rw [filter_int (fun k => (getP d k).getD 0 != 0), List.nil_append, List.map_id] at hc
    unfold compN
    simp only [getV, e1, wipeV, List.set]
    exact hc
  have hs : frzE (callF sortDG [(frzE (compN [3] 0 (seqI (varE 0)) (nameG 3) (t2 neF (op2 (ixF kt) (varE 0) (varE 3)) (conE (.int 0))) (varE 3)))]) [some (.d (.dct false (encD .int d))), none, none, none] [] = .ok (.d (.lst (L.map .int))) [] := by
    have h1 : ∀ l : List Int, sortDG [.d (.lst (l.map .int))] [] = .ok ((sortI l).map fun n => W.d (.int n)) [] := by
      intro l
      have h2 : intsOf (l.map (W.d ∘ D.int)) = some l := intsOf_map l
      simp only [sortDG, keysW, Option.bind_none, sortG, itemsL, Option.bind_some, List.map_map, h2]
    refine frzE_ok (ws := L.map fun n => W.d (.int n)) ?_ (unWs_int L)
    simp only [callF, argsF, hc, R.bind, h1, hL]
  have hstep : asgS (nameG 1) (frzE (callF sortDG [(frzE (compN [3] 0 (seqI (varE 0)) (nameG 3) (t2 neF (op2 (ixF kt) (varE 0) (varE 3)) (conE (.int 0))) (varE 3)))])) [some (.d (.dct false (encD .int d))), none, none, none] [] = .nx [some (.d (.dct false (encD .int d))), some (.d (.lst (L.map .int))), none, none] [] := by
    unfold asgS
    rw [hs]
    rfl
  cases hLL : L with
  | nil =>
    rw [hLL] at hstep
    refine ⟨0, [], ?_, ⟨⟨fun _ => rfl, by simp, by simp⟩, by simp, by simp, ?_⟩⟩
    · have key : b__law_poly [some (.d (.dct false (encD .int d))), none, none, none] [] = .rt (.d (.tup [.int 0, .tup []])) [] := by
        unfold b__law_poly
        rw [seqS_nx hstep, seqS_rt (w := .d (.tup [.int 0, .tup []])) (S' := []) (by simp (disch := omega) [small_iff, smallN_iff, sm1, sm0, succ0, atL0, atL1, atLn, cutT1, cutT2, cutD1, cutD2, cutT, cutD, cutTD, runP, runI, startV, seqS, asgS, ifS, t2, t1, andT, orT, notT, truT, varE, conE, getV, setV, nameG, eqF, neF, eqW, R.bind, R.so, retS, nxS, frzE, newE, lstF, argsF, unWs, unW, snap, op2, op1, addF, subF, mulF, ixF, callB, callF, arg1, strF, valE, intF, dataL, ifE, notNF, isNF, isNon, lenF, absF, callP, callI, snaps, anyRef, tupOnly, List.replicate, ltF, gtF, geF, leF, cmpF, slE, bndE, methE, methF, kindW, dropS, tupE, listG, itemsS, truW, joinG, textsOf, negF])]
      exact runP_rt rfl key rfl
    · intro a ns hn he
      have : ns = [] := by
        cases ns with
        | nil => rfl
        | cons x r =>
          exfalso
          obtain ⟨p, hp, e⟩ := List.mem_map.mp (nrm_ends hn (by simp)).1
          have h1 := ent_key _ a p hp
          have h2 : getP d p.1 = some p.2 := by rw [he]; exact getP_nd (ent_nd _ _) hp
          have := (hmem p.1).mpr ⟨_, h2, h1.2.2.1⟩
          rw [hLL] at this
          simp at this
      subst this
      exact ⟨(hn.z rfl).symm, rfl⟩
  | cons lo Rr =>
    have hne : L ≠ [] := by rw [hLL]; simp
    have hlen : 0 < L.length := List.length_pos_iff.mpr hne
    obtain ⟨hi, hhi⟩ : ∃ hi, L[L.length - 1]? = some hi := ⟨_, List.getElem?_eq_getElem (by omega)⟩
    have hlo0 : L[0]? = some lo := by rw [hLL]; rfl
    have hloL : lo ∈ L := by rw [hLL]; exact List.mem_cons_self
    have hhiL : hi ∈ L := List.mem_of_getElem? hhi
    have hge : ∀ x ∈ L, lo ≤ x := by
      intro x hx
      rw [hLL] at hx hsorted
      rcases List.mem_cons.mp hx with rfl | hx
      · omega
      · exact (List.pairwise_cons.mp hsorted).1 x hx
    have hle : ∀ x ∈ L, x ≤ hi := by
      intro x hx
      obtain ⟨i, hi1, hi2⟩ := List.getElem_of_mem hx
      rw [List.pairwise_iff_getElem] at hsorted
      have hh : L[L.length - 1] = hi := by rw [List.getElem?_eq_getElem (by omega)] at hhi; exact Option.some.inj hhi
      by_cases e : i = L.length - 1
      · subst e; omega
      · have := hsorted i (L.length - 1) hi1 (by omega) (by omega)
        omega
    obtain ⟨xlo, hxlo, hxlo0⟩ := (hmem lo).mp hloL
    obtain ⟨xhi, hxhi, hxhi0⟩ := (hmem hi).mp hhiL
    have k1 := hk _ (getP_mem hxlo)
    have k2 := hk _ (getP_mem hxhi)
    simp only at k1 k2
    have hlh := hge hi hhiL
    have hN : ∀ k : Nat, k < (hi + 1 - lo).toNat → (numsOf d lo (hi + 1 - lo).toNat)[k]? = some ((getP d (lo + k)).getD 0) := by
      intro k hk
      unfold numsOf
      rw [List.getElem?_map, List.getElem?_range hk]; rfl
    refine ⟨lo, numsOf d lo (hi + 1 - lo).toNat, ?_, ⟨⟨?_, ?_, ?_⟩, fun m hm => numsOf_mem hm, ?_, ?_⟩⟩
    · have key : b__law_poly [some (.d (.dct false (encD .int d))), none, none, none] [] = .rt (.d (.tup [.int lo, .tup ((numsOf d lo (hi + 1 - lo).toNat).map .int)])) [] := by
        have hl0 : ((L.length : Int) == 0) = false := by rw [beq_eq_false_iff_ne]; omega
        have hlast : (L.length : Int) - 1 = ((L.length - 1 : Nat) : Int) := by omega
        have hhi' : (L.map D.int)[L.length - 1]? = some (.int hi) := by rw [List.getElem?_map, hhi]; rfl
        have hL0 : L ≠ [] := hne
        unfold b__law_poly
        rw [seqS_nx hstep]
        rw [seqS_nx (e' := [some (.d (.dct false (encD .int d))), some (.d (.lst (L.map .int))), none, none]) (S' := []) (by simp (disch := omega) [small_iff, smallN_iff, sm1, sm0, succ0, atL0, atL1, atLn, cutT1, cutT2, cutD1, cutD2, cutT, cutD, cutTD, runP, runI, startV, seqS, asgS, ifS, t2, t1, andT, orT, notT, truT, varE, conE, getV, setV, nameG, eqF, neF, eqW, R.bind, R.so, retS, nxS, frzE, newE, lstF, argsF, unWs, unW, snap, op2, op1, addF, subF, mulF, ixF, callB, callF, arg1, strF, valE, intF, dataL, ifE, notNF, isNF, isNon, lenF, absF, callP, callI, snaps, anyRef, tupOnly, List.replicate, ltF, gtF, geF, leF, cmpF, slE, bndE, methE, methF, kindW, dropS, tupE, listG, itemsS, truW, joinG, textsOf, negF, hl0, hL0])]
        rw [seqS_nx (e' := [some (.d (.dct false (encD .int d))), some (.d (.lst (L.map .int))), some (.d (.int lo)), none]) (S' := []) (by rw [hLL]; simp (disch := omega) [small_iff, smallN_iff, sm1, sm0, succ0, atL0, atL1, atLn, cutT1, cutT2, cutD1, cutD2, cutT, cutD, cutTD, runP, runI, startV, seqS, asgS, ifS, t2, t1, andT, orT, notT, truT, varE, conE, getV, setV, nameG, eqF, neF, eqW, R.bind, R.so, retS, nxS, frzE, newE, lstF, argsF, unWs, unW, snap, op2, op1, addF, subF, mulF, ixF, callB, callF, arg1, strF, valE, intF, dataL, ifE, notNF, isNF, isNon, lenF, absF, callP, callI, snaps, anyRef, tupOnly, List.replicate, ltF, gtF, geF, leF, cmpF, slE, bndE, methE, methF, kindW, dropS, tupE, listG, itemsS, truW, joinG, textsOf, negF])]
        have hr : rng2 (varE 2) (op2 addF (op2 (ixF kt) (varE 1) (op2 subF (callB (arg1 lenF) [(varE 1)]) (conE (.int 1)))) (conE (.int 1))) [some (.d (.dct false (encD .int d))), some (.d (.lst (L.map .int))), some (.d (.int lo)), none] [] = .ok (.fix (rangeD lo (hi + 1 - lo).toNat)) [] :=
          rng2_ok (S' := []) (by rfl) (by
            simp only [op2, varE, getV, R.bind, callB, argsF, arg1, lenF, subF, conE, List.length_map, hlast, ixF, atLn, hhi', addF]) (big62_int (by omega) (by omega)) (big62_int (by omega) (by omega))
        have hcc := nums_comp kt (v := 3) (own := [3]) (d := d) hr (by omega) (fun w => rfl) (fun w => rfl)
        have hu := unWs_d ((numsOf d lo (hi + 1 - lo).toNat).map .int)
        rw [List.map_map] at hu
        unfold retS tupE
        simp only [argsF, callB, hcc, varE, getV, R.bind, tupleG, itemsS, List.map_map, hu, unWs, Option.map_some, R.so]
      exact runP_rt rfl key rfl
    · intro h
      have := congrArg List.length h
      rw [numsOf_len] at this
      simp at this; omega
    · rw [hN 0 (by omega)]
      have : lo + ((0 : Nat) : Int) = lo := by omega
      rw [this, hxlo]
      simpa using hxlo0
    · rw [numsOf_len, hN _ (by omega)]
      have : lo + (((hi + 1 - lo).toNat - 1 : Nat) : Int) = hi := by omega
      rw [this, hxhi]
      simpa using hxhi0
    · intro _ lo' hi' hb
      have q1 := hb _ (getP_mem hxlo)
      have q2 := hb _ (getP_mem hxhi)
      rw [numsOf_len]
      simp only at q1 q2
      omega
    · intro a ns hn he
      have hns : ns ≠ [] := by
        intro e; subst e
        have := getP_mem hxlo
        rw [he] at this; simp [ent] at this
      have hends := nrm_ends hn hns
      have inL : ∀ k, k ∈ (ent a ns).map (·.1) → k ∈ L := by
        intro k hkk
        obtain ⟨p, hp, e⟩ := List.mem_map.mp hkk
        subst e
        exact (hmem p.1).mpr ⟨p.2, by rw [he]; exact getP_nd (ent_nd _ _) hp, (ent_key _ a p hp).2.2.1⟩
      have e1 : lo = a := by
        have := hge _ (inL _ hends.1)
        have h2 := getP_mem hxlo
        rw [he] at h2
        have := ent_key ns a _ h2
        simp only at this
        omega
      have e2 : hi = a + ns.length - 1 := by
        have := hle _ (inL _ hends.2)
        have h2 := getP_mem hxhi
        rw [he] at h2
        have := ent_key ns a _ h2
        simp only at this
        omega
      have e3 : (hi + 1 - lo).toNat = ns.length := by omega
      exact ⟨e1, by rw [e3, he, e1, numsOf_ent]⟩
end K54

end

section
set_option linter.all false
set_option maxRecDepth 100000
set_option linter.all false
set_option maxRecDepth 100000
namespace K54
open Pv Pw
/-! the words of a sum's text -/
def sepW (n : Int) : List Nat := if n < 0 then [45] else [43]
def tailW (ts : List (Int × List (List Nat))) : List (List Nat) := ts.flatMap fun t => sepW t.1 :: partsT (ab t.1) t.2
theorem joinL_app (s : List Nat) : ∀ (x y : List (List Nat)), x ≠ [] → y ≠ [] → joinL s (x ++ y) = joinL s x ++ (s ++ joinL s y)
  | [], _, h, _ => absurd rfl h
  | [a], b :: r, _, _ => rfl
  | [a], [], _, h => absurd rfl h
  | a :: b :: r, y, _, hy => by
    have ih := joinL_app s (b :: r) y (by simp) hy
    simp only [List.cons_append, joinL] at ih ⊢
    rw [ih]
    simp [List.append_assoc]
theorem partsT_ne (n : Int) (ps : List (List Nat)) : partsT n ps ≠ [] := by
  unfold partsT
  split
  · rename_i h; exact h.2
  · simp
theorem join_tail : ∀ (ts : List (Int × List (List Nat))) (P : List (List Nat)), P ≠ [] → joinL [32] (P ++ tailW ts) = joinL [32] P ++ ts.flatMap fun t => sepT t.1 ++ termT (ab t.1) t.2
  | [], P, _ => by simp [tailW]
  | t :: r, P, h => by
    have ih := join_tail r (P ++ (sepW t.1 :: partsT (ab t.1) t.2)) (by simp)
    rw [show tailW (t :: r) = (sepW t.1 :: partsT (ab t.1) t.2) ++ tailW r from by simp [tailW], ← List.append_assoc, ih, joinL_app _ _ _ h (by simp)]
    rw [show sepW t.1 :: partsT (ab t.1) t.2 = [sepW t.1] ++ partsT (ab t.1) t.2 from rfl, joinL_app _ _ _ (by simp) (partsT_ne _ _)]
    simp only [List.flatMap_cons, joinL, termT, sepT, sepW]
    split <;> simp [List.append_assoc]
theorem joinL_hd {s x : List Nat} {r : List (List Nat)} {c : Nat} {y : List Nat} (h : x = c :: y) : ∃ z, joinL s (x :: r) = c :: z := by
  cases r with
  | nil => exact ⟨y, by rw [joinL, h]⟩
  | cons a b => exact ⟨_, by rw [joinL, h]; rfl⟩
/-- words of terms begin with a figure from 1 on, or with a letter -/
structure Hd (ts : List (Int × List (List Nat))) : Prop where
  z : ∀ t ∈ ts, t.1 ≠ 0
  p : ∀ t ∈ ts, ∀ p ∈ t.2, p ≠ [] → ∃ c r, p = c :: r ∧ 65 ≤ c ∧ (∀ a ∈ p, a ≠ 32)
theorem ab_pos {n : Int} (h : n ≠ 0) : 0 < ab n := by unfold ab; split <;> omega
theorem textI_pos {n : Int} (h : 0 < n) : ∃ c r, textI n = c :: r ∧ 49 ≤ c ∧ c ≤ 57 := by
  obtain ⟨c, r, e, h1, h2⟩ := digitsN_head (n := n.natAbs) (by omega)
  rcases textI_cases n with ⟨_, e1⟩ | ⟨h', _⟩
  · exact ⟨c, r, by rw [e1, e], h1, h2⟩
  · omega
theorem textI_no32 (n : Int) : ∀ a ∈ textI n, a = 45 ∨ (48 ≤ a ∧ a ≤ 57) := by
  intro a ha
  rcases textI_cases n with ⟨_, e⟩ | ⟨_, e⟩
  · rw [e] at ha; exact .inr (digitsN_mem ha)
  · rw [e] at ha
    rcases List.mem_cons.mp ha with h | h
    · exact .inl h
    · exact .inr (digitsN_mem h)
theorem partsT_mem {n : Int} {ps : List (List Nat)} {w : List Nat} (h : w ∈ partsT n ps) : w = textI n ∨ (w ∈ ps ∧ w ≠ []) := by
  unfold partsT at h
  have hf : ∀ w, w ∈ ps.filter (fun x => !x.isEmpty) → w ∈ ps ∧ w ≠ [] := by
    intro w hw
    have := List.mem_filter.mp hw
    exact ⟨this.1, by intro e; subst e; simp at this⟩
  split at h
  · exact .inr (hf w h)
  · rcases List.mem_cons.mp h with h | h
    · exact .inl h
    · exact .inr (hf w h)
theorem partsT_hd {n : Int} {ps : List (List Nat)} (hn : 0 < n) (hp : ∀ p ∈ ps, p ≠ [] → ∃ c r, p = c :: r ∧ 65 ≤ c ∧ (∀ a ∈ p, a ≠ 32)) {w : List Nat} (h : w ∈ partsT n ps) : (∃ c r, w = c :: r ∧ 49 ≤ c) ∧ ∀ a ∈ w, a ≠ 32 := by
  rcases partsT_mem h with rfl | ⟨h1, h2⟩
  · obtain ⟨c, r, e, h1, _⟩ := textI_pos hn
    exact ⟨⟨c, r, e, h1⟩, fun a ha => by have := textI_no32 _ a ha; omega⟩
  · obtain ⟨c, r, e, h3, h4⟩ := hp w h1 h2
    exact ⟨⟨c, r, e, by omega⟩, h4⟩
theorem termT_hd {n : Int} {ps : List (List Nat)} (hn : 0 < n) (hp : ∀ p ∈ ps, p ≠ [] → ∃ c r, p = c :: r ∧ 65 ≤ c ∧ (∀ a ∈ p, a ≠ 32)) : ∃ c r, termT n ps = c :: r ∧ 49 ≤ c := by
  unfold termT
  cases hq : partsT n ps with
  | nil => exact absurd hq (partsT_ne _ _)
  | cons w r =>
    obtain ⟨⟨c, s, e, h1⟩, _⟩ := partsT_hd hn hp (w := w) (by rw [hq]; exact List.mem_cons_self)
    obtain ⟨z, hz⟩ := joinL_hd (s := [32]) (r := r) e
    exact ⟨c, z, hz, h1⟩
theorem fold_sum : ∀ (ts : List (Int × List (List Nat))) (f : List Nat), f ≠ [] → ts.foldl addT f = f ++ ts.flatMap fun t => sepT t.1 ++ termT (ab t.1) t.2
  | [], f, _ => by simp
  | t :: r, f, h => by
    have e : addT f t = f ++ (sepT t.1 ++ termT (ab t.1) t.2) := by unfold addT; rw [if_neg h]
    rw [List.foldl_cons, e, fold_sum r _ (by simp [h])]
    simp [List.append_assoc]
theorem sumT_cons {t : Int × List (List Nat)} {r : List (Int × List (List Nat))} (h : Hd (t :: r)) : sumT (t :: r) = sgnT t.1 ++ joinL [32] (partsT (ab t.1) t.2 ++ tailW r) := by
  obtain ⟨c, s, e, _⟩ := termT_hd (ab_pos (h.z t List.mem_cons_self)) (h.p t List.mem_cons_self)
  have e1 : addT [] t = sgnT t.1 ++ termT (ab t.1) t.2 := by unfold addT; rw [if_pos rfl]
  rw [sumT, if_neg (by simp), List.foldl_cons, e1, fold_sum r _ (by rw [e]; simp), join_tail r _ (partsT_ne _ _)]
  simp [termT, List.append_assoc]
theorem sum_read {t : Int × List (List Nat)} {r : List (Int × List (List Nat))} (h : Hd (t :: r)) : sumT (t :: r) ≠ [48] ∧ signOf (sumT (t :: r)) = (if t.1 < 0 then -1 else 1) ∧ splitC 32 [] (restOf (sumT (t :: r))) = partsT (ab t.1) t.2 ++ tailW r := by
  have hj : ∃ c z, joinL [32] (partsT (ab t.1) t.2 ++ tailW r) = c :: z ∧ 49 ≤ c := by
    cases hq : partsT (ab t.1) t.2 with
    | nil => exact absurd hq (partsT_ne _ _)
    | cons w s =>
      obtain ⟨⟨c, s', e, h1⟩, _⟩ := partsT_hd (ab_pos (h.z t List.mem_cons_self)) (h.p t List.mem_cons_self) (w := w) (by rw [hq]; exact List.mem_cons_self)
      obtain ⟨z, hz⟩ := joinL_hd (s := [32]) (r := s ++ tailW r) e
      exact ⟨c, z, hz, h1⟩
  have hsp : splitC 32 [] (joinL [32] (partsT (ab t.1) t.2 ++ tailW r)) = partsT (ab t.1) t.2 ++ tailW r := by
    apply split_join
    · simp [partsT_ne]
    · intro w hw a ha
      rcases List.mem_append.mp hw with hw | hw
      · exact (partsT_hd (ab_pos (h.z t List.mem_cons_self)) (h.p t List.mem_cons_self) hw).2 a ha
      · unfold tailW at hw
        obtain ⟨u, hu, hw⟩ := List.mem_flatMap.mp hw
        rcases List.mem_cons.mp hw with rfl | hw
        · unfold sepW at ha
          split at ha <;> simp at ha <;> omega
        · exact (partsT_hd (ab_pos (h.z u (List.mem_cons_of_mem _ hu))) (h.p u (List.mem_cons_of_mem _ hu)) hw).2 a ha
  obtain ⟨c, z, hcz, hc⟩ := hj
  rw [sumT_cons h]
  by_cases hn : t.1 < 0
  · simp only [sgnT, if_pos hn, hcz, signOf, restOf, List.cons_append, List.nil_append, List.take_succ_cons, List.take_zero, if_true, List.drop_succ_cons, List.drop_zero]
    refine ⟨by simp, trivial, ?_⟩
    rw [← hcz]; exact hsp
  · have hc45 : ¬ c = 45 := by omega
    simp only [sgnT, if_neg hn, hcz, signOf, restOf, List.nil_append, List.take_succ_cons, List.take_zero, List.cons.injEq, hc45, false_and, if_false]
    refine ⟨by simp; omega, trivial, ?_⟩
    rw [← hcz]; exact hsp
/-! powers read -/
def psOf (ls : List Nat) (es : List Int) : List (List Nat) := List.zipWith (fun l e => powT [l] e) ls es
theorem exO_no {l l' : Nat} {r : List Nat} (h : l' ≠ l) : exO (l' :: r) l = none := by
  unfold exO
  rw [if_neg (by simp [h]), if_neg]
  intro e
  cases r with
  | nil => simp at e
  | cons a b => simp [h] at e
theorem exL_no {l l' : Nat} {r : List Nat} (h : l' ≠ l) : exL (l' :: r) l = none := by
  unfold exL
  rw [if_neg (by simp [h]), if_neg]
  intro e
  cases r with
  | nil => simp at e
  | cons a b => simp [h] at e
theorem powT_cases (l : Nat) (e : Int) : (e = 0 ∧ powT [l] e = []) ∨ (e = 1 ∧ powT [l] e = [l]) ∨ (e ≠ 0 ∧ e ≠ 1 ∧ powT [l] e = l :: 94 :: textI e) := by
  unfold powT
  by_cases a : e = 0
  · simp [a]
  · by_cases b : e = 1
    · simp [b]
    · simp [a, b]
theorem exO_pow {l : Nat} {e : Int} (h : e ≠ 0) (ht : (textI e).length ≤ 40) : exO (powT [l] e) l = some e := by
  rcases powT_cases l e with ⟨h1, _⟩ | ⟨h1, e1⟩ | ⟨h1, h2, e1⟩
  · exact absurd h1 h
  · rw [e1, h1]; simp [exO]
  · rw [e1]
    unfold exO
    rw [if_neg (by simp), if_pos (by simp)]
    simp only [List.drop_succ_cons, List.drop_zero, rdI_text ht, h1, h2, or_self, if_false]
theorem exL_pow {l : Nat} {e : Int} (h : e ≠ 0) (ht : (textI e).length ≤ 40) : exL (powT [l] e) l = some e := by
  rcases powT_cases l e with ⟨h1, _⟩ | ⟨h1, e1⟩ | ⟨h1, h2, e1⟩
  · exact absurd h1 h
  · rw [e1, h1]; simp [exL]
  · rw [e1]
    unfold exL
    rw [if_neg (by simp), if_pos (by simp)]
    simp only [List.drop_succ_cons, List.drop_zero, rdI_text ht]
theorem powT_hd (l : Nat) (e : Int) (h : powT [l] e ≠ []) : ∃ r, powT [l] e = l :: r := by
  rcases powT_cases l e with ⟨_, e1⟩ | ⟨_, e1⟩ | ⟨_, _, e1⟩
  · exact absurd e1 h
  · exact ⟨_, e1⟩
  · exact ⟨_, e1⟩
/-- the exponents of the powers of letters -/
theorem exps_read {ex : List Nat → Nat → Option Int} (hno : ∀ l l' r, l' ≠ l → ex (l' :: r) l = none) (hyes : ∀ l e, e ≠ 0 → (textI e).length ≤ 40 → ex (powT [l] e) l = some e) :
    ∀ (ls : List Nat) (es : List Int), ls.Nodup → ls.length = es.length → (∀ e ∈ es, (textI e).length ≤ 40) → expsG ex ((psOf ls es).filter fun x => !x.isEmpty) ls = (es, [])
  | [], [], _, _, _ => rfl
  | [], _ :: _, _, h, _ => by simp at h
  | _ :: _, [], _, h, _ => by simp at h
  | l :: ls, e :: es, hn, hl, ht => by
    have hn' := List.nodup_cons.mp hn
    have ih := exps_read hno hyes ls es hn'.2 (by simpa using hl) fun e he => ht e (List.mem_cons_of_mem _ he)
    have hps : psOf (l :: ls) (e :: es) = powT [l] e :: psOf ls es := rfl
    rw [hps]
    by_cases h0 : e = 0
    · have : powT [l] e = [] := by rcases powT_cases l e with ⟨_, e1⟩ | ⟨h1, _⟩ | ⟨h1, _, _⟩; exact e1; omega; exact absurd h0 h1
      rw [this, List.filter_cons]
      simp only [List.isEmpty_nil, Bool.not_true, Bool.false_eq_true, if_false]
      cases hq : (psOf ls es).filter (fun x => !x.isEmpty) with
      | nil =>
        rw [hq] at ih
        simp only [expsG, ih, h0]
      | cons w r =>
        rw [hq] at ih
        have hw : w ∈ (psOf ls es).filter (fun x => !x.isEmpty) := by rw [hq]; exact List.mem_cons_self
        have hw1 := List.mem_filter.mp hw
        have hex : ∃ l' r', w = l' :: r' ∧ l' ∈ ls := by
          have : ∀ (ls : List Nat) (es : List Int), w ∈ psOf ls es → w ≠ [] → ∃ l' r', w = l' :: r' ∧ l' ∈ ls := by
            intro ls
            induction ls with
            | nil => intro es h; simp [psOf] at h
            | cons a b ih =>
              intro es h hne
              cases es with
              | nil => simp [psOf] at h
              | cons x y =>
                have : psOf (a :: b) (x :: y) = powT [a] x :: psOf b y := rfl
                rw [this] at h
                rcases List.mem_cons.mp h with h | h
                · rw [h] at hne
                  obtain ⟨r', hr⟩ := powT_hd a x hne
                  exact ⟨a, r', by rw [h, hr], List.mem_cons_self⟩
                · obtain ⟨l', r', h1, h2⟩ := ih y h hne
                  exact ⟨l', r', h1, List.mem_cons_of_mem _ h2⟩
          exact this ls es hw1.1 (by intro e; rw [e] at hw1; simp at hw1)
        obtain ⟨l', r', e1, hm⟩ := hex
        have hne : l' ≠ l := fun e => hn'.1 (by rw [← e]; exact hm)
        simp only [expsG, e1, hno l l' r' hne]
        rw [← e1, ih, h0]
    · obtain ⟨r', hr⟩ := powT_hd l e (by rcases powT_cases l e with ⟨h1, _⟩ | ⟨_, e1⟩ | ⟨_, _, e1⟩; exact absurd h1 h0; rw [e1]; simp; rw [e1]; simp)
      have hne : (powT [l] e).isEmpty = false := by rw [hr]; rfl
      rw [List.filter_cons]
      simp only [hne, Bool.not_false, if_true]
      rw [show expsG ex (powT [l] e :: (psOf ls es).filter (fun x => !x.isEmpty)) (l :: ls) = (e :: (expsG ex ((psOf ls es).filter fun x => !x.isEmpty) ls).1, (expsG ex ((psOf ls es).filter fun x => !x.isEmpty) ls).2) from by
        simp only [expsG, hyes l e h0 (ht e List.mem_cons_self)], ih]
/-- a term read by the law -/
def numL (ws : List (List Nat)) : Option (Int × List (List Nat)) := match ws with
  | [] => none
  | w :: r => match rdI w with
    | some n => some (n, r)
    | none => some (1, w :: r)
def termL (ws : List (List Nat)) (ls : List Nat) : Option (Int × List Int) := match numL ws with
  | none => none
  | some (n, r) => if (expsG exL r ls).2 = [] then some (n, (expsG exL r ls).1) else none
theorem num_read {n : Int} {ps : List (List Nat)} (hn : 0 < n) (ht : (textI n).length ≤ 40) (hp : ∀ p ∈ ps, p ≠ [] → ∃ c r, p = c :: r ∧ 65 ≤ c ∧ (∀ a ∈ p, a ≠ 32)) :
    numOf (partsT n ps) = some (n, ps.filter fun x => !x.isEmpty) ∧ numL (partsT n ps) = some (n, ps.filter fun x => !x.isEmpty) := by
  unfold partsT
  by_cases h : n = 1 ∧ ps.filter (fun x => !x.isEmpty) ≠ []
  · rw [if_pos h]
    cases hq : ps.filter (fun x => !x.isEmpty) with
    | nil => exact absurd hq h.2
    | cons w r =>
      have hw : w ∈ ps.filter (fun x => !x.isEmpty) := by rw [hq]; exact List.mem_cons_self
      have hw1 := List.mem_filter.mp hw
      obtain ⟨c, s, e, hc, _⟩ := hp w hw1.1 (by intro e; rw [e] at hw1; simp at hw1)
      have hr : rdI w = none := rdI_head e (by omega) (by
        rw [← Bool.not_eq_true, isDg_iff]; omega)
      simp only [numOf, numL, hr, h.1, and_self]
  · rw [if_neg h]
    have hr := rdI_text ht
    have h1 : ¬ (n < 1 ∨ (n = 1 ∧ ps.filter (fun x => !x.isEmpty) ≠ [])) := by
      rintro (h' | h')
      · omega
      · exact h h'
    simp only [numOf, numL, hr, if_neg h1, and_self]
theorem psOf_hd {ls : List Nat} {es : List Int} (hls : ∀ l ∈ ls, 65 ≤ l) : ∀ p ∈ psOf ls es, p ≠ [] → ∃ c r, p = c :: r ∧ 65 ≤ c ∧ (∀ a ∈ p, a ≠ 32) := by
  intro p hp hne
  induction ls generalizing es with
  | nil => simp [psOf] at hp
  | cons l ls ih =>
    cases es with
    | nil => simp [psOf] at hp
    | cons e es =>
      have : psOf (l :: ls) (e :: es) = powT [l] e :: psOf ls es := rfl
      rw [this] at hp
      rcases List.mem_cons.mp hp with rfl | hp
      · have hl := hls l List.mem_cons_self
        rcases powT_cases l e with ⟨_, e1⟩ | ⟨_, e1⟩ | ⟨_, _, e1⟩
        · exact absurd e1 hne
        · rw [e1]; exact ⟨l, [], rfl, hl, by simp; omega⟩
        · rw [e1]
          refine ⟨l, _, rfl, hl, ?_⟩
          intro a ha
          simp only [List.mem_cons] at ha
          rcases ha with rfl | rfl | ha
          · omega
          · omega
          · have := textI_no32 _ a ha; omega
      · exact ih (fun l hl => hls l (List.mem_cons_of_mem _ hl)) hp
/-- a term that is read -/
structure OkR (ls : List Nat) (t : Int × List Int) : Prop where
  z : t.1 ≠ 0
  n : (textI (ab t.1)).length ≤ 40
  l : ls.length = t.2.length
  e : ∀ e ∈ t.2, (textI e).length ≤ 40
theorem term_read {ls : List Nat} (hn : ls.Nodup) (hls : ∀ l ∈ ls, 65 ≤ l) {t : Int × List Int} (h : OkR ls t) : termOf (partsT (ab t.1) (psOf ls t.2)) ls = some (ab t.1, t.2) ∧ termL (partsT (ab t.1) (psOf ls t.2)) ls = some (ab t.1, t.2) := by
  obtain ⟨h1, h2⟩ := num_read (ab_pos h.z) h.n (psOf_hd hls (es := t.2))
  have e1 := exps_read (ex := exO) (fun l l' r h => exO_no h) (fun l e h h' => exO_pow h h') ls t.2 hn h.l h.e
  have e2 := exps_read (ex := exL) (fun l l' r h => exL_no h) (fun l e h h' => exL_pow h h') ls t.2 hn h.l h.e
  simp only [termOf, termL, h1, h2, e1, e2, if_true, and_self]
/-- words that are no marks are kept -/
theorem goG_words (tm : List (List Nat) → Option (Int × List Int)) : ∀ (P : List (List Nat)) (s : Int) (acc R : List (List Nat)) (F : List (Int × List Int)), (∀ w ∈ P, w ≠ [43] ∧ w ≠ [45]) → goG tm s acc (P ++ R) F = goG tm s (acc ++ P) R F
  | [], s, acc, R, F, _ => by simp
  | w :: P, s, acc, R, F, h => by
    have hw := h w List.mem_cons_self
    have ih := goG_words tm P s (acc ++ [w]) R F fun w hw => h w (List.mem_cons_of_mem _ hw)
    rw [List.cons_append]
    simp only [goG, hw.1, hw.2, or_self, if_false]
    rw [ih, List.append_assoc]
    rfl
theorem parts_nomark {n : Int} {ps : List (List Nat)} (hn : 0 < n) (hp : ∀ p ∈ ps, p ≠ [] → ∃ c r, p = c :: r ∧ 65 ≤ c ∧ (∀ a ∈ p, a ≠ 32)) : ∀ w ∈ partsT n ps, w ≠ [43] ∧ w ≠ [45] := by
  intro w hw
  obtain ⟨⟨c, r, e, h⟩, _⟩ := partsT_hd hn hp hw
  rw [e]
  constructor <;> (intro h'; cases h'; omega)
theorem go_read {ls : List Nat} {tm : List (List Nat) → Option (Int × List Int)} (hls : ∀ l ∈ ls, 65 ≤ l) : ∀ (T : List (Int × List Int)) (t : Int × List Int) (F : List (Int × List Int)), (∀ u ∈ t :: T, u.1 ≠ 0 ∧ tm (partsT (ab u.1) (psOf ls u.2)) = some (ab u.1, u.2)) →
    goG tm (if t.1 < 0 then -1 else 1) [] ((partsT (ab t.1) (psOf ls t.2) ++ tailW (T.map fun u => (u.1, psOf ls u.2))) ++ [[43]]) F = some (F ++ t :: T)
  | [], t, F, h => by
    obtain ⟨hz, ht⟩ := h t List.mem_cons_self
    rw [List.append_assoc, goG_words tm _ _ _ _ _ (parts_nomark (ab_pos hz) (psOf_hd hls))]
    simp only [List.map_nil, tailW, List.flatMap_nil, List.nil_append, goG, true_or, if_true, ht]
    have : (if t.1 < 0 then -1 else 1) * ab t.1 = t.1 := by unfold ab; split <;> omega
    rw [this]
  | u :: T, t, F, h => by
    obtain ⟨hz, ht⟩ := h t List.mem_cons_self
    have ih := go_read hls T u (F ++ [t]) fun v hv => h v (List.mem_cons_of_mem _ hv)
    rw [List.append_assoc, goG_words tm _ _ _ _ _ (parts_nomark (ab_pos hz) (psOf_hd hls))]
    have e1 : tailW (List.map (fun u => (u.1, psOf ls u.2)) (u :: T)) = sepW u.1 :: (partsT (ab u.1) (psOf ls u.2) ++ tailW (T.map fun u => (u.1, psOf ls u.2))) := by simp [tailW]
    have e2 : sepW u.1 = [43] ∨ sepW u.1 = [45] := by unfold sepW; split <;> simp
    have e3 : (if sepW u.1 = [43] then (1 : Int) else -1) = (if u.1 < 0 then -1 else 1) := by
      unfold sepW
      by_cases hu : u.1 < 0 <;> simp [hu]
    have e4 : (if t.1 < 0 then -1 else 1) * ab t.1 = t.1 := by unfold ab; split <;> omega
    rw [e1, List.cons_append]
    simp only [List.nil_append, goG, if_pos e2, ht, e3, e4]
    rw [ih]
    simp
/-- a text that a sum has is read as its terms -/
theorem terms_read {ls : List Nat} (hn : ls.Nodup) (hls : ∀ l ∈ ls, 65 ≤ l) {T : List (Int × List Int)} (h : ∀ t ∈ T, OkR ls t) : termsG (fun ws => termOf ws ls) (sumT (T.map fun u => (u.1, psOf ls u.2))) = some T ∧ termsG (fun ws => termL ws ls) (sumT (T.map fun u => (u.1, psOf ls u.2))) = some T := by
  cases T with
  | nil => exact ⟨rfl, rfl⟩
  | cons t T =>
    have hhd : Hd (((t :: T).map fun u => (u.1, psOf ls u.2))) := by
      constructor
      · intro x hx
        obtain ⟨u, hu, rfl⟩ := List.mem_map.mp hx
        exact (h u hu).z
      · intro x hx
        obtain ⟨u, hu, rfl⟩ := List.mem_map.mp hx
        exact psOf_hd hls
    rw [List.map_cons] at hhd ⊢
    obtain ⟨h1, h2, h3⟩ := sum_read hhd
    unfold termsG
    rw [if_neg h1, if_neg h1, h2, h3]
    exact ⟨go_read hls T t [] fun u hu => ⟨(h u hu).z, (term_read hn hls (h u hu)).1⟩, go_read hls T t [] fun u hu => ⟨(h u hu).z, (term_read hn hls (h u hu)).2⟩⟩
end K54

end

section
set_option linter.all false
set_option maxRecDepth 100000
set_option linter.all false
set_option maxRecDepth 100000
namespace K54
open Pv Pw
/-! numbers small enough -/
theorem sm_of {i : Int} (h : i.natAbs < 10 ^ 40) : Sm i := ⟨log_small (Nat.lt_of_lt_of_le h (by decide)), Nat.le_trans (textI_len (k := 40) (by omega) h) (by omega)⟩
theorem ab_natAbs (i : Int) : (ab i).natAbs = i.natAbs := ab_nat i
theorem sm_ab {i : Int} (h : i.natAbs < 10 ^ 40) : Sm (ab i) := sm_of (by rw [ab_nat]; exact h)
theorem ab_len {i : Int} (h : i.natAbs < 10 ^ 40) : (textI (ab i)).length ≤ 40 := textI_len0 (by unfold ab; split <;> omega) (by omega) (by rw [ab_nat]; exact h)
theorem e30_len {e : Int} (h : -1000 ≤ e ∧ e ≤ 1000) : (textI e).length ≤ 40 := Nat.le_trans (textI_len (k := 4) (by omega) (by omega)) (by omega)
theorem e30_sm {e : Int} (h : -1000 ≤ e ∧ e ≤ 1000) : Sm e := sm_of (Nat.lt_of_lt_of_le (m := 10 ^ 4) (by omega) (Nat.pow_le_pow_right (by omega) (by omega)))
/-- bounds -/
structure Bd (a : Int) (ns : List Int) : Prop where
  lo : ns ≠ [] → -30 ≤ a ∧ a + ns.length ≤ 31
  z : ns = [] → a = 0
  n : ∀ n ∈ ns, n.natAbs < 10 ^ 40
theorem bd_len {a : Int} {ns : List Int} (h : Bd a ns) : ns.length ≤ 61 := by
  by_cases e : ns = []
  · simp [e]
  · have := h.lo e; omega
theorem bd_ok {l : Nat} {a : Int} {ns : List Int} (h : Bd a ns) : OkP [l] a ns := by
  refine ⟨by simp, Nat.le_trans (bd_len h) (by omega), fun n hn => sm_ab (h.n n hn), fun k hk => ?_⟩
  have : ns ≠ [] := by intro e; subst e; simp at hk
  have := h.lo this
  exact e30_sm (by omega)
theorem termsL_ent (l : Nat) : ∀ (ns : List Int) (a : Int), termsL [l] a ns = (ent a ns).map fun p => (p.2, psOf [l] [p.1])
  | [], a => rfl
  | x :: r, a => by
    have ih := termsL_ent l r (a + 1)
    simp only [termsL, ent]
    split
    · exact ih
    · rw [List.map_cons, ih]; rfl
/-- the text of a polynomial -/
def oneT (l : Nat) (a : Int) (ns : List Int) : List Nat := sumT (termsL [l] a ns)
theorem one_read {l : Nat} (hl : 65 ≤ l) {a : Int} {ns : List Int} (h : Bd a ns) : termsG (fun ws => termOf ws [l]) (oneT l a ns) = some ((ent a ns).map fun p => (p.2, [p.1])) ∧ termsG (fun ws => termL ws [l]) (oneT l a ns) = some ((ent a ns).map fun p => (p.2, [p.1])) := by
  have := terms_read (ls := [l]) (by simp) (by simpa using hl) (T := (ent a ns).map fun p => (p.2, [p.1])) (by
    intro t ht
    obtain ⟨p, hp, rfl⟩ := List.mem_map.mp ht
    have hk := ent_key ns a p hp
    have hne : ns ≠ [] := by intro e; subst e; simp [ent] at hp
    have := h.lo hne
    exact ⟨hk.2.2.1, ab_len (h.n _ hk.2.2.2), rfl, by simp; exact e30_len (by omega)⟩)
  rw [List.map_map] at this
  unfold oneT
  rw [termsL_ent]
  exact this
/-! two letters -/
structure Bd2 (q : List (Int × Int × Int)) : Prop where
  l : q.length ≤ 100
  e : ∀ t ∈ q, (-1000 ≤ t.1 ∧ t.1 ≤ 1000) ∧ (-1000 ≤ t.2.1 ∧ t.2.1 ≤ 1000)
  n : ∀ t ∈ q, t.2.2.natAbs < 10 ^ 40
def terms2 (q : List (Int × Int × Int)) : List (Int × List (List Nat)) := q.map fun t => (t.2.2, psOf [118, 122] [t.1, t.2.1])
def twoT (q : List (Int × Int × Int)) : List Nat := sumT (terms2 q)
theorem psOf2 (a b : Int) : psOf [118, 122] [a, b] = [powT [118] a, powT [122] b] := rfl
theorem terms2_ok {q : List (Int × Int × Int)} (h : Bd2 q) : ∀ t ∈ terms2 q, OkT t := by
  intro t ht
  obtain ⟨u, hu, rfl⟩ := List.mem_map.mp ht
  have hn := h.n u hu
  have he := h.e u hu
  have s := sm_of hn
  refine ⟨s.l, Nat.le_trans (ab_len hn) (by omega), by simp [psOf2], ?_⟩
  intro p hp
  rw [psOf2] at hp
  simp only [List.mem_cons, List.not_mem_nil, or_false] at hp
  rcases hp with rfl | rfl
  · exact powT_len (by simp) (e30_sm he.1)
  · exact powT_len (by simp) (e30_sm he.2)
theorem two_read {q : List (Int × Int × Int)} (h : Bd2 q) (hz : ∀ t ∈ q, t.2.2 ≠ 0) : termsG (fun ws => termOf ws [118, 122]) (twoT q) = some (q.map fun t => (t.2.2, [t.1, t.2.1])) ∧ termsG (fun ws => termL ws [118, 122]) (twoT q) = some (q.map fun t => (t.2.2, [t.1, t.2.1])) := by
  have := terms_read (ls := [118, 122]) (by simp) (by simp) (T := q.map fun t => (t.2.2, [t.1, t.2.1])) (by
    intro t ht
    obtain ⟨u, hu, rfl⟩ := List.mem_map.mp ht
    exact ⟨hz u hu, ab_len (h.n u hu), rfl, by simp; exact ⟨e30_len (h.e u hu).1, e30_len (h.e u hu).2⟩⟩)
  rw [List.map_map] at this
  exact this
theorem eachG3 {g1 g2 g3 : GV} {a b c : Int} {e e1 e2 e3' : En} {S : Store} (h1 : g1 (.d (.int a)) e S = .ok e1 S) (h2 : g2 (.d (.int b)) e1 S = .ok e2 S) (h3 : g3 (.d (.int c)) e2 S = .ok e3' S) : tupG [g1, g2, g3] (.d (e3 (a, b, c))) e S = .ok e3' S := by
  simp only [tupG, e3, List.length_cons, List.length_nil, List.map_cons, List.map_nil, eachG, h1, h2, h3, R.bind]
  rfl
theorem format_two_ok {q : List (Int × Int × Int)} (h : Bd2 q) : format_two_ [.tup (q.map e3)] = .ok (.str (twoT q)) := by
  have hc := compL_pure (g := tupG [(nameG 1), (nameG 2), (nameG 3)]) (t := yesT) (el := tupE [(varE 3), (frzE (lstF [(callP _power_text_ [(conE (.str [118])), (varE 1)]), (callP _power_text_ [(conE (.str [122])), (varE 2)])]))]) (e := [some (.d (.tup (q.map e3))), none, none, none]) (S := [])
      (fun _ => true) (fun w => match w with | .d (.tup [.int a, .int b, .int n]) => .d (dT (n, psOf [118, 122] [a, b])) | w => w) (q.map (W.d ∘ e3)) [] (by
        intro w hw
        obtain ⟨t, ht, rfl⟩ := List.mem_map.mp hw
        have he := h.e t ht
        have s1 := e30_sm he.1
        have s2 := e30_sm he.2
        have p1 : _power_text_ [.str [118], .int t.1] = .ok (.str (powT [118] t.1)) := power_text [118] t.1 s1.l (by simp) (by have := s1.t; omega)
        have p2 : _power_text_ [.str [122], .int t.2.1] = .ok (.str (powT [122] t.2.1)) := power_text [122] t.2.1 s2.l (by simp) (by have := s2.t; omega)
        refine ⟨[some (.d (.tup (q.map e3))), some (.d (.int t.1)), some (.d (.int t.2.1)), some (.d (.int t.2.2))], eachG3 rfl rfl rfl, rfl, fun _ => ?_⟩
        simp (disch := omega) [small_iff, smallN_iff, sm1, sm0, succ0, atL0, atL1, atLn, cutT1, cutT2, cutD1, cutD2, cutT, cutD, cutTD, runP, runI, startV, seqS, asgS, ifS, t2, t1, andT, orT, notT, truT, varE, conE, getV, setV, nameG, eqF, neF, eqW, R.bind, R.so, retS, nxS, frzE, newE, lstF, argsF, unWs, unW, snap, op2, op1, addF, subF, mulF, ixF, callB, callF, arg1, strF, valE, intF, dataL, ifE, notNF, isNF, isNon, lenF, absF, callP, callI, snaps, anyRef, tupOnly, List.replicate, ltF, gtF, geF, leF, cmpF, slE, bndE, methE, methF, kindW, dropS, tupE, listG, itemsS, truW, joinG, textsOf, negF, p1, p2, dT, psOf2, e3]) (by have := h.l; simp; omega)
  rw [List.filter_eq_self.mpr (fun _ _ => rfl), List.map_map, List.nil_append] at hc
  have hm : (List.map ((fun w => match w with | .d (.tup [.int a, .int b, .int n]) => W.d (dT (n, psOf [118, 122] [a, b])) | w => w) ∘ W.d ∘ e3) q) = (terms2 q).map (W.d ∘ dT) := by
    unfold terms2; rw [List.map_map]; rfl
  rw [hm] at hc
  have hx : frzE (compN [1, 2, 3] 0 (seqI (varE 0)) (tupG [(nameG 1), (nameG 2), (nameG 3)]) yesT (tupE [(varE 3), (frzE (lstF [(callP _power_text_ [(conE (.str [118])), (varE 1)]), (callP _power_text_ [(conE (.str [122])), (varE 2)])]))])) [some (.d (.tup (q.map e3))), none, none, none] [] = .ok (.d (.lst ((terms2 q).map dT))) [] := by
    refine frzE_ok (ws := (terms2 q).map (W.d ∘ dT)) ?_ (unWs_dT _)
    have : compN [1, 2, 3] 0 (seqI (varE 0)) (tupG [(nameG 1), (nameG 2), (nameG 3)]) yesT (tupE [(varE 3), (frzE (lstF [(callP _power_text_ [(conE (.str [118])), (varE 1)]), (callP _power_text_ [(conE (.str [122])), (varE 2)])]))]) [some (.d (.tup (q.map e3))), none, none, none] [] = compF [1, 2, 3] (seqI (varE 0)) (tupG [(nameG 1), (nameG 2), (nameG 3)]) yesT (tupE [(varE 3), (frzE (lstF [(callP _power_text_ [(conE (.str [118])), (varE 1)]), (callP _power_text_ [(conE (.str [122])), (varE 2)])]))]) [some (.d (.tup (q.map e3))), none, none, none] [] := rfl
    rw [this, compF_fix (ws := q.map (W.d ∘ e3)) (S' := []) (by simp [seqI, varE, getV, R.bind])]
    exact hc
  have hs := sum_text (terms2 q) (terms2_ok h) (by unfold terms2; rw [List.length_map]; exact h.l)
  have key : b_format_two [some (.d (.tup (q.map e3))), none, none, none] [] = .rt (.d (.str (twoT q))) [] := by
    unfold b_format_two
    simp only [retS, callP, argsF, hx, R.bind, snaps, snap, hs, anyRef, R.so]
    rfl
  exact runP_rt rfl key rfl
theorem powT_ne {l : List Nat} (hl : l ≠ []) (n : Int) : True := trivial
theorem law_two_ok {q : List (Int × Int × Int)} (h : Bd2 q) : _law_two_ [.tup (q.map e3)] = .ok (.str (twoT q)) := by
  have hc := compL_pure (g := tupG [(nameG 1), (nameG 2), (nameG 3)]) (t := yesT) (el := tupE [(varE 3), (op2 addF (callP _law_power_ [(conE (.str [118])), (varE 1)]) (callP _law_power_ [(conE (.str [122])), (varE 2)]))]) (e := [some (.d (.tup (q.map e3))), none, none, none]) (S := [])
      (fun _ => true) (fun w => match w with | .d (.tup [.int a, .int b, .int n]) => .d (dT (clean (n, psOf [118, 122] [a, b]))) | w => w) (q.map (W.d ∘ e3)) [] (by
        intro w hw
        obtain ⟨t, ht, rfl⟩ := List.mem_map.mp hw
        have he := h.e t ht
        have s1 := e30_sm he.1
        have s2 := e30_sm he.2
        have p1 := law_pow (l := [118]) (n := t.1) (by simp) (by simp) s1
        have p2 := law_pow (l := [122]) (n := t.2.1) (by simp) (by simp) s2
        refine ⟨[some (.d (.tup (q.map e3))), some (.d (.int t.1)), some (.d (.int t.2.1)), some (.d (.int t.2.2))], eachG3 rfl rfl rfl, rfl, fun _ => ?_⟩
        have l1 : ([powT [118] t.1].filter fun x => !x.isEmpty).length ≤ 1 := List.length_filter_le _ _
        have l2 : ([powT [122] t.2.1].filter fun x => !x.isEmpty).length ≤ 1 := List.length_filter_le _ _
        have e1 : (psOf [118, 122] [t.1, t.2.1]).filter (fun x => !x.isEmpty) = [powT [118] t.1].filter (fun x => !x.isEmpty) ++ [powT [122] t.2.1].filter (fun x => !x.isEmpty) := by
          rw [psOf2, show [powT [118] t.1, powT [122] t.2.1] = [powT [118] t.1] ++ [powT [122] t.2.1] from rfl, List.filter_append]
        simp only [Function.comp, e3, dT, clean, e1, List.map_append]
        generalize [powT [118] t.1].filter (fun x => !x.isEmpty) = x1 at *
        generalize [powT [122] t.2.1].filter (fun x => !x.isEmpty) = x2 at *
        have hsm : smallN ((x1.map D.str).length + (x2.map D.str).length) = true := smallN_iff (by simp; omega)
        simp only [tupE, argsF, varE, getV, R.bind, op2, callP, conE, snaps, snap, p1, p2, anyRef, addF, dataL, hsm, unWs, if_true]
        simp [dataL, addF, hsm, unWs, smallN_iff]
        simp (disch := omega) [small_iff, smallN_iff, sm1, sm0, succ0, atL0, atL1, atLn, cutT1, cutT2, cutD1, cutD2, cutT, cutD, cutTD, runP, runI, startV, seqS, asgS, ifS, t2, t1, andT, orT, notT, truT, varE, conE, getV, setV, nameG, eqF, neF, eqW, R.bind, R.so, retS, nxS, frzE, newE, lstF, argsF, unWs, unW, snap, op2, op1, addF, subF, mulF, ixF, callB, callF, arg1, strF, valE, intF, dataL, ifE, notNF, isNF, isNon, lenF, absF, callP, callI, snaps, anyRef, tupOnly, List.replicate, ltF, gtF, geF, leF, cmpF, slE, bndE, methE, methF, kindW, dropS, tupE, listG, itemsS, truW, joinG, textsOf, negF, dataL, addF, hsm, unWs]) (by have := h.l; simp; omega)
  rw [List.filter_eq_self.mpr (fun _ _ => rfl), List.map_map, List.nil_append] at hc
  have hm : (List.map ((fun w => match w with | .d (.tup [.int a, .int b, .int n]) => W.d (dT (clean (n, psOf [118, 122] [a, b]))) | w => w) ∘ W.d ∘ e3) q) = ((terms2 q).map clean).map (W.d ∘ dT) := by
    unfold terms2; rw [List.map_map, List.map_map]; rfl
  rw [hm] at hc
  have hx : frzE (compN [1, 2, 3] 0 (seqI (varE 0)) (tupG [(nameG 1), (nameG 2), (nameG 3)]) yesT (tupE [(varE 3), (op2 addF (callP _law_power_ [(conE (.str [118])), (varE 1)]) (callP _law_power_ [(conE (.str [122])), (varE 2)]))])) [some (.d (.tup (q.map e3))), none, none, none] [] = .ok (.d (.lst (((terms2 q).map clean).map dT))) [] := by
    refine frzE_ok (ws := ((terms2 q).map clean).map (W.d ∘ dT)) ?_ (unWs_dT _)
    have : compN [1, 2, 3] 0 (seqI (varE 0)) (tupG [(nameG 1), (nameG 2), (nameG 3)]) yesT (tupE [(varE 3), (op2 addF (callP _law_power_ [(conE (.str [118])), (varE 1)]) (callP _law_power_ [(conE (.str [122])), (varE 2)]))]) [some (.d (.tup (q.map e3))), none, none, none] [] = compF [1, 2, 3] (seqI (varE 0)) (tupG [(nameG 1), (nameG 2), (nameG 3)]) yesT (tupE [(varE 3), (op2 addF (callP _law_power_ [(conE (.str [118])), (varE 1)]) (callP _law_power_ [(conE (.str [122])), (varE 2)]))]) [some (.d (.tup (q.map e3))), none, none, none] [] := rfl
    rw [this, compF_fix (ws := q.map (W.d ∘ e3)) (S' := []) (by simp [seqI, varE, getV, R.bind])]
    exact hc
  have hs := law_sum ((terms2 q).map clean) (fun t ht => by
      obtain ⟨t', ht', rfl⟩ := List.mem_map.mp ht
      exact clean_ok (terms2_ok h t' ht')) (by unfold terms2; rw [List.length_map, List.length_map]; exact h.l) (fun t ht p hp => by
      obtain ⟨t', ht', rfl⟩ := List.mem_map.mp ht
      have := (List.mem_filter.mp hp).2
      intro e
      subst e
      simp at this)
  rw [sumT_clean] at hs
  have key : b__law_two [some (.d (.tup (q.map e3))), none, none, none] [] = .rt (.d (.str (twoT q))) [] := by
    unfold b__law_two
    simp only [retS, callP, argsF, hx, R.bind, snaps, snap, hs, anyRef, R.so]
    rfl
  exact runP_rt rfl key rfl
end K54

end

section
set_option linter.all false
set_option maxRecDepth 100000
set_option linter.all false
set_option maxRecDepth 100000
namespace K54
open Pv Pw
/-! texts whose words have small exponents -/
def NW (w : List Nat) : Prop := ∀ i, rdI (w.drop 2) = some i → (w.drop 1).take 1 = [94] → -30 ≤ i ∧ i ≤ 30
def NV (w : List Nat) : Prop := NW w ∧ ∀ w', w = 45 :: w' → NW w'
structure NT (t : List Nat) : Prop where
  l : t.length ≤ 5000000
  c : (splitC 32 [] t).length ≤ 80
  w : ∀ w ∈ splitC 32 [] t, NV w
theorem rest_words {t : List Nat} (h : NT t) : (splitC 32 [] (restOf t)).length ≤ 80 ∧ ∀ w ∈ splitC 32 [] (restOf t), NW w := by
  unfold restOf
  by_cases e : t.take 1 = [45]
  · rw [if_pos e]
    cases t with
    | nil => simp at e
    | cons c t' =>
      have : c = 45 := by simpa using e
      subst this
      obtain ⟨w, r, h1, h2⟩ := split_cons (c := 32) (x := 45) (by decide) t'
      have hw := h.w
      have hc := h.c
      rw [h2] at hw hc
      simp only [List.drop_succ_cons, List.drop_zero]
      rw [h1]
      refine ⟨by simpa using hc, ?_⟩
      intro x hx
      rcases List.mem_cons.mp hx with rfl | hx
      · exact (hw _ List.mem_cons_self).2 _ rfl
      · exact (hw _ (List.mem_cons_of_mem _ hx)).1
  · rw [if_neg e]
    exact ⟨h.c, fun w hw => (h.w w hw).1⟩
theorem exO_bd {w : List Nat} {l : Nat} {e : Int} (h : NW w) (he : exO w l = some e) : -30 ≤ e ∧ e ≤ 30 := by
  unfold exO at he
  split at he
  · cases he; omega
  · split at he
    · rename_i h2
      have h94 : (w.drop 1).take 1 = [94] := by
        rcases w with _ | ⟨a, _ | ⟨b, r⟩⟩
        · simp at h2
        · simp at h2
        · simp at h2; simp [h2]
      split at he
      · rename_i i hi
        split at he
        · cases he
        · cases he; exact h _ hi h94
      · cases he
    · cases he
theorem exL_bd {w : List Nat} {l : Nat} {e : Int} (h : NW w) (he : exL w l = some e) : -30 ≤ e ∧ e ≤ 30 := by
  unfold exL at he
  split at he
  · cases he; omega
  · split at he
    · rename_i h2
      have h94 : (w.drop 1).take 1 = [94] := by
        rcases w with _ | ⟨a, _ | ⟨b, r⟩⟩
        · simp at h2
        · simp at h2
        · simp at h2; simp [h2]
      exact h _ he h94
    · cases he
theorem exps_bd {ex : List Nat → Nat → Option Int} (hex : ∀ w l e, NW w → ex w l = some e → -30 ≤ e ∧ e ≤ 30) : ∀ (ls : List Nat) (ws : List (List Nat)), (∀ w ∈ ws, NW w) → (expsG ex ws ls).1.length = ls.length ∧ ∀ e ∈ (expsG ex ws ls).1, -30 ≤ e ∧ e ≤ 30
  | [], ws, _ => by simp [expsG]
  | l :: ls, [], h => by
    have ih := exps_bd hex ls [] h
    simp only [expsG, List.length_cons, ih.1, List.mem_cons, true_and]
    rintro e (rfl | he)
    · omega
    · exact ih.2 e he
  | l :: ls, w :: ws, h => by
    simp only [expsG]
    cases hx : ex w l with
    | none =>
      have ih := exps_bd hex ls (w :: ws) h
      simp only [List.length_cons, ih.1, List.mem_cons, true_and]
      rintro e (rfl | he)
      · omega
      · exact ih.2 e he
    | some x =>
      have ih := exps_bd hex ls ws fun w hw => h w (List.mem_cons_of_mem _ hw)
      simp only [List.length_cons, ih.1, List.mem_cons, true_and]
      rintro e (rfl | he)
      · exact hex _ _ _ (h w List.mem_cons_self) hx
      · exact ih.2 e he
structure FB (ls : List Nat) (t : Int × List Int) : Prop where
  l : t.2.length = ls.length
  e : ∀ e ∈ t.2, -30 ≤ e ∧ e ≤ 30
  n : t.1.natAbs < 10 ^ 40
theorem termOf_bd {ws : List (List Nat)} {ls : List Nat} {t : Int × List Int} (h : ∀ w ∈ ws, NW w) (ht : termOf ws ls = some t) : FB ls t := by
  unfold termOf at ht
  cases hn : numOf ws with
  | none => rw [hn] at ht; cases ht
  | some p =>
    obtain ⟨n, r⟩ := p
    rw [hn] at ht
    simp only at ht
    have hp : n.natAbs < 10 ^ 40 ∧ ∀ w ∈ r, NW w := by
      unfold numOf at hn
      split at hn
      · cases hn
      · rename_i w s
        split at hn
        · rename_i m hm
          split at hn
          · cases hn
          · cases hn; exact ⟨rdI_bound hm, fun w hw => h w (List.mem_cons_of_mem _ hw)⟩
        · cases hn; exact ⟨by decide, h⟩
    have hb := exps_bd (ex := exO) (fun w l e => exO_bd) ls r hp.2
    split at ht
    · cases ht; exact ⟨hb.1, hb.2, hp.1⟩
    · cases ht
theorem termL_bd {ws : List (List Nat)} {ls : List Nat} {t : Int × List Int} (h : ∀ w ∈ ws, NW w) (ht : termL ws ls = some t) : FB ls t := by
  unfold termL at ht
  cases hn : numL ws with
  | none => rw [hn] at ht; cases ht
  | some p =>
    obtain ⟨n, r⟩ := p
    rw [hn] at ht
    simp only at ht
    have hp : n.natAbs < 10 ^ 40 ∧ ∀ w ∈ r, NW w := by
      unfold numL at hn
      split at hn
      · cases hn
      · rename_i w s
        split at hn
        · rename_i m hm
          cases hn; exact ⟨rdI_bound hm, fun w hw => h w (List.mem_cons_of_mem _ hw)⟩
        · cases hn; exact ⟨by decide, h⟩
    have hb := exps_bd (ex := exL) (fun w l e => exL_bd) ls r hp.2
    split at ht
    · cases ht; exact ⟨hb.1, hb.2, hp.1⟩
    · cases ht
theorem goG_bd {ls : List Nat} {tm : List (List Nat) → Option (Int × List Int)} (htm : ∀ ws t, (∀ w ∈ ws, NW w) → tm ws = some t → FB ls t) : ∀ (ws : List (List Nat)) (s : Int) (acc : List (List Nat)) (F F' : List (Int × List Int)), (s = 1 ∨ s = -1) → (∀ w ∈ ws, NW w) → (∀ w ∈ acc, NW w) → (∀ t ∈ F, FB ls t) →
    goG tm s acc ws F = some F' → F'.length ≤ F.length + ws.length ∧ ∀ t ∈ F', FB ls t
  | [], s, acc, F, F', _, _, _, hF, h => by
    simp only [goG, Option.some.injEq] at h
    subst h
    exact ⟨by simp, hF⟩
  | w :: r, s, acc, F, F', hs, hw, ha, hF, h => by
    have hr : ∀ w ∈ r, NW w := fun x hx => hw x (List.mem_cons_of_mem _ hx)
    simp only [goG] at h
    split at h
    · split at h
      · cases h
      · rename_i n es ht
        have hb := htm acc _ ha ht
        have := goG_bd htm r _ [] _ F' (by split <;> simp) hr (by simp) (by
          intro t ht
          rcases List.mem_append.mp ht with ht | ht
          · exact hF t ht
          · simp only [List.mem_singleton] at ht
            subst ht
            refine ⟨hb.l, hb.e, ?_⟩
            have := hb.n
            simp only at this ⊢
            rw [Int.natAbs_mul]
            rcases hs with rfl | rfl <;> simpa using this) h
        simp only [List.length_append, List.length_cons, List.length_nil] at this ⊢
        exact ⟨by omega, this.2⟩
    · have := goG_bd htm r s (acc ++ [w]) F F' hs hr (by
        intro x hx
        rcases List.mem_append.mp hx with hx | hx
        · exact ha x hx
        · simp only [List.mem_singleton] at hx; subst hx; exact hw _ List.mem_cons_self) hF h
      simp only [List.length_cons]
      exact ⟨by omega, this.2⟩
theorem nw_plus : NW [43] := by intro i _ h; simp at h
theorem termsG_bd {ls : List Nat} {tm : List (List Nat) → Option (Int × List Int)} (htm : ∀ ws t, (∀ w ∈ ws, NW w) → tm ws = some t → FB ls t) {t : List Nat} (ht : NT t) {F : List (Int × List Int)} (h : termsG tm t = some F) : F.length ≤ 81 ∧ ∀ u ∈ F, FB ls u := by
  unfold termsG at h
  split at h
  · cases h; simp
  · have hr := rest_words ht
    have := goG_bd htm _ _ _ _ _ (by unfold signOf; split <;> simp) (by
      intro w hw
      rcases List.mem_append.mp hw with hw | hw
      · exact hr.2 w hw
      · simp only [List.mem_singleton] at hw; subst hw; exact nw_plus) (by simp) (by simp) h
    simp only [List.length_nil, List.length_append, List.length_cons] at this
    exact ⟨by omega, this.2⟩
/-! the program's parse -/
def key1 (t : Int × List Int) : Int × Int := (t.2.headD 0, t.1)
def key2 (t : Int × List Int) : (Int × Int) × Int := ((t.2.headD 0, (t.2.drop 1).headD 0), t.1)
theorem fb1 {l : Nat} {t : Int × List Int} (h : FB [l] t) : t.2 = [t.2.headD 0] := by
  have := h.l
  rcases ht : t.2 with _ | ⟨a, _ | ⟨b, r⟩⟩
  · rw [ht] at this; simp at this
  · rfl
  · rw [ht] at this; simp at this
theorem fb2 {l m : Nat} {t : Int × List Int} (h : FB [l, m] t) : t.2 = [t.2.headD 0, (t.2.drop 1).headD 0] := by
  have := h.l
  rcases ht : t.2 with _ | ⟨a, _ | ⟨b, _ | ⟨c, r⟩⟩⟩
  · rw [ht] at this; simp at this
  · rw [ht] at this; simp at this
  · rfl
  · rw [ht] at this; simp at this
def dict1 (F : List (Int × List Int)) : List (Int × Int) := dictP (F.map key1) []
def dict2 (F : List (Int × List Int)) : List ((Int × Int) × Int) := dictP (F.map key2) []
theorem dict1_mem {l : Nat} {F : List (Int × List Int)} (h : ∀ u ∈ F, FB [l] u) : ∀ p ∈ dict1 F, (-30 ≤ p.1 ∧ p.1 ≤ 30) ∧ p.2.natAbs < 10 ^ 40 := by
  intro p hp
  rcases dictP_mem _ _ hp with hp | hp
  · simp at hp
  · obtain ⟨t, ht, rfl⟩ := List.mem_map.mp hp
    have hb := h t ht
    have e := fb1 hb
    refine ⟨hb.e _ (by rw [e]; simp [key1]), hb.n⟩
theorem dict2_mem {l m : Nat} {F : List (Int × List Int)} (h : ∀ u ∈ F, FB [l, m] u) : ∀ p ∈ dict2 F, ((-30 ≤ p.1.1 ∧ p.1.1 ≤ 30) ∧ (-30 ≤ p.1.2 ∧ p.1.2 ≤ 30)) ∧ p.2.natAbs < 10 ^ 40 := by
  intro p hp
  rcases dictP_mem _ _ hp with hp | hp
  · simp at hp
  · obtain ⟨t, ht, rfl⟩ := List.mem_map.mp hp
    have hb := h t ht
    have e := fb2 hb
    refine ⟨⟨hb.e _ (by rw [e]; simp [key2]), hb.e _ (by rw [e]; simp [key2])⟩, hb.n⟩
theorem dict1_len (F : List (Int × List Int)) : (dict1 F).length ≤ F.length := by
  have := dictP_len (F.map key1) []
  rw [List.length_map] at this
  exact Nat.le_trans this (by simp)
theorem dict2_len (F : List (Int × List Int)) : (dict2 F).length ≤ F.length := by
  have := dictP_len (F.map key2) []
  rw [List.length_map] at this
  exact Nat.le_trans this (by simp)
theorem poly_bd {l : Nat} {F : List (Int × List Int)} (h : ∀ u ∈ F, FB [l] u) {b : Int} {ms : List Int} (hp : PolyOf (dict1 F) b ms) : Bd b ms := by
  have hm := dict1_mem h
  refine ⟨fun hne => ?_, hp.n.z, fun n hn => ?_⟩
  · have := hp.k hne (-30) 30 fun p hp => (hm p hp).1
    omega
  · rcases hp.m n hn with rfl | ⟨k, hk⟩
    · decide
    · exact (hm _ hk).2
theorem tw_bd {F : List (Int × List Int)} (h : ∀ u ∈ F, FB [118, 122] u) (hl : F.length ≤ 81) : Bd2 (tw (dict2 F)) := by
  have hm := dict2_mem h
  refine ⟨?_, fun t ht => ?_, fun t ht => ?_⟩
  · have h1 : (tw (dict2 F)).length ≤ (dict2 F).length := by
      unfold tw
      rw [List.length_map]
      refine Nat.le_trans (List.length_filter_le _ _) ?_
      rw [sortP_len, List.length_map]
      exact Nat.le_refl _
    have := dict2_len F
    omega
  · have := (hm _ (tw_mem ht)).1
    simp only at this
    omega
  · exact (hm _ (tw_mem ht)).2
theorem compD_fix {kt : List (List D)} {tk : Bool} {own : List Nat} {it : IV} {g : GV} {t : TV} {ke ve : EV} {e : En} {S S1 S2 : Store} {ws : List W} {kvs : List (D × W)} (h : it e S = .ok (.fix ws) S1) (h' : compDL kt tk g t ke ve (wipeV e own) ws [] S1 = .ok kvs S2) :
    compD kt tk own it g t ke ve e S = .ok (.ref S2.length) (S2 ++ [.dct tk kvs]) := by
  unfold compD; rw [h]; simp only [R.bind, h']
def polyD (b : Int) (ms : List Int) : D := .tup [.int b, .tup (ms.map .int)]
theorem polyD_tup (b : Int) (ms : List Int) : tupOnly (polyD b ms) = true := by
  simp [polyD, tupOnly, tupOnly.tupOnlys, tups_int]
def badX : Xc := ⟨0, .int 0⟩
theorem parse_none {t : List Nat} {l : Nat} (ht : t.length ≤ 5000000) (h : termsOf t [l] = none) : parse_polynomial_ [.str t, .str [l]] = .exc badX := by
  have h1 := terms_of (t := t) (ls := [l]) ht (by simp)
  rw [h] at h1
  simp only [List.map_cons, List.map_nil] at h1
  have key : ∃ e S, b_parse_polynomial [some (.d (.str t)), some (.d (.str [l])), none, none, none, none] [] = .exc badX e S := by
    unfold b_parse_polynomial
    rw [seqS_nx (e' := [some (.d (.str t)), some (.d (.str [l])), some (.d .non), none, none, none]) (S' := []) (by simp (disch := omega) [small_iff, smallN_iff, sm1, sm0, succ0, atL0, atL1, atLn, cutT1, cutT2, cutD1, cutD2, cutT, cutD, cutTD, runP, runI, startV, seqS, asgS, ifS, t2, t1, andT, orT, notT, truT, varE, conE, getV, setV, nameG, eqF, neF, eqW, R.bind, R.so, retS, nxS, frzE, newE, lstF, argsF, unWs, unW, snap, op2, op1, addF, subF, mulF, ixF, callB, callF, arg1, strF, valE, intF, dataL, ifE, notNF, isNF, isNon, lenF, absF, callP, callI, snaps, anyRef, tupOnly, List.replicate, ltF, gtF, geF, leF, cmpF, slE, bndE, methE, methF, kindW, dropS, tupE, listG, itemsS, truW, joinG, textsOf, negF, h1, encFs])]
    refine ⟨[some (.d (.str t)), some (.d (.str [l])), some (.d .non), none, none, none], [], ?_⟩
    rw [seqS_exc (e' := [some (.d (.str t)), some (.d (.str [l])), some (.d .non), none, none, none]) (S' := []) (x := badX) (by rfl)]
  obtain ⟨e, S, hk⟩ := key
  exact runP_exc rfl hk rfl
theorem parse_some {t : List Nat} {l : Nat} (ht : t.length ≤ 5000000) {F : List (Int × List Int)} (h : termsOf t [l] = some F) (hl : F.length ≤ 81) (hF : ∀ u ∈ F, FB [l] u) :
    ∃ b ms, PolyOf (dict1 F) b ms ∧ Bd b ms ∧ parse_polynomial_ [.str t, .str [l]] = if oneT l b ms = t then .ok (polyD b ms) else .exc badX := by
  have h1 := terms_of (t := t) (ls := [l]) ht (by simp)
  rw [h] at h1
  simp only [List.map_cons, List.map_nil] at h1
  have hm := dict1_mem hF
  obtain ⟨b, ms, h2, hp⟩ := from_terms_ok (dict1 F) fun p hp => by have := (hm p hp).1; omega
  have hb := poly_bd hF hp
  have hfmt := format_poly (bd_ok (l := l) hb)
  refine ⟨b, ms, hp, hb, ?_⟩
  have hcd : compD kt false [4, 5] (seqI (varE 2)) (tupG [(nameG 4), (nameG 5)]) yesT (op2 (ixF kt) (varE 5) (conE (.int 0))) (varE 4) [some (.d (.str t)), some (.d (.str [l])), some (.d (.lst (F.map encF))), none, none, none] [] = .ok (.ref 0) [.dct false (encW .int (dict1 F))] := by
    have := compDL_pure (ek := D.int) hek_int (kt := kt) (tk := false) (fun _ => .inr trivial) (g := tupG [(nameG 4), (nameG 5)]) (ke := op2 (ixF kt) (varE 5) (conE (.int 0))) (ve := varE 4) (e := [some (.d (.str t)), some (.d (.str [l])), some (.d (.lst (F.map encF))), none, none, none]) (S := []) (W.d ∘ encF) key1 F [] (by
      intro u hu
      have e := fb1 (hF u hu)
      refine ⟨rfl, [some (.d (.str t)), some (.d (.str [l])), some (.d (.lst (F.map encF))), none, some (.d (.int u.1)), some (.d (.tup (u.2.map .int)))], rfl, ?_, rfl⟩
      rw [e]; rfl) (by show 0 + F.length ≤ _; omega)
    have hit : seqI (varE 2) [some (.d (.str t)), some (.d (.str [l])), some (.d (.lst (F.map encF))), none, none, none] [] = .ok (.fix (F.map (W.d ∘ encF))) [] := by simp only [seqI, varE, getV, R.bind, List.map_map]
    exact compD_fix (own := [4, 5]) hit this
  have key : ∀ o : SO, o = (if oneT l b ms = t then SO.rt (.d (polyD b ms)) [.dct false (encW .int (dict1 F))] else .exc badX [some (.d (.str t)), some (.d (.str [l])), some (.d (.lst (F.map encF))), some (.d (polyD b ms)), none, none] [.dct false (encW .int (dict1 F))]) →
      b_parse_polynomial [some (.d (.str t)), some (.d (.str [l])), none, none, none, none] [] = o := by
    rintro o rfl
    unfold b_parse_polynomial
    rw [seqS_nx (e' := [some (.d (.str t)), some (.d (.str [l])), some (.d (.lst (F.map encF))), none, none, none]) (S' := []) (by simp (disch := omega) [small_iff, smallN_iff, sm1, sm0, succ0, atL0, atL1, atLn, cutT1, cutT2, cutD1, cutD2, cutT, cutD, cutTD, runP, runI, startV, seqS, asgS, ifS, t2, t1, andT, orT, notT, truT, varE, conE, getV, setV, nameG, eqF, neF, eqW, R.bind, R.so, retS, nxS, frzE, newE, lstF, argsF, unWs, unW, snap, op2, op1, addF, subF, mulF, ixF, callB, callF, arg1, strF, valE, intF, dataL, ifE, notNF, isNF, isNon, lenF, absF, callP, callI, snaps, anyRef, tupOnly, List.replicate, ltF, gtF, geF, leF, cmpF, slE, bndE, methE, methF, kindW, dropS, tupE, listG, itemsS, truW, joinG, textsOf, negF, h1, encFs])]
    rw [seqS_nx (e' := [some (.d (.str t)), some (.d (.str [l])), some (.d (.lst (F.map encF))), none, none, none]) (S' := []) (by rfl)]
    have htp := polyD_tup b ms
    have hu := unKW_enc D.int (dict1 F)
    rw [seqS_nx (e' := [some (.d (.str t)), some (.d (.str [l])), some (.d (.lst (F.map encF))), some (.d (polyD b ms)), none, none]) (S' := [.dct false (encW .int (dict1 F))]) (by
      unfold asgS callP
      simp only [argsF, hcd, R.bind, snaps, snap, getO, hu, Option.map_some, h2, anyRef]
      simp only [polyD] at htp
      simp only [htp]
      rfl)]
    by_cases e : oneT l b ms = t
    · rw [if_pos e]
      have hc : t2 neF (callP format_polynomial_ [(varE 3), (varE 1)]) (varE 0) [some (.d (.str t)), some (.d (.str [l])), some (.d (.lst (F.map encF))), some (.d (polyD b ms)), none, none] [.dct false (encW .int (dict1 F))] = .ok false [.dct false (encW .int (dict1 F))] := by
        have e' : sumT (termsL [l] b ms) = t := e
        simp only [t2, callP, argsF, varE, getV, R.bind, snaps, snap, polyD, hfmt, anyRef, neF, eqW, e']
        simp
      rw [seqS_nx (by rw [ifS_f hc]; rfl)]
      rfl
    · rw [if_neg e]
      have hc : t2 neF (callP format_polynomial_ [(varE 3), (varE 1)]) (varE 0) [some (.d (.str t)), some (.d (.str [l])), some (.d (.lst (F.map encF))), some (.d (polyD b ms)), none, none] [.dct false (encW .int (dict1 F))] = .ok true [.dct false (encW .int (dict1 F))] := by
        have e2 : ¬ sumT (termsL [l] b ms) = t := e
        have e' : (sumT (termsL [l] b ms) == t) = false := by simpa using e2
        simp only [t2, callP, argsF, varE, getV, R.bind, snaps, snap, polyD, hfmt, anyRef, neF, eqW, e']
        simp [e2]
      exact seqS_exc (by rw [ifS_t hc]; rfl)
  have hk := key _ rfl
  by_cases e : oneT l b ms = t
  · rw [if_pos e] at hk ⊢
    exact runP_rt rfl hk rfl
  · rw [if_neg e] at hk ⊢
    exact runP_exc rfl hk rfl
theorem parse2_none {t : List Nat} (ht : t.length ≤ 5000000) (h : termsOf t [118, 122] = none) : parse_two_ [.str t] = .exc badX := by
  have h1 := terms_of (t := t) (ls := [118, 122]) ht (by simp)
  rw [h] at h1
  simp only [List.map_cons, List.map_nil] at h1
  have key : ∃ e S, b_parse_two [some (.d (.str t)), none, none, none, none] [] = .exc badX e S := by
    unfold b_parse_two
    rw [seqS_nx (e' := [some (.d (.str t)), some (.d .non), none, none, none]) (S' := []) (by simp (disch := omega) [small_iff, smallN_iff, sm1, sm0, succ0, atL0, atL1, atLn, cutT1, cutT2, cutD1, cutD2, cutT, cutD, cutTD, runP, runI, startV, seqS, asgS, ifS, t2, t1, andT, orT, notT, truT, varE, conE, getV, setV, nameG, eqF, neF, eqW, R.bind, R.so, retS, nxS, frzE, newE, lstF, argsF, unWs, unW, snap, op2, op1, addF, subF, mulF, ixF, callB, callF, arg1, strF, valE, intF, dataL, ifE, notNF, isNF, isNon, lenF, absF, callP, callI, snaps, anyRef, tupOnly, List.replicate, ltF, gtF, geF, leF, cmpF, slE, bndE, methE, methF, kindW, dropS, tupE, listG, itemsS, truW, joinG, textsOf, negF, h1, encFs])]
    refine ⟨[some (.d (.str t)), some (.d .non), none, none, none], [], ?_⟩
    rw [seqS_exc (e' := [some (.d (.str t)), some (.d .non), none, none, none]) (S' := []) (x := badX) (by rfl)]
  obtain ⟨e, S, hk⟩ := key
  exact runP_exc rfl hk rfl
def twoD (q : List (Int × Int × Int)) : D := .tup (q.map e3)
theorem twoD_tup : ∀ (q : List (Int × Int × Int)), tupOnly (twoD q) = true := by
  intro q
  have : ∀ q : List (Int × Int × Int), tupOnly.tupOnlys (q.map e3) = true := by
    intro q
    induction q with
    | nil => rfl
    | cons t r ih => simp [tupOnly.tupOnlys, tupOnly, e3, ih]
  simp [twoD, tupOnly, this]
theorem parse2_some {t : List Nat} (ht : t.length ≤ 5000000) {F : List (Int × List Int)} (h : termsOf t [118, 122] = some F) (hl : F.length ≤ 81) (hF : ∀ u ∈ F, FB [118, 122] u) :
    parse_two_ [.str t] = if twoT (tw (dict2 F)) = t then .ok (twoD (tw (dict2 F))) else .exc badX := by
  have h1 := terms_of (t := t) (ls := [118, 122]) ht (by simp)
  rw [h] at h1
  simp only [List.map_cons, List.map_nil] at h1
  have h2 := two_from_ok (dict2 F) (Nat.le_trans (dict2_len F) (by omega))
  have hb := tw_bd hF hl
  have hfmt := format_two_ok hb
  have hcd : compD kt true [3, 4] (seqI (varE 1)) (tupG [(nameG 3), (nameG 4)]) yesT (varE 4) (varE 3) [some (.d (.str t)), some (.d (.lst (F.map encF))), none, none, none] [] = .ok (.ref 0) [.dct true (encW eP (dict2 F))] := by
    have := compDL_pure (ek := eP) hek_P (kt := kt) (tk := true) (fun _ => .inr trivial) (g := tupG [(nameG 3), (nameG 4)]) (ke := varE 4) (ve := varE 3) (e := [some (.d (.str t)), some (.d (.lst (F.map encF))), none, none, none]) (S := []) (W.d ∘ encF) key2 F [] (by
      intro u hu
      have e := fb2 (hF u hu)
      refine ⟨keyP _, [some (.d (.str t)), some (.d (.lst (F.map encF))), none, some (.d (.int u.1)), some (.d (.tup (u.2.map .int)))], rfl, ?_, rfl⟩
      have e' : D.tup (u.2.map .int) = eP (key2 u).1 := by
        rw [e]; rfl
      simp only [varE, getV, e']) (by show 0 + F.length ≤ _; omega)
    have hit : seqI (varE 1) [some (.d (.str t)), some (.d (.lst (F.map encF))), none, none, none] [] = .ok (.fix (F.map (W.d ∘ encF))) [] := by simp only [seqI, varE, getV, R.bind, List.map_map]
    exact compD_fix (own := [3, 4]) hit this
  have key : b_parse_two [some (.d (.str t)), none, none, none, none] [] = (if twoT (tw (dict2 F)) = t then SO.rt (.d (twoD (tw (dict2 F)))) [.dct true (encW eP (dict2 F))] else .exc badX [some (.d (.str t)), some (.d (.lst (F.map encF))), some (.d (twoD (tw (dict2 F)))), none, none] [.dct true (encW eP (dict2 F))]) := by
    unfold b_parse_two
    rw [seqS_nx (e' := [some (.d (.str t)), some (.d (.lst (F.map encF))), none, none, none]) (S' := []) (by simp (disch := omega) [small_iff, smallN_iff, sm1, sm0, succ0, atL0, atL1, atLn, cutT1, cutT2, cutD1, cutD2, cutT, cutD, cutTD, runP, runI, startV, seqS, asgS, ifS, t2, t1, andT, orT, notT, truT, varE, conE, getV, setV, nameG, eqF, neF, eqW, R.bind, R.so, retS, nxS, frzE, newE, lstF, argsF, unWs, unW, snap, op2, op1, addF, subF, mulF, ixF, callB, callF, arg1, strF, valE, intF, dataL, ifE, notNF, isNF, isNon, lenF, absF, callP, callI, snaps, anyRef, tupOnly, List.replicate, ltF, gtF, geF, leF, cmpF, slE, bndE, methE, methF, kindW, dropS, tupE, listG, itemsS, truW, joinG, textsOf, negF, h1, encFs])]
    rw [seqS_nx (e' := [some (.d (.str t)), some (.d (.lst (F.map encF))), none, none, none]) (S' := []) (by rfl)]
    have htp := twoD_tup (tw (dict2 F))
    have hu := unKW_enc eP (dict2 F)
    rw [seqS_nx (e' := [some (.d (.str t)), some (.d (.lst (F.map encF))), some (.d (twoD (tw (dict2 F)))), none, none]) (S' := [.dct true (encW eP (dict2 F))]) (by
      unfold asgS callP
      simp only [argsF, hcd, R.bind, snaps, snap, getO, hu, Option.map_some, h2, anyRef]
      simp only [twoD] at htp
      simp only [htp]
      rfl)]
    by_cases e : twoT (tw (dict2 F)) = t
    · rw [if_pos e]
      have hc : t2 neF (callP format_two_ [(varE 2)]) (varE 0) [some (.d (.str t)), some (.d (.lst (F.map encF))), some (.d (twoD (tw (dict2 F)))), none, none] [.dct true (encW eP (dict2 F))] = .ok false [.dct true (encW eP (dict2 F))] := by
        simp only [t2, callP, argsF, varE, getV, R.bind, snaps, snap, twoD, hfmt, anyRef, neF, eqW, e]
        simp
      rw [seqS_nx (by rw [ifS_f hc]; rfl)]
      rfl
    · rw [if_neg e]
      have hc : t2 neF (callP format_two_ [(varE 2)]) (varE 0) [some (.d (.str t)), some (.d (.lst (F.map encF))), some (.d (twoD (tw (dict2 F)))), none, none] [.dct true (encW eP (dict2 F))] = .ok true [.dct true (encW eP (dict2 F))] := by
        have e' : (twoT (tw (dict2 F)) == t) = false := by simpa using e
        simp only [t2, callP, argsF, varE, getV, R.bind, snaps, snap, twoD, hfmt, anyRef, neF, eqW, e']
        simp [e]
      exact seqS_exc (by rw [ifS_t hc]; rfl)
  by_cases e : twoT (tw (dict2 F)) = t
  · rw [if_pos e] at key ⊢
    exact runP_rt rfl key rfl
  · rw [if_neg e] at key ⊢
    exact runP_exc rfl key rfl
end K54

end

section
set_option linter.all false
set_option maxRecDepth 100000
set_option linter.all false
set_option maxRecDepth 100000
namespace K54
open Pv Pw
def readD (x : D) : D := .tup [.str [114, 101, 97, 100], x]
def refD : D := .tup [.str [114, 101, 102, 117, 115, 101, 100], .int 0]
theorem read_one {t : List Nat} {l : Nat} {x : D} (h : parse_polynomial_ [.str t, .str [l]] = .ok x) : _law_read_ [.str t, .str [l]] = .ok (readD x) := by
  simp (disch := omega) [small_iff, smallN_iff, sm1, sm0, succ0, atL0, atL1, atLn, cutT1, cutT2, cutD1, cutD2, cutT, cutD, cutTD, runP, runI, startV, seqS, asgS, ifS, t2, t1, andT, orT, notT, truT, varE, conE, getV, setV, nameG, eqF, neF, eqW, R.bind, R.so, retS, nxS, frzE, newE, lstF, argsF, unWs, unW, snap, op2, op1, addF, subF, mulF, ixF, callB, callF, arg1, strF, valE, intF, dataL, ifE, notNF, isNF, isNon, lenF, absF, callP, callI, snaps, anyRef, tupOnly, List.replicate, ltF, gtF, geF, leF, cmpF, slE, bndE, methE, methF, kindW, dropS, tupE, listG, itemsS, truW, joinG, textsOf, negF, _law_read_, b__law_read, tryS, h, readD]
theorem refuse_one {t : List Nat} {l : Nat} (h : parse_polynomial_ [.str t, .str [l]] = .exc badX) : _law_read_ [.str t, .str [l]] = .ok refD := by
  simp (disch := omega) [small_iff, smallN_iff, sm1, sm0, succ0, atL0, atL1, atLn, cutT1, cutT2, cutD1, cutD2, cutT, cutD, cutTD, runP, runI, startV, seqS, asgS, ifS, t2, t1, andT, orT, notT, truT, varE, conE, getV, setV, nameG, eqF, neF, eqW, R.bind, R.so, retS, nxS, frzE, newE, lstF, argsF, unWs, unW, snap, op2, op1, addF, subF, mulF, ixF, callB, callF, arg1, strF, valE, intF, dataL, ifE, notNF, isNF, isNon, lenF, absF, callP, callI, snaps, anyRef, tupOnly, List.replicate, ltF, gtF, geF, leF, cmpF, slE, bndE, methE, methF, kindW, dropS, tupE, listG, itemsS, truW, joinG, textsOf, negF, _law_read_, b__law_read, tryS, h, refD, badX]
theorem read_two {t : List Nat} {x : D} (h : parse_two_ [.str t] = .ok x) : _law_read_ [.str t, .str []] = .ok (readD x) := by
  simp (disch := omega) [small_iff, smallN_iff, sm1, sm0, succ0, atL0, atL1, atLn, cutT1, cutT2, cutD1, cutD2, cutT, cutD, cutTD, runP, runI, startV, seqS, asgS, ifS, t2, t1, andT, orT, notT, truT, varE, conE, getV, setV, nameG, eqF, neF, eqW, R.bind, R.so, retS, nxS, frzE, newE, lstF, argsF, unWs, unW, snap, op2, op1, addF, subF, mulF, ixF, callB, callF, arg1, strF, valE, intF, dataL, ifE, notNF, isNF, isNon, lenF, absF, callP, callI, snaps, anyRef, tupOnly, List.replicate, ltF, gtF, geF, leF, cmpF, slE, bndE, methE, methF, kindW, dropS, tupE, listG, itemsS, truW, joinG, textsOf, negF, _law_read_, b__law_read, tryS, h, readD]
theorem refuse_two {t : List Nat} (h : parse_two_ [.str t] = .exc badX) : _law_read_ [.str t, .str []] = .ok refD := by
  simp (disch := omega) [small_iff, smallN_iff, sm1, sm0, succ0, atL0, atL1, atLn, cutT1, cutT2, cutD1, cutD2, cutT, cutD, cutTD, runP, runI, startV, seqS, asgS, ifS, t2, t1, andT, orT, notT, truT, varE, conE, getV, setV, nameG, eqF, neF, eqW, R.bind, R.so, retS, nxS, frzE, newE, lstF, argsF, unWs, unW, snap, op2, op1, addF, subF, mulF, ixF, callB, callF, arg1, strF, valE, intF, dataL, ifE, notNF, isNF, isNon, lenF, absF, callP, callI, snaps, anyRef, tupOnly, List.replicate, ltF, gtF, geF, leF, cmpF, slE, bndE, methE, methF, kindW, dropS, tupE, listG, itemsS, truW, joinG, textsOf, negF, _law_read_, b__law_read, tryS, h, refD, badX]
/-! the law's reading of terms -/
theorem itemsL_wS {S : Store} {k : Nat} {ws : List (List Nat)} (h : getO S k = some (.lst (wS ws))) : itemsL S (.ref k) = some (wS ws) := by simp only [itemsL, h]
theorem drop_wS (ws : List (List Nat)) : (wS ws).drop 1 = wS (ws.drop 1) := by simp [wS]
theorem law_term_loop (p : Nat) (V0 V1 V2 V3 V5 V6 : Option W) : ∀ (ls : List Nat) (ws : List (List Nat)) (es : List Int) (S : Store) (k : Nat) (x8 x9 : Option W), (∀ w ∈ ws, w.length ≤ 16777216) → es.length + ls.length ≤ 1000 → p ≠ 0 → k ≠ 0 → k ≠ p → getO S k = some (.lst (wS ws)) → getO S p = some (.lst (wI es)) →
    ∃ k' S' x8' x9', forL (nameG 8) l0__law_terms_of (ls.map fun l => W.d (.str [l])) [V0, V1, V2, V3, some (.ref k), V5, V6, some (.ref p), x8, x9] S = .nx [V0, V1, V2, V3, some (.ref k'), V5, V6, some (.ref p), x8', x9'] S' ∧
      getO S' k' = some (.lst (wS (expsG exL ws ls).2)) ∧ getO S' p = some (.lst (wI (es ++ (expsG exL ws ls).1))) ∧ (∀ t, getO S 0 = some t → getO S' 0 = some t) ∧ k' ≠ 0 ∧ k' ≠ p
  | [], ws, es, S, k, x8, x9, _, _, hp0, hk0, hkp, hk, hp => ⟨k, S, x8, x9, rfl, hk, by simpa [expsG] using hp, fun _ h => h, hk0, hkp⟩
  | l :: ls, ws, es, S, k, x8, x9, hw, hl, hp0, hk0, hkp, hk, hp => by
    simp only [List.length_cons] at hl
    have hb : Nat.blt es.length 16777216 = true := blt16 (by omega)
    have hnone : ∀ o : List Int × List (List Nat), expsG exL ws (l :: ls) = o → o = (0 :: (expsG exL ws ls).1, (expsG exL ws ls).2) →
        l0__law_terms_of [V0, V1, V2, V3, some (.ref k), V5, V6, some (.ref p), some (.d (.str [l])), x9] S = .nx [V0, V1, V2, V3, some (.ref k), V5, V6, some (.ref p), some (.d (.str [l])), some (.d (.int 0))] (setO S p (.lst (wI (es ++ [0])))) →
        ∃ k' S' x8' x9', forL (nameG 8) l0__law_terms_of ((l :: ls).map fun l => W.d (.str [l])) [V0, V1, V2, V3, some (.ref k), V5, V6, some (.ref p), x8, x9] S = .nx [V0, V1, V2, V3, some (.ref k'), V5, V6, some (.ref p), x8', x9'] S' ∧
          getO S' k' = some (.lst (wS o.2)) ∧ getO S' p = some (.lst (wI (es ++ o.1))) ∧ (∀ t, getO S 0 = some t → getO S' 0 = some t) ∧ k' ≠ 0 ∧ k' ≠ p := by
      rintro o ho rfl he
      obtain ⟨k', S', x8', x9', h1, h2, h3, h4, h5, h6⟩ := law_term_loop p V0 V1 V2 V3 V5 V6 ls ws (es ++ [0]) (setO S p (.lst (wI (es ++ [0])))) k (some (.d (.str [l]))) (some (.d (.int 0))) hw (by simp; omega) hp0 hk0 hkp (by rw [getO_ne _ _ _ _ (Ne.symm hkp)]; exact hk) (getO_set hp)
      refine ⟨k', S', x8', x9', ?_, h2, by rw [h3, List.append_assoc]; rfl, fun t ht => h4 t (by rw [getO_ne _ _ _ _ hp0]; exact ht), h5, h6⟩
      rw [List.map_cons]
      exact (forL_nx (by rfl) he).trans h1
    cases ws with
    | nil =>
      refine hnone _ rfl (by simp only [expsG]) ?_
      simp (disch := omega) [small_iff, smallN_iff, sm1, sm0, succ0, atL0, atL1, atLn, cutT1, cutT2, cutD1, cutD2, cutT, cutD, cutTD, runP, runI, startV, seqS, asgS, ifS, t2, t1, andT, orT, notT, truT, varE, conE, getV, setV, nameG, eqF, neF, eqW, R.bind, R.so, retS, nxS, frzE, newE, lstF, argsF, unWs, unW, snap, op2, op1, addF, subF, mulF, ixF, callB, callF, arg1, strF, valE, intF, dataL, ifE, notNF, isNF, isNon, lenF, absF, callP, callI, snaps, anyRef, tupOnly, List.replicate, ltF, gtF, geF, leF, cmpF, slE, bndE, methE, methF, kindW, dropS, tupE, listG, itemsS, truW, joinG, textsOf, negF, l0__law_terms_of, hk, hp, wS, appendG, wI_len, hb, wI_app]
    | cons w r =>
      have he := law_exp (w := w) (l := l) (hw w List.mem_cons_self)
      have hpos : (0 : Int) < (r.length : Int) + 1 := by omega
      cases hx : exL w l with
      | none =>
        rw [hx] at he
        refine hnone _ rfl (by simp only [expsG, hx]) ?_
        simp (disch := omega) [small_iff, smallN_iff, sm1, sm0, succ0, atL0, atL1, atLn, cutT1, cutT2, cutD1, cutD2, cutT, cutD, cutTD, runP, runI, startV, seqS, asgS, ifS, t2, t1, andT, orT, notT, truT, varE, conE, getV, setV, nameG, eqF, neF, eqW, R.bind, R.so, retS, nxS, frzE, newE, lstF, argsF, unWs, unW, snap, op2, op1, addF, subF, mulF, ixF, callB, callF, arg1, strF, valE, intF, dataL, ifE, notNF, isNF, isNon, lenF, absF, callP, callI, snaps, anyRef, tupOnly, List.replicate, ltF, gtF, geF, leF, cmpF, slE, bndE, methE, methF, kindW, dropS, tupE, listG, itemsS, truW, joinG, textsOf, negF, l0__law_terms_of, hk, hp, wS, appendG, wI_len, hb, wI_app, hpos, he, encI]
      | some x =>
        rw [hx] at he
        have hpl := getO_lt S p _ hp
        have h0l : 0 < S.length := by omega
        have hstep : l0__law_terms_of [V0, V1, V2, V3, some (.ref k), V5, V6, some (.ref p), some (.d (.str [l])), x9] S = .nx [V0, V1, V2, V3, some (.ref S.length), V5, V6, some (.ref p), some (.d (.str [l])), some (.d (.int x))] (setO (S ++ [.lst (wS r)]) p (.lst (wI (es ++ [x])))) := by
          have hit : itemsL S (.ref k) = some (wS (w :: r)) := itemsL_wS hk
          have hcut : cut (wS (w :: r)) (some 1) none = wS r := by rw [cutD1]; simp [wS]
          have hp' := getO_some [.lst (wS r)] hp
          have hne : slF (varE 4) (some (conE (.int 1))) none [V0, V1, V2, V3, some (.ref k), V5, V6, some (.ref p), some (.d (.str [l])), some (.d (.int x))] S = .ok (wS r) S := by
            simp only [slF, varE, getV, R.bind, bndE, conE, hit, hcut]
          have hk2 := hk
          simp only [wS, List.map_cons] at hk2
          simp only [wS] at hp' hne ⊢
          simp (disch := omega) [small_iff, smallN_iff, sm1, sm0, succ0, atL0, atL1, atLn, cutT1, cutT2, cutD1, cutD2, cutT, cutD, cutTD, runP, runI, startV, seqS, asgS, ifS, t2, t1, andT, orT, notT, truT, varE, conE, getV, setV, nameG, eqF, neF, eqW, R.bind, R.so, retS, nxS, frzE, newE, lstF, argsF, unWs, unW, snap, op2, op1, addF, subF, mulF, ixF, callB, callF, arg1, strF, valE, intF, dataL, ifE, notNF, isNF, isNon, lenF, absF, callP, callI, snaps, anyRef, tupOnly, List.replicate, ltF, gtF, geF, leF, cmpF, slE, bndE, methE, methF, kindW, dropS, tupE, listG, itemsS, truW, joinG, textsOf, negF, l0__law_terms_of, hk2, hpos, he, encI, hne, hp', appendG, wI_len, hb, wI_app]
        have hlt : ∀ i, i < S.length → i ≠ p → getO (setO (S ++ [.lst (wS r)]) p (.lst (wI (es ++ [x])))) i = getO S i := fun i hi hip => by
          rw [getO_ne _ _ _ _ (Ne.symm hip), getO_app _ _ _ hi]
        obtain ⟨k', S', x8', x9', h1, h2, h3, h4, h5, h6⟩ := law_term_loop p V0 V1 V2 V3 V5 V6 ls r (es ++ [x]) (setO (S ++ [.lst (wS r)]) p (.lst (wI (es ++ [x])))) S.length (some (.d (.str [l]))) (some (.d (.int x))) (fun w h => hw w (List.mem_cons_of_mem _ h)) (by simp; omega) hp0 (by omega) (by omega) (by rw [getO_ne _ _ _ _ (by omega)]; exact getO_end _ _) (getO_set (getO_some _ hp))
        refine ⟨k', S', x8', x9', ?_, ?_, ?_, fun t ht => h4 t (by rw [hlt 0 h0l (Ne.symm hp0)]; exact ht), h5, h6⟩
        · rw [List.map_cons]
          exact (forL_nx (by rfl) hstep).trans h1
        · simp only [expsG, hx]; exact h2
        · simp only [expsG, hx]; rw [h3, List.append_assoc]; rfl
end K54

end

section
set_option linter.all false
set_option maxRecDepth 100000
set_option linter.all false
set_option maxRecDepth 100000
namespace K54
open Pv Pw
theorem dictP_snoc {κ : Type} [DecidableEq κ] (F : List (κ × Int)) (t : κ × Int) (d : List (κ × Int)) : dictP (F ++ [t]) d = putP (dictP F d) t.1 t.2 := by simp [dictP]
/-- behind the words of a term -/
def lawTail : SV :=
  (seqS (asgS (nameG 7) (newE (lstF [])))
  (seqS (forN 1 (seqI (varE 1)) (nameG 8) l0__law_terms_of)
  (seqS (ifS (t2 gtF (callB (arg1 lenF) [(varE 4)]) (conE (.int 0)))
    (retS (conE (.non)))
    nxS)
  (seqS (asgS (subG kt (varE 3) (callB (tupleG) [(varE 7)])) (op2 mulF (varE 2) (varE 6)))
  (asgS (nameG 2) (op2 (ixF kt) (frzE (lstF [(conE (.int 1)), (op1 negF (conE (.int 1)))])) (callB (arg1 intF) [(valE (t2 eqF (varE 5) (conE (.str [45]))))])))))))
def lawNum : SV :=
  (ifS (t1 notNF (callP _law_integer_ [(op2 (ixF kt) (varE 4) (conE (.int 0)))]))
    (seqS (asgS (nameG 6) (callP _law_integer_ [(op2 (ixF kt) (varE 4) (conE (.int 0)))]))
    (asgS (nameG 4) (newE (slF (varE 4) (some (conE (.int 1))) none))))
    nxS)
structure KeyOk (κ : Type) [DecidableEq κ] (ls : List Nat) (ek : κ → D) (key : List Int → κ) : Prop where
  h : ∀ a b, eqK (ek a) (ek b) = decide (a = b)
  k : ∀ es : List Int, es.length = ls.length → ek (key es) = .tup (es.map .int) ∧ okKey kt true (.tup (es.map .int)) = true
def dictK {κ : Type} [DecidableEq κ] (key : List Int → κ) (F : List (Int × List Int)) : List (κ × Int) := dictP (F.map fun t => (key t.2, t.1)) []
theorem dictK_snoc {κ : Type} [DecidableEq κ] (key : List Int → κ) (F : List (Int × List Int)) (t : Int × List Int) : dictK key (F ++ [t]) = putP (dictK key F) (key t.2) t.1 := by
  simp only [dictK, List.map_append, List.map_cons, List.map_nil, dictP_snoc]
theorem dictK_len {κ : Type} [DecidableEq κ] (key : List Int → κ) (F : List (Int × List Int)) : (dictK key F).length ≤ F.length := by
  have := dictP_len (F.map fun t => (key t.2, t.1)) []
  rw [List.length_map] at this
  exact Nat.le_trans this (by simp)
theorem tail_ok {κ : Type} [DecidableEq κ] {ls : List Nat} {ek : κ → D} {key : List Int → κ} (K : KeyOk κ ls ek key) (hls : ls.length ≤ 900) (hlen : ∀ ws : List (List Nat), (expsG exL ws ls).1.length = ls.length)
    (V0 V7 V8 V9 : Option W) {w : List Nat} {s n : Int} {r : List (List Nat)} {F : List (Int × List Int)} {S : Store} {k : Nat} (hsep : w = [43] ∨ w = [45]) (hs : s = 1 ∨ s = -1) (hr : ∀ w ∈ r, w.length ≤ 16777216) (hk0 : k ≠ 0) (hF : F.length ≤ 10000000)
    (h0 : getO S 0 = some (.dct true (encW ek (dictK key F)))) (hk : getO S k = some (.lst (wS r))) :
    (if (expsG exL r ls).2 = [] then
      ∃ k' S' x7 x8 x9, lawTail [V0, some (.d (.lst (ls.map fun l => .str [l]))), some (.d (.int s)), some (.ref 0), some (.ref k), some (.d (.str w)), some (.d (.int n)), V7, V8, V9] S = .nx [V0, some (.d (.lst (ls.map fun l => .str [l]))), some (.d (.int (if w = [43] then 1 else -1))), some (.ref 0), some (.ref k'), some (.d (.str w)), some (.d (.int n)), x7, x8, x9] S' ∧ k' ≠ 0 ∧ getO S' k' = some (.lst (wS [])) ∧ getO S' 0 = some (.dct true (encW ek (dictK key (F ++ [(s * n, (expsG exL r ls).1)]))))
    else ∃ S', lawTail [V0, some (.d (.lst (ls.map fun l => .str [l]))), some (.d (.int s)), some (.ref 0), some (.ref k), some (.d (.str w)), some (.d (.int n)), V7, V8, V9] S = .rt (.d .non) S') := by
  have h0l := getO_lt S 0 _ h0
  have hkl := getO_lt S k _ hk
  have e1 : asgS (nameG 7) (newE (lstF [])) [V0, some (.d (.lst (ls.map fun l => .str [l]))), some (.d (.int s)), some (.ref 0), some (.ref k), some (.d (.str w)), some (.d (.int n)), V7, V8, V9] S = .nx [V0, some (.d (.lst (ls.map fun l => .str [l]))), some (.d (.int s)), some (.ref 0), some (.ref k), some (.d (.str w)), some (.d (.int n)), some (.ref S.length), V8, V9] (S ++ [.lst []]) := rfl
  obtain ⟨k', S', x8, x9, f1, f2, f3, f4, f5, f6⟩ := law_term_loop S.length V0 (some (.d (.lst (ls.map fun l => .str [l])))) (some (.d (.int s))) (some (.ref 0)) (some (.d (.str w))) (some (.d (.int n))) ls r [] (S ++ [.lst []]) k V8 V9 hr (by simp; omega) (by omega) hk0 (by omega) (getO_some _ hk) (getO_end _ _)
  have f7 := f4 _ (getO_some _ h0)
  have e2 : forN 1 (seqI (varE 1)) (nameG 8) l0__law_terms_of [V0, some (.d (.lst (ls.map fun l => .str [l]))), some (.d (.int s)), some (.ref 0), some (.ref k), some (.d (.str w)), some (.d (.int n)), some (.ref S.length), V8, V9] (S ++ [.lst []]) = .nx [V0, some (.d (.lst (ls.map fun l => .str [l]))), some (.d (.int s)), some (.ref 0), some (.ref k'), some (.d (.str w)), some (.d (.int n)), some (.ref S.length), x8, x9] S' := by
    show forS _ _ _ _ _ = _
    rw [forS_fix (S' := S ++ [.lst []]) (ws := ls.map fun l => W.d (.str [l])) (by simp [seqI, varE, getV, R.bind, Function.comp_def])]
    exact f1
  by_cases hq : (expsG exL r ls).2 = []
  · rw [if_pos hq]
    rw [hq] at f2
    have e3 : ifS (t2 gtF (callB (arg1 lenF) [(varE 4)]) (conE (.int 0))) (retS (conE (.non))) nxS [V0, some (.d (.lst (ls.map fun l => .str [l]))), some (.d (.int s)), some (.ref 0), some (.ref k'), some (.d (.str w)), some (.d (.int n)), some (.ref S.length), x8, x9] S' = .nx [V0, some (.d (.lst (ls.map fun l => .str [l]))), some (.d (.int s)), some (.ref 0), some (.ref k'), some (.d (.str w)), some (.d (.int n)), some (.ref S.length), x8, x9] S' := by
      simp (disch := omega) [small_iff, smallN_iff, sm1, sm0, succ0, atL0, atL1, atLn, cutT1, cutT2, cutD1, cutD2, cutT, cutD, cutTD, runP, runI, startV, seqS, asgS, ifS, t2, t1, andT, orT, notT, truT, varE, conE, getV, setV, nameG, eqF, neF, eqW, R.bind, R.so, retS, nxS, frzE, newE, lstF, argsF, unWs, unW, snap, op2, op1, addF, subF, mulF, ixF, callB, callF, arg1, strF, valE, intF, dataL, ifE, notNF, isNF, isNon, lenF, absF, callP, callI, snaps, anyRef, tupOnly, List.replicate, ltF, gtF, geF, leF, cmpF, slE, bndE, methE, methF, kindW, dropS, tupE, listG, itemsS, truW, joinG, textsOf, negF, f2, wS]
    have hsm : small64 s = true := by rcases hs with rfl | rfl <;> rfl
    obtain ⟨hkey, hok⟩ := K.k (expsG exL r ls).1 (hlen r)
    have hput := putK_enc K.h (key (expsG exL r ls).1) (s * n) (dictK key F)
    rw [hkey] at hput
    have hbl : Nat.blt (encW ek (dictK key F)).length 16777216 = true := by
      have h1 : (encW ek (dictK key F)).length = (dictK key F).length := by simp [encW]
      rw [h1]
      exact blt16 (Nat.lt_of_le_of_lt (dictK_len key F) (by omega))
    have hu := unWs_wI (expsG exL r ls).1
    have e4 : asgS (subG kt (varE 3) (callB (tupleG) [(varE 7)])) (op2 mulF (varE 2) (varE 6)) [V0, some (.d (.lst (ls.map fun l => .str [l]))), some (.d (.int s)), some (.ref 0), some (.ref k'), some (.d (.str w)), some (.d (.int n)), some (.ref S.length), x8, x9] S' = .nx [V0, some (.d (.lst (ls.map fun l => .str [l]))), some (.d (.int s)), some (.ref 0), some (.ref k'), some (.d (.str w)), some (.d (.int n)), some (.ref S.length), x8, x9] (setO S' 0 (.dct true (encW ek (putP (dictK key F) (key (expsG exL r ls).1) (s * n))))) := by
      simp only [List.nil_append] at f3
      simp only [asgS, op2, varE, getV, R.bind, mulF, hsm, Bool.true_or, if_true, R.so, subG, callB, argsF, tupleG, itemsS, f3, hu, setIx, f7, hok, hbl, Bool.and_self, hput]
    have e5 : asgS (nameG 2) (op2 (ixF kt) (frzE (lstF [(conE (.int 1)), (op1 negF (conE (.int 1)))])) (callB (arg1 intF) [(valE (t2 eqF (varE 5) (conE (.str [45]))))])) [V0, some (.d (.lst (ls.map fun l => .str [l]))), some (.d (.int s)), some (.ref 0), some (.ref k'), some (.d (.str w)), some (.d (.int n)), some (.ref S.length), x8, x9] (setO S' 0 (.dct true (encW ek (putP (dictK key F) (key (expsG exL r ls).1) (s * n))))) = .nx [V0, some (.d (.lst (ls.map fun l => .str [l]))), some (.d (.int (if w = [43] then 1 else -1))), some (.ref 0), some (.ref k'), some (.d (.str w)), some (.d (.int n)), some (.ref S.length), x8, x9] (setO S' 0 (.dct true (encW ek (putP (dictK key F) (key (expsG exL r ls).1) (s * n))))) := by
      rcases hsep with rfl | rfl <;> rfl
    refine ⟨k', setO S' 0 (.dct true (encW ek (putP (dictK key F) (key (expsG exL r ls).1) (s * n)))), some (.ref S.length), x8, x9, ?_, f5, ?_, ?_⟩
    · unfold lawTail
      rw [seqS_nx e1, seqS_nx e2, seqS_nx e3, seqS_nx e4, e5]
    · rw [getO_ne _ _ _ _ (Ne.symm f5)]; exact f2
    · rw [getO_set f7, dictK_snoc]
  · rw [if_neg hq]
    refine ⟨S', ?_⟩
    have e3 : ifS (t2 gtF (callB (arg1 lenF) [(varE 4)]) (conE (.int 0))) (retS (conE (.non))) nxS [V0, some (.d (.lst (ls.map fun l => .str [l]))), some (.d (.int s)), some (.ref 0), some (.ref k'), some (.d (.str w)), some (.d (.int n)), some (.ref S.length), x8, x9] S' = .rt (.d .non) S' := by
      cases hc : (expsG exL r ls).2 with
      | nil => exact absurd hc hq
      | cons a b =>
        rw [hc] at f2
        have hpos : (0 : Int) < (b.length : Int) + 1 := by omega
        simp (disch := omega) [small_iff, smallN_iff, sm1, sm0, succ0, atL0, atL1, atLn, cutT1, cutT2, cutD1, cutD2, cutT, cutD, cutTD, runP, runI, startV, seqS, asgS, ifS, t2, t1, andT, orT, notT, truT, varE, conE, getV, setV, nameG, eqF, neF, eqW, R.bind, R.so, retS, nxS, frzE, newE, lstF, argsF, unWs, unW, snap, op2, op1, addF, subF, mulF, ixF, callB, callF, arg1, strF, valE, intF, dataL, ifE, notNF, isNF, isNon, lenF, absF, callP, callI, snaps, anyRef, tupOnly, List.replicate, ltF, gtF, geF, leF, cmpF, slE, bndE, methE, methF, kindW, dropS, tupE, listG, itemsS, truW, joinG, textsOf, negF, f2, wS, hpos]
    unfold lawTail
    rw [seqS_nx e1, seqS_nx e2, seqS_rt e3]
theorem num_ok (V0 V1 V2 V3 V5 V7 V8 V9 : Option W) {w : List Nat} {r : List (List Nat)} {S : Store} {k : Nat} (hw : w.length ≤ 16777216) (hk0 : k ≠ 0) (hk : getO S k = some (.lst (wS (w :: r)))) {n : Int} {q : List (List Nat)} (hn : numL (w :: r) = some (n, q)) :
    ∃ k' S', lawNum [V0, V1, V2, V3, some (.ref k), V5, some (.d (.int 1)), V7, V8, V9] S = .nx [V0, V1, V2, V3, some (.ref k'), V5, some (.d (.int n)), V7, V8, V9] S' ∧ k' ≠ 0 ∧ getO S' k' = some (.lst (wS q)) ∧ (∀ t, getO S 0 = some t → getO S' 0 = some t) := by
  have hi := law_int hw
  simp only [numL] at hn
  have hk2 := hk
  simp only [wS, List.map_cons] at hk2
  have hlt := getO_lt S k _ hk
  cases hr : rdI w with
  | none =>
    rw [hr] at hn hi
    cases hn
    refine ⟨k, S, ?_, hk0, hk, fun _ h => h⟩
    simp (disch := omega) [small_iff, smallN_iff, sm1, sm0, succ0, atL0, atL1, atLn, cutT1, cutT2, cutD1, cutD2, cutT, cutD, cutTD, runP, runI, startV, seqS, asgS, ifS, t2, t1, andT, orT, notT, truT, varE, conE, getV, setV, nameG, eqF, neF, eqW, R.bind, R.so, retS, nxS, frzE, newE, lstF, argsF, unWs, unW, snap, op2, op1, addF, subF, mulF, ixF, callB, callF, arg1, strF, valE, intF, dataL, ifE, notNF, isNF, isNon, lenF, absF, callP, callI, snaps, anyRef, tupOnly, List.replicate, ltF, gtF, geF, leF, cmpF, slE, bndE, methE, methF, kindW, dropS, tupE, listG, itemsS, truW, joinG, textsOf, negF, lawNum, hk2, hi, encI]
  | some m =>
    rw [hr] at hn hi
    cases hn
    have hit : itemsL S (.ref k) = some (wS (w :: r)) := itemsL_wS hk
    have hcut : cut (wS (w :: r)) (some 1) none = wS r := by rw [cutD1]; simp [wS]
    have hne : slF (varE 4) (some (conE (.int 1))) none [V0, V1, V2, V3, some (.ref k), V5, some (.d (.int n)), V7, V8, V9] S = .ok (wS r) S := by
      simp only [slF, varE, getV, R.bind, bndE, conE, hit, hcut]
    refine ⟨S.length, S ++ [.lst (wS r)], ?_, by omega, getO_end _ _, fun t h => getO_some _ h⟩
    simp (disch := omega) [small_iff, smallN_iff, sm1, sm0, succ0, atL0, atL1, atLn, cutT1, cutT2, cutD1, cutD2, cutT, cutD, cutTD, runP, runI, startV, seqS, asgS, ifS, t2, t1, andT, orT, notT, truT, varE, conE, getV, setV, nameG, eqF, neF, eqW, R.bind, R.so, retS, nxS, frzE, newE, lstF, argsF, unWs, unW, snap, op2, op1, addF, subF, mulF, ixF, callB, callF, arg1, strF, valE, intF, dataL, ifE, notNF, isNF, isNon, lenF, absF, callP, callI, snaps, anyRef, tupOnly, List.replicate, ltF, gtF, geF, leF, cmpF, slE, bndE, methE, methF, kindW, dropS, tupE, listG, itemsS, truW, joinG, textsOf, negF, lawNum, hk2, hi, encI, hne]
theorem law_terms_loop {κ : Type} [DecidableEq κ] {ls : List Nat} {ek : κ → D} {key : List Int → κ} (K : KeyOk κ ls ek key) (hls : ls.length ≤ 900) (hlen : ∀ ws : List (List Nat), (expsG exL ws ls).1.length = ls.length) (T : Option W) :
    ∀ (ws : List (List Nat)) (s : Int) (acc : List (List Nat)) (F : List (Int × List Int)) (S : Store) (k : Nat) (x5 x6 x7 x8 x9 : Option W), (∀ w ∈ ws, w.length ≤ 16777216) → (∀ w ∈ acc, w.length ≤ 16777216) → acc.length + ws.length ≤ 10000000 → F.length + ws.length ≤ 10000000 → (s = 1 ∨ s = -1) → k ≠ 0 →
    getO S 0 = some (.dct true (encW ek (dictK key F))) → getO S k = some (.lst (wS acc)) →
    (match goG (fun ws => termL ws ls) s acc ws F with
    | none => ∃ S', forL (nameG 5) l1__law_terms_of (wS ws) [T, some (.d (.lst (ls.map fun l => .str [l]))), some (.d (.int s)), some (.ref 0), some (.ref k), x5, x6, x7, x8, x9] S = .rt (.d .non) S'
    | some F' => ∃ e' S', forL (nameG 5) l1__law_terms_of (wS ws) [T, some (.d (.lst (ls.map fun l => .str [l]))), some (.d (.int s)), some (.ref 0), some (.ref k), x5, x6, x7, x8, x9] S = .nx e' S' ∧ getV e' 3 = some (.ref 0) ∧ getO S' 0 = some (.dct true (encW ek (dictK key F'))))
  | [], s, acc, F, S, k, x5, x6, x7, x8, x9, _, _, _, _, _, _, h0, _ => by
    simp only [goG]
    exact ⟨_, S, rfl, rfl, h0⟩
  | w :: r, s, acc, F, S, k, x5, x6, x7, x8, x9, hw, ha, h1, h2, hs, hk, h0, h3 => by
    simp only [List.length_cons] at h1 h2
    have hr : ∀ w ∈ r, w.length ≤ 16777216 := fun w h => hw w (List.mem_cons_of_mem _ h)
    have hin := in_wordsL kt (S := S) w [[43], [45]]
    simp only [List.map_cons, List.map_nil] at hin
    by_cases hsep : w = [43] ∨ w = [45]
    · have hc : ([[43], [45]] : List (List Nat)).contains w = true := by
        rcases hsep with rfl | rfl <;> rfl
      rw [hc] at hin
      simp only [goG, if_pos hsep]
      -- the first steps
      have s1 : ifS (t2 (notInF kt) (varE 5) (frzE (lstF [(conE (.str [43])), (conE (.str [45]))]))) (seqS (dropS (methE [2] appendG (varE 4) [(varE 5)])) cntS) nxS [T, some (.d (.lst (ls.map fun l => .str [l]))), some (.d (.int s)), some (.ref 0), some (.ref k), some (.d (.str w)), x6, x7, x8, x9] S = .nx [T, some (.d (.lst (ls.map fun l => .str [l]))), some (.d (.int s)), some (.ref 0), some (.ref k), some (.d (.str w)), x6, x7, x8, x9] S := by
        simp only [ifS, t2, varE, getV, R.bind, frzE, lstF, argsF, conE, unWs, Option.map_some, notInF, hin, R.so]; rfl
      have s2 : asgS (nameG 6) (conE (.int 1)) [T, some (.d (.lst (ls.map fun l => .str [l]))), some (.d (.int s)), some (.ref 0), some (.ref k), some (.d (.str w)), x6, x7, x8, x9] S = .nx [T, some (.d (.lst (ls.map fun l => .str [l]))), some (.d (.int s)), some (.ref 0), some (.ref k), some (.d (.str w)), some (.d (.int 1)), x7, x8, x9] S := rfl
      cases hacc : acc with
      | nil =>
        subst hacc
        have ht : termL [] ls = none := rfl
        simp only [ht]
        refine ⟨S, ?_⟩
        refine forL_rt (e1 := [T, some (.d (.lst (ls.map fun l => .str [l]))), some (.d (.int s)), some (.ref 0), some (.ref k), some (.d (.str w)), x6, x7, x8, x9]) (S1 := S) (by rfl) ?_
        unfold l1__law_terms_of
        rw [seqS_nx s1, seqS_nx s2, seqS_rt (w := .d .non) (S' := S) (by simp (disch := omega) [small_iff, smallN_iff, sm1, sm0, succ0, atL0, atL1, atLn, cutT1, cutT2, cutD1, cutD2, cutT, cutD, cutTD, runP, runI, startV, seqS, asgS, ifS, t2, t1, andT, orT, notT, truT, varE, conE, getV, setV, nameG, eqF, neF, eqW, R.bind, R.so, retS, nxS, frzE, newE, lstF, argsF, unWs, unW, snap, op2, op1, addF, subF, mulF, ixF, callB, callF, arg1, strF, valE, intF, dataL, ifE, notNF, isNF, isNon, lenF, absF, callP, callI, snaps, anyRef, tupOnly, List.replicate, ltF, gtF, geF, leF, cmpF, slE, bndE, methE, methF, kindW, dropS, tupE, listG, itemsS, truW, joinG, textsOf, negF, h3, wS])]
      | cons a b =>
        subst hacc
        have hpos : ¬ ((b.length : Int) + 1 = 0) := by omega
        have s3 : ifS (t2 eqF (callB (arg1 lenF) [(varE 4)]) (conE (.int 0))) (retS (conE (.non))) nxS [T, some (.d (.lst (ls.map fun l => .str [l]))), some (.d (.int s)), some (.ref 0), some (.ref k), some (.d (.str w)), some (.d (.int 1)), x7, x8, x9] S = .nx [T, some (.d (.lst (ls.map fun l => .str [l]))), some (.d (.int s)), some (.ref 0), some (.ref k), some (.d (.str w)), some (.d (.int 1)), x7, x8, x9] S := by
          simp (disch := omega) [small_iff, smallN_iff, sm1, sm0, succ0, atL0, atL1, atLn, cutT1, cutT2, cutD1, cutD2, cutT, cutD, cutTD, runP, runI, startV, seqS, asgS, ifS, t2, t1, andT, orT, notT, truT, varE, conE, getV, setV, nameG, eqF, neF, eqW, R.bind, R.so, retS, nxS, frzE, newE, lstF, argsF, unWs, unW, snap, op2, op1, addF, subF, mulF, ixF, callB, callF, arg1, strF, valE, intF, dataL, ifE, notNF, isNF, isNon, lenF, absF, callP, callI, snaps, anyRef, tupOnly, List.replicate, ltF, gtF, geF, leF, cmpF, slE, bndE, methE, methF, kindW, dropS, tupE, listG, itemsS, truW, joinG, textsOf, negF, h3, wS, hpos]
        obtain ⟨⟨n, q⟩, hn⟩ : ∃ p, numL (a :: b) = some p := by
          simp only [numL]; split <;> exact ⟨_, rfl⟩
        have hq : ∀ x ∈ q, x.length ≤ 16777216 := by
          simp only [numL] at hn
          split at hn <;> cases hn
          · exact fun x hx => ha x (List.mem_cons_of_mem _ hx)
          · exact ha
        obtain ⟨k1, S1, n1, n2, n3, n4⟩ := num_ok T (some (.d (.lst (ls.map fun l => .str [l])))) (some (.d (.int s))) (some (.ref 0)) (some (.d (.str w))) x7 x8 x9 (ha a List.mem_cons_self) hk h3 hn
        have n5 := n4 _ h0
        unfold lawNum at n1
        have ht := tail_ok K hls hlen T x7 x8 x9 (w := w) (n := n) (F := F) hsep hs hq n2 (by omega) n5 n3
        have hbody : ∀ o, lawTail [T, some (.d (.lst (ls.map fun l => .str [l]))), some (.d (.int s)), some (.ref 0), some (.ref k1), some (.d (.str w)), some (.d (.int n)), x7, x8, x9] S1 = o → l1__law_terms_of [T, some (.d (.lst (ls.map fun l => .str [l]))), some (.d (.int s)), some (.ref 0), some (.ref k), some (.d (.str w)), x6, x7, x8, x9] S = o := by
          intro o ho
          unfold l1__law_terms_of
          rw [seqS_nx s1, seqS_nx s2, seqS_nx s3, seqS_nx n1]
          exact ho
        simp only [termL, hn]
        by_cases hE : (expsG exL q ls).2 = []
        · rw [if_pos hE] at ht ⊢
          obtain ⟨k', S', y7, y8, y9, t1, t2, t3, t4⟩ := ht
          simp only
          have ih := law_terms_loop K hls hlen T r (if w = [43] then 1 else -1) [] (F ++ [(s * n, (expsG exL q ls).1)]) S' k' (some (.d (.str w))) (some (.d (.int n))) y7 y8 y9 hr (by simp) (by simp; omega) (by simp; omega) (by split <;> simp) t2 t4 t3
          have hf : forL (nameG 5) l1__law_terms_of (wS (w :: r)) [T, some (.d (.lst (ls.map fun l => .str [l]))), some (.d (.int s)), some (.ref 0), some (.ref k), x5, x6, x7, x8, x9] S = _ := forL_nx (by rfl) (hbody _ t1)
          rw [hf]
          exact ih
        · rw [if_neg hE] at ht ⊢
          obtain ⟨S', t1⟩ := ht
          exact ⟨S', forL_rt (by rfl) (hbody _ t1)⟩
    · have hc : ([[43], [45]] : List (List Nat)).contains w = false := by
        have a : ¬ w = [43] := fun h => hsep (.inl h)
        have b : ¬ w = [45] := fun h => hsep (.inr h)
        simp [a, b]
      rw [hc] at hin
      simp only [goG, if_neg hsep]
      have hb : Nat.blt acc.length 16777216 = true := blt16 (by omega)
      have e1 : l1__law_terms_of [T, some (.d (.lst (ls.map fun l => .str [l]))), some (.d (.int s)), some (.ref 0), some (.ref k), some (.d (.str w)), x6, x7, x8, x9] S =
            .ct [T, some (.d (.lst (ls.map fun l => .str [l]))), some (.d (.int s)), some (.ref 0), some (.ref k), some (.d (.str w)), x6, x7, x8, x9] (setO S k (.lst (wS (acc ++ [w])))) := by
        unfold l1__law_terms_of
        refine seqS_ct ?_
        have ht : t2 (notInF kt) (varE 5) (frzE (lstF [(conE (.str [43])), (conE (.str [45]))])) [T, some (.d (.lst (ls.map fun l => .str [l]))), some (.d (.int s)), some (.ref 0), some (.ref k), some (.d (.str w)), x6, x7, x8, x9] S = .ok true S := by
          simp only [t2, varE, getV, R.bind, frzE, lstF, argsF, conE, unWs, Option.map_some, notInF, hin]; rfl
        rw [ifS_t ht, seqS_nx (e' := [T, some (.d (.lst (ls.map fun l => .str [l]))), some (.d (.int s)), some (.ref 0), some (.ref k), some (.d (.str w)), x6, x7, x8, x9]) (S' := setO S k (.lst (wS (acc ++ [w])))) (by simp (disch := omega) [small_iff, smallN_iff, sm1, sm0, succ0, atL0, atL1, atLn, cutT1, cutT2, cutD1, cutD2, cutT, cutD, cutTD, runP, runI, startV, seqS, asgS, ifS, t2, t1, andT, orT, notT, truT, varE, conE, getV, setV, nameG, eqF, neF, eqW, R.bind, R.so, retS, nxS, frzE, newE, lstF, argsF, unWs, unW, snap, op2, op1, addF, subF, mulF, ixF, callB, callF, arg1, strF, valE, intF, dataL, ifE, notNF, isNF, isNon, lenF, absF, callP, callI, snaps, anyRef, tupOnly, List.replicate, ltF, gtF, geF, leF, cmpF, slE, bndE, methE, methF, kindW, dropS, tupE, listG, itemsS, truW, joinG, textsOf, negF, appendG, h3, wS_len, hb, wS_app])]
        rfl
      have ih := law_terms_loop K hls hlen T r s (acc ++ [w]) F (setO S k (.lst (wS (acc ++ [w])))) k (some (.d (.str w))) x6 x7 x8 x9 hr (by
          intro x hx
          rcases List.mem_append.mp hx with hx | hx
          · exact ha x hx
          · simp only [List.mem_singleton] at hx; subst hx; exact hw _ List.mem_cons_self) (by simp; omega) (by omega) hs hk (by rw [getO_ne _ _ _ _ hk]; exact h0) (getO_set h3)
      have hf : forL (nameG 5) l1__law_terms_of (wS (w :: r)) [T, some (.d (.lst (ls.map fun l => .str [l]))), some (.d (.int s)), some (.ref 0), some (.ref k), x5, x6, x7, x8, x9] S = _ := forL_ct (by rfl) e1
      rw [hf]
      exact ih
theorem exps_len {ex : List Nat → Nat → Option Int} : ∀ (ls : List Nat) (ws : List (List Nat)), (expsG ex ws ls).1.length = ls.length
  | [], ws => by simp [expsG]
  | l :: ls, [] => by simp [expsG, exps_len ls]
  | l :: ls, w :: ws => by
    simp only [expsG]
    cases ex w l <;> simp [exps_len ls]
def encK {κ : Type} [DecidableEq κ] (ek : κ → D) (key : List Int → κ) : Option (List (Int × List Int)) → D
  | none => .non
  | some F => .dct true (encD ek (dictK key F))
theorem law_terms_of {κ : Type} [DecidableEq κ] {ls : List Nat} {ek : κ → D} {key : List Int → κ} (K : KeyOk κ ls ek key) {t : List Nat} (ht : t.length ≤ 5000000) (hls : ls.length ≤ 900) : _law_terms_of_ [.str t, .lst (ls.map fun l => .str [l])] = .ok (encK ek key (termsG (fun ws => termL ws ls) t)) := by
  have hs : small t = true := small_iff (by omega)
  have key' : ∃ w S, b__law_terms_of [some (.d (.str t)), some (.d (.lst (ls.map fun l => .str [l]))), none, none, none, none, none, none, none, none] [] = .rt w S ∧ snap S w = some (encK ek key (termsG (fun ws => termL ws ls) t)) := by
    unfold b__law_terms_of termsG
    by_cases a : t = [48]
    · rw [seqS_rt (w := .ref 0) (S' := [.dct true []]) (by simp (disch := omega) [small_iff, smallN_iff, sm1, sm0, succ0, atL0, atL1, atLn, cutT1, cutT2, cutD1, cutD2, cutT, cutD, cutTD, runP, runI, startV, seqS, asgS, ifS, t2, t1, andT, orT, notT, truT, varE, conE, getV, setV, nameG, eqF, neF, eqW, R.bind, R.so, retS, nxS, frzE, newE, lstF, argsF, unWs, unW, snap, op2, op1, addF, subF, mulF, ixF, callB, callF, arg1, strF, valE, intF, dataL, ifE, notNF, isNF, isNon, lenF, absF, callP, callI, snaps, anyRef, tupOnly, List.replicate, ltF, gtF, geF, leF, cmpF, slE, bndE, methE, methF, kindW, dropS, tupE, listG, itemsS, truW, joinG, textsOf, negF, a, dictE])]
      exact ⟨_, _, rfl, by rw [if_pos a]; rfl⟩
    · have a' : (t == [48]) = false := by simpa using a
      rw [seqS_nx (e' := [some (.d (.str t)), some (.d (.lst (ls.map fun l => .str [l]))), none, none, none, none, none, none, none, none]) (S' := []) (by simp only [ifS, t2, varE, getV, R.bind, eqF, eqW, a', R.so, conE]; rfl)]
      rw [seqS_nx (e' := [some (.d (.str t)), some (.d (.lst (ls.map fun l => .str [l]))), some (.d (.int 1)), none, none, none, none, none, none, none]) (S' := []) (by rfl)]
      rw [seqS_nx (e' := [some (.d (.str (restOf t))), some (.d (.lst (ls.map fun l => .str [l]))), some (.d (.int (signOf t))), none, none, none, none, none, none, none]) (S' := []) (by
        unfold restOf signOf
        by_cases b : t.take 1 = [45]
        · simp (disch := omega) [small_iff, smallN_iff, sm1, sm0, succ0, atL0, atL1, atLn, cutT1, cutT2, cutD1, cutD2, cutT, cutD, cutTD, runP, runI, startV, seqS, asgS, ifS, t2, t1, andT, orT, notT, truT, varE, conE, getV, setV, nameG, eqF, neF, eqW, R.bind, R.so, retS, nxS, frzE, newE, lstF, argsF, unWs, unW, snap, op2, op1, addF, subF, mulF, ixF, callB, callF, arg1, strF, valE, intF, dataL, ifE, notNF, isNF, isNon, lenF, absF, callP, callI, snaps, anyRef, tupOnly, List.replicate, ltF, gtF, geF, leF, cmpF, slE, bndE, methE, methF, kindW, dropS, tupE, listG, itemsS, truW, joinG, textsOf, negF, b]
        · have b' : (t.take 1 == [45]) = false := by simpa using b
          simp (disch := omega) [small_iff, smallN_iff, sm1, sm0, succ0, atL0, atL1, atLn, cutT1, cutT2, cutD1, cutD2, cutT, cutD, cutTD, runP, runI, startV, seqS, asgS, ifS, t2, t1, andT, orT, notT, truT, varE, conE, getV, setV, nameG, eqF, neF, eqW, R.bind, R.so, retS, nxS, frzE, newE, lstF, argsF, unWs, unW, snap, op2, op1, addF, subF, mulF, ixF, callB, callF, arg1, strF, valE, intF, dataL, ifE, notNF, isNF, isNon, lenF, absF, callP, callI, snaps, anyRef, tupOnly, List.replicate, ltF, gtF, geF, leF, cmpF, slE, bndE, methE, methF, kindW, dropS, tupE, listG, itemsS, truW, joinG, textsOf, negF, b', b])]
      rw [seqS_nx (e' := [some (.d (.str (restOf t))), some (.d (.lst (ls.map fun l => .str [l]))), some (.d (.int (signOf t))), some (.ref 0), none, none, none, none, none, none]) (S' := [.dct true []]) (by rfl)]
      rw [seqS_nx (e' := [some (.d (.str (restOf t))), some (.d (.lst (ls.map fun l => .str [l]))), some (.d (.int (signOf t))), some (.ref 0), some (.ref 1), none, none, none, none, none]) (S' := [.dct true [], .lst []]) (by rfl)]
      have hrl := restOf_len t
      have hws : (splitC 32 [] (restOf t)).length ≤ (restOf t).length + 1 := splitC_len 32 (restOf t) []
      have hwm := split_len2 32 (restOf t) []
      have hfix : seqI (op2 addF (frzE (methF [1] splitG (varE 0) [(conE (.str [32]))])) (frzE (lstF [(conE (.str [43]))]))) [some (.d (.str (restOf t))), some (.d (.lst (ls.map fun l => .str [l]))), some (.d (.int (signOf t))), some (.ref 0), some (.ref 1), none, none, none, none, none] [.dct true [], .lst []] = .ok (.fix (wS (splitC 32 [] (restOf t) ++ [[43]]))) [.dct true [], .lst []] := by
        have hsn : smallN ((restOf t).length + 2) = true := smallN_iff (by omega)
        have hbl : Nat.blt 32 128 = true := rfl
        have hu := unWs_map D.str (splitC 32 [] (restOf t))
        simp (disch := omega) [small_iff, smallN_iff, sm1, sm0, succ0, atL0, atL1, atLn, cutT1, cutT2, cutD1, cutD2, cutT, cutD, cutTD, runP, runI, startV, seqS, asgS, ifS, t2, t1, andT, orT, notT, truT, varE, conE, getV, setV, nameG, eqF, neF, eqW, R.bind, R.so, retS, nxS, frzE, newE, lstF, argsF, unWs, unW, snap, op2, op1, addF, subF, mulF, ixF, callB, callF, arg1, strF, valE, intF, dataL, ifE, notNF, isNF, isNon, lenF, absF, callP, callI, snaps, anyRef, tupOnly, List.replicate, ltF, gtF, geF, leF, cmpF, slE, bndE, methE, methF, kindW, dropS, tupE, listG, itemsS, truW, joinG, textsOf, negF, seqI, splitG, hsn, hbl, hu, wS]
      have loop := law_terms_loop K hls (exps_len ls) (some (.d (.str (restOf t)))) (splitC 32 [] (restOf t) ++ [[43]]) (signOf t) [] [] [.dct true [], .lst []] 1 none none none none none (by
          intro w hw
          rcases List.mem_append.mp hw with hw | hw
          · have := hwm w hw; simp at this; omega
          · simp only [List.mem_singleton] at hw; subst hw; simp) (by simp) (by simp; omega) (by simp; omega) (by unfold signOf; split <;> simp) (by omega) rfl rfl
      rw [if_neg a]
      cases hg : goG (fun ws => termL ws ls) (signOf t) [] (splitC 32 [] (restOf t) ++ [[43]]) [] with
      | none =>
        rw [hg] at loop
        obtain ⟨S', h⟩ := loop
        rw [seqS_rt (by rw [forS_fix hfix]; exact h)]
        exact ⟨_, _, rfl, rfl⟩
      | some F =>
        rw [hg] at loop
        obtain ⟨e', S', h, h', h''⟩ := loop
        rw [seqS_nx (by rw [forS_fix hfix]; exact h)]
        refine ⟨.ref 0, S', ?_, ?_⟩
        · simp only [retS, varE, h', R.so]
        · simp only [snap, h'', unKW_enc, Option.map_some, encK]
  obtain ⟨w, S, h1, h2⟩ := key'
  exact runP_rt rfl h1 h2
theorem key1_ok (l : Nat) : KeyOk Int [l] eT (fun es => es.headD 0) := by
  refine ⟨hek_T, fun es h => ?_⟩
  rcases es with _ | ⟨a, _ | ⟨b, r⟩⟩
  · simp at h
  · exact ⟨rfl, keyT1 a⟩
  · simp at h
theorem key2_ok (l m : Nat) : KeyOk (Int × Int) [l, m] eP (fun es => (es.headD 0, (es.drop 1).headD 0)) := by
  refine ⟨hek_P, fun es h => ?_⟩
  rcases es with _ | ⟨a, _ | ⟨b, _ | ⟨c, r⟩⟩⟩
  · simp at h
  · simp at h
  · exact ⟨rfl, keyP (a, b)⟩
  · simp at h
end K54

end

section
set_option linter.all false
set_option maxRecDepth 100000
set_option linter.all false
set_option maxRecDepth 100000
namespace Pw
open Pv
theorem snaps_d (S : Store) : ∀ (ds : List D), snaps S (ds.map .d) = some ds
  | [] => rfl
  | x :: r => by simp only [List.map_cons, snaps, snap, snaps_d S r]
theorem anyRef_d : ∀ (ds : List D), anyRef (ds.map .d) = false
  | [] => rfl
  | x :: r => by simp only [List.map_cons, anyRef, anyRef_d r]
theorem callP_d {f : List D → P} {as : List EV} {e : En} {S S' : Store} (ds : List D) {x : D} (h : argsF as e S = .ok (ds.map .d) S') (h' : f ds = .ok x) : callP f as e S = .ok (.d x) S' := by
  unfold callP
  rw [h]
  simp only [R.bind, snaps_d, h', anyRef_d, Bool.false_and]
  rfl
end Pw
namespace K54
open Pv Pw
theorem nodup_new {d : List (Int × Int)} (h : (d.map (·.1)).Nodup) {k : Nat} {p : Int × Int} (hp : d[k]? = some p) : p.1 ∉ (d.take k).map (·.1) := by
  intro hm
  obtain ⟨q, hq, e⟩ := List.mem_map.mp hm
  obtain ⟨i, hi, e2⟩ := List.getElem_of_mem hq
  rw [List.length_take] at hi
  rw [List.getElem_take] at e2
  have hkl := (List.getElem?_eq_some_iff.mp hp).1
  have hpe := (List.getElem?_eq_some_iff.mp hp).2
  unfold List.Nodup at h
  rw [List.pairwise_iff_getElem] at h
  have := h i k (by rw [List.length_map]; omega) (by rw [List.length_map]; exact hkl) (by omega)
  rw [List.getElem_map, List.getElem_map, e2, hpe] at this
  exact this e
def dueR (b : Bool) (x : D) : D := if b then readD x else refD
theorem pick_ok {e : En} {S S1 S2 : Store} {x : D} {t : List Nat} {T : List Nat} {u v : EV} (hv : v e S = .ok (.d x) S) (hu : u e S = .ok (.d (.str T)) S) (ht : getV e 0 = some (.d (.str t))) :
    (retS (op2 (ixF kt) (frzE (lstF [(tupE [(conE (.str [114, 101, 102, 117, 115, 101, 100])), (conE (.int 0))]), (tupE [(conE (.str [114, 101, 97, 100])), v])])) (callB (arg1 intF) [(valE (t2 eqF u (varE 0)))]))) e S = .rt (.d (dueR (T == t) x)) S := by
  cases hb : T == t with
  | true => simp [retS, op2, frzE, lstF, argsF, tupE, conE, R.bind, hv, unWs, callB, arg1, valE, t2, hu, varE, ht, eqF, eqW, hb, intF, ixF, atL1, R.so, dueR, readD]
  | false => simp only [retS, op2, frzE, lstF, argsF, tupE, conE, R.bind, hv, unWs, callB, arg1, valE, t2, hu, varE, ht, eqF, eqW, hb, intF, ixF, atL0, R.so, dueR, readD, refD, Option.map_some]; rfl
theorem due2 {t : List Nat} (ht : t.length ≤ 5000000) : (termsG (fun ws => termL ws [118, 122]) t = none → _law_due_ [.str t, .str []] = .ok refD) ∧
    (∀ F, termsG (fun ws => termL ws [118, 122]) t = some F → F.length ≤ 81 → (∀ u ∈ F, FB [118, 122] u) → _law_due_ [.str t, .str []] = .ok (dueR (twoT (tw (dict2 F)) == t) (twoD (tw (dict2 F))))) := by
  have h1 := law_terms_of (key2_ok 118 122) (t := t) ht (by simp)
  simp only [List.map_cons, List.map_nil] at h1
  have first : ∀ x, _law_terms_of_ [.str t, .lst [.str [118], .str [122]]] = .ok x → ∀ o rest, (seqS (ifS (t1 isNF (varE 2)) (retS (tupE [(conE (.str [114, 101, 102, 117, 115, 101, 100])), (conE (.int 0))])) nxS) rest) [some (.d (.str t)), some (.d (.str [])), some (.d x), none, none, none] [] = o →
      (seqS (asgS (nameG 2) (callP _law_terms_of_ [(varE 0), (frzE (lstF [(conE (.str [118])), (conE (.str [122]))]))])) (seqS (ifS (t1 isNF (varE 2)) (retS (tupE [(conE (.str [114, 101, 102, 117, 115, 101, 100])), (conE (.int 0))])) nxS) rest)) [some (.d (.str t)), some (.d (.str [])), none, none, none, none] [] = o := by
    intro x hx o rest ho
    rw [seqS_nx (e' := [some (.d (.str t)), some (.d (.str [])), some (.d x), none, none, none]) (S' := []) (by simp (disch := omega) [small_iff, smallN_iff, sm1, sm0, succ0, atL0, atL1, atLn, cutT1, cutT2, cutD1, cutD2, cutT, cutD, cutTD, runP, runI, startV, seqS, asgS, ifS, t2, t1, andT, orT, notT, truT, varE, conE, getV, setV, nameG, eqF, neF, eqW, R.bind, R.so, retS, nxS, frzE, newE, lstF, argsF, unWs, unW, snap, op2, op1, addF, subF, mulF, ixF, callB, callF, arg1, strF, valE, intF, dataL, ifE, notNF, isNF, isNon, lenF, absF, callP, callI, snaps, anyRef, tupOnly, List.replicate, ltF, gtF, geF, leF, cmpF, slE, bndE, methE, methF, kindW, dropS, tupE, listG, itemsS, truW, joinG, textsOf, negF, hx])]
    exact ho
  constructor
  · intro h
    rw [h] at h1
    have key : b__law_due [some (.d (.str t)), some (.d (.str [])), none, none, none, none] [] = .rt (.d refD) [] := by
      unfold b__law_due
      refine seqS_rt ?_
      rw [ifS_t (S' := []) (by rfl)]
      exact first _ h1 _ _ (seqS_rt (by rfl))
    exact runP_rt rfl key rfl
  · intro F h hl hF
    rw [h] at h1
    have hb := tw_bd hF hl
    have hfmt := law_two_ok hb
    have hd : dictK (fun es => (es.headD 0, (es.drop 1).headD 0)) F = dict2 F := rfl
    simp only [encK, hd] at h1
    have hc := tw_comp kt (i := 2) (v := 4) (own := [4]) (d := dict2 F) (e := [some (.d (.str t)), some (.d (.str [])), some (.d (.dct true (encD eP (dict2 F)))), none, none, none]) (S := []) (w := .d (.dct true (encD eP (dict2 F)))) rfl (by
      simp only [keysW, encD, List.map_map]; rfl) (Nat.le_trans (dict2_len F) (by omega)) (by
      intro p x hx
      have := getK_encD (ek := eP) hek_P p (dict2 F)
      rw [hx] at this
      simp only [ixF, keyP, if_true, this, Option.map_some]) (fun u => rfl) (fun u => rfl)
    have key : b__law_due [some (.d (.str t)), some (.d (.str [])), none, none, none, none] [] = .rt (.d (dueR (twoT (tw (dict2 F)) == t) (twoD (tw (dict2 F))))) [] := by
      unfold b__law_due
      refine seqS_rt ?_
      rw [ifS_t (S' := []) (by rfl)]
      refine first _ h1 _ _ ?_
      rw [seqS_nx (e' := [some (.d (.str t)), some (.d (.str [])), some (.d (.dct true (encD eP (dict2 F)))), none, none, none]) (S' := []) (by rfl)]
      rw [seqS_nx (e' := [some (.d (.str t)), some (.d (.str [])), some (.d (.dct true (encD eP (dict2 F)))), none, none, some (.d (twoD (tw (dict2 F))))]) (S' := []) (by
        unfold asgS callB argsF
        rw [hc]
        have := unWs_d ((tw (dict2 F)).map Pw.e3)
        rw [List.map_map] at this
        simp only [R.bind, argsF, tupleG, itemsS, List.map_map, this, R.so]
        rfl)]
      exact pick_ok (S1 := []) (S2 := []) (by rfl) (by
        simp only [callP, argsF, varE, getV, R.bind, snaps, snap, twoD, hfmt, anyRef]
        rfl) (by rfl)
    exact runP_rt rfl key rfl
theorem due1 {t : List Nat} {l : Nat} (ht : t.length ≤ 5000000) : (termsG (fun ws => termL ws [l]) t = none → _law_due_ [.str t, .str [l]] = .ok refD) ∧
    (∀ F, termsG (fun ws => termL ws [l]) t = some F → F.length ≤ 81 → (∀ u ∈ F, FB [l] u) → ∃ b ms, PolyOf (dict1 F) b ms ∧ Bd b ms ∧ _law_due_ [.str t, .str [l]] = .ok (dueR (oneT l b ms == t) (polyD b ms))) := by
  have h1 := law_terms_of (key1_ok l) (t := t) ht (by simp)
  simp only [List.map_cons, List.map_nil] at h1
  have h0 : ifS (t2 eqF (varE 1) (conE (.str []))) (seqS (asgS (nameG 2) (callP _law_terms_of_ [(varE 0), (frzE (lstF [(conE (.str [118])), (conE (.str [122]))]))]))
    (seqS (ifS (t1 isNF (varE 2))
      (retS (tupE [(conE (.str [114, 101, 102, 117, 115, 101, 100])), (conE (.int 0))]))
      nxS)
    (seqS (asgS (nameG 5) (callB (tupleG) [(frzE (compF [4] (seqI (frzE (callF sortDG [(varE 2)]))) (nameG 4) (t2 neF (op2 (ixF kt) (varE 2) (varE 4)) (conE (.int 0))) (op2 addF (varE 4) (tupE [(op2 (ixF kt) (varE 2) (varE 4))]))))]))
    (retS (op2 (ixF kt) (frzE (lstF [(tupE [(conE (.str [114, 101, 102, 117, 115, 101, 100])), (conE (.int 0))]), (tupE [(conE (.str [114, 101, 97, 100])), (varE 5)])])) (callB (arg1 intF) [(valE (t2 eqF (callP _law_two_ [(varE 5)]) (varE 0)))])))))) nxS [some (.d (.str t)), some (.d (.str [l])), none, none, none, none] [] = .nx [some (.d (.str t)), some (.d (.str [l])), none, none, none, none] [] := by
    rw [ifS_f (S' := []) (by rfl)]; rfl
  have first : ∀ x, _law_terms_of_ [.str t, .lst [.str [l]]] = .ok x → asgS (nameG 2) (callP _law_terms_of_ [(varE 0), (frzE (lstF [(varE 1)]))]) [some (.d (.str t)), some (.d (.str [l])), none, none, none, none] [] = .nx [some (.d (.str t)), some (.d (.str [l])), some (.d x), none, none, none] [] := by
    intro x hx
    simp (disch := omega) [small_iff, smallN_iff, sm1, sm0, succ0, atL0, atL1, atLn, cutT1, cutT2, cutD1, cutD2, cutT, cutD, cutTD, runP, runI, startV, seqS, asgS, ifS, t2, t1, andT, orT, notT, truT, varE, conE, getV, setV, nameG, eqF, neF, eqW, R.bind, R.so, retS, nxS, frzE, newE, lstF, argsF, unWs, unW, snap, op2, op1, addF, subF, mulF, ixF, callB, callF, arg1, strF, valE, intF, dataL, ifE, notNF, isNF, isNon, lenF, absF, callP, callI, snaps, anyRef, tupOnly, List.replicate, ltF, gtF, geF, leF, cmpF, slE, bndE, methE, methF, kindW, dropS, tupE, listG, itemsS, truW, joinG, textsOf, negF, hx]
  constructor
  · intro h
    rw [h] at h1
    have key : b__law_due [some (.d (.str t)), some (.d (.str [l])), none, none, none, none] [] = .rt (.d refD) [] := by
      unfold b__law_due
      rw [seqS_nx h0, seqS_nx (first _ h1), seqS_rt (w := .d refD) (S' := []) (by rfl)]
    exact runP_rt rfl key rfl
  · intro F h hl hF
    rw [h] at h1
    have hm := dict1_mem hF
    have hdl := dict1_len F
    obtain ⟨b, ms, h2, hp⟩ := law_poly_ok (dict1 F) (fun p hp => by have := (hm p hp).1; omega) (by omega)
    have hb := poly_bd hF hp
    have hfmt := law_one (bd_ok (l := l) hb) (by simp)
    refine ⟨b, ms, hp, hb, ?_⟩
    have hnd : ((dict1 F).map (·.1)).Nodup := dictP_nd _ _ (by simp)
    have hd : dictK (fun es => es.headD 0) F = dict1 F := rfl
    simp only [encK, hd] at h1
    have loop := forL_ind (g := nameG 4) (b := l0__law_due) (ws := (dict1 F).map fun p => W.d (eT p.1))
      (fun k e S => S = [.dct false (encW .int ((dict1 F).take k))] ∧ ∃ x4, e = [some (.d (.str t)), some (.d (.str [l])), some (.d (.dct true (encD eT (dict1 F)))), some (.ref 0), x4, none])
      (fun o => ∃ x4, o = .nx [some (.d (.str t)), some (.d (.str [l])), some (.d (.dct true (encD eT (dict1 F)))), some (.ref 0), x4, none] [.dct false (encW .int (dict1 F))])
      (by
        rintro k w e S hw ⟨rfl, x4, rfl⟩
        simp only [List.getElem?_map, Option.map_eq_some_iff] at hw
        obtain ⟨p, hpk, rfl⟩ := hw
        have hg : getP (dict1 F) p.1 = some p.2 := getP_nd hnd (List.mem_of_getElem? hpk)
        have hgk := getK_encD (ek := eT) hek_T p.1 (dict1 F)
        rw [hg] at hgk
        have hnew : p.1 ∉ ((dict1 F).take k).map (·.1) := nodup_new hnd hpk
        have hput := putK_enc (ek := D.int) hek_int p.1 p.2 ((dict1 F).take k)
        rw [putP_new hnew] at hput
        have hbl : Nat.blt (encW D.int ((dict1 F).take k)).length 16777216 = true := by
          have : (encW D.int ((dict1 F).take k)).length ≤ (dict1 F).length := by simp [encW]; omega
          exact blt16 (by omega)
        refine ⟨_, _, rfl, ?_⟩
        have hstep : l0__law_due (setV [some (.d (.str t)), some (.d (.str [l])), some (.d (.dct true (encD eT (dict1 F)))), some (.ref 0), x4, none] 4 (.d (eT p.1))) [.dct false (encW .int ((dict1 F).take k))] = .nx [some (.d (.str t)), some (.d (.str [l])), some (.d (.dct true (encD eT (dict1 F)))), some (.ref 0), some (.d (eT p.1)), none] [.dct false (encW .int ((dict1 F).take k ++ [(p.1, p.2)]))] := by
          have hix : op2 (ixF kt) (varE 2) (varE 4) [some (.d (.str t)), some (.d (.str [l])), some (.d (.dct true (encD eT (dict1 F)))), some (.ref 0), some (.d (eT p.1)), none] [.dct false (encW .int ((dict1 F).take k))] = .ok (.d (.int p.2)) [.dct false (encW .int ((dict1 F).take k))] := by
            simp only [op2, varE, getV, R.bind, ixF, keyT1, if_true, hgk, Option.map_some]
          have hi0 : op2 (ixF kt) (varE 4) (conE (.int 0)) [some (.d (.str t)), some (.d (.str [l])), some (.d (.dct true (encD eT (dict1 F)))), some (.ref 0), some (.d (eT p.1)), none] [.dct false (encW .int ((dict1 F).take k))] = .ok (.d (.int p.1)) [.dct false (encW .int ((dict1 F).take k))] := rfl
          have hok : okKey kt false (.int p.1) = true := rfl
          show l0__law_due [some (.d (.str t)), some (.d (.str [l])), some (.d (.dct true (encD eT (dict1 F)))), some (.ref 0), some (.d (eT p.1)), none] _ = _
          have hv3 : varE 3 [some (.d (.str t)), some (.d (.str [l])), some (.d (.dct true (encD eT (dict1 F)))), some (.ref 0), some (.d (eT p.1)), none] [.dct false (encW .int ((dict1 F).take k))] = .ok (.ref 0) [.dct false (encW .int ((dict1 F).take k))] := rfl
          simp only [l0__law_due, asgS, hix, R.so, subG, hv3, R.bind, hi0, setIx, getO, hok, hbl, Bool.and_self, if_true, hput, setO]
        rw [hstep]
        refine ⟨?_, _, rfl⟩
        rw [take_next hpk])
      (by
        rintro e S ⟨rfl, x4, rfl⟩
        exact ⟨x4, by simp⟩) (e := [some (.d (.str t)), some (.d (.str [l])), some (.d (.dct true (encD eT (dict1 F)))), some (.ref 0), none, none]) (S := [.dct false []]) ⟨rfl, none, rfl⟩
    obtain ⟨x4, hloop⟩ := loop
    have hfor : forN 2 (seqI (varE 2)) (nameG 4) l0__law_due [some (.d (.str t)), some (.d (.str [l])), some (.d (.dct true (encD eT (dict1 F)))), some (.ref 0), none, none] [.dct false []] = .nx [some (.d (.str t)), some (.d (.str [l])), some (.d (.dct true (encD eT (dict1 F)))), some (.ref 0), x4, none] [.dct false (encW .int (dict1 F))] := by
      have e1 : (encD eT (dict1 F)).map (fun kv => W.d kv.1) = (dict1 F).map fun p => W.d (eT p.1) := by simp [encD, Function.comp_def]
      simp only [forN, getV, e1, hloop, noX]
    have hu := unKW_enc D.int (dict1 F)
    have htp := polyD_tup b ms
    have key : b__law_due [some (.d (.str t)), some (.d (.str [l])), none, none, none, none] [] = .rt (.d (dueR (oneT l b ms == t) (polyD b ms))) [.dct false (encW .int (dict1 F))] := by
      unfold b__law_due
      rw [seqS_nx h0, seqS_nx (first _ h1), seqS_nx (e' := [some (.d (.str t)), some (.d (.str [l])), some (.d (.dct true (encD eT (dict1 F)))), none, none, none]) (S' := []) (by rfl),
        seqS_nx (e' := [some (.d (.str t)), some (.d (.str [l])), some (.d (.dct true (encD eT (dict1 F)))), some (.ref 0), none, none]) (S' := [.dct false []]) (by rfl), seqS_nx hfor]
      rw [seqS_nx (e' := [some (.d (.str t)), some (.d (.str [l])), some (.d (.dct true (encD eT (dict1 F)))), some (.ref 0), x4, some (.d (polyD b ms))]) (S' := [.dct false (encW .int (dict1 F))]) (by
        unfold asgS callP
        simp only [argsF, varE, getV, R.bind, snaps, snap, getO, hu, Option.map_some, h2, anyRef]
        simp only [polyD] at htp
        simp only [htp]
        rfl)]
      exact pick_ok (S1 := []) (S2 := []) (by rfl) (callP_d [polyD b ms, .str [l]] (by rfl) hfmt) (by rfl)
    exact runP_rt rfl key rfl
end K54

end

section
set_option linter.all false
set_option maxRecDepth 100000
set_option linter.all false
set_option maxRecDepth 100000
namespace K54
open Pv Pw
/-! one letter: both ways end alike -/
theorem ent_F {a : Int} {ns : List Int} : dict1 ((ent a ns).map fun p => (p.2, [p.1])) = ent a ns := by
  unfold dict1
  rw [List.map_map]
  have : (key1 ∘ fun p : Int × Int => (p.2, [p.1])) = id := by funext p; rfl
  rw [this, List.map_id, dictP_new]
  · rfl
  · exact ent_nd ns a
theorem ent_len : ∀ (ns : List Int) (a : Int), (ent a ns).length ≤ ns.length
  | [], a => by simp [ent]
  | x :: r, a => by
    have := ent_len r (a + 1)
    simp only [ent]
    split
    · simp; omega
    · simp; omega
theorem ent_FB {l : Nat} {a : Int} {ns : List Int} (h : Bd a ns) : ((ent a ns).map fun p => (p.2, [p.1])).length ≤ 81 ∧ ∀ u ∈ ((ent a ns).map fun p => (p.2, [p.1])), FB [l] u := by
  constructor
  · rw [List.length_map]
    have := ent_len ns a
    have := bd_len h
    omega
  · intro u hu
    obtain ⟨p, hp, rfl⟩ := List.mem_map.mp hu
    have hk := ent_key ns a p hp
    have hne : ns ≠ [] := by intro e; subst e; simp [ent] at hp
    have := h.lo hne
    refine ⟨rfl, ?_, h.n _ hk.2.2.2⟩
    simp only [List.mem_singleton]
    rintro e rfl
    omega
theorem parse_back {l : Nat} (hl : 65 ≤ l) {a : Int} {ns : List Int} (hn : Nrm a ns) (hb : Bd a ns) (ht : (oneT l a ns).length ≤ 5000000) : parse_polynomial_ [.str (oneT l a ns), .str [l]] = .ok (polyD a ns) := by
  have hr := (one_read hl hb).1
  have hf := ent_FB (l := l) hb
  obtain ⟨b, ms, hp, hb', h⟩ := parse_some ht hr hf.1 hf.2
  rw [ent_F] at hp
  obtain ⟨rfl, rfl⟩ := hp.r a ns hn rfl
  rw [h, if_pos rfl]
theorem due_back {l : Nat} (hl : 65 ≤ l) {a : Int} {ns : List Int} (hn : Nrm a ns) (hb : Bd a ns) (ht : (oneT l a ns).length ≤ 5000000) : _law_due_ [.str (oneT l a ns), .str [l]] = .ok (readD (polyD a ns)) := by
  have hr := (one_read hl hb).2
  have hf := ent_FB (l := l) hb
  obtain ⟨b, ms, hp, hb', h⟩ := (due1 ht).2 _ hr hf.1 hf.2
  rw [ent_F] at hp
  obtain ⟨rfl, rfl⟩ := hp.r a ns hn rfl
  rw [h]
  simp [dueR]
theorem parse_cases {l : Nat} {t : List Nat} (h : NT t) : parse_polynomial_ [.str t, .str [l]] = .exc badX ∨ ∃ b ms, Nrm b ms ∧ Bd b ms ∧ oneT l b ms = t ∧ parse_polynomial_ [.str t, .str [l]] = .ok (polyD b ms) := by
  cases hF : termsOf t [l] with
  | none => exact .inl (parse_none h.l hF)
  | some F =>
    have hb := termsG_bd (ls := [l]) (tm := fun ws => termOf ws [l]) (fun ws t hw ht => termOf_bd hw ht) h hF
    obtain ⟨b, ms, hp, hb', he⟩ := parse_some h.l hF hb.1 hb.2
    by_cases e : oneT l b ms = t
    · exact .inr ⟨b, ms, hp.n, hb', e, by rw [he, if_pos e]⟩
    · exact .inl (by rw [he, if_neg e])
theorem due_cases {l : Nat} {t : List Nat} (h : NT t) : _law_due_ [.str t, .str [l]] = .ok refD ∨ ∃ b ms, Nrm b ms ∧ Bd b ms ∧ oneT l b ms = t ∧ _law_due_ [.str t, .str [l]] = .ok (readD (polyD b ms)) := by
  cases hF : termsG (fun ws => termL ws [l]) t with
  | none => exact .inl ((due1 h.l).1 hF)
  | some F =>
    have hb := termsG_bd (ls := [l]) (tm := fun ws => termL ws [l]) (fun ws t hw ht => termL_bd hw ht) h hF
    obtain ⟨b, ms, hp, hb', he⟩ := (due1 h.l).2 F hF hb.1 hb.2
    by_cases e : oneT l b ms = t
    · exact .inr ⟨b, ms, hp.n, hb', e, by rw [he]; simp [dueR, e]⟩
    · have e' : (oneT l b ms == t) = false := by simpa using e
      exact .inl (by rw [he, e']; rfl)
theorem shp_ref : shp 60 refD = true := by decide
theorem shp_poly (b : Int) (ms : List Int) : shp 60 (readD (polyD b ms)) = true := by
  have h : ∀ n, shps n (ms.map .int) = true := fun n => shp_ints ms
  simp [readD, polyD, shp, shps, h]
theorem same1 {l : Nat} (hl : 65 ≤ l) {t : List Nat} (h : NT t) : ∃ r, _law_read_ [.str t, .str [l]] = .ok r ∧ _law_due_ [.str t, .str [l]] = .ok r ∧ shp 60 r = true := by
  rcases parse_cases (l := l) h with hp | ⟨b, ms, hn, hb, ht, hp⟩
  · rcases due_cases (l := l) h with hd | ⟨b, ms, hn, hb, ht, hd⟩
    · exact ⟨refD, refuse_one hp, hd, shp_ref⟩
    · have := parse_back hl hn hb (by rw [ht]; exact h.l)
      rw [ht, hp] at this
      cases this
  · refine ⟨readD (polyD b ms), read_one hp, ?_, shp_poly b ms⟩
    have := due_back hl hn hb (by rw [ht]; exact h.l)
    rwa [ht] at this
/-! two letters -/
structure Bq (q : List (Int × Int × Int)) : Prop where
  n : Nr2 q
  l : q.length ≤ 81
  e : ∀ t ∈ q, (-30 ≤ t.1 ∧ t.1 ≤ 30) ∧ (-30 ≤ t.2.1 ∧ t.2.1 ≤ 30)
  b : ∀ t ∈ q, t.2.2.natAbs < 10 ^ 40
theorem bq_bd {q : List (Int × Int × Int)} (h : Bq q) : Bd2 q := ⟨Nat.le_trans h.l (by omega), fun t ht => by have := h.e t ht; omega, h.b⟩
theorem ents_F {q : List (Int × Int × Int)} (h : Nr2 q) : dict2 (q.map fun t => (t.2.2, [t.1, t.2.1])) = ents q := by
  unfold dict2
  rw [List.map_map]
  have : (key2 ∘ fun t : Int × Int × Int => (t.2.2, [t.1, t.2.1])) = fun t => ((t.1, t.2.1), t.2.2) := by funext p; rfl
  rw [this, dictP_new]
  · rfl
  · exact ents_nd h
theorem q_FB {q : List (Int × Int × Int)} (h : Bq q) : (q.map fun t => (t.2.2, [t.1, t.2.1])).length ≤ 81 ∧ ∀ u ∈ (q.map fun t => (t.2.2, [t.1, t.2.1])), FB [118, 122] u := by
  constructor
  · rw [List.length_map]; exact h.l
  · intro u hu
    obtain ⟨t, ht, rfl⟩ := List.mem_map.mp hu
    have := h.e t ht
    refine ⟨rfl, ?_, h.b t ht⟩
    simp only [List.mem_cons, List.not_mem_nil, or_false]
    rintro e (rfl | rfl) <;> omega
theorem parse2_back {q : List (Int × Int × Int)} (h : Bq q) (ht : (twoT q).length ≤ 5000000) : parse_two_ [.str (twoT q)] = .ok (twoD q) := by
  have hr := (two_read (bq_bd h) h.n.z).1
  have hf := q_FB h
  have := parse2_some ht hr hf.1 hf.2
  rw [ents_F h.n, tw_ents h.n, if_pos rfl] at this
  exact this
theorem due2_back {q : List (Int × Int × Int)} (h : Bq q) (ht : (twoT q).length ≤ 5000000) : _law_due_ [.str (twoT q), .str []] = .ok (readD (twoD q)) := by
  have hr := (two_read (bq_bd h) h.n.z).2
  have hf := q_FB h
  have := (due2 ht).2 _ hr hf.1 hf.2
  rw [ents_F h.n, tw_ents h.n] at this
  rw [this]
  simp [dueR]
theorem bq_of {F : List (Int × List Int)} (hl : F.length ≤ 81) (hF : ∀ u ∈ F, FB [118, 122] u) : Bq (tw (dict2 F)) := by
  have hm := dict2_mem hF
  refine ⟨tw_nrm (dictP_nd _ _ (by simp)), ?_, fun t ht => ?_, fun t ht => ?_⟩
  · have h1 : (tw (dict2 F)).length ≤ (dict2 F).length := by
      unfold tw
      rw [List.length_map]
      refine Nat.le_trans (List.length_filter_le _ _) ?_
      rw [sortP_len, List.length_map]
      exact Nat.le_refl _
    have := dict2_len F
    omega
  · exact (hm _ (tw_mem ht)).1
  · exact (hm _ (tw_mem ht)).2
theorem parse2_cases {t : List Nat} (h : NT t) : parse_two_ [.str t] = .exc badX ∨ ∃ q, Bq q ∧ twoT q = t ∧ parse_two_ [.str t] = .ok (twoD q) := by
  cases hF : termsOf t [118, 122] with
  | none => exact .inl (parse2_none h.l hF)
  | some F =>
    have hb := termsG_bd (ls := [118, 122]) (tm := fun ws => termOf ws [118, 122]) (fun ws t hw ht => termOf_bd hw ht) h hF
    have he := parse2_some h.l hF hb.1 hb.2
    by_cases e : twoT (tw (dict2 F)) = t
    · exact .inr ⟨_, bq_of hb.1 hb.2, e, by rw [he, if_pos e]⟩
    · exact .inl (by rw [he, if_neg e])
theorem due2_cases {t : List Nat} (h : NT t) : _law_due_ [.str t, .str []] = .ok refD ∨ ∃ q, Bq q ∧ twoT q = t ∧ _law_due_ [.str t, .str []] = .ok (readD (twoD q)) := by
  cases hF : termsG (fun ws => termL ws [118, 122]) t with
  | none => exact .inl ((due2 h.l).1 hF)
  | some F =>
    have hb := termsG_bd (ls := [118, 122]) (tm := fun ws => termL ws [118, 122]) (fun ws t hw ht => termL_bd hw ht) h hF
    have he := (due2 h.l).2 F hF hb.1 hb.2
    by_cases e : twoT (tw (dict2 F)) = t
    · exact .inr ⟨_, bq_of hb.1 hb.2, e, by rw [he]; simp [dueR, e]⟩
    · have e' : (twoT (tw (dict2 F)) == t) = false := by simpa using e
      exact .inl (by rw [he, e']; rfl)
theorem shp_two (q : List (Int × Int × Int)) : shp 60 (readD (twoD q)) = true := by
  have h : ∀ n (q : List (Int × Int × Int)), shps (n + 1) (q.map e3) = true := by
    intro n q
    induction q with
    | nil => rfl
    | cons t r ih => simp only [List.map_cons, shps, ih, Bool.and_true, e3, shp]
  simp [readD, twoD, shp, shps, h]
theorem same2 {t : List Nat} (h : NT t) : ∃ r, _law_read_ [.str t, .str []] = .ok r ∧ _law_due_ [.str t, .str []] = .ok r ∧ shp 60 r = true := by
  rcases parse2_cases h with hp | ⟨q, hq, ht, hp⟩
  · rcases due2_cases h with hd | ⟨q, hq, ht, hd⟩
    · exact ⟨refD, refuse_two hp, hd, shp_ref⟩
    · have := parse2_back hq (by rw [ht]; exact h.l)
      rw [ht, hp] at this
      cases this
  · refine ⟨readD (twoD q), read_two hp, ?_, shp_two q⟩
    have := due2_back hq (by rw [ht]; exact h.l)
    rwa [ht] at this
end K54

end

section
set_option linter.all false
set_option maxRecDepth 100000
set_option linter.all false
set_option maxRecDepth 100000
namespace K54
open Pv Pw
def nwB (w : List Nat) : Bool := !((w.drop 1).take 1 == [94]) || (match rdI (w.drop 2) with
  | some i => decide (-30 ≤ i) && decide (i ≤ 30)
  | none => true)
theorem nw_of {w : List Nat} (h : nwB w = true) : NW w := by
  intro i hi h94
  unfold nwB at h
  rw [hi, h94] at h
  simpa using h
def nvB (w : List Nat) : Bool := nwB w && (match w with
  | 45 :: w' => nwB w'
  | _ => true)
theorem nv_of {w : List Nat} (h : nvB w = true) : NV w := by
  unfold nvB at h
  rw [Bool.and_eq_true] at h
  refine ⟨nw_of h.1, ?_⟩
  rintro w' rfl
  exact nw_of h.2
/-- parts of a text -/
structure NPw (w : List Nat) : Prop where
  l : w.length ≤ 50000
  v : NV w
  b : ∀ a ∈ w, a ≠ 32
structure NP (ps : List (List Nat)) (n : Nat) : Prop where
  c : ps.length ≤ n
  w : ∀ w ∈ ps, NPw w
theorem np_nt {ps : List (List Nat)} (h : NP ps 79) : NT (joinL [32] ps) := by
  have hlen : (joinL [32] ps).length ≤ 5000000 := by
    have h1 := joinL_len [32] ps
    have h2 := sum_le (c := 50000) ps fun w hw => (h.w w hw).l
    have h3 := h.c
    simp only [List.length_singleton] at h1
    omega
  cases hps : ps with
  | nil =>
    refine ⟨by simp [joinL], by decide, ?_⟩
    intro w hw
    simp only [joinL, splitC, List.reverse_nil, List.mem_singleton] at hw
    subst hw
    exact nv_of (by decide)
  | cons x r =>
    have hsp := split_join 32 ps (by rw [hps]; simp) fun w hw => (h.w w hw).b
    rw [← hps]
    refine ⟨hlen, ?_, ?_⟩
    · rw [hsp]; have := h.c; omega
    · rw [hsp]; exact fun w hw => (h.w w hw).v
def wrongs : List (List Nat) := [[], [48], [43], [45], [65], [65, 94, 49], [65, 94, 48], [65, 94, 50], [118], [122, 94, 45, 49], [49], [50], [45, 51], [48, 49], [65, 94], [116, 94, 50], [118, 94, 48, 50]]
theorem wrongs_np : ∀ w ∈ wrongs, NPw w := by
  have h : ∀ w ∈ wrongs, (decide (w.length ≤ 50000) && nvB w && w.all fun a => a != 32) = true := by decide
  intro w hw
  have := h w hw
  simp only [Bool.and_eq_true, decide_eq_true_eq, List.all_eq_true, bne_iff_ne] at this
  exact ⟨this.1.1, nv_of this.1.2, this.2⟩
/-! the text's own words -/
theorem nw_text (n : Int) : NW (textI n) := by
  intro i _ h
  exfalso
  have : 94 ∈ textI n := by
    rcases hq : textI n with _ | ⟨a, _ | ⟨b, r⟩⟩
    · rw [hq] at h; simp at h
    · rw [hq] at h; simp at h
    · rw [hq] at h; simp at h; simp [h]
  have := textI_no32 n 94 this
  omega
theorem nw_minus {c : Nat} {r : List Nat} (h : c ≠ 94) : NW (45 :: c :: r) := by
  intro i _ h'
  simp at h'
  exact absurd h' h
theorem nw_pow {l : Nat} (hl : l ≠ 94) {e : Int} (h : -30 ≤ e ∧ e ≤ 30) : NW (powT [l] e) := by
  rcases powT_cases l e with ⟨_, e1⟩ | ⟨_, e1⟩ | ⟨_, _, e1⟩
  · rw [e1]; exact nw_of (by decide)
  · rw [e1]; intro i hi h'; simp at h'
  · rw [e1]
    intro i hi _
    simp only [List.drop_succ_cons, List.drop_zero] at hi
    rw [rdI_text (e30_len (by omega))] at hi
    cases hi
    exact h
/-- a word of a term -/
theorem part_np {ls : List Nat} (hls : ∀ l ∈ ls, 65 ≤ l ∧ l ≠ 94) {t : Int × List Int} (hz : t.1 ≠ 0) (hb : FB ls t) {w : List Nat} (hw : w ∈ partsT (ab t.1) (psOf ls t.2)) : w.length ≤ 1000 ∧ NW w ∧ NW (45 :: w) ∧ (∀ a ∈ w, a ≠ 32) ∧ ∃ c r, w = c :: r ∧ c ≠ 45 := by
  obtain ⟨⟨c, r, e, hc⟩, h32⟩ := partsT_hd (ab_pos hz) (psOf_hd (fun l h => (hls l h).1)) hw
  have hce : c ≠ 45 := by omega
  rcases partsT_mem hw with rfl | ⟨h1, h2⟩
  · refine ⟨Nat.le_trans (ab_len hb.n) (by omega), nw_text _, ?_, h32, c, r, e, hce⟩
    rw [e]
    apply nw_minus
    have := textI_no32 (ab t.1) c (by rw [e]; exact List.mem_cons_self)
    omega
  · have hex : ∃ l e, l ∈ ls ∧ e ∈ t.2 ∧ w = powT [l] e := by
      have : ∀ (ls : List Nat) (es : List Int), w ∈ psOf ls es → ∃ l e, l ∈ ls ∧ e ∈ es ∧ w = powT [l] e := by
        intro ls
        induction ls with
        | nil => intro es h; simp [psOf] at h
        | cons a b ih =>
          intro es h
          cases es with
          | nil => simp [psOf] at h
          | cons x y =>
            have e : psOf (a :: b) (x :: y) = powT [a] x :: psOf b y := rfl
            rw [e] at h
            rcases List.mem_cons.mp h with h | h
            · exact ⟨a, x, List.mem_cons_self, List.mem_cons_self, h⟩
            · obtain ⟨l, e, h1, h2, h3⟩ := ih y h
              exact ⟨l, e, List.mem_cons_of_mem _ h1, List.mem_cons_of_mem _ h2, h3⟩
      exact this ls t.2 h1
    obtain ⟨l, x, hl, hx, rfl⟩ := hex
    have hbx := hb.e x hx
    refine ⟨powT_len (by simp) (e30_sm (by omega)), nw_pow (hls l hl).2 hbx, ?_, h32, c, r, e, hce⟩
    obtain ⟨r', hr⟩ := powT_hd l x h2
    rw [hr]
    exact nw_minus (hls l hl).2
structure TT (ls : List Nat) (T : List (Int × List Int)) : Prop where
  c : T.length ≤ 15
  hl : ∀ l ∈ ls, 65 ≤ l ∧ l ≠ 94
  l2 : ls.length ≤ 2
  b : ∀ t ∈ T, FB ls t
  z : ∀ t ∈ T, t.1 ≠ 0
def txtT (ls : List Nat) (T : List (Int × List Int)) : List Nat := sumT (T.map fun u => (u.1, psOf ls u.2))
theorem partsT_len (n : Int) (ps : List (List Nat)) : (partsT n ps).length ≤ 1 + ps.length := by
  have := List.length_filter_le (fun x : List Nat => !x.isEmpty) ps
  unfold partsT
  split
  · omega
  · simp; omega
theorem psOf_len (ls : List Nat) (es : List Int) : (psOf ls es).length ≤ ls.length := by
  unfold psOf; rw [List.length_zipWith]; omega
theorem tail_len {ls : List Nat} (h2 : ls.length ≤ 2) : ∀ (T : List (Int × List Int)), (tailW (T.map fun u => (u.1, psOf ls u.2))).length ≤ 4 * T.length
  | [] => by simp [tailW]
  | t :: r => by
    have ih := tail_len h2 r
    have h1 := partsT_len (ab t.1) (psOf ls t.2)
    have h3 := psOf_len ls t.2
    have e : tailW ((t :: r).map fun u => (u.1, psOf ls u.2)) = sepW t.1 :: (partsT (ab t.1) (psOf ls t.2) ++ tailW (r.map fun u => (u.1, psOf ls u.2))) := by simp [tailW]
    rw [e]
    simp only [List.length_cons, List.length_append]
    omega
theorem sepW_np (n : Int) : NPw (sepW n) := by
  unfold sepW
  split
  · exact ⟨by simp, nv_of (by decide), by simp⟩
  · exact ⟨by simp, nv_of (by decide), by simp⟩
theorem txt_np {ls : List Nat} {T : List (Int × List Int)} (h : TT ls T) : NP (splitC 32 [] (txtT ls T)) 70 := by
  cases T with
  | nil =>
    have this : splitC 32 [] (txtT ls []) = [[48]] := rfl
    rw [this]
    refine ⟨by simp, ?_⟩
    intro w hw
    simp only [List.mem_singleton] at hw
    subst hw
    exact ⟨by simp, nv_of (by decide), by simp⟩
  | cons t r =>
    have hpart : ∀ u ∈ t :: r, ∀ w ∈ partsT (ab u.1) (psOf ls u.2), w.length ≤ 1000 ∧ NW w ∧ NW (45 :: w) ∧ (∀ a ∈ w, a ≠ 32) ∧ ∃ c s, w = c :: s ∧ c ≠ 45 := fun u hu w hw => part_np h.hl (h.z u hu) (h.b u hu) hw
    have hNP : ∀ u ∈ t :: r, ∀ w ∈ partsT (ab u.1) (psOf ls u.2), NPw w := by
      intro u hu w hw
      obtain ⟨a1, a2, a3, a4, c, s, e, hc⟩ := hpart u hu w hw
      refine ⟨by omega, ⟨a2, ?_⟩, a4⟩
      rintro w' rfl
      cases e
      exact absurd rfl hc
    have htail : ∀ w ∈ tailW (r.map fun u => (u.1, psOf ls u.2)), NPw w := by
      intro w hw
      unfold tailW at hw
      obtain ⟨u, hu, hw⟩ := List.mem_flatMap.mp hw
      obtain ⟨v, hv, rfl⟩ := List.mem_map.mp hu
      rcases List.mem_cons.mp hw with rfl | hw
      · exact sepW_np _
      · exact hNP v (List.mem_cons_of_mem _ hv) w hw
    have hhd : Hd (((t :: r).map fun u => (u.1, psOf ls u.2))) := by
      constructor
      · intro x hx
        obtain ⟨u, hu, rfl⟩ := List.mem_map.mp hx
        exact h.z u hu
      · intro x hx
        obtain ⟨u, hu, rfl⟩ := List.mem_map.mp hx
        exact psOf_hd fun l hl => (h.hl l hl).1
    rw [List.map_cons] at hhd
    have hs := sumT_cons hhd
    have hc := h.c
    have htl := tail_len h.l2 r
    have hpl := partsT_len (ab t.1) (psOf ls t.2)
    have hpl2 := psOf_len ls t.2
    have hl2 := h.l2
    simp only [List.length_cons] at hc
    have hsplit : splitC 32 [] (joinL [32] (partsT (ab t.1) (psOf ls t.2) ++ tailW (r.map fun u => (u.1, psOf ls u.2)))) = partsT (ab t.1) (psOf ls t.2) ++ tailW (r.map fun u => (u.1, psOf ls u.2)) := by
      apply split_join
      · simp [partsT_ne]
      · intro w hw
        rcases List.mem_append.mp hw with hw | hw
        · exact (hNP t List.mem_cons_self w hw).b
        · exact (htail w hw).b
    unfold txtT
    rw [List.map_cons, hs]
    by_cases hn : t.1 < 0
    · simp only [sgnT, if_pos hn, List.cons_append, List.nil_append]
      obtain ⟨w, s, e1, e2⟩ := split_cons (c := 32) (x := 45) (by decide) (joinL [32] (partsT (ab t.1) (psOf ls t.2) ++ tailW (r.map fun u => (u.1, psOf ls u.2))))
      rw [e2]
      rw [hsplit] at e1
      cases hp : partsT (ab t.1) (psOf ls t.2) with
      | nil => exact absurd hp (partsT_ne _ _)
      | cons x y =>
        rw [hp, List.cons_append] at e1
        obtain ⟨q3, q4⟩ := List.cons.inj e1
        rw [← q3, ← q4]
        have hx := hpart t List.mem_cons_self x (by rw [hp]; exact List.mem_cons_self)
        obtain ⟨a1, a2, a3, a4, _⟩ := hx
        rw [hp] at hpl
        simp only [List.length_cons] at hpl
        refine ⟨by simp only [List.length_cons, List.length_append]; omega, ?_⟩
        intro w hw
        rcases List.mem_cons.mp hw with rfl | hw
        · refine ⟨by simp; omega, ⟨a3, ?_⟩, ?_⟩
          · rintro w' h'
            cases h'
            exact a2
          · intro a ha
            rcases List.mem_cons.mp ha with rfl | ha
            · omega
            · exact a4 a ha
        · rcases List.mem_append.mp hw with hw | hw
          · exact hNP t List.mem_cons_self w (by rw [hp]; exact List.mem_cons_of_mem _ hw)
          · exact htail w hw
    · simp only [sgnT, if_neg hn, List.nil_append]
      rw [hsplit]
      refine ⟨by simp only [List.length_append]; omega, ?_⟩
      intro w hw
      rcases List.mem_append.mp hw with hw | hw
      · exact hNP t List.mem_cons_self w hw
      · exact htail w hw
theorem okT_of {ls : List Nat} (hl2 : ls.length ≤ 2) {t : Int × List Int} (hb : FB ls t) : OkT (t.1, psOf ls t.2) := by
  have s := sm_of hb.n
  refine ⟨s.l, Nat.le_trans (ab_len hb.n) (by omega), Nat.le_trans (psOf_len _ _) (by omega), ?_⟩
  have : ∀ (ls : List Nat) (es : List Int), (∀ e ∈ es, -30 ≤ e ∧ e ≤ 30) → ∀ p ∈ psOf ls es, p.length ≤ 1000 := by
    intro ls
    induction ls with
    | nil => intro es _ p hp; simp [psOf] at hp
    | cons a b ih =>
      intro es he p hp
      cases es with
      | nil => simp [psOf] at hp
      | cons x y =>
        have e : psOf (a :: b) (x :: y) = powT [a] x :: psOf b y := rfl
        rw [e] at hp
        rcases List.mem_cons.mp hp with rfl | hp
        · have := he x List.mem_cons_self
          exact powT_len (by simp) (e30_sm (by omega))
        · exact ih y (fun e h => he e (List.mem_cons_of_mem _ h)) p hp
  exact this ls t.2 hb.e
theorem txt_len {ls : List Nat} {T : List (Int × List Int)} (h : TT ls T) : (txtT ls T).length ≤ 5000000 := by
  unfold txtT sumT
  split
  · simp
  · have := fold_len (T.map fun u => (u.1, psOf ls u.2)) [] (by
      intro t ht
      obtain ⟨u, hu, rfl⟩ := List.mem_map.mp ht
      exact okT_of h.l2 (h.b u hu))
    have hc := h.c
    simp only [List.length_nil, List.length_map] at this
    omega
end K54

end

section
set_option linter.all false
set_option maxRecDepth 100000
set_option linter.all false
set_option maxRecDepth 100000
namespace Pw
open Pv
theorem cutD' {α : Type} (w : List α) (k : Nat) : cut w (some ((k : Int) + 1)) none = w.drop (k + 1) := cutD w (k + 1)
theorem cutTD' {α : Type} (w : List α) (k : Nat) : cut w (some (k : Int)) (some ((k : Int) + 1)) = (w.take (k + 1)).drop k := cutTD w k (k + 1)
theorem callI_ok {f : List W → Store → R W} {as : List EV} {e : En} {S S1 S2 : Store} {ws : List W} {w : W} (h : argsF as e S = .ok ws S1) (h' : f ws S1 = .ok w S2) : callI f as e S = .ok w S2 := by
  unfold callI; rw [h]; exact h'
theorem asgS_n {i : Nat} {a : EV} {e : En} {S S' : Store} {w : W} (h : a e S = .ok w S') : asgS (nameG i) a e S = .nx (setV e i w) S' := by
  unfold asgS; rw [h]; rfl
theorem op2_ok {f : W → W → Store → R W} {a b : EV} {e : En} {S S1 S2 : Store} {x y : W} (ha : a e S = .ok x S1) (hb : b e S1 = .ok y S2) : op2 f a b e S = f x y S2 := by
  unfold op2; rw [ha]; simp only [R.bind, hb]
theorem addF_lst {S : Store} {xs ys : List D} (h : xs.length + ys.length ≤ 16777216) : addF (.d (.lst xs)) (.d (.lst ys)) S = .ok (.d (.lst (xs ++ ys))) S := by
  have := smallN_iff h
  simp only [addF, dataL, this, if_true]
end Pw
namespace K54
open Pv Pw
theorem draw_step {ns : List Int} (hns : ns.length ≤ 63) {e : En} {S : Store} {r v : Nat} {a : EV} {lim : Int} (hv : getV e v = some (.ref r)) (ha : a e S = .ok (.d (.int lim)) S) (h : St ns S r) (hl : 0 < lim) (hl' : lim ≤ 1000000) :
    ∃ d t, 0 ≤ d ∧ d < lim ∧ callI _law_draw_ [varE v, a] e S = .ok (.d (.int d)) (setO S r t) ∧ St ns (setO S r t) r := by
  obtain ⟨d, t, h1, h2, h3, h4⟩ := draw_ok kt h hns hl hl'
  refine ⟨d, t, h1, h2, ?_, h4⟩
  refine callI_ok (ws := [.ref r, .d (.int lim)]) (S1 := S) ?_ h3
  simp only [argsF, varE, hv, R.bind, ha]
theorem np_sum {ps : List (List Nat)} (h : NP ps 79) : (ps.map List.length).sum + ps.length * [32].length ≤ 5000000 := by
  have h2 := sum_le (c := 50000) ps fun w hw => (h.w w hw).l
  have h3 := h.c
  simp only [List.length_singleton]
  omega
theorem join_end {ps : List (List Nat)} (h : NP ps 79) {e : En} {S : Store} (hv : getV e 2 = some (.d (.lst (ps.map .str)))) : retS (methE [1] joinG (conE (.str [32])) [(varE 2)]) e S = .rt (.d (.str (joinL [32] ps))) S := by
  have hs := np_sum h
  have hsm : smallN ((ps.map List.length).sum + ps.length * [32].length) = true := smallN_iff (by omega)
  have h1 : [1].contains 1 = true := rfl
  simp only [retS, methE, conE, R.bind, kindW, h1, if_true, argsF, varE, hv, joinG, itemsS, List.map_map, Option.bind_some, textsOf_comp, hsm, R.so]
theorem np_sub {ps qs : List (List Nat)} {n m : Nat} (h : NP ps n) (hq : ∀ w ∈ qs, w ∈ ps ∨ w ∈ wrongs) (hl : qs.length ≤ m) : NP qs m := ⟨hl, fun w hw => (hq w hw).elim (h.w w) (wrongs_np w)⟩
theorem turned_ok {ns : List Int} (hns : ns.length ≤ 63) {S : Store} {r : Nat} {t : List Nat} (hS : St ns S r) (ht : t.length ≤ 5000000) (hP : NP (splitC 32 [] t) 70) :
    ∃ ps T, NP ps 79 ∧ _law_turned_ [.ref r, .d (.str t)] S = .ok (.d (.str (joinL [32] ps))) (setO S r T) ∧ St ns (setO S r T) r := by
  obtain ⟨P, hPe⟩ : ∃ P, splitC 32 [] t = P := ⟨_, rfl⟩
  have hne : P ≠ [] := by rw [← hPe]; exact splitC_ne 32 t []
  have hc := hP.c
  rw [hPe] at hP hc
  have hlen : 0 < P.length := List.length_pos_iff.mpr hne
  have s1 : asgS (nameG 2) (frzE (methF [1] splitG (varE 1) [(conE (.str [32]))])) [some (.ref r), some (.d (.str t)), none, none, none, none] S = .nx [some (.ref r), some (.d (.str t)), some (.d (.lst (P.map .str))), none, none, none] S := by
    have hsn : smallN (t.length + 2) = true := smallN_iff (by omega)
    have hbl : Nat.blt 32 128 = true := rfl
    have hu := unWs_map D.str P
    simp (disch := omega) [small_iff, smallN_iff, sm1, sm0, succ0, atL0, atL1, atLn, cutT1, cutT2, cutD1, cutD2, cutT, cutD, cutTD, runP, runI, startV, seqS, asgS, ifS, t2, t1, andT, orT, notT, truT, varE, conE, getV, setV, nameG, eqF, neF, eqW, R.bind, R.so, retS, nxS, frzE, newE, lstF, argsF, unWs, unW, snap, op2, op1, addF, subF, mulF, ixF, callB, callF, arg1, strF, valE, intF, dataL, ifE, notNF, isNF, isNon, lenF, absF, callP, callI, snaps, anyRef, tupOnly, List.replicate, ltF, gtF, geF, leF, cmpF, slE, bndE, methE, methF, kindW, dropS, tupE, listG, itemsS, truW, joinG, textsOf, negF, splitG, hsn, hbl, hPe, hu]
  obtain ⟨at', T1, d1, d2, d3, S1⟩ := draw_step hns (e := [some (.ref r), some (.d (.str t)), some (.d (.lst (P.map .str))), none, none, none]) (S := S) (r := r) (v := 0) (a := callB (arg1 lenF) [(varE 2)]) (lim := (P.length : Int)) rfl (by simp (disch := omega) [small_iff, smallN_iff, sm1, sm0, succ0, atL0, atL1, atLn, cutT1, cutT2, cutD1, cutD2, cutT, cutD, cutTD, runP, runI, startV, seqS, asgS, ifS, t2, t1, andT, orT, notT, truT, varE, conE, getV, setV, nameG, eqF, neF, eqW, R.bind, R.so, retS, nxS, frzE, newE, lstF, argsF, unWs, unW, snap, op2, op1, addF, subF, mulF, ixF, callB, callF, arg1, strF, valE, intF, dataL, ifE, notNF, isNF, isNon, lenF, absF, callP, callI, snaps, anyRef, tupOnly, List.replicate, ltF, gtF, geF, leF, cmpF, slE, bndE, methE, methF, kindW, dropS, tupE, listG, itemsS, truW, joinG, textsOf, negF]) hS (by omega) (by omega)
  obtain ⟨k, rfl⟩ := Int.eq_ofNat_of_zero_le d1
  have hk : k < P.length := by omega
  have s2 := asgS_n (i := 3) d3
  have s3 : asgS (nameG 4) (frzE (lstF [(conE (.str [])), (conE (.str [48])), (conE (.str [43])), (conE (.str [45])), (conE (.str [65])), (conE (.str [65, 94, 49])), (conE (.str [65, 94, 48])), (conE (.str [65, 94, 50])), (conE (.str [118])), (conE (.str [122, 94, 45, 49])), (conE (.str [49])), (conE (.str [50])), (conE (.str [45, 51])), (conE (.str [48, 49])), (conE (.str [65, 94])), (conE (.str [116, 94, 50])), (conE (.str [118, 94, 48, 50]))])) [some (.ref r), some (.d (.str t)), some (.d (.lst (P.map .str))), some (.d (.int k)), none, none] (setO S r T1) = .nx [some (.ref r), some (.d (.str t)), some (.d (.lst (P.map .str))), some (.d (.int k)), some (.d (.lst (wrongs.map .str))), none] (setO S r T1) := rfl
  obtain ⟨c, T2, c1, c2, c3, S2⟩ := draw_step hns (e := [some (.ref r), some (.d (.str t)), some (.d (.lst (P.map .str))), some (.d (.int k)), some (.d (.lst (wrongs.map .str))), none]) (S := setO S r T1) (r := r) (v := 0) (a := conE (.int 4)) (lim := 4) rfl (by rfl) S1 (by omega) (by omega)
  rw [setO_setO] at c3 S2
  have s4 := asgS_n (i := 5) c3
  have hsmP : ∀ n, n ≤ 1000 → smallN n = true := fun n h => smallN_iff (by omega)
  -- the ends
  have fin : ∀ (o : List (List Nat)) (T : Th) (e0 : En), NP o 79 → St ns (setO S r T) r → b__law_turned [some (.ref r), some (.d (.str t)), none, none, none, none] S = .rt (.d (.str (joinL [32] o))) (setO S r T) →
      ∃ ps T, NP ps 79 ∧ _law_turned_ [.ref r, .d (.str t)] S = .ok (.d (.str (joinL [32] ps))) (setO S r T) ∧ St ns (setO S r T) r :=
    fun o T e0 h1 h2 h3 => ⟨o, T, h1, runI_rt rfl h3, h2⟩
  obtain ⟨w1, T3, w2, w3, w4, S3⟩ := draw_step hns (e := [some (.ref r), some (.d (.str t)), some (.d (.lst (P.map .str))), some (.d (.int k)), some (.d (.lst (wrongs.map .str))), some (.d (.int c))]) (S := setO S r T2) (r := r) (v := 0) (a := callB (arg1 lenF) [(varE 4)]) (lim := 17) rfl (by rfl) S2 (by omega) (by omega)
  rw [setO_setO] at w4 S3
  obtain ⟨j, rfl⟩ := Int.eq_ofNat_of_zero_le w2
  have hj : j < wrongs.length := by show j < 17; omega
  obtain ⟨bad, hbad⟩ : ∃ bad, wrongs[j]? = some bad := ⟨_, List.getElem?_eq_getElem hj⟩
  have hbm : bad ∈ wrongs := List.mem_of_getElem? hbad
  have hbad' : (wrongs.map D.str)[j]? = some (.str bad) := by rw [List.getElem?_map, hbad]; rfl
  have hix : frzE (lstF [(op2 (ixF kt) (varE 4) (callI _law_draw_ [(varE 0), (callB (arg1 lenF) [(varE 4)])]))]) [some (.ref r), some (.d (.str t)), some (.d (.lst (P.map .str))), some (.d (.int k)), some (.d (.lst (wrongs.map .str))), some (.d (.int c))] (setO S r T2) = .ok (.d (.lst [.str bad])) (setO S r T3) := by
    have hop : op2 (ixF kt) (varE 4) (callI _law_draw_ [(varE 0), (callB (arg1 lenF) [(varE 4)])]) [some (.ref r), some (.d (.str t)), some (.d (.lst (P.map .str))), some (.d (.int k)), some (.d (.lst (wrongs.map .str))), some (.d (.int c))] (setO S r T2) = .ok (.d (.str bad)) (setO S r T3) := by
      exact (op2_ok (by rfl) w4).trans (by simp only [ixF, atLn, hbad'])
    simp only [frzE, lstF, argsF, hop, R.bind, unWs, Option.map_some]
  have mk : ∀ o, (seqS (ifS (t2 eqF (varE 5) (conE (.int 0)))
    (asgS (nameG 2) (op2 addF (slE (varE 2) none (some (varE 3))) (slE (varE 2) (some (op2 addF (varE 3) (conE (.int 1)))) none)))
    nxS)
  (seqS (ifS (t2 eqF (varE 5) (conE (.int 1)))
    (asgS (nameG 2) (op2 addF (op2 addF (slE (varE 2) none (some (varE 3))) (slE (varE 2) (some (varE 3)) (some (op2 addF (varE 3) (conE (.int 1)))))) (slE (varE 2) (some (varE 3)) none)))
    nxS)
  (seqS (ifS (t2 eqF (varE 5) (conE (.int 2)))
    (asgS (nameG 2) (op2 addF (op2 addF (slE (varE 2) none (some (varE 3))) (frzE (lstF [(op2 (ixF kt) (varE 4) (callI _law_draw_ [(varE 0), (callB (arg1 lenF) [(varE 4)])]))]))) (slE (varE 2) (some (op2 addF (varE 3) (conE (.int 1)))) none)))
    nxS)
  (seqS (ifS (t2 eqF (varE 5) (conE (.int 3)))
    (asgS (nameG 2) (op2 addF (op2 addF (slE (varE 2) none (some (varE 3))) (frzE (lstF [(op2 (ixF kt) (varE 4) (callI _law_draw_ [(varE 0), (callB (arg1 lenF) [(varE 4)])]))]))) (slE (varE 2) (some (varE 3)) none)))
    nxS)
  (retS (methE [1] joinG (conE (.str [32])) [(varE 2)])))))) [some (.ref r), some (.d (.str t)), some (.d (.lst (P.map .str))), some (.d (.int k)), some (.d (.lst (wrongs.map .str))), some (.d (.int c))] (setO S r T2) = o → b__law_turned [some (.ref r), some (.d (.str t)), none, none, none, none] S = o := by
    intro o ho
    unfold b__law_turned
    rw [seqS_nx s1, seqS_nx s2]
    simp only [setV]
    rw [seqS_nx s3, seqS_nx s4]
    simp only [setV]
    exact ho
  have htk : (P.take k).length ≤ 70 := by rw [List.length_take]; omega
  have hdk : (P.drop (k + 1)).length ≤ 70 := by rw [List.length_drop]; omega
  have hdk' : (P.drop k).length ≤ 70 := by rw [List.length_drop]; omega
  have hc4 : c = 0 ∨ c = 1 ∨ c = 2 ∨ c = 3 := by omega
  rcases hc4 with rfl | rfl | rfl | rfl
  · have hN : NP (P.take k ++ P.drop (k + 1)) 79 := np_sub hP (by
      intro w hw
      rcases List.mem_append.mp hw with hw | hw
      · exact .inl (List.mem_of_mem_take hw)
      · exact .inl (List.mem_of_mem_drop hw)) (by simp only [List.length_append, List.length_take, List.length_drop]; omega)
    refine fin _ T2 [] hN S2 (mk _ ?_)
    rw [seqS_nx (e' := [some (.ref r), some (.d (.str t)), some (.d (.lst ((P.take k ++ P.drop (k + 1)).map .str))), some (.d (.int k)), some (.d (.lst (wrongs.map .str))), some (.d (.int 0))]) (S' := setO S r T2) (by simp (disch := omega) [small_iff, smallN_iff, sm1, sm0, succ0, atL0, atL1, atLn, cutT1, cutT2, cutD1, cutD2, cutT, cutD, cutTD, runP, runI, startV, seqS, asgS, ifS, t2, t1, andT, orT, notT, truT, varE, conE, getV, setV, nameG, eqF, neF, eqW, R.bind, R.so, retS, nxS, frzE, newE, lstF, argsF, unWs, unW, snap, op2, op1, addF, subF, mulF, ixF, callB, callF, arg1, strF, valE, intF, dataL, ifE, notNF, isNF, isNon, lenF, absF, callP, callI, snaps, anyRef, tupOnly, List.replicate, ltF, gtF, geF, leF, cmpF, slE, bndE, methE, methF, kindW, dropS, tupE, listG, itemsS, truW, joinG, textsOf, negF, cutD', hsmP])]
    rw [seqS_nx (e' := [some (.ref r), some (.d (.str t)), some (.d (.lst ((P.take k ++ P.drop (k + 1)).map .str))), some (.d (.int k)), some (.d (.lst (wrongs.map .str))), some (.d (.int 0))]) (S' := setO S r T2) (by rfl)]
    rw [seqS_nx (e' := [some (.ref r), some (.d (.str t)), some (.d (.lst ((P.take k ++ P.drop (k + 1)).map .str))), some (.d (.int k)), some (.d (.lst (wrongs.map .str))), some (.d (.int 0))]) (S' := setO S r T2) (by rfl)]
    rw [seqS_nx (e' := [some (.ref r), some (.d (.str t)), some (.d (.lst ((P.take k ++ P.drop (k + 1)).map .str))), some (.d (.int k)), some (.d (.lst (wrongs.map .str))), some (.d (.int 0))]) (S' := setO S r T2) (by rfl)]
    exact join_end hN rfl
  · have hN : NP (P.take k ++ (P.take (k + 1)).drop k ++ P.drop k) 79 := np_sub hP (by
      intro w hw
      rcases List.mem_append.mp hw with hw | hw
      · rcases List.mem_append.mp hw with hw | hw
        · exact .inl (List.mem_of_mem_take hw)
        · exact .inl (List.mem_of_mem_take (List.mem_of_mem_drop hw))
      · exact .inl (List.mem_of_mem_drop hw)) (by simp only [List.length_append, List.length_take, List.length_drop]; omega)
    refine fin _ T2 [] hN S2 (mk _ ?_)
    rw [seqS_nx (e' := [some (.ref r), some (.d (.str t)), some (.d (.lst (P.map .str))), some (.d (.int k)), some (.d (.lst (wrongs.map .str))), some (.d (.int 1))]) (S' := setO S r T2) (by rfl)]
    rw [seqS_nx (e' := [some (.ref r), some (.d (.str t)), some (.d (.lst ((P.take k ++ (P.take (k + 1)).drop k ++ P.drop k).map .str))), some (.d (.int k)), some (.d (.lst (wrongs.map .str))), some (.d (.int 1))]) (S' := setO S r T2) (by simp (disch := omega) [small_iff, smallN_iff, sm1, sm0, succ0, atL0, atL1, atLn, cutT1, cutT2, cutD1, cutD2, cutT, cutD, cutTD, runP, runI, startV, seqS, asgS, ifS, t2, t1, andT, orT, notT, truT, varE, conE, getV, setV, nameG, eqF, neF, eqW, R.bind, R.so, retS, nxS, frzE, newE, lstF, argsF, unWs, unW, snap, op2, op1, addF, subF, mulF, ixF, callB, callF, arg1, strF, valE, intF, dataL, ifE, notNF, isNF, isNon, lenF, absF, callP, callI, snaps, anyRef, tupOnly, List.replicate, ltF, gtF, geF, leF, cmpF, slE, bndE, methE, methF, kindW, dropS, tupE, listG, itemsS, truW, joinG, textsOf, negF, cutTD', hsmP])]
    rw [seqS_nx (e' := [some (.ref r), some (.d (.str t)), some (.d (.lst ((P.take k ++ (P.take (k + 1)).drop k ++ P.drop k).map .str))), some (.d (.int k)), some (.d (.lst (wrongs.map .str))), some (.d (.int 1))]) (S' := setO S r T2) (by rfl)]
    rw [seqS_nx (e' := [some (.ref r), some (.d (.str t)), some (.d (.lst ((P.take k ++ (P.take (k + 1)).drop k ++ P.drop k).map .str))), some (.d (.int k)), some (.d (.lst (wrongs.map .str))), some (.d (.int 1))]) (S' := setO S r T2) (by rfl)]
    exact join_end hN rfl
  · have hN : NP (P.take k ++ [bad] ++ P.drop (k + 1)) 79 := np_sub hP (by
      intro w hw
      rcases List.mem_append.mp hw with hw | hw
      · rcases List.mem_append.mp hw with hw | hw
        · exact .inl (List.mem_of_mem_take hw)
        · simp only [List.mem_singleton] at hw; subst hw; exact .inr hbm
      · exact .inl (List.mem_of_mem_drop hw)) (by simp only [List.length_append, List.length_take, List.length_drop, List.length_singleton]; omega)
    refine fin _ T3 [] hN S3 (mk _ ?_)
    rw [seqS_nx (e' := [some (.ref r), some (.d (.str t)), some (.d (.lst (P.map .str))), some (.d (.int k)), some (.d (.lst (wrongs.map .str))), some (.d (.int 2))]) (S' := setO S r T2) (by rfl)]
    rw [seqS_nx (e' := [some (.ref r), some (.d (.str t)), some (.d (.lst (P.map .str))), some (.d (.int k)), some (.d (.lst (wrongs.map .str))), some (.d (.int 2))]) (S' := setO S r T2) (by rfl)]
    rw [seqS_nx (e' := [some (.ref r), some (.d (.str t)), some (.d (.lst ((P.take k ++ [bad] ++ P.drop (k + 1)).map .str))), some (.d (.int k)), some (.d (.lst (wrongs.map .str))), some (.d (.int 2))]) (S' := setO S r T3) (by
      rw [ifS_t (S' := setO S r T2) (by rfl)]
      refine asgS_n (w := .d (.lst ((P.take k ++ [bad] ++ P.drop (k + 1)).map .str))) ?_
      have a1 : slE (varE 2) none (some (varE 3)) [some (.ref r), some (.d (.str t)), some (.d (.lst (P.map .str))), some (.d (.int k)), some (.d (.lst (wrongs.map .str))), some (.d (.int 2))] (setO S r T2) = .ok (.d (.lst ((P.take k).map .str))) (setO S r T2) := by simp (disch := omega) [small_iff, smallN_iff, sm1, sm0, succ0, atL0, atL1, atLn, cutT1, cutT2, cutD1, cutD2, cutT, cutD, cutTD, runP, runI, startV, seqS, asgS, ifS, t2, t1, andT, orT, notT, truT, varE, conE, getV, setV, nameG, eqF, neF, eqW, R.bind, R.so, retS, nxS, frzE, newE, lstF, argsF, unWs, unW, snap, op2, op1, addF, subF, mulF, ixF, callB, callF, arg1, strF, valE, intF, dataL, ifE, notNF, isNF, isNon, lenF, absF, callP, callI, snaps, anyRef, tupOnly, List.replicate, ltF, gtF, geF, leF, cmpF, slE, bndE, methE, methF, kindW, dropS, tupE, listG, itemsS, truW, joinG, textsOf, negF]
      have a2 : slE (varE 2) (some (op2 addF (varE 3) (conE (.int 1)))) none [some (.ref r), some (.d (.str t)), some (.d (.lst (P.map .str))), some (.d (.int k)), some (.d (.lst (wrongs.map .str))), some (.d (.int 2))] (setO S r T3) = .ok (.d (.lst ((P.drop (k + 1)).map .str))) (setO S r T3) := by simp (disch := omega) [small_iff, smallN_iff, sm1, sm0, succ0, atL0, atL1, atLn, cutT1, cutT2, cutD1, cutD2, cutT, cutD, cutTD, runP, runI, startV, seqS, asgS, ifS, t2, t1, andT, orT, notT, truT, varE, conE, getV, setV, nameG, eqF, neF, eqW, R.bind, R.so, retS, nxS, frzE, newE, lstF, argsF, unWs, unW, snap, op2, op1, addF, subF, mulF, ixF, callB, callF, arg1, strF, valE, intF, dataL, ifE, notNF, isNF, isNon, lenF, absF, callP, callI, snaps, anyRef, tupOnly, List.replicate, ltF, gtF, geF, leF, cmpF, slE, bndE, methE, methF, kindW, dropS, tupE, listG, itemsS, truW, joinG, textsOf, negF, cutD']
      rw [op2_ok ((op2_ok a1 hix).trans (addF_lst (by simp only [List.length_map, List.length_singleton]; omega))) a2, addF_lst (by simp only [List.length_append, List.length_map, List.length_singleton]; omega)]
      simp)]
    rw [seqS_nx (e' := [some (.ref r), some (.d (.str t)), some (.d (.lst ((P.take k ++ [bad] ++ P.drop (k + 1)).map .str))), some (.d (.int k)), some (.d (.lst (wrongs.map .str))), some (.d (.int 2))]) (S' := setO S r T3) (by rfl)]
    exact join_end hN rfl
  · have hN : NP (P.take k ++ [bad] ++ P.drop k) 79 := np_sub hP (by
      intro w hw
      rcases List.mem_append.mp hw with hw | hw
      · rcases List.mem_append.mp hw with hw | hw
        · exact .inl (List.mem_of_mem_take hw)
        · simp only [List.mem_singleton] at hw; subst hw; exact .inr hbm
      · exact .inl (List.mem_of_mem_drop hw)) (by simp only [List.length_append, List.length_take, List.length_drop, List.length_singleton]; omega)
    refine fin _ T3 [] hN S3 (mk _ ?_)
    rw [seqS_nx (e' := [some (.ref r), some (.d (.str t)), some (.d (.lst (P.map .str))), some (.d (.int k)), some (.d (.lst (wrongs.map .str))), some (.d (.int 3))]) (S' := setO S r T2) (by rfl)]
    rw [seqS_nx (e' := [some (.ref r), some (.d (.str t)), some (.d (.lst (P.map .str))), some (.d (.int k)), some (.d (.lst (wrongs.map .str))), some (.d (.int 3))]) (S' := setO S r T2) (by rfl)]
    rw [seqS_nx (e' := [some (.ref r), some (.d (.str t)), some (.d (.lst (P.map .str))), some (.d (.int k)), some (.d (.lst (wrongs.map .str))), some (.d (.int 3))]) (S' := setO S r T2) (by rfl)]
    rw [seqS_nx (e' := [some (.ref r), some (.d (.str t)), some (.d (.lst ((P.take k ++ [bad] ++ P.drop k).map .str))), some (.d (.int k)), some (.d (.lst (wrongs.map .str))), some (.d (.int 3))]) (S' := setO S r T3) (by
      rw [ifS_t (S' := setO S r T2) (by rfl)]
      refine asgS_n (w := .d (.lst ((P.take k ++ [bad] ++ P.drop k).map .str))) ?_
      have a1 : slE (varE 2) none (some (varE 3)) [some (.ref r), some (.d (.str t)), some (.d (.lst (P.map .str))), some (.d (.int k)), some (.d (.lst (wrongs.map .str))), some (.d (.int 3))] (setO S r T2) = .ok (.d (.lst ((P.take k).map .str))) (setO S r T2) := by simp (disch := omega) [small_iff, smallN_iff, sm1, sm0, succ0, atL0, atL1, atLn, cutT1, cutT2, cutD1, cutD2, cutT, cutD, cutTD, runP, runI, startV, seqS, asgS, ifS, t2, t1, andT, orT, notT, truT, varE, conE, getV, setV, nameG, eqF, neF, eqW, R.bind, R.so, retS, nxS, frzE, newE, lstF, argsF, unWs, unW, snap, op2, op1, addF, subF, mulF, ixF, callB, callF, arg1, strF, valE, intF, dataL, ifE, notNF, isNF, isNon, lenF, absF, callP, callI, snaps, anyRef, tupOnly, List.replicate, ltF, gtF, geF, leF, cmpF, slE, bndE, methE, methF, kindW, dropS, tupE, listG, itemsS, truW, joinG, textsOf, negF]
      have a2 : slE (varE 2) (some (varE 3)) none [some (.ref r), some (.d (.str t)), some (.d (.lst (P.map .str))), some (.d (.int k)), some (.d (.lst (wrongs.map .str))), some (.d (.int 3))] (setO S r T3) = .ok (.d (.lst ((P.drop k).map .str))) (setO S r T3) := by simp (disch := omega) [small_iff, smallN_iff, sm1, sm0, succ0, atL0, atL1, atLn, cutT1, cutT2, cutD1, cutD2, cutT, cutD, cutTD, runP, runI, startV, seqS, asgS, ifS, t2, t1, andT, orT, notT, truT, varE, conE, getV, setV, nameG, eqF, neF, eqW, R.bind, R.so, retS, nxS, frzE, newE, lstF, argsF, unWs, unW, snap, op2, op1, addF, subF, mulF, ixF, callB, callF, arg1, strF, valE, intF, dataL, ifE, notNF, isNF, isNon, lenF, absF, callP, callI, snaps, anyRef, tupOnly, List.replicate, ltF, gtF, geF, leF, cmpF, slE, bndE, methE, methF, kindW, dropS, tupE, listG, itemsS, truW, joinG, textsOf, negF, cutD']
      rw [op2_ok ((op2_ok a1 hix).trans (addF_lst (by simp only [List.length_map, List.length_singleton]; omega))) a2, addF_lst (by simp only [List.length_append, List.length_map, List.length_singleton]; omega)]
      simp)]
    exact join_end hN rfl
end K54

end

section
set_option linter.all false
set_option maxRecDepth 100000
set_option linter.all false
set_option maxRecDepth 100000
namespace Pw
open Pv
theorem asg_sub {kt : List (List D)} {o i a : EV} {e : En} {S S1 S2 S3 S4 : Store} {w x y : W} (ha : a e S = .ok w S1) (ho : o e S1 = .ok x S2) (hi : i e S2 = .ok y S3) (hs : setIx kt x y w S3 = .ok () S4) : asgS (subG kt o i) a e S = .nx e S4 := by
  unfold asgS; rw [ha]
  simp only [R.so, subG, ho, R.bind, hi, hs]
end Pw
namespace K54
open Pv Pw
theorem subF_i {S : Store} {i j : Int} : subF (.d (.int i)) (.d (.int j)) S = .ok (.d (.int (i - j))) S := rfl
theorem addF_i {S : Store} {i j : Int} : addF (.d (.int i)) (.d (.int j)) S = .ok (.d (.int (i + j))) S := rfl
theorem ifS_dr {t : TV} {a b : SV} {e : En} {S S' : Store} {k : Bool} {o : SO} (h : t e S = .ok k S') (h1 : k = true → a e S' = o) (h2 : k = false → b e S' = o) : ifS t a b e S = o := by
  cases k with
  | true => rw [ifS_t h]; exact h1 rfl
  | false => rw [ifS_f h]; exact h2 rfl
/-- a dict that draws fill -/
structure Fill (d : List (Int × Int)) (n : Nat) : Prop where
  k : ∀ p ∈ d, -5 ≤ p.1 ∧ p.1 ≤ 9
  v : ∀ p ∈ d, p.2.natAbs < 10 ^ 40
  l : d.length ≤ n
theorem fill_put {d : List (Int × Int)} {n : Nat} (h : Fill d n) {k v : Int} (hk : -5 ≤ k ∧ k ≤ 9) (hv : v.natAbs < 10 ^ 40) : Fill (putP d k v) (n + 1) := by
  refine ⟨fun p hp => ?_, fun p hp => ?_, ?_⟩
  · rcases putP_mem hp with hp | rfl
    · exact h.k p hp
    · exact hk
  · rcases putP_mem hp with hp | rfl
    · exact h.v p hp
    · exact hv
  · have := h.l
    unfold putP
    split
    · simp; omega
    · simp; omega
theorem small_abs {v : Int} (h : -1000000000000000000000000000000000 ≤ v ∧ v ≤ 1000000000000000000000000000000000) : v.natAbs < 10 ^ 40 := by
  have : (10 : Nat) ^ 40 = 10000000000000000000000000000000000000000 := by decide
  rw [this]; omega
theorem drawn_step {ns : List Int} (hns : ns.length ≤ 63) {r q : Nat} (hrq : r ≠ q) {most low : Int} {k : Nat} {x5 : Option W} {S : Store} {d : List (Int × Int)} (hS : St ns S r) (hd : getO S q = some (.dct false (encW .int d))) (hf : Fill d k) (hk : k ≤ 6) (hlow : -5 ≤ low ∧ low ≤ 3) :
    ∃ d' x5' S', l0__law_drawn_poly [some (.ref r), some (.d (.int most)), some (.ref q), some (.d (.int low)), some (.d (.int k)), x5] S = .nx [some (.ref r), some (.d (.int most)), some (.ref q), some (.d (.int low)), some (.d (.int k)), x5'] S' ∧ St ns S' r ∧ getO S' q = some (.dct false (encW .int d')) ∧ Fill d' (k + 1) := by
  obtain ⟨a, T1, a1, a2, a3, S1⟩ := draw_step hns (e := [some (.ref r), some (.d (.int most)), some (.ref q), some (.d (.int low)), some (.d (.int k)), x5]) (S := S) (r := r) (v := 0) (a := conE (.int 9)) (lim := 9) rfl (by rfl) hS (by omega) (by omega)
  have s1 : asgS (nameG 5) (op2 subF (callI _law_draw_ [(varE 0), (conE (.int 9))]) (conE (.int 4))) [some (.ref r), some (.d (.int most)), some (.ref q), some (.d (.int low)), some (.d (.int k)), x5] S = .nx [some (.ref r), some (.d (.int most)), some (.ref q), some (.d (.int low)), some (.d (.int k)), some (.d (.int (a - 4)))] (setO S r T1) :=
    asgS_n ((op2_ok a3 (by rfl)).trans subF_i)
  obtain ⟨b, T2, b1, b2, b3, S2⟩ := draw_step hns (e := [some (.ref r), some (.d (.int most)), some (.ref q), some (.d (.int low)), some (.d (.int k)), some (.d (.int (a - 4)))]) (S := setO S r T1) (r := r) (v := 0) (a := conE (.int 8)) (lim := 8) rfl (by rfl) S1 (by omega) (by omega)
  obtain ⟨c, T3, c1, c2, c3, S3⟩ := draw_step hns (e := [some (.ref r), some (.d (.int most)), some (.ref q), some (.d (.int low)), some (.d (.int k)), some (.d (.int (a - 4)))]) (S := setO (setO S r T1) r T2) (r := r) (v := 0) (a := conE (.int 2001)) (lim := 2001) rfl (by rfl) S2 (by omega) (by omega)
  obtain ⟨f, T4, f1, f2, f3, S4⟩ := draw_step hns (e := [some (.ref r), some (.d (.int most)), some (.ref q), some (.d (.int low)), some (.d (.int k)), some (.d (.int (a - 4)))]) (S := setO (setO (setO S r T1) r T2) r T3) (r := r) (v := 0) (a := conE (.int 99)) (lim := 99) rfl (by rfl) S3 (by omega) (by omega)
  have ht : t2 eqF (callI _law_draw_ [(varE 0), (conE (.int 8))]) (conE (.int 7)) [some (.ref r), some (.d (.int most)), some (.ref q), some (.d (.int low)), some (.d (.int k)), some (.d (.int (a - 4)))] (setO S r T1) = .ok (b == 7) (setO (setO S r T1) r T2) := by
    unfold t2; rw [b3]; rfl
  -- the number
  have hnum : ∃ v T, v.natAbs < 10 ^ 40 ∧ St ns (setO S r T) r ∧ ifS (t2 eqF (callI _law_draw_ [(varE 0), (conE (.int 8))]) (conE (.int 7)))
    (asgS (nameG 5) (op2 addF (op2 mulF (op2 subF (callI _law_draw_ [(varE 0), (conE (.int 2001))]) (conE (.int 1000))) (op2 powF (conE (.int 10)) (conE (.int 20)))) (callI _law_draw_ [(varE 0), (conE (.int 99))])))
    nxS [some (.ref r), some (.d (.int most)), some (.ref q), some (.d (.int low)), some (.d (.int k)), some (.d (.int (a - 4)))] (setO S r T1) = .nx [some (.ref r), some (.d (.int most)), some (.ref q), some (.d (.int low)), some (.d (.int k)), some (.d (.int v))] (setO S r T) := by
    cases hb : b == 7 with
    | true =>
      rw [hb] at ht
      refine ⟨(c - 1000) * 100000000000000000000 + f, T4, small_abs (by omega), by rw [setO_setO, setO_setO, setO_setO] at S4; exact S4, ?_⟩
      rw [ifS_t ht]
      have h1 : small64 (c - 1000) = true := sm64 (by omega) (by omega)
      have hp : op2 powF (conE (.int 10)) (conE (.int 20)) [some (.ref r), some (.d (.int most)), some (.ref q), some (.d (.int low)), some (.d (.int k)), some (.d (.int (a - 4)))] (setO (setO (setO S r T1) r T2) r T3) = .ok (.d (.int 100000000000000000000)) (setO (setO (setO S r T1) r T2) r T3) := by rfl
      have hm : mulF (.d (.int (c - 1000))) (.d (.int 100000000000000000000)) (setO (setO (setO S r T1) r T2) r T3) = .ok (.d (.int ((c - 1000) * 100000000000000000000))) (setO (setO (setO S r T1) r T2) r T3) := by
        simp only [mulF, h1, Bool.true_or, if_true]
      have := (op2_ok (f := addF) ((op2_ok (f := mulF) ((op2_ok (f := subF) (b := conE (.int 1000)) c3 rfl).trans subF_i) hp).trans hm) f3).trans addF_i
      rw [setO_setO, setO_setO, setO_setO] at this
      rw [setO_setO]
      exact asgS_n this
    | false =>
      rw [hb] at ht
      refine ⟨a - 4, T2, small_abs (by omega), by rw [setO_setO] at S2; exact S2, ?_⟩
      rw [ifS_f ht, setO_setO]
      rfl
  obtain ⟨v, T, hv, hST, hif⟩ := hnum
  have hd' : getO (setO S r T) q = some (.dct false (encW .int d)) := by rw [getO_ne _ _ _ _ hrq]; exact hd
  have hput := putK_enc (ek := D.int) hek_int (low + k) v d
  have hbl : Nat.blt (encW D.int d).length 16777216 = true := by
    have : (encW D.int d).length = d.length := by simp [encW]
    rw [this]; have := hf.l; exact blt16 (by omega)
  have hok : okKey kt false (.int (low + k)) = true := rfl
  refine ⟨putP d (low + k) v, some (.d (.int v)), setO (setO S r T) q (.dct false (encW .int (putP d (low + k) v))), ?_, ?_, getO_set hd', fill_put hf (by omega) hv⟩
  · unfold l0__law_drawn_poly
    rw [seqS_nx s1, seqS_nx hif]
    have e1 : op2 addF (varE 3) (varE 4) [some (.ref r), some (.d (.int most)), some (.ref q), some (.d (.int low)), some (.d (.int k)), some (.d (.int v))] (setO S r T) = .ok (.d (.int (low + k))) (setO S r T) := rfl
    exact asg_sub (by rfl) (by rfl) e1 (by simp only [setIx, hd', hok, hbl, Bool.and_self, if_true, hput])
  · obtain ⟨i, c', m, b', h1, h2⟩ := hST
    exact ⟨i, c', m, b', by rw [getO_ne _ _ _ _ (Ne.symm hrq)]; exact h1, h2⟩
/-- a drawn polynomial -/
theorem drawn_ok {ns : List Int} (hns : ns.length ≤ 63) {S : Store} {r : Nat} (hS : St ns S r) : ∃ b ms S', _law_drawn_poly_ [.ref r, .d (.int 6)] S = .ok (.d (polyD b ms)) S' ∧ St ns S' r ∧ Nrm b ms ∧ Bd b ms ∧ ms.length ≤ 15 := by
  have hrl : r < S.length := by obtain ⟨i, c, m, b, h, _⟩ := hS; exact getO_lt S r _ h
  have hS0 : St ns (S ++ [.dct false []]) r := by obtain ⟨i, c, m, b, h, h'⟩ := hS; exact ⟨i, c, m, b, getO_some _ h, h'⟩
  obtain ⟨a, T1, a1, a2, a3, S1⟩ := draw_step hns (e := [some (.ref r), some (.d (.int 6)), some (.ref S.length), none, none, none]) (S := S ++ [.dct false []]) (r := r) (v := 0) (a := conE (.int 9)) (lim := 9) rfl (by rfl) hS0 (by omega) (by omega)
  have s2 : asgS (nameG 3) (op2 subF (callI _law_draw_ [(varE 0), (conE (.int 9))]) (conE (.int 5))) [some (.ref r), some (.d (.int 6)), some (.ref S.length), none, none, none] (S ++ [.dct false []]) = .nx [some (.ref r), some (.d (.int 6)), some (.ref S.length), some (.d (.int (a - 5))), none, none] (setO (S ++ [.dct false []]) r T1) :=
    asgS_n ((op2_ok a3 (by rfl)).trans subF_i)
  obtain ⟨n, T2, n1, n2, n3, S2⟩ := draw_step hns (e := [some (.ref r), some (.d (.int 6)), some (.ref S.length), some (.d (.int (a - 5))), none, none]) (S := setO (S ++ [.dct false []]) r T1) (r := r) (v := 0) (a := op2 addF (varE 1) (conE (.int 1))) (lim := 7) rfl (by rfl) S1 (by omega) (by omega)
  obtain ⟨k, rfl⟩ := Int.eq_ofNat_of_zero_le n1
  have hq0 : getO (setO (setO (S ++ [.dct false []]) r T1) r T2) S.length = some (.dct false (encW D.int [])) := by
    rw [getO_ne _ _ _ _ (by omega), getO_ne _ _ _ _ (by omega), getO_end]; rfl
  have loop := forL_ind (g := nameG 4) (b := l0__law_drawn_poly) (ws := rangeD 0 k)
    (fun j e S' => St ns S' r ∧ ∃ d x4 x5, getO S' S.length = some (.dct false (encW .int d)) ∧ Fill d j ∧ e = [some (.ref r), some (.d (.int 6)), some (.ref S.length), some (.d (.int (a - 5))), x4, x5])
    (fun o => ∃ d x4 x5 S', o = .nx [some (.ref r), some (.d (.int 6)), some (.ref S.length), some (.d (.int (a - 5))), x4, x5] S' ∧ St ns S' r ∧ getO S' S.length = some (.dct false (encW .int d)) ∧ Fill d k)
    (by
      rintro j w e S' hw ⟨hS', d, x4, x5, hd, hf, rfl⟩
      rw [rangeD_get] at hw
      split at hw
      · rename_i hj
        cases hw
        obtain ⟨d', x5', S'', h1, h2, h3, h4⟩ := drawn_step hns (r := r) (q := S.length) (by omega) (most := 6) (low := a - 5) (k := j) (x5 := x5) hS' hd hf (by omega) (by omega)
        refine ⟨_, _, rfl, ?_⟩
        have e0 : (0 : Int) + (j : Int) = (j : Int) := by omega
        rw [e0]
        simp only [setV]
        rw [h1]
        exact ⟨h2, d', _, _, h3, h4, rfl⟩
      · cases hw)
    (by
      rintro e S' ⟨hS', d, x4, x5, hd, hf, rfl⟩
      rw [rangeD_len] at hf
      exact ⟨d, x4, x5, S', rfl, hS', hd, hf⟩) (e := [some (.ref r), some (.d (.int 6)), some (.ref S.length), some (.d (.int (a - 5))), none, none]) (S := setO (setO (S ++ [.dct false []]) r T1) r T2) ⟨S2, [], none, none, hq0, ⟨by simp, by simp, by simp⟩, rfl⟩
  obtain ⟨d, x4, x5, S', hloop, hS', hd, hf⟩ := loop
  have hk6 : d.length ≤ 6 := by have := hf.l; omega
  obtain ⟨b, ms, hp, hP⟩ := law_poly_ok d (fun p hp => by have := hf.k p hp; omega) (by omega)
  have hBd : Bd b ms := by
    refine ⟨fun hne => ?_, hP.n.z, fun n hn => ?_⟩
    · have := hP.k hne (-5) 9 hf.k
      omega
    · rcases hP.m n hn with rfl | ⟨k, hk⟩
      · decide
      · exact hf.v _ hk
  refine ⟨b, ms, S', ?_, hS', hP.n, hBd, ?_⟩
  · refine runI_rt rfl ?_
    show b__law_drawn_poly [some (.ref r), some (.d (.int 6)), none, none, none, none] S = _
    unfold b__law_drawn_poly
    rw [seqS_nx (e' := [some (.ref r), some (.d (.int 6)), some (.ref S.length), none, none, none]) (S' := S ++ [.dct false []]) (by rfl), seqS_nx s2]
    have hr := rng1_i n3 (big62_int (by omega) (by omega))
    rw [Int.toNat_natCast] at hr
    rw [seqS_nx ((forS_fix hr).trans hloop)]
    have hu := unKW_enc D.int d
    have htp := polyD_tup b ms
    unfold retS callP
    simp only [argsF, varE, getV, R.bind, snaps, snap, hd, hu, Option.map_some, hp, anyRef]
    simp only [polyD] at htp
    simp only [htp]
    rfl
  · by_cases e : ms = []
    · simp [e]
    · have := hP.k e (-5) 9 hf.k
      omega
end K54

end

section
set_option linter.all false
set_option maxRecDepth 100000
set_option linter.all false
set_option maxRecDepth 100000
namespace Pw
open Pv
theorem t2_ok {f : W → W → Store → R Bool} {a b : EV} {e : En} {S S1 S2 : Store} {x y : W} (ha : a e S = .ok x S1) (hb : b e S1 = .ok y S2) : t2 f a b e S = f x y S2 := by
  unfold t2; rw [ha]; simp only [R.bind, hb]
end Pw
namespace K54
open Pv Pw
theorem turn_step {ns : List Int} (hns : ns.length ≤ 63) {e : En} {S : Store} {v : Nat} {t : List Nat} (h1 : getV e 1 = some (.ref 0)) (hv : getV e v = some (.d (.str t))) (hS : St ns S 0) (ht : t.length ≤ 5000000) (hP : NP (splitC 32 [] t) 70) :
    ∃ u T, NT u ∧ asgS (nameG 10) (callI _law_turned_ [(varE 1), (varE v)]) e S = .nx (setV e 10 (.d (.str u))) (setO S 0 T) ∧ St ns (setO S 0 T) 0 := by
  obtain ⟨ps, T, hN, h2, h3⟩ := turned_ok hns hS ht hP
  refine ⟨joinL [32] ps, T, np_nt hN, asgS_n (callI_ok (ws := [.ref 0, .d (.str t)]) (S1 := S) ?_ h2), h3⟩
  simp only [argsF, varE, h1, hv, R.bind]
theorem chk_step {e : En} {S : Store} {u w : List Nat} {a : EV} (hu : getV e 10 = some (.d (.str u))) (ha : a e S = .ok (.d (.str w)) S) {r : D} (h1 : _law_read_ [.str u, .str w] = .ok r) (h2 : _law_due_ [.str u, .str w] = .ok r) (hr : shp 60 r = true) :
    ifS (t2 neF (callP _law_read_ [(varE 10), a]) (callP _law_due_ [(varE 10), a])) (retS (conE (.bl false))) nxS e S = .nx e S := by
  have hv : varE 10 e S = .ok (.d (.str u)) S := by simp only [varE, hu]
  have a1 : argsF [varE 10, a] e S = .ok ([D.str u, D.str w].map .d) S := by simp only [argsF, hv, ha, R.bind]; rfl
  rw [ifS_f ((t2_ok (callP_d _ a1 h1) (callP_d _ a1 h2)).trans (neF_refl hr))]
  rfl
/-- five turned texts of either kind -/
theorem five_ok {ns : List Int} (hns : ns.length ≤ 63) {l : Nat} (hl : 65 ≤ l) {t1 t2' : List Nat} (ht1 : t1.length ≤ 5000000) (hP1 : NP (splitC 32 [] t1) 70) (ht2 : t2'.length ≤ 5000000) (hP2 : NP (splitC 32 [] t2') 70)
    (x0 x2 x4 x6 x7 x8 x10 x11 : Option W) {S : Store} (hS : St ns S 0) :
    ∃ x7' x10' S', forS (rng1 (conE (.int 5))) (nameG 7) l0_law [x0, some (.ref 0), x2, some (.d (.str [l])), x4, some (.d (.str t1)), x6, x7, x8, some (.d (.str t2')), x10, x11] S = .nx [x0, some (.ref 0), x2, some (.d (.str [l])), x4, some (.d (.str t1)), x6, x7', x8, some (.d (.str t2')), x10', x11] S' ∧ St ns S' 0 := by
  have loop := forL_ind (g := nameG 7) (b := l0_law) (ws := rangeD 0 5)
    (fun _ e S => St ns S 0 ∧ ∃ x7 x10, e = [x0, some (.ref 0), x2, some (.d (.str [l])), x4, some (.d (.str t1)), x6, x7, x8, some (.d (.str t2')), x10, x11])
    (fun o => ∃ x7' x10' S', o = .nx [x0, some (.ref 0), x2, some (.d (.str [l])), x4, some (.d (.str t1)), x6, x7', x8, some (.d (.str t2')), x10', x11] S' ∧ St ns S' 0)
    (by
      rintro k w e S _ ⟨hS, x7, x10, rfl⟩
      refine ⟨_, _, rfl, ?_⟩
      simp only [setV]
      obtain ⟨u, T, hu, h1, h2⟩ := turn_step hns (e := [x0, some (.ref 0), x2, some (.d (.str [l])), x4, some (.d (.str t1)), x6, some w, x8, some (.d (.str t2')), x10, x11]) (v := 5) rfl rfl hS ht1 hP1
      simp only [setV] at h1
      obtain ⟨r, r1, r2, r3⟩ := same1 hl hu
      obtain ⟨u', T', hu', h1', h2'⟩ := turn_step hns (e := [x0, some (.ref 0), x2, some (.d (.str [l])), x4, some (.d (.str t1)), x6, some w, x8, some (.d (.str t2')), some (.d (.str u)), x11]) (v := 9) rfl rfl h2 ht2 hP2
      simp only [setV] at h1'
      obtain ⟨r', r1', r2', r3'⟩ := same2 hu'
      have : l0_law [x0, some (.ref 0), x2, some (.d (.str [l])), x4, some (.d (.str t1)), x6, some w, x8, some (.d (.str t2')), x10, x11] S = .nx [x0, some (.ref 0), x2, some (.d (.str [l])), x4, some (.d (.str t1)), x6, some w, x8, some (.d (.str t2')), some (.d (.str u')), x11] (setO (setO S 0 T) 0 T') := by
        unfold l0_law
        rw [seqS_nx h1, seqS_nx (chk_step (u := u) (w := [l]) (r := r) rfl (by rfl) r1 r2 r3), seqS_nx h1', chk_step (u := u') (w := []) (r := r') rfl (by rfl) r1' r2' r3']
      rw [this]
      exact ⟨h2', _, _, rfl⟩)
    (by
      rintro e S ⟨hS, x7, x10, rfl⟩
      exact ⟨_, _, _, rfl, hS⟩) (e := [x0, some (.ref 0), x2, some (.d (.str [l])), x4, some (.d (.str t1)), x6, x7, x8, some (.d (.str t2')), x10, x11]) (S := S) ⟨hS, _, _, rfl⟩
  obtain ⟨x7', x10', S', h, h'⟩ := loop
  exact ⟨x7', x10', S', (forS_fix (rng1_i (i := 5) (by rfl) (by decide))).trans h, h'⟩
/-! terms in two letters, drawn -/
structure FillP (d : List ((Int × Int) × Int)) (n : Nat) : Prop where
  k : ∀ p ∈ d, (-30 ≤ p.1.1 ∧ p.1.1 ≤ 30) ∧ (-30 ≤ p.1.2 ∧ p.1.2 ≤ 30)
  v : ∀ p ∈ d, p.2.natAbs < 10 ^ 40
  l : d.length ≤ n
  n : (d.map (·.1)).Nodup
theorem fillP_put {d : List ((Int × Int) × Int)} {n : Nat} (h : FillP d n) {k : Int × Int} {v : Int} (hk : (-30 ≤ k.1 ∧ k.1 ≤ 30) ∧ (-30 ≤ k.2 ∧ k.2 ≤ 30)) (hv : v.natAbs < 10 ^ 40) : FillP (putP d k v) (n + 1) := by
  refine ⟨fun p hp => ?_, fun p hp => ?_, ?_, putP_nd h.n _ _⟩
  · rcases putP_mem hp with hp | rfl
    · exact h.k p hp
    · exact hk
  · rcases putP_mem hp with hp | rfl
    · exact h.v p hp
    · exact hv
  · have := h.l
    unfold putP
    split
    · simp; omega
    · simp; omega
theorem pair_step {ns : List Int} (hns : ns.length ≤ 63) {e : En} {S : Store} {q : Nat} {d : List ((Int × Int) × Int)} {k : Nat} (h1 : getV e 1 = some (.ref 0)) (h6 : getV e 6 = some (.ref q)) (hq : q ≠ 0) (hS : St ns S 0) (hd : getO S q = some (.dct true (encW eP d))) (hf : FillP d k) (hk : k ≤ 6) :
    ∃ d' S', l1_law e S = .nx e S' ∧ St ns S' 0 ∧ getO S' q = some (.dct true (encW eP d')) ∧ FillP d' (k + 1) := by
  obtain ⟨a, T1, a1, a2, a3, S1⟩ := draw_step hns (e := e) (S := S) (r := 0) (v := 1) (a := conE (.int 9)) (lim := 9) h1 (by rfl) hS (by omega) (by omega)
  obtain ⟨b, T2, b1, b2, b3, S2⟩ := draw_step hns (e := e) (S := setO S 0 T1) (r := 0) (v := 1) (a := conE (.int 8)) (lim := 8) h1 (by rfl) S1 (by omega) (by omega)
  obtain ⟨f, T3, f1, f2, f3, S3⟩ := draw_step hns (e := e) (S := setO (setO S 0 T1) 0 T2) (r := 0) (v := 1) (a := conE (.int 7)) (lim := 7) h1 (by rfl) S2 (by omega) (by omega)
  obtain ⟨g, T4, g1, g2, g3, S4⟩ := draw_step hns (e := e) (S := setO (setO (setO S 0 T1) 0 T2) 0 T3) (r := 0) (v := 1) (a := conE (.int 7)) (lim := 7) h1 (by rfl) S3 (by omega) (by omega)
  have l1 : op2 subF (callI _law_draw_ [(varE 1), (conE (.int 9))]) (conE (.int 4)) e S = .ok (.d (.int (a - 4))) (setO S 0 T1) := (op2_ok a3 rfl).trans subF_i
  have l2 : op2 subF (op2 powF (conE (.int 10)) (conE (.int 30))) (conE (.int 7)) e (setO S 0 T1) = .ok (.d (.int 999999999999999999999999999993)) (setO S 0 T1) := rfl
  have l3 : frzE (lstF [(op2 subF (callI _law_draw_ [(varE 1), (conE (.int 9))]) (conE (.int 4))), (op2 subF (op2 powF (conE (.int 10)) (conE (.int 30))) (conE (.int 7)))]) e S = .ok (.d (.lst [.int (a - 4), .int 999999999999999999999999999993])) (setO S 0 T1) := by
    refine frzE_ok (ws := [.d (.int (a - 4)), .d (.int 999999999999999999999999999993)]) ?_ rfl
    simp only [lstF, argsF, l1, l2, R.bind]
  have l4 : callB (arg1 intF) [(valE (t2 eqF (callI _law_draw_ [(varE 1), (conE (.int 8))]) (conE (.int 7))))] e (setO S 0 T1) = .ok (.d (.int (if b == 7 then 1 else 0))) (setO (setO S 0 T1) 0 T2) := by
    have : t2 eqF (callI _law_draw_ [(varE 1), (conE (.int 8))]) (conE (.int 7)) e (setO S 0 T1) = .ok (b == 7) (setO (setO S 0 T1) 0 T2) := (t2_ok (b := conE (.int 7)) b3 rfl).trans rfl
    simp only [callB, argsF, valE, this, R.bind, arg1, intF]
  have l5 : ∃ v : Int, v.natAbs < 10 ^ 40 ∧ op2 (ixF kt) (frzE (lstF [(op2 subF (callI _law_draw_ [(varE 1), (conE (.int 9))]) (conE (.int 4))), (op2 subF (op2 powF (conE (.int 10)) (conE (.int 30))) (conE (.int 7)))])) (callB (arg1 intF) [(valE (t2 eqF (callI _law_draw_ [(varE 1), (conE (.int 8))]) (conE (.int 7))))]) e S = .ok (.d (.int v)) (setO (setO S 0 T1) 0 T2) := by
    cases hb : b == 7 with
    | true =>
      rw [hb] at l4
      exact ⟨999999999999999999999999999993, small_abs (by omega), (op2_ok l3 l4).trans rfl⟩
    | false =>
      rw [hb] at l4
      exact ⟨a - 4, small_abs (by omega), (op2_ok l3 l4).trans rfl⟩
  obtain ⟨v, hv, l5⟩ := l5
  have l6 : op2 subF (callI _law_draw_ [(varE 1), (conE (.int 7))]) (conE (.int 3)) e (setO (setO S 0 T1) 0 T2) = .ok (.d (.int (f - 3))) (setO (setO (setO S 0 T1) 0 T2) 0 T3) := (op2_ok f3 rfl).trans subF_i
  have l7 : op2 subF (callI _law_draw_ [(varE 1), (conE (.int 7))]) (conE (.int 3)) e (setO (setO (setO S 0 T1) 0 T2) 0 T3) = .ok (.d (.int (g - 3))) (setO (setO (setO (setO S 0 T1) 0 T2) 0 T3) 0 T4) := (op2_ok g3 rfl).trans subF_i
  have l8 : tupE [(op2 subF (callI _law_draw_ [(varE 1), (conE (.int 7))]) (conE (.int 3))), (op2 subF (callI _law_draw_ [(varE 1), (conE (.int 7))]) (conE (.int 3)))] e (setO (setO S 0 T1) 0 T2) = .ok (.d (eP (f - 3, g - 3))) (setO (setO (setO (setO S 0 T1) 0 T2) 0 T3) 0 T4) := by
    simp only [tupE, argsF, l6, l7, R.bind, unWs, Option.map_some, eP]
  have hd' : getO (setO (setO (setO (setO S 0 T1) 0 T2) 0 T3) 0 T4) q = some (.dct true (encW eP d)) := by
    rw [getO_ne _ _ _ _ (Ne.symm hq), getO_ne _ _ _ _ (Ne.symm hq), getO_ne _ _ _ _ (Ne.symm hq), getO_ne _ _ _ _ (Ne.symm hq)]; exact hd
  have hput := putK_enc (ek := eP) hek_P (f - 3, g - 3) v d
  have hbl : Nat.blt (encW eP d).length 16777216 = true := by
    have : (encW eP d).length = d.length := by simp [encW]
    rw [this]; have := hf.l; exact blt16 (by omega)
  have hok := keyP (f - 3, g - 3)
  refine ⟨putP d (f - 3, g - 3) v, setO (setO (setO (setO (setO S 0 T1) 0 T2) 0 T3) 0 T4) q (.dct true (encW eP (putP d (f - 3, g - 3) v))), ?_, ?_, getO_set hd', fillP_put hf ⟨⟨by show -30 ≤ f - 3; omega, by show f - 3 ≤ 30; omega⟩, ⟨by show -30 ≤ g - 3; omega, by show g - 3 ≤ 30; omega⟩⟩ hv⟩
  · unfold l1_law
    exact asg_sub l5 (x := .ref q) (by simp only [varE, h6]) l8 (by simp only [setIx, hd', hok, hbl, Bool.and_self, if_true, hput])
  · obtain ⟨i, c', m, b', h1, h2⟩ := S4
    exact ⟨i, c', m, b', by rw [getO_ne _ _ _ _ hq]; exact h1, h2⟩
theorem bq_fill {d : List ((Int × Int) × Int)} {n : Nat} (h : FillP d n) (hn : n ≤ 15) : Bq (tw d) ∧ (tw d).length ≤ 15 := by
  have h1 : (tw d).length ≤ d.length := by
    unfold tw
    rw [List.length_map]
    refine Nat.le_trans (List.length_filter_le _ _) ?_
    rw [sortP_len, List.length_map]
    exact Nat.le_refl _
  have h2 := h.l
  exact ⟨⟨tw_nrm h.n, by omega, fun t ht => h.k _ (tw_mem ht), fun t ht => h.v _ (tw_mem ht)⟩, by omega⟩
theorem tt_one {l : Nat} (hl : 65 ≤ l ∧ l ≠ 94) {b : Int} {ms : List Int} (hb : Bd b ms) (h15 : ms.length ≤ 15) : TT [l] ((ent b ms).map fun p => (p.2, [p.1])) := by
  refine ⟨?_, by simpa using hl, by simp, (ent_FB hb).2, ?_⟩
  · rw [List.length_map]; exact Nat.le_trans (ent_len ms b) h15
  · intro t ht
    obtain ⟨p, hp, rfl⟩ := List.mem_map.mp ht
    exact (ent_key ms b p hp).2.2.1
theorem oneT_txt (l : Nat) (b : Int) (ms : List Int) : oneT l b ms = txtT [l] ((ent b ms).map fun p => (p.2, [p.1])) := by
  unfold oneT txtT
  rw [termsL_ent, List.map_map]
  rfl
theorem tt_two {q : List (Int × Int × Int)} (h : Bq q) (h15 : q.length ≤ 15) : TT [118, 122] (q.map fun t => (t.2.2, [t.1, t.2.1])) := by
  refine ⟨by rw [List.length_map]; exact h15, by simp, by simp, (q_FB h).2, ?_⟩
  intro t ht
  obtain ⟨p, hp, rfl⟩ := List.mem_map.mp ht
  exact h.n.z p hp
theorem twoT_txt (q : List (Int × Int × Int)) : twoT q = txtT [118, 122] (q.map fun t => (t.2.2, [t.1, t.2.1])) := by
  unfold twoT txtT terms2
  rw [List.map_map]
  rfl
end K54

end

section
set_option linter.all false
set_option maxRecDepth 100000
set_option linter.all false
set_option maxRecDepth 100000
namespace K54
open Pv Pw
def lets : List Nat := [65, 116, 122]
theorem lets_ok : ∀ l ∈ lets, 65 ≤ l ∧ l ≠ 94 := by decide
/-- the first half of a turn -/
theorem one_checks {e : En} {S : Store} {l : Nat} (hl : 65 ≤ l) {b : Int} {ms : List Int} (h3 : getV e 3 = some (.d (.str [l]))) (h4 : getV e 4 = some (.d (polyD b ms))) (h5 : getV e 5 = some (.d (.str (oneT l b ms)))) (hn : Nrm b ms) (hb : Bd b ms) (ht : (oneT l b ms).length ≤ 5000000) :
    ifS (orT (t2 neF (callP format_polynomial_ [(varE 4), (varE 3)]) (varE 5)) (t2 neF (callP _law_read_ [(varE 5), (varE 3)]) (tupE [(conE (.str [114, 101, 97, 100])), (varE 4)]))) (retS (conE (.bl false))) nxS e S = .nx e S := by
  have v3 : varE 3 e S = .ok (.d (.str [l])) S := by simp only [varE, h3]
  have v4 : varE 4 e S = .ok (.d (polyD b ms)) S := by simp only [varE, h4]
  have v5 : varE 5 e S = .ok (.d (.str (oneT l b ms))) S := by simp only [varE, h5]
  have hf : format_polynomial_ [polyD b ms, .str [l]] = .ok (.str (oneT l b ms)) := format_poly (bd_ok (l := l) hb)
  have hr := read_one (parse_back hl hn hb ht)
  have c1 : t2 neF (callP format_polynomial_ [(varE 4), (varE 3)]) (varE 5) e S = .ok false S := by
    rw [t2_ok (callP_d [polyD b ms, .str [l]] (by simp only [argsF, v3, v4, R.bind]; rfl) hf) v5]
    simp [neF, eqW]
  have c2 : t2 neF (callP _law_read_ [(varE 5), (varE 3)]) (tupE [(conE (.str [114, 101, 97, 100])), (varE 4)]) e S = .ok false S := by
    have ht : tupE [(conE (.str [114, 101, 97, 100])), (varE 4)] e S = .ok (.d (readD (polyD b ms))) S := by
      simp only [tupE, argsF, conE, v4, R.bind, unWs, Option.map_some, readD]
    rw [t2_ok (callP_d [.str (oneT l b ms), .str [l]] (by simp only [argsF, v3, v5, R.bind]; rfl) hr) ht]
    exact neF_refl (shp_poly b ms)
  rw [ifS_f ((orT_f c1).trans c2)]
  rfl
theorem two_checks {e : En} {S : Store} {q : List (Int × Int × Int)} (h8 : getV e 8 = some (.d (twoD q))) (h9 : getV e 9 = some (.d (.str (twoT q)))) (hq : Bq q) (ht : (twoT q).length ≤ 5000000) :
    ifS (orT (t2 neF (callP format_two_ [(varE 8)]) (varE 9)) (t2 neF (callP _law_read_ [(varE 9), (conE (.str []))]) (tupE [(conE (.str [114, 101, 97, 100])), (varE 8)]))) (retS (conE (.bl false))) nxS e S = .nx e S := by
  have v8 : varE 8 e S = .ok (.d (twoD q)) S := by simp only [varE, h8]
  have v9 : varE 9 e S = .ok (.d (.str (twoT q))) S := by simp only [varE, h9]
  have hf : format_two_ [twoD q] = .ok (.str (twoT q)) := format_two_ok (bq_bd hq)
  have hr := read_two (parse2_back hq ht)
  have c1 : t2 neF (callP format_two_ [(varE 8)]) (varE 9) e S = .ok false S := by
    rw [t2_ok (callP_d [twoD q] (by simp only [argsF, v8, R.bind]; rfl) hf) v9]
    simp [neF, eqW]
  have c2 : t2 neF (callP _law_read_ [(varE 9), (conE (.str []))]) (tupE [(conE (.str [114, 101, 97, 100])), (varE 8)]) e S = .ok false S := by
    have ht : tupE [(conE (.str [114, 101, 97, 100])), (varE 8)] e S = .ok (.d (readD (twoD q))) S := by
      simp only [tupE, argsF, conE, v8, R.bind, unWs, Option.map_some, readD]
    rw [t2_ok (callP_d [.str (twoT q), .str []] (by simp only [argsF, conE, v9, R.bind]; rfl) hr) ht]
    exact neF_refl (shp_two q)
  rw [ifS_f ((orT_f c1).trans c2)]
  rfl
theorem l2_ok {ns : List Int} (hns : ns.length ≤ 63) (x0 x2 x3 x4 x5 x6 x7 x8 x9 x10 x11 : Option W) {S : Store} (hS : St ns S 0) :
    ∃ y3 y4 y5 y6 y7 y8 y9 y10 y11 S', l2_law [x0, some (.ref 0), x2, x3, x4, x5, x6, x7, x8, x9, x10, x11] S = .nx [x0, some (.ref 0), x2, y3, y4, y5, y6, y7, y8, y9, y10, y11] S' ∧ St ns S' 0 := by
  -- the letter
  obtain ⟨j, T1, j1, j2, j3, S1⟩ := draw_step hns (e := [x0, some (.ref 0), x2, x3, x4, x5, x6, x7, x8, x9, x10, x11]) (S := S) (r := 0) (v := 1) (a := conE (.int 3)) (lim := 3) rfl (by rfl) hS (by omega) (by omega)
  obtain ⟨j, rfl⟩ := Int.eq_ofNat_of_zero_le j1
  have hj : j < lets.length := by show j < 3; omega
  obtain ⟨l, hl⟩ : ∃ l, lets[j]? = some l := ⟨_, List.getElem?_eq_getElem hj⟩
  have hlm := lets_ok l (List.mem_of_getElem? hl)
  have hl' : (lets.map fun l => D.str [l])[j]? = some (.str [l]) := by rw [List.getElem?_map, hl]; rfl
  have s1 : asgS (nameG 3) (op2 (ixF kt) (frzE (lstF [(conE (.str [65])), (conE (.str [116])), (conE (.str [122]))])) (callI _law_draw_ [(varE 1), (conE (.int 3))])) [x0, some (.ref 0), x2, x3, x4, x5, x6, x7, x8, x9, x10, x11] S = .nx [x0, some (.ref 0), x2, some (.d (.str [l])), x4, x5, x6, x7, x8, x9, x10, x11] (setO S 0 T1) := by
    have hx : frzE (lstF [(conE (.str [65])), (conE (.str [116])), (conE (.str [122]))]) [x0, some (.ref 0), x2, x3, x4, x5, x6, x7, x8, x9, x10, x11] S = .ok (.d (.lst (lets.map fun l => D.str [l]))) S := rfl
    refine asgS_n (w := .d (.str [l])) ((op2_ok hx j3).trans ?_)
    simp only [ixF, atLn, hl']
  -- one letter
  obtain ⟨b, ms, S2, p1, p2, p3, p4, p5⟩ := drawn_ok hns S1
  have s2 : asgS (nameG 4) (callI _law_drawn_poly_ [(varE 1), (conE (.int 6))]) [x0, some (.ref 0), x2, some (.d (.str [l])), x4, x5, x6, x7, x8, x9, x10, x11] (setO S 0 T1) = .nx [x0, some (.ref 0), x2, some (.d (.str [l])), some (.d (polyD b ms)), x5, x6, x7, x8, x9, x10, x11] S2 :=
    asgS_n (callI_ok (ws := [.ref 0, .d (.int 6)]) (S1 := setO S 0 T1) (by rfl) p1)
  have hTT := tt_one hlm p4 p5
  have hlen : (oneT l b ms).length ≤ 5000000 := by rw [oneT_txt]; exact txt_len hTT
  have hNP : NP (splitC 32 [] (oneT l b ms)) 70 := by rw [oneT_txt]; exact txt_np hTT
  have hone : _law_one_ [polyD b ms, .str [l]] = .ok (.str (oneT l b ms)) := law_one (bd_ok (l := l) p4) (by simp)
  have s3 : asgS (nameG 5) (callP _law_one_ [(varE 4), (varE 3)]) [x0, some (.ref 0), x2, some (.d (.str [l])), some (.d (polyD b ms)), x5, x6, x7, x8, x9, x10, x11] S2 = .nx [x0, some (.ref 0), x2, some (.d (.str [l])), some (.d (polyD b ms)), some (.d (.str (oneT l b ms))), x6, x7, x8, x9, x10, x11] S2 :=
    asgS_n (callP_d [polyD b ms, .str [l]] (by rfl) hone)
  have s4 := one_checks (e := [x0, some (.ref 0), x2, some (.d (.str [l])), some (.d (polyD b ms)), some (.d (.str (oneT l b ms))), x6, x7, x8, x9, x10, x11]) (S := S2) hlm.1 rfl rfl rfl p3 p4 hlen
  -- two letters
  have h0l : 0 < S2.length := by obtain ⟨i, c, m, b, h, _⟩ := p2; exact getO_lt S2 0 _ h
  have s5 : asgS (nameG 6) (dictE true) [x0, some (.ref 0), x2, some (.d (.str [l])), some (.d (polyD b ms)), some (.d (.str (oneT l b ms))), x6, x7, x8, x9, x10, x11] S2 = .nx [x0, some (.ref 0), x2, some (.d (.str [l])), some (.d (polyD b ms)), some (.d (.str (oneT l b ms))), some (.ref S2.length), x7, x8, x9, x10, x11] (S2 ++ [.dct true []]) := rfl
  have hS3 : St ns (S2 ++ [.dct true []]) 0 := by obtain ⟨i, c, m, b, h, h'⟩ := p2; exact ⟨i, c, m, b, getO_some _ h, h'⟩
  obtain ⟨n, T2, n1, n2, n3, S4⟩ := draw_step hns (e := [x0, some (.ref 0), x2, some (.d (.str [l])), some (.d (polyD b ms)), some (.d (.str (oneT l b ms))), some (.ref S2.length), x7, x8, x9, x10, x11]) (S := S2 ++ [.dct true []]) (r := 0) (v := 1) (a := conE (.int 6)) (lim := 6) rfl (by rfl) hS3 (by omega) (by omega)
  obtain ⟨k, rfl⟩ := Int.eq_ofNat_of_zero_le n1
  have hd0 : getO (setO (S2 ++ [.dct true []]) 0 T2) S2.length = some (.dct true (encW eP [])) := by
    rw [getO_ne _ _ _ _ (by omega), getO_end]; rfl
  have loop := forL_ind (g := nameG 7) (b := l1_law) (ws := rangeD 0 k)
    (fun j e S => St ns S 0 ∧ ∃ d x7, getO S S2.length = some (.dct true (encW eP d)) ∧ FillP d j ∧ e = [x0, some (.ref 0), x2, some (.d (.str [l])), some (.d (polyD b ms)), some (.d (.str (oneT l b ms))), some (.ref S2.length), x7, x8, x9, x10, x11])
    (fun o => ∃ d x7 S, o = .nx [x0, some (.ref 0), x2, some (.d (.str [l])), some (.d (polyD b ms)), some (.d (.str (oneT l b ms))), some (.ref S2.length), x7, x8, x9, x10, x11] S ∧ St ns S 0 ∧ getO S S2.length = some (.dct true (encW eP d)) ∧ FillP d k)
    (by
      rintro j w e S hw ⟨hS', d, x7, hd, hf, rfl⟩
      have hjk : j < k := by
        rw [rangeD_get] at hw
        split at hw
        · assumption
        · cases hw
      obtain ⟨d', S'', h1, h2, h3, h4⟩ := pair_step hns (e := [x0, some (.ref 0), x2, some (.d (.str [l])), some (.d (polyD b ms)), some (.d (.str (oneT l b ms))), some (.ref S2.length), some w, x8, x9, x10, x11]) (q := S2.length) rfl rfl (by omega) hS' hd hf (by omega)
      refine ⟨_, _, rfl, ?_⟩
      simp only [setV]
      rw [h1]
      exact ⟨h2, d', _, h3, h4, rfl⟩)
    (by
      rintro e S ⟨hS', d, x7, hd, hf, rfl⟩
      rw [rangeD_len] at hf
      exact ⟨d, x7, S, rfl, hS', hd, hf⟩) (e := [x0, some (.ref 0), x2, some (.d (.str [l])), some (.d (polyD b ms)), some (.d (.str (oneT l b ms))), some (.ref S2.length), x7, x8, x9, x10, x11]) (S := setO (S2 ++ [.dct true []]) 0 T2) ⟨S4, [], x7, hd0, ⟨by simp, by simp, by simp, by simp⟩, rfl⟩
  obtain ⟨d, y7, S5, hloop, hS5, hd, hf⟩ := loop
  have hr := rng1_i n3 (big62_int (by omega) (by omega))
  rw [Int.toNat_natCast] at hr
  have s6 := (forS_fix (g := nameG 7) (b := l1_law) hr).trans hloop
  obtain ⟨hq, hq15⟩ := bq_fill hf (by omega)
  have hc := tw_comp kt (i := 6) (v := 11) (own := [11]) (d := d) (e := [x0, some (.ref 0), x2, some (.d (.str [l])), some (.d (polyD b ms)), some (.d (.str (oneT l b ms))), some (.ref S2.length), y7, x8, x9, x10, x11]) (S := S5) (w := .ref S2.length) rfl (by
    simp only [keysW, hd, encW, List.map_map]; rfl) (by have := hf.l; omega) (fun p x hx => ixP S5 d p x hx S2.length hd) (fun u => rfl) (fun u => rfl)
  have s7 : asgS (nameG 8) (callB (tupleG) [(frzE (compF [11] (seqI (frzE (callF sortDG [(varE 6)]))) (nameG 11) (t2 neF (op2 (ixF kt) (varE 6) (varE 11)) (conE (.int 0))) (op2 addF (varE 11) (tupE [(op2 (ixF kt) (varE 6) (varE 11))]))))]) [x0, some (.ref 0), x2, some (.d (.str [l])), some (.d (polyD b ms)), some (.d (.str (oneT l b ms))), some (.ref S2.length), y7, x8, x9, x10, x11] S5 = .nx [x0, some (.ref 0), x2, some (.d (.str [l])), some (.d (polyD b ms)), some (.d (.str (oneT l b ms))), some (.ref S2.length), y7, some (.d (twoD (tw d))), x9, x10, x11] S5 := by
    refine asgS_n (w := .d (twoD (tw d))) ?_
    unfold callB argsF
    rw [hc]
    have := unWs_d ((tw d).map Pw.e3)
    rw [List.map_map] at this
    simp only [R.bind, argsF, tupleG, itemsS, List.map_map, this]
    rfl
  have htwo : _law_two_ [twoD (tw d)] = .ok (.str (twoT (tw d))) := law_two_ok (bq_bd hq)
  have s8 : asgS (nameG 9) (callP _law_two_ [(varE 8)]) [x0, some (.ref 0), x2, some (.d (.str [l])), some (.d (polyD b ms)), some (.d (.str (oneT l b ms))), some (.ref S2.length), y7, some (.d (twoD (tw d))), x9, x10, x11] S5 = .nx [x0, some (.ref 0), x2, some (.d (.str [l])), some (.d (polyD b ms)), some (.d (.str (oneT l b ms))), some (.ref S2.length), y7, some (.d (twoD (tw d))), some (.d (.str (twoT (tw d)))), x10, x11] S5 :=
    asgS_n (callP_d [twoD (tw d)] (by rfl) htwo)
  have hTT2 := tt_two hq hq15
  have hlen2 : (twoT (tw d)).length ≤ 5000000 := by rw [twoT_txt]; exact txt_len hTT2
  have hNP2 : NP (splitC 32 [] (twoT (tw d))) 70 := by rw [twoT_txt]; exact txt_np hTT2
  have s9 := two_checks (e := [x0, some (.ref 0), x2, some (.d (.str [l])), some (.d (polyD b ms)), some (.d (.str (oneT l b ms))), some (.ref S2.length), y7, some (.d (twoD (tw d))), some (.d (.str (twoT (tw d)))), x10, x11]) (S := S5) rfl rfl hq hlen2
  obtain ⟨z7, z10, S6, s10, hS6⟩ := five_ok hns hlm.1 hlen hNP hlen2 hNP2 x0 x2 (some (.d (polyD b ms))) (some (.ref S2.length)) y7 (some (.d (twoD (tw d)))) x10 x11 hS5
  have all : l2_law [x0, some (.ref 0), x2, x3, x4, x5, x6, x7, x8, x9, x10, x11] S = .nx [x0, some (.ref 0), x2, some (.d (.str [l])), some (.d (polyD b ms)), some (.d (.str (oneT l b ms))), some (.ref S2.length), z7, some (.d (twoD (tw d))), some (.d (.str (twoT (tw d)))), z10, x11] S6 := by
    unfold l2_law
    rw [seqS_nx s1, seqS_nx s2, seqS_nx s3, seqS_nx s4, seqS_nx s5, seqS_nx s6, seqS_nx s7, seqS_nx s8, seqS_nx s9]
    exact s10
  exact ⟨_, _, _, _, _, _, _, _, _, S6, all, hS6⟩
theorem law_ok (ns : List Int) (hns : ns.length ≤ 63) : law_ [.scr (ns.map .int)] = .ok (.bl true) := by
  have hst : callI _law_state_ [(varE 0)] [some (.d (.scr (ns.map .int))), none, none, none, none, none, none, none, none, none, none, none] [] = .ok (.ref 0) [stT ns 0 0 0 false] := by
    refine callI_ok (ws := [.d (.scr (ns.map .int))]) (S1 := []) (by rfl) (runI_rt rfl ?_)
    have h1 : frzE (callF listG [(varE 0)]) [some (.d (.scr (ns.map .int)))] [] = .ok (.d (.lst (ns.map .int))) [] :=
      frzE_ok (ws := (ns.map .int).map .d) (by rfl) (unWs_d _)
    show b__law_state [some (.d (.scr (ns.map .int)))] [] = _
    unfold b__law_state
    simp only [retS, newE, lstF, argsF, h1, conE, R.bind, R.so]
    rfl
  have hSt : St ns [stT ns 0 0 0 false] 0 := ⟨0, 0, 0, false, rfl, by omega⟩
  have loop := forL_ind (g := nameG 2) (b := l2_law) (ws := rangeD 0 3)
    (fun _ e S => St ns S 0 ∧ ∃ x2 x3 x4 x5 x6 x7 x8 x9 x10 x11, e = [some (.d (.scr (ns.map .int))), some (.ref 0), x2, x3, x4, x5, x6, x7, x8, x9, x10, x11])
    (fun o => ∃ e S, o = .nx e S)
    (by
      rintro k w e S _ ⟨hS, x2, x3, x4, x5, x6, x7, x8, x9, x10, x11, rfl⟩
      refine ⟨_, _, rfl, ?_⟩
      simp only [setV]
      obtain ⟨y3, y4, y5, y6, y7, y8, y9, y10, y11, S', h, h'⟩ := l2_ok hns (some (.d (.scr (ns.map .int)))) (some w) x3 x4 x5 x6 x7 x8 x9 x10 x11 hS
      rw [h]
      exact ⟨h', _, _, _, _, _, _, _, _, _, _, rfl⟩)
    (by
      rintro e S _
      exact ⟨_, _, rfl⟩) (e := [some (.d (.scr (ns.map .int))), some (.ref 0), none, none, none, none, none, none, none, none, none, none]) (S := [stT ns 0 0 0 false]) ⟨hSt, none, none, none, none, none, none, none, none, none, none, rfl⟩
  obtain ⟨e, S, hloop⟩ := loop
  have q1 : _law_read_ [.str [], .str [65]] = .ok refD := refuse_one (parse_none (by simp) (by decide))
  have hq0 : Bq [] := ⟨⟨by simp, by simp⟩, by simp, by simp, by simp⟩
  have q2 : _law_read_ [.str [48], .str []] = .ok (readD (.tup [])) := read_two (parse2_back hq0 (by simp [twoT, terms2, sumT]))
  have f1 : valE (t2 eqF (callP _law_read_ [(conE (.str [])), (conE (.str [65]))]) (tupE [(conE (.str [114, 101, 102, 117, 115, 101, 100])), (conE (.int 0))])) e S = .ok (.d (.bl true)) S := by
    have : t2 eqF (callP _law_read_ [(conE (.str [])), (conE (.str [65]))]) (tupE [(conE (.str [114, 101, 102, 117, 115, 101, 100])), (conE (.int 0))]) e S = .ok true S := by
      rw [t2_ok (callP_d [.str [], .str [65]] (by rfl) q1) (y := .d refD) (S2 := S) (by rfl)]
      exact eqF_refl shp_ref
    unfold valE; rw [this]; rfl
  have f2 : valE (t2 eqF (callP _law_read_ [(conE (.str [48])), (conE (.str []))]) (tupE [(conE (.str [114, 101, 97, 100])), (tupE [])])) e S = .ok (.d (.bl true)) S := by
    have : t2 eqF (callP _law_read_ [(conE (.str [48])), (conE (.str []))]) (tupE [(conE (.str [114, 101, 97, 100])), (tupE [])]) e S = .ok true S := by
      rw [t2_ok (callP_d [.str [48], .str []] (by rfl) q2) (y := .d (readD (.tup []))) (S2 := S) (by rfl)]
      exact eqF_refl (by decide)
    unfold valE; rw [this]; rfl
  refine runP_rt (w := .d (.bl true)) (S := S) rfl ?_ rfl
  show b_law [some (.d (.scr (ns.map .int))), none, none, none, none, none, none, none, none, none, none, none] [] = _
  unfold b_law
  rw [seqS_nx (asgS_n hst)]
  simp only [setV]
  rw [seqS_nx ((forS_fix (rng1_i (i := 3) (by rfl) (by decide))).trans hloop)]
  unfold retS andE
  rw [f1]
  simp only [R.bind, truW, f2, R.so]
end K54

end

section
set_option linter.all false
set_option maxRecDepth 100000
set_option Elab.async false
set_option linter.all false
/-! Pv2: how plain data lie in the abstract heap; what is kept. -/
namespace Pv
open PySem PySem.Spec PyProof.Rows L2

def txt (x : List Nat) : Str := ⟨x.toArray⟩
def keyOf : D → Option Key
  | .int i => some (.inl i)
  | .str x => some (.inr (txt x))
  | _ => none
def keysOf : List D → Option (List Key)
  | [] => some []
  | x :: r => match keyOf x, keysOf r with
    | some k, some ks => some (k :: ks)
    | _, _ => none
/-- a tuple, a list of the module's own -/
def KTup (K : PySem.W.Frag) (p : Addr) (xs : List V) : Prop :=
  ∃ (o : Obj) (its : Array Value) (n : Nat), K.lookup p = some o ∧ o.cls = .type "tuple" ∧ o.data = .seq its n ∧ its.size ≤ sizeLine ∧ Vals xs its.toList
def KLst (K : PySem.W.Frag) (p : Addr) (xs : List V) : Prop :=
  ∃ (o : Obj) (its : Array Value) (n : Nat), K.lookup p = some o ∧ o.cls = .type "list" ∧ o.dict = none ∧ o.data = .seq its n ∧ its.size ≤ sizeLine ∧ Vals xs its.toList

section
variable (kt : List (List D)) (K : PySem.W.Frag) (H : Hp) (Z : List Addr)
mutual
inductive RepD : D → V → Prop
  | non : RepD .non .non
  | bl (b : Bool) : RepD (.bl b) (.bl b)
  | int (i : Int) : RepD (.int i) (.int i)
  | str (x : List Nat) : RepD (.str x) (.str (txt x))
  | tup {p : Addr} {vs : List V} {ds : List D} : H p = some (.tup vs) → p ∉ Z → RepDs ds vs → RepD (.tup ds) (.ref p)
  | tupK {p : Addr} {vs : List V} {ds : List D} : KTup K p vs → (kt.any fun ys => eqDs ds ys) = true → RepDs ds vs → RepD (.tup ds) (.ref p)
  | lst {p : Addr} {vs : List V} {ds : List D} : H p = some (.lst vs) → p ∉ Z → RepDs ds vs → RepD (.lst ds) (.ref p)
  | scr {p : Addr} {ns : List Int} {o : Obj} : H p = some (.frz o (.lst (ns.map V.int))) → p ∉ Z → RepD (.scr (ns.map D.int)) (.ref p)
  | scrK {p : Addr} {ns : List Int} : KLst K p (ns.map V.int) → RepD (.scr (ns.map D.int)) (.ref p)
  | dK {p : Addr} {ks : List (Key × V)} {ds : List (D × D)} : Rd H p (.dK ks) → p ∉ Z → RepK ds ks → RepD (.dct false ds) (.ref p)
  | dT {p : Addr} {ks : List (List Key × V)} {ds : List (D × D)} : Rd H p (.dT ks) → p ∉ Z → RepT ds ks → RepD (.dct true ds) (.ref p)
inductive RepDs : List D → List V → Prop
  | nil : RepDs [] []
  | cons {d : D} {v : V} {ds : List D} {vs : List V} : RepD d v → RepDs ds vs → RepDs (d :: ds) (v :: vs)
inductive RepK : List (D × D) → List (Key × V) → Prop
  | nil : RepK [] []
  | cons {k d : D} {κ : Key} {v : V} {ds : List (D × D)} {vs : List (Key × V)} : keyOf k = some κ → RepD d v → RepK ds vs → RepK ((k, d) :: ds) ((κ, v) :: vs)
inductive RepT : List (D × D) → List (List Key × V) → Prop
  | nil : RepT [] []
  | cons {k : List D} {d : D} {κ : List Key} {v : V} {ds : List (D × D)} {vs : List (List Key × V)} : keysOf k = some κ → keyT kt (.tup k) = true → RepD d v → RepT ds vs → RepT ((.tup k, d) :: ds) ((κ, v) :: vs)
end
/-- a value: m tells where the things of the store lie -/
inductive RepW (m : List Addr) : W → V → Prop
  | d {x : D} {v : V} : RepD kt K H Z x v → RepW m (.d x) v
  | ref {i : Nat} {p : Addr} : m[i]? = some p → RepW m (.ref i) (.ref p)
abbrev RepWs (m : List Addr) : List W → List V → Prop := Paired (RepW kt K H Z m)
inductive RepKW (m : List Addr) : List (D × W) → List (Key × V) → Prop
  | nil : RepKW m [] []
  | cons {k : D} {w : W} {κ : Key} {v : V} {ds : List (D × W)} {vs : List (Key × V)} : keyOf k = some κ → RepW kt K H Z m w v → RepKW m ds vs → RepKW m ((k, w) :: ds) ((κ, v) :: vs)
inductive RepTW (m : List Addr) : List (D × W) → List (List Key × V) → Prop
  | nil : RepTW m [] []
  | cons {k : List D} {w : W} {κ : List Key} {v : V} {ds : List (D × W)} {vs : List (List Key × V)} : keysOf k = some κ → keyT kt (.tup k) = true → RepW kt K H Z m w v → RepTW m ds vs → RepTW m ((.tup k, w) :: ds) ((κ, v) :: vs)
def RepO (m : List Addr) (p : Addr) : Th → Prop
  | .lst ws => ∃ vs, H p = some (.lst vs) ∧ RepWs kt K H Z m ws vs
  | .dct false kvs => ∃ ks, H p = some (.dK ks) ∧ RepKW kt K H Z m kvs ks
  | .dct true kvs => ∃ ks, H p = some (.dT ks) ∧ RepTW kt K H Z m kvs ks
end

/-- there, and no tuple -/
def NTH (o : Option HO) : Prop := o ≠ none ∧ ∀ xs, o ≠ some (.tup xs)
/-- the store as it lies; F: what is held by others and is not to be touched -/
structure Rst (kt : List (List D)) (K : PySem.W.Frag) (H : Hp) (F m : List Addr) (S : Store) : Prop where
  len : m.length = S.length
  nd : m.Nodup
  apart : ∀ p ∈ F, p ∉ m
  there : ∀ p ∈ F, NTH (H p)
  obj : ∀ (i : Nat) (p : Addr) (o : Th), m[i]? = some p → getO S i = some o → RepO kt K H (F ++ m) m p o
/-- the slots -/
def REnv (kt : List (List D)) (K : PySem.W.Frag) (H : Hp) (F m : List Addr) (e : En) (σ : L2.St) : Prop :=
  e.length = σ.length ∧ ∀ (i : Nat) (w : W), getV e i = some w → ∃ v, σ[i]? = some (some v) ∧ RepW kt K H (F ++ m) m w v
/-- what is kept: all but the things of the store; the store has grown -/
structure Ext (H : Hp) (m : List Addr) (H' : Hp) (m' : List Addr) : Prop where
  pre : ∃ l, m' = m ++ l
  keep : ∀ p u, H p = some u → p ∉ m → H' p = some u
  fresh : ∀ p ∈ m', p ∈ m ∨ H p = none
  stay : ∀ p ∈ m, H p ≠ none → H' p ≠ none

theorem Ext.refl (H : Hp) (m : List Addr) : Ext H m H m := ⟨⟨[], by simp⟩, fun _ _ h _ => h, fun _ h => .inl h, fun _ _ h => h⟩
theorem Ext.trans {H H1 H2 : Hp} {m m1 m2 : List Addr} (a : Ext H m H1 m1) (b : Ext H1 m1 H2 m2) : Ext H m H2 m2 := by
  obtain ⟨l1, e1⟩ := a.pre
  obtain ⟨l2, e2⟩ := b.pre
  refine ⟨⟨l1 ++ l2, by rw [e2, e1, List.append_assoc]⟩, fun p u h n => ?_, fun p h => ?_, fun p h n => ?_⟩
  · refine b.keep p u (a.keep p u h n) fun q => ?_
    rcases a.fresh p q with z | z
    · exact n z
    · rw [h] at z; cases z
  · rcases b.fresh p h with z | z
    · exact a.fresh p z
    · refine .inr ?_
      cases q : H p with
      | none => rfl
      | some u =>
        by_cases hm : p ∈ m
        · exact absurd z (a.stay p hm (by rw [q]; simp))
        · rw [a.keep p u q hm] at z; cases z
  · exact b.stay p (by rw [e1]; exact List.mem_append_left _ h) (a.stay p h n)
/-- a new thing that is tracked, not of the store -/
theorem Ext.new {H : Hp} {m : List Addr} {p : Addr} {o : HO} (hp : H p = none) : Ext H m (upd H p o) m :=
  ⟨⟨[], by simp⟩, fun q u h _ => by rw [upd_ne (ne_of_none h hp)]; exact h, fun _ h => .inl h, fun q _ n => by
    by_cases e : q = p
    · subst e; rw [upd_same]; simp
    · rw [upd_ne e]; exact n⟩
/-- a new thing of the store -/
theorem Ext.push {H : Hp} {m : List Addr} {p : Addr} {o : HO} (hp : H p = none) : Ext H m (upd H p o) (m ++ [p]) :=
  ⟨⟨[p], rfl⟩, fun q u h _ => by rw [upd_ne (ne_of_none h hp)]; exact h, fun q h => by
    rcases List.mem_append.mp h with h | h
    · exact .inl h
    · rw [List.mem_singleton.mp h]; exact .inr hp, fun q _ n => by
    by_cases e : q = p
    · subst e; rw [upd_same]; simp
    · rw [upd_ne e]; exact n⟩
/-- a thing of the store is changed -/
theorem Ext.set {H : Hp} {m : List Addr} {p : Addr} {o : HO} (hp : p ∈ m) : Ext H m (upd H p o) m :=
  ⟨⟨[], by simp⟩, fun q u h n => by rw [upd_ne (fun e => n (by rw [e]; exact hp))]; exact h, fun _ h => .inl h, fun q _ n => by
    by_cases e : q = p
    · subst e; rw [upd_same]; simp
    · rw [upd_ne e]; exact n⟩

section
variable {kt : List (List D)} {K : PySem.W.Frag} {H H' : Hp} {Z Z' F m m' : List Addr}
/-- what a description leans on -/
theorem RepD.go (hk : ∀ p u, H p = some u → p ∉ Z → H' p = some u ∧ p ∉ Z') {d : D} {v : V} (h : RepD kt K H Z d v) : RepD kt K H' Z' d v := by
  have rd : ∀ p u, Rd H p u → p ∉ Z → Rd H' p u ∧ p ∉ Z' := fun p u r n => by
    rcases r with r | ⟨o, r⟩
    · exact ⟨.inl (hk p _ r n).1, (hk p _ r n).2⟩
    · exact ⟨.inr ⟨o, (hk p _ r n).1⟩, (hk p _ r n).2⟩
  exact RepD.rec (motive_1 := fun d v _ => RepD kt K H' Z' d v) (motive_2 := fun ds vs _ => RepDs kt K H' Z' ds vs) (motive_3 := fun ds vs _ => RepK kt K H' Z' ds vs) (motive_4 := fun ds vs _ => RepT kt K H' Z' ds vs)
    .non .bl .int .str (fun h n _ i => .tup (hk _ _ h n).1 (hk _ _ h n).2 i) (fun h z _ i => .tupK h z i) (fun h n _ i => .lst (hk _ _ h n).1 (hk _ _ h n).2 i) (fun h n => .scr (hk _ _ h n).1 (hk _ _ h n).2) .scrK (fun h n _ i => .dK (rd _ _ h n).1 (rd _ _ h n).2 i) (fun h n _ i => .dT (rd _ _ h n).1 (rd _ _ h n).2 i)
    .nil (fun _ _ a b => .cons a b) .nil (fun h _ _ a b => .cons h a b) .nil (fun h z _ _ a b => .cons h z a b) h
theorem RepDs.go (hk : ∀ p u, H p = some u → p ∉ Z → H' p = some u ∧ p ∉ Z') : ∀ {ds : List D} {vs : List V}, RepDs kt K H Z ds vs → RepDs kt K H' Z' ds vs
  | _, _, .nil => .nil
  | _, _, .cons a b => .cons (a.go hk) (RepDs.go hk b)
theorem RepW.go (hk : ∀ p u, H p = some u → p ∉ Z → H' p = some u ∧ p ∉ Z') (hm : ∃ l, m' = m ++ l) {w : W} {v : V} (h : RepW kt K H Z m w v) : RepW kt K H' Z' m' w v := by
  cases h with
  | d h => exact .d (h.go hk)
  | ref h =>
    obtain ⟨l, rfl⟩ := hm
    refine .ref ?_
    rw [List.getElem?_append_left (List.getElem?_eq_some_iff.mp h).1]
    exact h
theorem RepWs.go (hk : ∀ p u, H p = some u → p ∉ Z → H' p = some u ∧ p ∉ Z') (hm : ∃ l, m' = m ++ l) : ∀ {ws : List W} {vs : List V}, RepWs kt K H Z m ws vs → RepWs kt K H' Z' m' ws vs
  | _, _, .nil => .nil
  | _, _, .cons a b => .cons (a.go hk hm) (RepWs.go hk hm b)
theorem RepKW.go (hk : ∀ p u, H p = some u → p ∉ Z → H' p = some u ∧ p ∉ Z') (hm : ∃ l, m' = m ++ l) : ∀ {ws : List (D × W)} {vs : List (Key × V)}, RepKW kt K H Z m ws vs → RepKW kt K H' Z' m' ws vs
  | _, _, .nil => .nil
  | _, _, .cons k a b => .cons k (a.go hk hm) (RepKW.go hk hm b)
theorem RepTW.go (hk : ∀ p u, H p = some u → p ∉ Z → H' p = some u ∧ p ∉ Z') (hm : ∃ l, m' = m ++ l) : ∀ {ws : List (D × W)} {vs : List (List Key × V)}, RepTW kt K H Z m ws vs → RepTW kt K H' Z' m' ws vs
  | _, _, .nil => .nil
  | _, _, .cons k z a b => .cons k z (a.go hk hm) (RepTW.go hk hm b)
theorem Ext.leans (x : Ext H m H' m') : ∀ p u, H p = some u → p ∉ F ++ m → H' p = some u ∧ p ∉ F ++ m' := fun p u h n => by
  have n1 : p ∉ F := fun z => n (List.mem_append_left _ z)
  have n2 : p ∉ m := fun z => n (List.mem_append_right _ z)
  refine ⟨x.keep p u h n2, fun z => ?_⟩
  rcases List.mem_append.mp z with z | z
  · exact n1 z
  · rcases x.fresh p z with q | q
    · exact n2 q
    · rw [h] at q; cases q
theorem Ext.d (x : Ext H m H' m') {d : D} {v : V} (h : RepD kt K H (F ++ m) d v) : RepD kt K H' (F ++ m') d v := h.go x.leans
theorem Ext.ds (x : Ext H m H' m') {d : List D} {v : List V} (h : RepDs kt K H (F ++ m) d v) : RepDs kt K H' (F ++ m') d v := h.go x.leans
theorem Ext.w (x : Ext H m H' m') {d : W} {v : V} (h : RepW kt K H (F ++ m) m d v) : RepW kt K H' (F ++ m') m' d v := h.go x.leans x.pre
theorem Ext.ws (x : Ext H m H' m') {d : List W} {v : List V} (h : RepWs kt K H (F ++ m) m d v) : RepWs kt K H' (F ++ m') m' d v := RepWs.go x.leans x.pre h
theorem Ext.kw (x : Ext H m H' m') {d : List (D × W)} {v : List (Key × V)} (h : RepKW kt K H (F ++ m) m d v) : RepKW kt K H' (F ++ m') m' d v := RepKW.go x.leans x.pre h
theorem Ext.tw (x : Ext H m H' m') {d : List (D × W)} {v : List (List Key × V)} (h : RepTW kt K H (F ++ m) m d v) : RepTW kt K H' (F ++ m') m' d v := RepTW.go x.leans x.pre h
theorem Ext.env (x : Ext H m H' m') {e : En} {σ : L2.St} (h : REnv kt K H F m e σ) : REnv kt K H' F m' e σ :=
  ⟨h.1, fun i w g => let ⟨v, a, b⟩ := h.2 i w g; ⟨v, a, x.w b⟩⟩

/-! ### the store -/
theorem getO_set_same : ∀ {S : Store} {i : Nat} {o o' : Th}, getO S i = some o → getO (setO S i o') i = some o'
  | _ :: _, 0, _, _, _ => rfl
  | _ :: r, i + 1, _, _, h => getO_set_same (S := r) h
theorem getO_set_ne : ∀ {S : Store} {i j : Nat} {o' : Th}, i ≠ j → getO (setO S i o') j = getO S j
  | [], _, _, _, _ => rfl
  | _ :: _, 0, 0, _, h => absurd rfl h
  | _ :: _, 0, j + 1, _, _ => rfl
  | _ :: _, i + 1, 0, _, _ => rfl
  | _ :: r, i + 1, j + 1, _, h => getO_set_ne (S := r) fun e => h (by rw [e])
theorem setO_len : ∀ {S : Store} {i : Nat} {o' : Th}, (setO S i o').length = S.length
  | [], _, _ => rfl
  | _ :: _, 0, _ => rfl
  | _ :: r, i + 1, _ => congrArg (· + 1) (setO_len (S := r))
theorem getO_lt : ∀ {S : Store} {i : Nat} {o : Th}, getO S i = some o → i < S.length
  | _ :: _, 0, _, _ => Nat.succ_pos _
  | _ :: r, i + 1, _, h => Nat.succ_lt_succ (getO_lt (S := r) h)
theorem getO_push_old : ∀ {S : Store} {i : Nat} {o o' : Th}, getO S i = some o → getO (S ++ [o']) i = some o
  | _ :: _, 0, _, _, h => h
  | _ :: r, i + 1, _, _, h => getO_push_old (S := r) h
theorem getO_push_new : ∀ {S : Store} {o : Th}, getO (S ++ [o]) S.length = some o
  | [], _ => rfl
  | _ :: r, o => getO_push_new (S := r)
theorem getO_push : ∀ {S : Store} {i : Nat} {o o' : Th}, getO (S ++ [o']) i = some o → getO S i = some o ∨ (i = S.length ∧ o = o')
  | [], 0, _, _, h => by cases h; exact .inr ⟨rfl, rfl⟩
  | [], _ + 1, _, _, h => by cases h
  | _ :: _, 0, _, _, h => .inl h
  | _ :: r, i + 1, _, _, h => by
    rcases getO_push (S := r) h with h | ⟨h, e⟩
    · exact .inl h
    · exact .inr ⟨congrArg (· + 1) h, e⟩
theorem RepO.go (hk : ∀ p u, H p = some u → p ∉ Z → H' p = some u ∧ p ∉ Z') (hm : ∃ l, m' = m ++ l) {p : Addr} (hp : H p = H' p) {o : Th} (h : RepO kt K H Z m p o) : RepO kt K H' Z' m' p o := by
  match o, h with
  | .lst ws, ⟨vs, h, r⟩ => exact ⟨vs, hp ▸ h, RepWs.go hk hm r⟩
  | .dct false ws, ⟨vs, h, r⟩ => exact ⟨vs, hp ▸ h, RepKW.go hk hm r⟩
  | .dct true ws, ⟨vs, h, r⟩ => exact ⟨vs, hp ▸ h, RepTW.go hk hm r⟩
theorem RepO.some {p : Addr} {o : Th} (h : RepO kt K H Z m p o) : H p ≠ none := by
  match o, h with
  | .lst ws, ⟨vs, h, r⟩ => rw [h]; simp
  | .dct false ws, ⟨vs, h, r⟩ => rw [h]; simp
  | .dct true ws, ⟨vs, h, r⟩ => rw [h]; simp
theorem getO_some : ∀ {S : Store} {i : Nat}, i < S.length → ∃ o, getO S i = Option.some o
  | [], _, h => absurd h (Nat.not_lt_zero _)
  | o :: _, 0, _ => ⟨o, rfl⟩
  | _ :: r, i + 1, h => getO_some (S := r) (Nat.lt_of_succ_lt_succ h)
theorem Rst.thing {S : Store} (r : Rst kt K H F m S) {p : Addr} (h : p ∈ m) : H p ≠ none := by
  obtain ⟨i, hi, e⟩ := List.mem_iff_getElem.mp h
  have hm : m[i]? = Option.some p := by rw [List.getElem?_eq_getElem hi, e]
  obtain ⟨o, ho⟩ := getO_some (S := S) (i := i) (r.len ▸ hi)
  exact (r.obj i p o hm ho).some
theorem Rst.ne {S : Store} (r : Rst kt K H F m S) {p : Addr} (h : H p = none) : p ∉ F ++ m := fun z => by
  rcases List.mem_append.mp z with z | z
  · exact (r.there p z).1 h
  · exact r.thing z h
theorem RepD.get {S : Store} (_ : Rst kt K H F m S) : True := trivial
/-- a new thing that is tracked, not of the store -/
theorem Rst.new {S : Store} (r : Rst kt K H F m S) {p : Addr} {o : HO} (hp : H p = none) : Rst kt K (upd H p o) F m S := by
  have x : Ext H m (upd H p o) m := Ext.new hp
  refine ⟨r.len, r.nd, r.apart, fun q hq => ?_, fun i q t hi ht => ?_⟩
  · by_cases e : q = p
    · exact absurd (e ▸ hp) (r.there q hq).1
    · rw [upd_ne e]; exact r.there q hq
  · have hq : q ∈ m := List.mem_of_getElem? hi
    have ne : q ≠ p := fun e => r.thing hq (by rw [e]; exact hp)
    exact (r.obj i q t hi ht).go x.leans x.pre (upd_ne ne).symm
/-- a new thing of the store -/
theorem Rst.push {S : Store} (r : Rst kt K H F m S) {p : Addr} {o : HO} {t : Th} (hp : H p = none) (ht : RepO kt K (upd H p o) (F ++ (m ++ [p])) (m ++ [p]) p t) : Rst kt K (upd H p o) F (m ++ [p]) (S ++ [t]) := by
  have x : Ext H m (upd H p o) (m ++ [p]) := Ext.push hp
  refine ⟨by rw [List.length_append, List.length_append, r.len]; rfl, ?_, fun q hq => ?_, fun q hq => ?_, fun i q u hi hu => ?_⟩
  · rw [List.nodup_append]
    exact ⟨r.nd, by simp, fun a ha b hb e => r.thing ha (by rw [e, List.mem_singleton.mp hb]; exact hp)⟩
  · rw [List.mem_append, not_or]
    exact ⟨r.apart q hq, fun z => (r.there q hq).1 (by rw [List.mem_singleton.mp z]; exact hp)⟩
  · by_cases e : q = p
    · exact absurd (e ▸ hp) (r.there q hq).1
    · rw [upd_ne e]; exact r.there q hq
  · rcases getO_push hu with hu | ⟨e, rfl⟩
    · have hl : i < m.length := r.len ▸ getO_lt hu
      rw [List.getElem?_append_left hl] at hi
      have hq : q ∈ m := List.mem_of_getElem? hi
      have ne : q ≠ p := fun e => r.thing hq (by rw [e]; exact hp)
      exact (r.obj i q u hi hu).go x.leans x.pre (upd_ne ne).symm
    · subst e
      rw [← r.len, List.getElem?_append_right (Nat.le_refl _), Nat.sub_self] at hi
      cases (Option.some.inj hi : p = q)
      exact ht
/-- a thing of the store is changed -/
theorem Rst.set {S : Store} (r : Rst kt K H F m S) {p : Addr} {i : Nat} {o : HO} {t : Th} (hp : m[i]? = Option.some p) (ht : RepO kt K (upd H p o) (F ++ m) m p t) : Rst kt K (upd H p o) F m (setO S i t) := by
  have hpm : p ∈ m := List.mem_of_getElem? hp
  have x : Ext H m (upd H p o) m := Ext.set hpm
  refine ⟨by rw [setO_len]; exact r.len, r.nd, r.apart, fun q hq => ?_, fun j q u hj hu => ?_⟩
  · by_cases e : q = p
    · exact absurd (e ▸ hpm) (r.apart q hq)
    · rw [upd_ne e]; exact r.there q hq
  · by_cases e : j = i
    · subst e
      cases (Option.some.inj (hp.symm.trans hj) : p = q)
      obtain ⟨o', ho'⟩ := getO_some (S := S) (i := j) (by have := getO_lt hu; rw [setO_len] at this; exact this)
      rw [getO_set_same ho'] at hu
      cases hu
      exact ht
    · rw [getO_set_ne (Ne.symm e)] at hu
      have ne : q ≠ p := fun z => e (by
        subst z
        obtain ⟨h1, e1⟩ := List.getElem?_eq_some_iff.mp hp
        obtain ⟨h2, e2⟩ := List.getElem?_eq_some_iff.mp hj
        exact (List.getElem_inj r.nd).mp (e2.trans e1.symm))
      exact (r.obj j q u hj hu).go x.leans x.pre (upd_ne ne).symm

/-! ### small facts -/
theorem RepDs.length : ∀ {ds : List D} {vs : List V}, RepDs kt K H Z ds vs → ds.length = vs.length
  | _, _, .nil => rfl
  | _, _, .cons _ b => congrArg (· + 1) b.length
theorem RepDs.get : ∀ {ds : List D} {vs : List V} {i : Nat} {d : D}, RepDs kt K H Z ds vs → ds[i]? = Option.some d → ∃ v, vs[i]? = Option.some v ∧ RepD kt K H Z d v
  | _, _, 0, _, .cons a _, h => by cases h; exact ⟨_, rfl, a⟩
  | _, _, i + 1, _, .cons _ b, h => b.get (i := i) h
theorem RepDs.ws : ∀ {ds : List D} {vs : List V}, RepDs kt K H Z ds vs → RepWs kt K H Z m (ds.map .d) vs
  | _, _, .nil => .nil
  | _, _, .cons a b => .cons (.d a) b.ws
theorem RepWs.un : ∀ {ws : List W} {ds : List D} {vs : List V}, RepWs kt K H Z m ws vs → unWs ws = Option.some ds → RepDs kt K H Z ds vs
  | [], _, _, .nil, h => by cases h; exact .nil
  | .d x :: r, _, _, .cons a b, h => by
    cases a with
    | d a =>
      unfold unWs at h
      obtain ⟨ds, e, rfl⟩ := Option.map_eq_some_iff.mp h
      exact .cons a (RepWs.un b e)
  | .ref _ :: _, _, _, .cons _ _, h => by cases h
theorem RepWs.app {ws ws' : List W} {vs vs' : List V} (a : RepWs kt K H Z m ws vs) (b : RepWs kt K H Z m ws' vs') : RepWs kt K H Z m (ws ++ ws') (vs ++ vs') := by
  induction a with
  | nil => exact b
  | cons r _ ih => exact .cons r ih
theorem RepWs.len {ws : List W} {vs : List V} (a : RepWs kt K H Z m ws vs) : ws.length = vs.length := by
  induction a with
  | nil => rfl
  | cons r _ ih => exact congrArg (· + 1) ih
theorem RepWs.get {ws : List W} {vs : List V} (a : RepWs kt K H Z m ws vs) : ∀ {i : Nat} {w : W}, ws[i]? = Option.some w → ∃ v, vs[i]? = Option.some v ∧ RepW kt K H Z m w v := by
  induction a with
  | nil => intro i w h; simp at h
  | cons r _ ih =>
    intro i w h
    cases i with
    | zero => cases h; exact ⟨_, rfl, r⟩
    | succ i => exact ih (i := i) h
theorem RepWs.set {ws : List W} {vs : List V} (a : RepWs kt K H Z m ws vs) {w : W} {v : V} (h : RepW kt K H Z m w v) : ∀ i, RepWs kt K H Z m (ws.set i w) (vs.set i v) := by
  induction a with
  | nil => intro i; exact .nil
  | cons r t ih =>
    intro i
    cases i with
    | zero => exact .cons h t
    | succ i => exact .cons r (ih i)
theorem RepWs.drop {ws : List W} {vs : List V} (a : RepWs kt K H Z m ws vs) : ∀ n, RepWs kt K H Z m (ws.drop n) (vs.drop n) := by
  induction a with
  | nil => intro n; simp only [List.drop_nil]; exact .nil
  | cons r t ih =>
    intro n
    cases n with
    | zero => exact .cons r t
    | succ n => exact ih n
theorem RepWs.take {ws : List W} {vs : List V} (a : RepWs kt K H Z m ws vs) : ∀ n, RepWs kt K H Z m (ws.take n) (vs.take n) := by
  induction a with
  | nil => intro n; simp only [List.take_nil]; exact .nil
  | cons r t ih =>
    intro n
    cases n with
    | zero => exact .nil
    | succ n => exact .cons r (ih n)
theorem RepDs.drop : ∀ {ds : List D} {vs : List V} (n : Nat), RepDs kt K H Z ds vs → RepDs kt K H Z (ds.drop n) (vs.drop n)
  | _, _, 0, r => r
  | _, _, _ + 1, .nil => .nil
  | _, _, n + 1, .cons _ b => b.drop n
theorem RepDs.take : ∀ {ds : List D} {vs : List V} (n : Nat), RepDs kt K H Z ds vs → RepDs kt K H Z (ds.take n) (vs.take n)
  | _, _, 0, _ => .nil
  | _, _, _ + 1, .nil => .nil
  | _, _, n + 1, .cons a b => .cons a (b.take n)
theorem RepDs.app : ∀ {ds es : List D} {vs us : List V}, RepDs kt K H Z ds vs → RepDs kt K H Z es us → RepDs kt K H Z (ds ++ es) (vs ++ us)
  | _, _, _, _, .nil, s => s
  | _, _, _, _, .cons a b, s => .cons a (b.app s)
/-- slots -/
theorem getV_lt : ∀ {e : En} {i : Nat} {w : W}, getV e i = Option.some w → i < e.length
  | _ :: _, 0, _, _ => Nat.succ_pos _
  | _ :: r, i + 1, _, h => Nat.succ_lt_succ (getV_lt (e := r) h)
theorem setV_len : ∀ {e : En} {i : Nat} {w : W}, (setV e i w).length = e.length
  | [], _, _ => rfl
  | _ :: _, 0, _ => rfl
  | _ :: r, i + 1, _ => congrArg (· + 1) (setV_len (e := r))
theorem getV_set_same : ∀ {e : En} {i : Nat} {w w' : W}, getV (setV e i w) i = Option.some w' → w' = w ∧ i < e.length
  | _ :: _, 0, _, _, h => ⟨(Option.some.inj h).symm, Nat.succ_pos _⟩
  | _ :: r, i + 1, _, _, h => let ⟨a, b⟩ := getV_set_same (e := r) h; ⟨a, Nat.succ_lt_succ b⟩
theorem getV_set_ne : ∀ {e : En} {i j : Nat} {w : W}, i ≠ j → getV (setV e i w) j = getV e j
  | [], _, _, _, _ => rfl
  | _ :: _, 0, 0, _, h => absurd rfl h
  | _ :: _, 0, j + 1, _, _ => rfl
  | _ :: _, i + 1, 0, _, _ => rfl
  | _ :: r, i + 1, j + 1, _, h => getV_set_ne (e := r) fun e => h (by rw [e])
theorem REnv.set {e : En} {σ : L2.St} (r : REnv kt K H F m e σ) {i : Nat} {w : W} {v : V} (h : RepW kt K H (F ++ m) m w v) : REnv kt K H F m (setV e i w) (σ.set i (Option.some v)) := by
  refine ⟨by rw [setV_len, List.length_set]; exact r.1, fun j u g => ?_⟩
  by_cases e1 : i = j
  · subst e1
    obtain ⟨rfl, hl⟩ := getV_set_same g
    exact ⟨v, by rw [List.getElem?_set_self (by rw [← r.1]; exact hl)], h⟩
  · rw [getV_set_ne e1] at g
    obtain ⟨x, a, b⟩ := r.2 j u g
    exact ⟨x, by rw [List.getElem?_set_ne e1]; exact a, b⟩
end
end Pv

end

section
set_option linter.all false
set_option maxRecDepth 100000
set_option Elab.async false
set_option linter.all false
/-! Pv3: a construct's meaning is sound: expressions. -/
namespace Pv
open PySem PySem.Spec PyProof.Rows L2

/-- what is fixed through a row: the tuples of the top, the written part, how an exception lies -/
structure Pr where
  kt : List (List D)
  K : PySem.W.Frag
  XR : Xc → Value → Option Addr → Hp → Prop

section
variable (p : Pr)
abbrev Pr.d (F m : List Addr) (H : Hp) (x : D) (v : V) : Prop := RepD p.kt p.K H (F ++ m) x v
abbrev Pr.ds (F m : List Addr) (H : Hp) (x : List D) (v : List V) : Prop := RepDs p.kt p.K H (F ++ m) x v
abbrev Pr.w (F m : List Addr) (H : Hp) (x : W) (v : V) : Prop := RepW p.kt p.K H (F ++ m) m x v
abbrev Pr.ws (F m : List Addr) (H : Hp) (x : List W) (v : List V) : Prop := RepWs p.kt p.K H (F ++ m) m x v
abbrev Pr.st (F m : List Addr) (H : Hp) (S : Store) : Prop := Rst p.kt p.K H F m S
abbrev Pr.en (F m : List Addr) (H : Hp) (e : En) (σ : L2.St) : Prop := REnv p.kt p.K H F m e σ
/-- how a result lies -/
abbrev RelT (α β : Type) := List Addr → List Addr → Hp → α → β → Prop
abbrev relB : RelT Bool Bool := fun _ _ _ a b => a = b
/-- what is wanted behind a piece -/
def Post {α β : Type} (Rel : RelT α β) (F : List Addr) (H : Hp) (m : List Addr) (σ : L2.St) (Q : β → Hp → Prop) (Wx : WX) : R α → Prop
  | .ok a S => ∀ v H' m', Ext H m H' m' → Rel F m' H' a v → p.st F m' H' S → Q v H'
  | .exc x S => ∀ cls dx H' m', Ext H m H' m' → p.XR x cls dx H' → p.st F m' H' S → Wx cls dx σ H'
  | .stuck => False
def Good {α β : Type} (Rel : RelT α β) (Wx : WX) (t : L2.St → Hp → (β → Hp → Prop) → Prop) (f : En → Store → R α) : Prop :=
  ∀ (F : List Addr) (H : Hp) (m : List Addr) (e : En) (S : Store) (σ : L2.St) (Q : β → Hp → Prop), p.en F m H e σ → p.st F m H S → Post p Rel F H m σ Q Wx (f e S) → t σ H Q
def SE (X : Cx) (Wx : WX) (e : Expr) (f : EV) : Prop := ∃ t, PE X e t ∧ Good p p.w Wx t f
def ST (X : Cx) (Wx : WX) (e : Expr) (f : TV) : Prop := ∃ t, PT X e t ∧ Good p relB Wx t f
def SW (X : Cx) (Wx : WX) (e : Expr) (f : TV) : Prop := ∃ t, PW X e t ∧ Good p relB Wx t f
def SA (X : Cx) (Wx : WX) (es : List Expr) (f : En → Store → R (List W)) : Prop := ∃ t, PA X es t ∧ Good p p.ws Wx t f
end

section
variable {p : Pr} {X : Cx} {Wx : WX} {F m m1 : List Addr} {H H1 : Hp} {σ : L2.St} {e : En} {S : Store}
theorem Post.ext {α β : Type} {Rel : RelT α β} {Q : β → Hp → Prop} {r : R α} (x : Ext H m H1 m1) (h : Post p Rel F H m σ Q Wx r) : Post p Rel F H1 m1 σ Q Wx r := by
  cases r with
  | ok a S => exact fun v H' m' y => h v H' m' (x.trans y)
  | exc x' S => exact fun cls dx H' m' y => h cls dx H' m' (x.trans y)
  | stuck => exact h
/-- one piece, then the rest -/
theorem Good.seq {α β γ δ : Type} {Rel : RelT α β} {Rel' : RelT γ δ} {t : L2.St → Hp → (β → Hp → Prop) → Prop} {f : En → Store → R α} {k : α → Store → R γ} {Q : δ → Hp → Prop} {Q1 : β → Hp → Prop}
    (g : Good p Rel Wx t f) (r : p.en F m H e σ) (s : p.st F m H S) (h : Post p Rel' F H m σ Q Wx ((f e S).bind k))
    (hk : ∀ a S1 v H1 m1, Ext H m H1 m1 → p.en F m1 H1 e σ → Rel F m1 H1 a v → p.st F m1 H1 S1 → Post p Rel' F H1 m1 σ Q Wx (k a S1) → Q1 v H1) : t σ H Q1 := by
  refine g F H m e S σ Q1 r s ?_
  cases q : f e S with
  | ok a S1 =>
    rw [q] at h
    exact fun v H' m' x rel s' => hk a S1 v H' m' x (x.env r) rel s' (h.ext x)
  | exc x S1 => rw [q] at h; exact h
  | stuck => rw [q] at h; exact h

/-- either reading -/
theorem PE.or {e : Expr} {t u : TE} (h1 : PE X e t) (h2 : PE X e u) : PE X e (fun σ H Q => t σ H Q ∨ u σ H Q) := ⟨fun pins s σ H Q I h => h.elim (h1.run pins s σ H Q I) (h2.run pins s σ H Q I)⟩
theorem PT.or {e : Expr} {t u : TT} (h1 : PT X e t) (h2 : PT X e u) : PT X e (fun σ H Q => t σ H Q ∨ u σ H Q) := ⟨fun pins s σ H Q I h => h.elim (h1.run pins s σ H Q I) (h2.run pins s σ H Q I)⟩
theorem PS.or {e : Stmt} {t u : TS} (h1 : PS X e t) (h2 : PS X e u) : PS X e (fun D σ H => t D σ H ∨ u D σ H) := ⟨fun pins s σ H Q I h => h.elim (h1.run pins s σ H Q I) (h2.run pins s σ H Q I)⟩

/-! ### names, constants -/
theorem se_var {i : Nat} {x : Str} {pos : Pos} (hN : X.N[i]? = some x) (hv : Vis X.env.scope x) (hd : (x == ("__debug__" : Str)) = false) (hcd : (x == ("__classdict__" : Str)) = false) : SE p X Wx (.Name x pos) (varE i) := by
  refine ⟨_, pe_var hN hv hd hcd, fun F H m e S σ Q r s h => ?_⟩
  unfold varE at h
  cases q : getV e i with
  | none => rw [q] at h; exact h.elim
  | some w =>
    rw [q] at h
    obtain ⟨v, a, b⟩ := r.2 i w q
    exact ⟨v, a, h v H m (Ext.refl _ _) b s⟩
theorem se_con {ex : Expr} {d : D} {v : V} (h : PE X ex (tC v)) (hr : ∀ H Z, RepD p.kt p.K H Z d v) : SE p X Wx ex (conE d) :=
  ⟨_, h, fun F H m e S σ Q r s h => h v H m (Ext.refl _ _) (.d (hr _ _)) s⟩
theorem se_int {i j pos} : SE p X Wx (.Constant (.int i) j pos) (conE (.int i)) := se_con pe_int fun _ _ => .int i
theorem se_bl {i j pos} : SE p X Wx (.Constant (.bool i) j pos) (conE (.bl i)) := se_con pe_bl fun _ _ => .bl i
theorem se_non {j pos} : SE p X Wx (.Constant .none j pos) (conE .non) := se_con pe_non fun _ _ => .non
theorem se_str {x : Str} {j pos} : SE p X Wx (.Constant (.str x) j pos) (conE (.str x.cps.toList)) := se_con pe_str fun _ _ => by
  have := RepD.str (kt := p.kt) (K := p.K) (H := ‹_›) (Z := ‹_›) x.cps.toList
  exact this

/-! ### operators on two values -/
/-- the meaning g of two values fits the rule r -/
def Fits2 (p : Pr) (g : W → W → Store → R W) (r : R2) : Prop :=
  ∀ (F m : List Addr) (H : Hp) (S : Store) (σ : L2.St) (Q : VK) (Wx : WX) (x y : W) (v u : V), p.st F m H S → p.w F m H x v → p.w F m H y u → Post p p.w F H m σ Q Wx (g x y S) → r v u H Q
def Fits2B (p : Pr) (g : W → W → Store → R Bool) (r : R2) : Prop :=
  ∀ (F m : List Addr) (H : Hp) (S : Store) (σ : L2.St) (Q : VK) (Wx : WX) (x y : W) (v u : V), p.st F m H S → p.w F m H x v → p.w F m H y u → Post p relB F H m σ (fun k H' => Q (.bl k) H') Wx (g x y S) → r v u H Q
def Fits1 (p : Pr) (g : W → Store → R W) (r : V → Hp → VK → Prop) : Prop :=
  ∀ (F m : List Addr) (H : Hp) (S : Store) (σ : L2.St) (Q : VK) (Wx : WX) (x : W) (v : V), p.st F m H S → p.w F m H x v → Post p p.w F H m σ Q Wx (g x S) → r v H Q
variable {a b c : Expr} {fa fb fc : EV} {pos : Pos}
theorem good2 {ta tb : TE} {g : W → W → Store → R W} {r : R2} (hg : Fits2 p g r) (ga : Good p p.w Wx ta fa) (gb : Good p p.w Wx tb fb) : Good p p.w Wx (tOp r ta tb) (op2 g fa fb) := by
  intro F H m e S σ Q r0 s h
  refine ga.seq r0 s h fun x S1 v H1 m1 _ r1 rx s1 h1 => ?_
  refine gb.seq r1 s1 h1 fun y S2 u H2 m2 x2 _ ry s2 h2 => ?_
  exact hg F m2 H2 S2 σ Q Wx x y v u s2 (x2.w rx) ry h2
theorem se_op2 {op : Operator} {g : W → W → Store → R W} {r : R2} (ho : OpR X (binaryOp op) r) (hg : Fits2 p g r) (ha : SE p X Wx a fa) (hb : SE p X Wx b fb) : SE p X Wx (.BinOp a op b pos) (op2 g fa fb) := by
  obtain ⟨ta, pa, ga⟩ := ha
  obtain ⟨tb, pb, gb⟩ := hb
  exact ⟨_, pe_op ho pa pb, good2 hg ga gb⟩
theorem Post.imp {α β : Type} {Rel : RelT α β} {Q Q' : β → Hp → Prop} {r : R α} (h : Post p Rel F H m σ Q Wx r) (hq : ∀ v H', Q v H' → Q' v H') : Post p Rel F H m σ Q' Wx r := by
  cases r with
  | ok a S => exact fun v H' m' x y z => hq _ _ (h v H' m' x y z)
  | exc x' S => exact h
  | stuck => exact h
theorem good2V {ta tb : TE} {g : W → W → Store → R Bool} {r : R2} (hg : Fits2B p g r) (ga : Good p p.w Wx ta fa) (gb : Good p p.w Wx tb fb) (F : List Addr) (H : Hp) (m : List Addr) (e : En) (S : Store) (σ : L2.St) (Q : VK) (r0 : p.en F m H e σ) (s : p.st F m H S)
    (h : Post p relB F H m σ (fun k H' => Q (.bl k) H') Wx (t2 g fa fb e S)) : tOp r ta tb σ H Q := by
  refine ga.seq r0 s h fun x S1 v H1 m1 _ r1 rx s1 h1 => ?_
  refine gb.seq r1 s1 h1 fun y S2 u H2 m2 x2 _ ry s2 h2 => ?_
  exact hg F m2 H2 S2 σ Q Wx x y v u s2 (x2.w rx) ry h2
theorem st_cmp {op : CmpOp} {g : W → W → Store → R Bool} {r : R2} (ho : OpR X (compareOp op) r) (hg : Fits2B p g r) (hm : behindInMarks op b = false) (ha : SE p X Wx a fa) (hb : SE p X Wx b fb) : ST p X Wx (.Compare a [op] [b] pos) (t2 g fa fb) := by
  obtain ⟨ta, pa, ga⟩ := ha
  obtain ⟨tb, pb, gb⟩ := hb
  exact ⟨_, pt_cmpR ho pa pb hm, fun F H m e S σ Q r0 s h => good2V hg ga gb F H m e S σ _ r0 s (h.imp fun k H' q => ⟨k, rfl, q⟩)⟩
/-- what a test tells, as a value -/
theorem Post.val {t : TV} {Q : VK} (h : Post p p.w F H m σ Q Wx (valE t e S)) : Post p relB F H m σ (fun k H' => Q (.bl k) H') Wx (t e S) := by
  unfold valE at h
  cases q : t e S with
  | ok a S1 =>
    rw [q] at h
    exact fun v H' m' x y z => h (.bl v) H' m' x (.d (y ▸ .bl _)) z
  | exc x S1 => rw [q] at h; exact h
  | stuck => rw [q] at h; exact h
theorem se_cmp {op : CmpOp} {g : W → W → Store → R Bool} {r : R2} (ho : OpR X (compareOp op) r) (hg : Fits2B p g r) (hm : behindInMarks op b = false) (ha : SE p X Wx a fa) (hb : SE p X Wx b fb) : SE p X Wx (.Compare a [op] [b] pos) (valE (t2 g fa fb)) := by
  obtain ⟨ta, pa, ga⟩ := ha
  obtain ⟨tb, pb, gb⟩ := hb
  exact ⟨_, pe_cmpR ho pa pb hm, fun F H m e S σ Q r0 s h => good2V hg ga gb F H m e S σ _ r0 s h.val⟩
/-- chains of two -/
theorem goodCh {ta tb tc : TE} {f g : W → W → Store → R Bool} {r r' : R2} (hf : Fits2B p f r) (hg : Fits2B p g r') (ga : Good p p.w Wx ta fa) (gb : Good p p.w Wx tb fb) (gc : Good p p.w Wx tc fc) (F : List Addr) (H : Hp) (m : List Addr) (e : En) (S : Store) (σ : L2.St) (Q : VK) (r0 : p.en F m H e σ) (s : p.st F m H S)
    (h : Post p relB F H m σ (fun k H' => Q (.bl k) H') Wx (chT f g fa fb fc e S)) : tChain r r' ta tb tc σ H Q := by
  refine ga.seq r0 s h fun x S1 v H1 m1 _ r1 rx s1 h1 => ?_
  refine gb.seq r1 s1 h1 fun y S2 u H2 m2 x2 r2 ry s2 h2 => ?_
  refine hf F m2 H2 S2 σ _ Wx x y v u s2 (x2.w rx) ry ?_
  cases q : f x y S2 with
  | exc x' S3 => rw [q] at h2; exact h2
  | stuck => rw [q] at h2; exact h2
  | ok k S3 =>
    rw [q] at h2
    intro k' H3 m3 x3 e3 s3
    cases e3
    refine ⟨k, rfl, ?_⟩
    cases k with
    | false => rw [if_neg Bool.false_ne_true]; exact h2 false H3 m3 x3 rfl s3
    | true =>
      rw [if_pos rfl]
      exact gc.seq (x3.env r2) s3 (h2.ext x3) fun z S4 w H4 m4 x4 _ rz s4 h4 => hg F m4 H4 S4 σ Q Wx y z u w s4 ((x3.trans x4).w ry) rz h4
theorem st_ch {op op' : CmpOp} {f g : W → W → Store → R Bool} {r r' : R2} (ho : OpR X (compareOp op) r) (ho' : OpR X (compareOp op') r') (hf : Fits2B p f r) (hg : Fits2B p g r') (hm : lastMarks [op, op'] [b, c] = false) (ha : SE p X Wx a fa) (hb : SE p X Wx b fb) (hc : SE p X Wx c fc) : ST p X Wx (.Compare a [op, op'] [b, c] pos) (chT f g fa fb fc) := by
  obtain ⟨ta, pa, ga⟩ := ha
  obtain ⟨tb, pb, gb⟩ := hb
  obtain ⟨tc, pc, gc⟩ := hc
  exact ⟨_, pt_chain ho ho' pa pb pc hm, fun F H m e S σ Q r0 s h => goodCh hf hg ga gb gc F H m e S σ _ r0 s (h.imp fun k H' q => ⟨k, rfl, q⟩)⟩
theorem se_ch {op op' : CmpOp} {f g : W → W → Store → R Bool} {r r' : R2} (ho : OpR X (compareOp op) r) (ho' : OpR X (compareOp op') r') (hf : Fits2B p f r) (hg : Fits2B p g r') (hm : lastMarks [op, op'] [b, c] = false) (ha : SE p X Wx a fa) (hb : SE p X Wx b fb) (hc : SE p X Wx c fc) : SE p X Wx (.Compare a [op, op'] [b, c] pos) (valE (chT f g fa fb fc)) := by
  obtain ⟨ta, pa, ga⟩ := ha
  obtain ⟨tb, pb, gb⟩ := hb
  obtain ⟨tc, pc, gc⟩ := hc
  exact ⟨_, pe_chain ho ho' pa pb pc hm, fun F H m e S σ Q r0 s h => goodCh hf hg ga gb gc F H m e S σ _ r0 s h.val⟩

/-! ### tests -/
variable {ft fu : TV}
theorem RepDs.emp {Z : List Addr} {ds : List D} {vs : List V} (r : RepDs p.kt p.K H Z ds vs) : ds.isEmpty = vs.isEmpty := by cases r <;> rfl
/-- truth of a value -/
theorem truW_ok {x : W} {v : V} {k : Bool} (s : p.st F m H S) (r : p.w F m H x v) (h : truW S x = some k) : TruV p.K v H k := by
  cases r with
  | ref hi =>
    rename_i i a
    simp only [truW] at h
    cases q : getO S i with
    | none => simp only [q] at h; cases h
    | some o =>
      simp only [q] at h
      cases o with
      | dct => cases h
      | lst ws =>
        obtain ⟨vs, hv, rv⟩ := s.obj i a _ hi q
        refine .inl ⟨vs, .inl (.inl hv), ?_⟩
        have e := rv.len
        cases h
        cases ws <;> cases vs <;> simp_all
  | d r =>
    cases r with
    | non => cases h; rfl
    | bl b => cases h; rfl
    | int i => cases h; rfl
    | str x =>
      simp only [truW] at h
      split at h <;> rename_i hs
      · cases h
        unfold small at hs
        have hl := Nat.le_of_ble_eq_true hs
        refine ⟨by show (txt x).cps.size ≤ _; rw [sizeLine_eq]; simpa [txt] using hl, ?_⟩
        show _ = (((txt x).cps.size : Int) != 0)
        cases x <;> simp [txt]
        omega
      · cases h
    | tup h1 _ rs => cases h; exact .inr (.inl ⟨_, .inl (.inl h1), by rw [RepDs.emp rs]⟩)
    | tupK h1 _ rs => cases h; exact .inr (.inl ⟨_, .inr h1, by rw [RepDs.emp rs]⟩)
    | lst h1 _ rs => cases h; exact .inl ⟨_, .inl (.inl h1), by rw [RepDs.emp rs]⟩
    | scr => cases h
    | scrK => cases h
    | dK => cases h
    | dT => cases h
theorem st_tru (hK : X.K = p.K) (he : ∀ whole, isTrue a X.env whole = (do let v ← whole; standAt a.pos; holding [v] (truthy v))) (ha : SE p X Wx a fa) : ST p X Wx a (truT fa) := by
  obtain ⟨ta, pa, ga⟩ := ha
  refine ⟨_, pt_truth pa he, fun F H m e S σ Q r0 s h => ?_⟩
  refine ga.seq r0 s h fun x S1 v H1 m1 _ r1 rx s1 h1 => ?_
  cases q : truW S1 x with
  | none => rw [q] at h1; exact h1.elim
  | some k =>
    rw [q] at h1
    exact ⟨k, hK ▸ truW_ok s1 rx q, h1 k H1 m1 (Ext.refl _ _) rfl s1⟩
theorem st_not {pos : Pos} (h : ST p X Wx a ft) : ST p X Wx (.UnaryOp .Not a pos) (notT ft) := by
  obtain ⟨t, pt, g⟩ := h
  refine ⟨_, pt_not pt, fun F H m e S σ Q r0 s h => ?_⟩
  exact g.seq r0 s h fun k S1 v H1 m1 _ r1 e1 s1 h1 => by
    cases e1
    exact h1 (!k) H1 m1 (Ext.refl _ _) rfl s1
theorem sw_and1 (h : ST p X Wx a ft) : SW p X Wx (.BoolOp .And [a] pos) ft := let ⟨t, pt, g⟩ := h; ⟨t, pw_and1 pt, g⟩
theorem sw_or1 (h : ST p X Wx a ft) : SW p X Wx (.BoolOp .Or [a] pos) ft := let ⟨t, pt, g⟩ := h; ⟨t, pw_or1 pt, g⟩
theorem sw_and {rest : List Expr} (h : ST p X Wx a ft) (h' : SW p X Wx (.BoolOp .And (b :: rest) pos) fu) : SW p X Wx (.BoolOp .And (a :: b :: rest) pos) (andT ft fu) := by
  obtain ⟨t, pt, g⟩ := h
  obtain ⟨u, pu, g'⟩ := h'
  refine ⟨_, pw_and pt pu, fun F H m e S σ Q r0 s h => ?_⟩
  refine g.seq r0 s h fun k S1 v H1 m1 _ r1 e1 s1 h1 => ?_
  cases e1
  cases k with
  | true => rw [if_pos rfl]; exact g' F H1 m1 e S1 σ Q r1 s1 h1
  | false => rw [if_neg Bool.false_ne_true]; exact h1 false H1 m1 (Ext.refl _ _) rfl s1
theorem sw_or {rest : List Expr} (h : ST p X Wx a ft) (h' : SW p X Wx (.BoolOp .Or (b :: rest) pos) fu) : SW p X Wx (.BoolOp .Or (a :: b :: rest) pos) (orT ft fu) := by
  obtain ⟨t, pt, g⟩ := h
  obtain ⟨u, pu, g'⟩ := h'
  refine ⟨_, pw_or pt pu, fun F H m e S σ Q r0 s h => ?_⟩
  refine g.seq r0 s h fun k S1 v H1 m1 _ r1 e1 s1 h1 => ?_
  cases e1
  cases k with
  | false => rw [if_neg Bool.false_ne_true]; exact g' F H1 m1 e S1 σ Q r1 s1 h1
  | true => rw [if_pos rfl]; exact h1 true H1 m1 (Ext.refl _ _) rfl s1
theorem SW.st {ex : Expr} (h : SW p X Wx ex ft) : ST p X Wx ex ft := let ⟨t, pt, g⟩ := h; ⟨t, pt.pt, g⟩
theorem se_if (hc : ST p X Wx c ft) (ha : SE p X Wx a fa) (hb : SE p X Wx b fb) : SE p X Wx (.IfExp c a b pos) (ifE ft fa fb) := by
  obtain ⟨t, pt, g⟩ := hc
  obtain ⟨ta, pa, ga⟩ := ha
  obtain ⟨tb, pb, gb⟩ := hb
  refine ⟨_, pe_ifExp pt pa pb, fun F H m e S σ Q r0 s h => ?_⟩
  refine g.seq r0 s h fun k S1 v H1 m1 _ r1 e1 s1 h1 => ?_
  cases e1
  cases k with
  | true => rw [if_pos rfl]; exact ga F H1 m1 e S1 σ Q r1 s1 h1
  | false => rw [if_neg Bool.false_ne_true]; exact gb F H1 m1 e S1 σ Q r1 s1 h1
theorem se_one {op} (h : SE p X Wx a fa) : SE p X Wx (.BoolOp op [a] pos) fa := let ⟨t, pt, g⟩ := h; ⟨t, pe_one pt, g⟩
theorem se_and {rest : List Expr} (hK : X.K = p.K) (ha : SE p X Wx a fa) (hb : SE p X Wx (.BoolOp .And (b :: rest) pos) fb) : SE p X Wx (.BoolOp .And (a :: b :: rest) pos) (andE fa fb) := by
  obtain ⟨ta, pa, ga⟩ := ha
  obtain ⟨tb, pb, gb⟩ := hb
  refine ⟨_, pe_andT pa pb, fun F H m e S σ Q r0 s h => ?_⟩
  refine ga.seq r0 s h fun x S1 v H1 m1 _ r1 rx s1 h1 => ?_
  cases q : truW S1 x with
  | none => rw [q] at h1; exact h1.elim
  | some k =>
    rw [q] at h1
    refine ⟨k, hK ▸ truW_ok s1 rx q, ?_⟩
    cases k with
    | true => rw [if_pos rfl]; exact gb F H1 m1 e S1 σ Q r1 s1 h1
    | false => rw [if_neg Bool.false_ne_true]; exact h1 v H1 m1 (Ext.refl _ _) rx s1
theorem se_or {rest : List Expr} (hK : X.K = p.K) (ha : SE p X Wx a fa) (hb : SE p X Wx (.BoolOp .Or (b :: rest) pos) fb) : SE p X Wx (.BoolOp .Or (a :: b :: rest) pos) (orE fa fb) := by
  obtain ⟨ta, pa, ga⟩ := ha
  obtain ⟨tb, pb, gb⟩ := hb
  refine ⟨_, pe_orT pa pb, fun F H m e S σ Q r0 s h => ?_⟩
  refine ga.seq r0 s h fun x S1 v H1 m1 _ r1 rx s1 h1 => ?_
  cases q : truW S1 x with
  | none => rw [q] at h1; exact h1.elim
  | some k =>
    rw [q] at h1
    refine ⟨k, hK ▸ truW_ok s1 rx q, ?_⟩
    cases k with
    | false => rw [if_neg Bool.false_ne_true]; exact gb F H1 m1 e S1 σ Q r1 s1 h1
    | true => rw [if_pos rfl]; exact h1 v H1 m1 (Ext.refl _ _) rx s1
theorem se_not (hK : X.K = p.K) (ha : SE p X Wx a fa) : SE p X Wx (.UnaryOp .Not a pos) (notE fa) := by
  obtain ⟨ta, pa, ga⟩ := ha
  refine ⟨_, pe_notT pa, fun F H m e S σ Q r0 s h => ?_⟩
  refine ga.seq r0 s h fun x S1 v H1 m1 _ r1 rx s1 h1 => ?_
  cases q : truW S1 x with
  | none => rw [q] at h1; exact h1.elim
  | some k =>
    rw [q] at h1
    exact ⟨k, hK ▸ truW_ok s1 rx q, h1 _ H1 m1 (Ext.refl _ _) (.d (.bl _)) s1⟩
end
end Pv

end

section
set_option linter.all false
set_option maxRecDepth 100000
set_option Elab.async false
set_option linter.all false
/-! Pv4: operators fit the rules. -/
namespace Pv
open PySem PySem.Spec PyProof.Rows L2
section
variable {p : Pr} {X : Cx} {Wx : WX} {F m m1 : List Addr} {H H1 : Hp} {σ : L2.St} {e : En} {S : Store}

theorem txt_app (x y : List Nat) : txt (x ++ y) = txt x ++ txt y := by
  show (⟨(x ++ y).toArray⟩ : Str) = ⟨x.toArray ++ y.toArray⟩
  simp
theorem txt_len (x : List Nat) : (txt x).length = x.length := by show x.toArray.size = _; simp
theorem line : sizeLine = 16777216 := sizeLine_eq
theorem smallN_ok {n : Nat} (h : smallN n = true) : n ≤ sizeLine := by rw [line]; exact Nat.le_of_ble_eq_true h
theorem RepD.tupAt {Z : List Addr} {ds : List D} {v : V} (h : RepD p.kt p.K H Z (.tup ds) v) : ∃ a vs, v = .ref a ∧ SqT p.K H a vs ∧ RepDs p.kt p.K H Z ds vs := by
  cases h with
  | tup h _ r => exact ⟨_, _, rfl, .inl (.inl h), r⟩
  | tupK h _ r => exact ⟨_, _, rfl, .inr h, r⟩
theorem unWs_map : ∀ xs : List D, unWs (xs.map .d) = some xs
  | [] => rfl
  | x :: r => by show (unWs (r.map .d)).map (x :: ·) = _; rw [unWs_map r]; rfl
/-- a list, of the store or not -/
theorem dataL_ok {x : W} {v : V} {xs : List D} (s : p.st F m H S) (r : p.w F m H x v) (h : dataL S x = some xs) : ∃ a vs, v = .ref a ∧ H a = some (.lst vs) ∧ p.ds F m H xs vs := by
  cases r with
  | ref hi =>
    simp only [dataL] at h
    split at h
    · rename_i ws q
      obtain ⟨vs, hv, rv⟩ := s.obj _ _ _ hi q
      exact ⟨_, vs, rfl, hv, rv.un h⟩
    · cases h
  | d r =>
    cases r with
    | lst h1 _ rs => cases h; exact ⟨_, _, rfl, h1, rs⟩
    | _ => cases h
theorem itemsL_ok {x : W} {v : V} {xs : List W} (s : p.st F m H S) (r : p.w F m H x v) (h : itemsL S x = some xs) : ∃ a vs, v = .ref a ∧ H a = some (.lst vs) ∧ p.ws F m H xs vs := by
  cases r with
  | ref hi =>
    simp only [itemsL] at h
    split at h
    · rename_i ws q
      obtain ⟨vs, hv, rv⟩ := s.obj _ _ _ hi q
      cases h
      exact ⟨_, vs, rfl, hv, rv⟩
    · cases h
  | d r =>
    cases r with
    | lst h1 _ rs => cases h; exact ⟨_, _, rfl, h1, rs.ws⟩
    | _ => cases h
/-- a fresh tuple, a fresh list -/
theorem new_tup {Q : VK} {ds : List D} {vs : List V} {a : Addr} (s : p.st F m H S) (r : p.ds F m H ds vs) (h : Post p p.w F H m σ Q Wx (.ok (.d (.tup ds)) S)) (ha : H a = none) : Q (.ref a) (upd H a (.tup vs)) :=
  have x : Ext H m (upd H a (.tup vs)) m := Ext.new ha
  h (.ref a) _ m x (.d (.tup upd_same (s.ne ha) (x.ds r))) (s.new ha)
theorem new_lst {Q : VK} {ds : List D} {vs : List V} {a : Addr} (s : p.st F m H S) (r : p.ds F m H ds vs) (h : Post p p.w F H m σ Q Wx (.ok (.d (.lst ds)) S)) (ha : H a = none) : Q (.ref a) (upd H a (.lst vs)) :=
  have x : Ext H m (upd H a (.lst vs)) m := Ext.new ha
  h (.ref a) _ m x (.d (.lst upd_same (s.ne ha) (x.ds r))) (s.new ha)

/-! ### + -/
def rAddS : R2 := fun x y H Q => ∃ i j, x = .str i ∧ y = .str j ∧ i.length + j.length ≤ sizeLine ∧ Q (.str (i ++ j)) H
def rAddA (K : PySem.W.Frag) : R2 := fun x y H Q => rI0 (fun i j => .int (i + j)) x y H Q ∨ rAddS x y H Q ∨ rCatA K x y H Q ∨ rCat x y H Q
theorem op_addA : OpR X (binaryOp .Add) (rAddA X.K) := OpR.or op_add (OpR.or op_add_str (OpR.or op_catA op_cat))
theorem fits_add : Fits2 p addF (rAddA p.K) := by
  intro F m H S σ Q Wx x y v u s rx ry h
  unfold addF at h
  split at h
  · cases rx with | d rx =>
    cases rx
    cases ry with | d ry =>
    cases ry
    exact .inl ⟨_, _, rfl, rfl, h _ _ _ (Ext.refl _ _) (.d (.int _)) s⟩
  · cases rx with | d rx =>
    cases rx
    cases ry with | d ry =>
    cases ry
    split at h
    · rename_i hs
      refine .inr (.inl ⟨_, _, rfl, rfl, by rw [txt_len, txt_len]; exact smallN_ok hs, ?_⟩)
      rw [← txt_app]
      exact h _ _ _ (Ext.refl _ _) (.d (.str _)) s
    · exact h.elim
  · cases rx with | d rx =>
    cases ry with | d ry =>
    obtain ⟨a, vs, rfl, ha, ra⟩ := rx.tupAt
    obtain ⟨b, us, rfl, hb, rb⟩ := ry.tupAt
    split at h
    · rename_i hs
      have l1 := ra.length
      have l2 := rb.length
      refine .inr (.inr (.inl ⟨a, b, vs, us, rfl, rfl, ha, hb, by rw [← l1, ← l2]; exact smallN_ok hs, fun e1 => ?_, fun _ e2 => ?_, fun _ _ q hq => new_tup s (ra.app rb) h hq⟩))
      · subst e1
        cases ra
        exact h _ _ _ (Ext.refl _ _) (.d ry) s
      · subst e2
        cases rb
        rw [List.append_nil] at h
        exact h _ _ _ (Ext.refl _ _) (.d rx) s
    · exact h.elim
  · cases q1 : dataL S x with
    | none => simp only [q1] at h; exact h.elim
    | some xs =>
      cases q2 : dataL S y with
      | none => simp only [q1, q2] at h; exact h.elim
      | some ys =>
        simp only [q1, q2] at h
        obtain ⟨a, vs, rfl, ha, ra⟩ := dataL_ok s rx q1
        obtain ⟨b, us, rfl, hb, rb⟩ := dataL_ok s ry q2
        split at h
        · rename_i hs
          have l1 := ra.length
          have l2 := rb.length
          exact .inr (.inr (.inr ⟨a, b, vs, us, rfl, rfl, ha, hb, by rw [← l1, ← l2]; exact smallN_ok hs, fun q hq => new_lst s (ra.app rb) h hq⟩))
        · exact h.elim

/-! ### -, *, //, %, ** -/
theorem fits_sub : Fits2 p subF (rI0 fun i j => .int (i - j)) := by
  intro F m H S σ Q Wx x y v u s rx ry h
  unfold subF at h
  split at h
  · cases rx with | d rx =>
    cases rx
    cases ry with | d ry =>
    cases ry
    exact ⟨_, _, rfl, rfl, h _ _ _ (Ext.refl _ _) (.d (.int _)) s⟩
  · exact h.elim
def rMulA : R2 := fun x y H Q => rI CMul (fun i j => .int (i * j)) x y H Q ∨ rI CMulW (fun i j => .int (i * j)) x y H Q ∨ rRep x y H Q
theorem op_mulA : OpR X (binaryOp .Mult) rMulA := OpR.or op_mul (OpR.or op_mulW op_rep)
theorem small64_ok {i : Int} (h : small64 i = true) : -(2 ^ 64) < i ∧ i < 2 ^ 64 := by
  unfold small64 at h
  simp only [Bool.and_eq_true, decide_eq_true_eq] at h
  exact ⟨by omega, by omega⟩
theorem RepDs.rep : ∀ {Z : List Addr} {ds : List D} {vs : List V} (n : Nat), RepDs p.kt p.K H Z ds vs → RepDs p.kt p.K H Z (List.replicate n ds).flatten (List.replicate n vs).flatten
  | _, _, _, 0, _ => .nil
  | _, _, _, n + 1, r => by
    rw [List.replicate_succ, List.replicate_succ, List.flatten_cons, List.flatten_cons]
    exact r.app (RepDs.rep n r)
theorem RepWs.rep {ws : List W} {vs : List V} {Z : List Addr} (r : RepWs p.kt p.K H Z m ws vs) : ∀ (n : Nat), RepWs p.kt p.K H Z m (List.replicate n ws).flatten (List.replicate n vs).flatten
  | 0 => .nil
  | n + 1 => by
    rw [List.replicate_succ, List.replicate_succ, List.flatten_cons, List.flatten_cons]
    exact r.app (RepWs.rep r n)
theorem fits_mul : Fits2 p mulF rMulA := by
  intro F m H S σ Q Wx x y v u s rx ry h
  unfold mulF at h
  split at h
  · cases rx with | d rx =>
    cases rx
    cases ry with | d ry =>
    cases ry
    split at h
    · rename_i i j hs
      have q := h _ _ _ (Ext.refl _ _) (.d (.int _)) s
      simp only [Bool.or_eq_true] at hs
      rcases hs with hs | hs | hs
      · exact .inl ⟨_, _, rfl, rfl, .inl (small64_ok hs), q⟩
      · exact .inl ⟨_, _, rfl, rfl, .inr (small64_ok hs), q⟩
      · exact .inr (.inl ⟨_, _, rfl, rfl, Nat.le_of_ble_eq_true hs, q⟩)
    · exact h.elim
  · rename_i k _
    cases ry with | d ry =>
    cases ry
    cases q1 : dataL S x with
    | none => simp only [q1] at h; exact h.elim
    | some xs =>
      simp only [q1] at h
      obtain ⟨a, vs, rfl, ha, ra⟩ := dataL_ok s rx q1
      split at h
      · rename_i hs
        simp only [Bool.and_eq_true, decide_eq_true_eq] at hs
        have l1 := ra.length
        exact .inr (.inr ⟨a, k, vs, rfl, rfl, ha, by omega, by omega, by rw [← l1]; exact smallN_ok hs.2, fun q hq => new_lst s (ra.rep _) h hq⟩)
      · exact h.elim
  · exact h.elim
def rDivA : R2 := fun x y H Q => rI CDivW (fun i j => .int (i / j)) x y H Q ∨ rI CDivN (fun i j => .int (i.fdiv j)) x y H Q
theorem op_divA : OpR X (binaryOp .FloorDiv) rDivA := OpR.or op_fdivW op_fdivN
theorem fits_div : Fits2 p divF rDivA := by
  intro F m H S σ Q Wx x y v u s rx ry h
  unfold divF at h
  split at h
  · cases rx with | d rx =>
    cases rx
    cases ry with | d ry =>
    cases ry
    split at h
    · rename_i hs
      simp only [decide_eq_true_eq] at hs
      split at h
      · rename_i hz
        exact .inl ⟨_, _, rfl, rfl, ⟨hs, Nat.le_of_ble_eq_true hz⟩, h _ _ _ (Ext.refl _ _) (.d (.int _)) s⟩
      · exact h.elim
    · split at h
      · rename_i hz
        simp only [Bool.and_eq_true, decide_eq_true_eq] at hz
        exact .inr ⟨_, _, rfl, rfl, ⟨hz.1, Nat.le_of_ble_eq_true hz.2⟩, h _ _ _ (Ext.refl _ _) (.d (.int _)) s⟩
      · exact h.elim
  · exact h.elim
def rModA : R2 := fun x y H Q => rI (fun _ j => 0 < j) (fun i j => .int (i % j)) x y H Q ∨ rI (fun _ j => j ≠ 0) (fun i j => .int (i.fmod j)) x y H Q
theorem op_modA : OpR X (binaryOp .Mod) rModA := OpR.or op_mod op_modN
theorem fits_mod : Fits2 p modF rModA := by
  intro F m H S σ Q Wx x y v u s rx ry h
  unfold modF at h
  split at h
  · cases rx with | d rx =>
    cases rx
    cases ry with | d ry =>
    cases ry
    split at h
    · rename_i hs
      simp only [decide_eq_true_eq] at hs
      exact .inl ⟨_, _, rfl, rfl, hs, h _ _ _ (Ext.refl _ _) (.d (.int _)) s⟩
    · split at h
      · rename_i hz
        simp only [decide_eq_true_eq] at hz
        exact .inr ⟨_, _, rfl, rfl, hz, h _ _ _ (Ext.refl _ _) (.d (.int _)) s⟩
      · exact h.elim
  · exact h.elim
theorem fits_pow : Fits2 p powF (rI CPow fun i j => .int (i ^ j.toNat)) := by
  intro F m H S σ Q Wx x y v u s rx ry h
  unfold powF at h
  split at h
  · cases rx with | d rx =>
    cases rx
    cases ry with | d ry =>
    cases ry
    split at h
    · rename_i hs
      simp only [Bool.and_eq_true, decide_eq_true_eq] at hs
      exact ⟨_, _, rfl, rfl, ⟨hs.1.1, by omega, hs.2⟩, h _ _ _ (Ext.refl _ _) (.d (.int _)) s⟩
    · exact h.elim
  · exact h.elim
theorem fits_neg : Fits1 p negF (rU fun i => .int (-i)) := by
  intro F m H S σ Q Wx x v s rx h
  unfold negF at h
  split at h
  · cases rx with | d rx =>
    cases rx
    exact ⟨_, rfl, h _ _ _ (Ext.refl _ _) (.d (.int _)) s⟩
  · exact h.elim
theorem se_un {a : Expr} {fa : EV} {pos : Pos} {op : UnaryOp} {g : W → Store → R W} {r : V → Hp → VK → Prop} (ho : UnR X (unaryOp op) r) (hg : Fits1 p g r) (ha : SE p X Wx a fa) : SE p X Wx (.UnaryOp op a pos) (op1 g fa) := by
  obtain ⟨ta, pa, ga⟩ := ha
  refine ⟨_, pe_un ho pa, fun F H m e S σ Q r0 s h => ?_⟩
  exact ga.seq r0 s h fun x S1 v H1 m1 _ r1 rx s1 h1 => hg F m1 H1 S1 σ Q Wx x v s1 rx h1

/-! ### comparisons -/
theorem fits_cmp {q : Int → Int → Bool} : Fits2B p (cmpF q) (rI0 fun i j => .bl (q i j)) := by
  intro F m H S σ Q Wx x y v u s rx ry h
  unfold cmpF at h
  split at h
  · cases rx with | d rx =>
    cases rx
    cases ry with | d ry =>
    cases ry
    exact ⟨_, _, rfl, rfl, h _ _ _ (Ext.refl _ _) rfl s⟩
  · exact h.elim
theorem op_isNA : OpR X (compareOp .Is) (fun x y H Q => y = .non ∧ Q (.bl (decide (x = .non))) H) := op_isN
theorem rep_non {x : W} {v : V} (r : p.w F m H x v) : isNon x = decide (v = .non) := by
  cases r with
  | ref => rfl
  | d r => cases r <;> rfl

/-! == -/
mutual
def toP : D → PyData
  | .non => .none
  | .bl b => .bool b
  | .int i => .int i
  | .str x => .str (txt x)
  | .tup xs => .tuple (toPs xs)
  | .lst xs => .list (toPs xs)
  | .scr xs => .list (toPs xs)
  | .dct _ _ => .dict []
def toPs : List D → List PyData
  | [] => []
  | x :: r => toP x :: toPs r
end
theorem txt_inj {x y : List Nat} (h : txt x = txt y) : x = y := by
  have : x.toArray = y.toArray := congrArg Str.cps h
  simpa using congrArg Array.toList this
theorem txt_beq (x y : List Nat) : (txt x == txt y) = (x == y) := by
  by_cases h : x = y
  · subst h; simp
  · have h2 : txt x ≠ txt y := fun e => h (txt_inj e)
    rw [beq_eq_false_iff_ne.mpr h, beq_eq_false_iff_ne.mpr h2]
mutual
theorem eqv_D : ∀ (n k : Nat) (x y : D), shp n x = true → shp k y = true → PyData.eqv (toP x) (toP y) = eqD x y
  | n, k, .non, y, h1, h2 => by cases y <;> first | rfl | (cases k <;> cases h2)
  | n, k, .bl b, y, h1, h2 => by cases y <;> first | rfl | (cases k <;> cases h2)
  | n, k, .int i, y, h1, h2 => by cases y <;> first | rfl | (cases k <;> cases h2)
  | n, k, .str x, y, h1, h2 => by
    cases y <;> first
      | rfl
      | exact txt_beq _ _
      | (cases k <;> cases h2)
  | 0, k, .tup xs, y, h1, h2 => by cases h1
  | 0, k, .lst xs, y, h1, h2 => by cases h1
  | n, k, .scr xs, y, h1, h2 => by cases n <;> cases h1
  | n, k, .dct _ _, y, h1, h2 => by cases n <;> cases h1
  | n + 1, k, .tup xs, y, h1, h2 => by
    cases y with
    | tup ys =>
      cases k with
      | zero => cases h2
      | succ k => exact eqv_Ds n k xs ys h1 h2
    | _ => first | rfl | (cases k <;> cases h2)
  | n + 1, k, .lst xs, y, h1, h2 => by
    cases y with
    | lst ys =>
      cases k with
      | zero => cases h2
      | succ k => exact eqv_Ds n k xs ys h1 h2
    | _ => first | rfl | (cases k <;> cases h2)
theorem eqv_Ds : ∀ (n k : Nat) (xs ys : List D), shps n xs = true → shps k ys = true → PyData.eqvAll (toPs xs) (toPs ys) = eqDs xs ys
  | n, k, [], ys, h1, h2 => by cases ys <;> rfl
  | n, k, x :: xs, [], h1, h2 => rfl
  | n, k, x :: xs, y :: ys, h1, h2 => by
    have h1' : shp n x = true ∧ shps n xs = true := by simpa [shps] using h1
    have h2' : shp k y = true ∧ shps k ys = true := by simpa [shps] using h2
    show (PyData.eqv (toP x) (toP y) && PyData.eqvAll (toPs xs) (toPs ys)) = (eqD x y && eqDs xs ys)
    rw [eqv_D n k x y h1'.1 h2'.1, eqv_Ds n k xs ys h1'.2 h2'.2]
end
mutual
theorem shp_ok : ∀ (n : Nat) (x : D), shp n x = true → (toP x).canLay0 = true ∧ (toP x).depth ≤ n
  | n, .non, h => ⟨rfl, Nat.zero_le _⟩
  | n, .bl b, h => ⟨rfl, Nat.zero_le _⟩
  | n, .int i, h => ⟨rfl, Nat.zero_le _⟩
  | n, .str x, h => ⟨by
    have h' : (x.all fun c => Nat.blt c 1114112) = true := by simpa [shp] using h
    show ((txt x).cps.all (· < 0x110000)) = true
    unfold txt
    rw [List.all_eq_true] at h'
    rw [Array.all_eq_true_iff_forall_mem]
    intro c hc
    have := h' c (by simpa using hc)
    exact decide_eq_true (Nat.le_of_ble_eq_true this), Nat.zero_le _⟩
  | 0, .tup xs, h => by cases h
  | 0, .lst xs, h => by cases h
  | n, .scr xs, h => by cases n <;> cases h
  | n, .dct _ _, h => by cases n <;> cases h
  | n + 1, .tup xs, h => by
    obtain ⟨a, b⟩ := shps_ok n xs h
    exact ⟨a, Nat.succ_le_succ b⟩
  | n + 1, .lst xs, h => by
    obtain ⟨a, b⟩ := shps_ok n xs h
    exact ⟨a, Nat.succ_le_succ b⟩
theorem shps_ok : ∀ (n : Nat) (xs : List D), shps n xs = true → PyData.canLayAll0 (toPs xs) = true ∧ PyData.depthAll (toPs xs) ≤ n
  | n, [], h => ⟨rfl, Nat.zero_le _⟩
  | n, x :: xs, h => by
    have h1' : shp n x = true ∧ shps n xs = true := by simpa [shps] using h
    obtain ⟨a, b⟩ := shp_ok n x h1'.1
    obtain ⟨c, d⟩ := shps_ok n xs h1'.2
    refine ⟨?_, ?_⟩
    · show ((toP x).canLay0 && PyData.canLayAll0 (toPs xs)) = true
      rw [a, c]; rfl
    · show max (toP x).depth (PyData.depthAll (toPs xs)) ≤ n
      omega
end
mutual
theorem dp_of {Z : List Addr} : ∀ {n : Nat} {d : D} {v : V}, RepD p.kt p.K H Z d v → shp n d = true → Dp p.K H v (toP d)
  | _, _, _, .non, _ => .non
  | _, _, _, .bl b, _ => .bl b
  | _, _, _, .int i, _ => .int i
  | _, _, _, .str x, _ => .str _
  | 0, _, _, .tup h _ r, hs => by cases hs
  | n + 1, _, _, .tup h _ r, hs => .tup (.inl (.inl h)) (dps_of (n := n) r hs)
  | 0, _, _, .tupK h _ r, hs => by cases hs
  | n + 1, _, _, .tupK h _ r, hs => .tup (.inr h) (dps_of (n := n) r hs)
  | 0, _, _, .lst h _ r, hs => by cases hs
  | n + 1, _, _, .lst h _ r, hs => .lst (.inl (.inl h)) (dps_of (n := n) r hs)
  | n, _, _, .scr _ _, hs => by cases n <;> cases hs
  | n, _, _, .scrK _, hs => by cases n <;> cases hs
  | n, _, _, .dK _ _ _, hs => by cases n <;> cases hs
  | n, _, _, .dT _ _ _, hs => by cases n <;> cases hs
theorem dps_of {Z : List Addr} : ∀ {n : Nat} {ds : List D} {vs : List V}, RepDs p.kt p.K H Z ds vs → shps n ds = true → DpAll p.K H vs (toPs ds)
  | _, _, _, .nil, _ => .nil
  | n, _, _, .cons (d := d) (ds := ds) a b, h => by
    have h1' : shp n d = true ∧ shps n ds = true := by simpa [shps] using h
    exact .cons (dp_of a h1'.1) (dps_of b h1'.2)
end
theorem snap_dp {x : W} {v : V} {d : D} {n : Nat} (s : p.st F m H S) (r : p.w F m H x v) (h : snap S x = some d) (hs : shp n d = true) : Dp p.K H v (toP d) := by
  cases r with
  | d r => cases h; exact dp_of r hs
  | ref hi =>
    simp only [snap] at h
    split at h
    · rename_i ws q
      obtain ⟨vs, hv, rv⟩ := s.obj _ _ _ hi q
      obtain ⟨ds, e, rfl⟩ := Option.map_eq_some_iff.mp h
      cases n with
      | zero => cases hs
      | succ n => exact .lst (.inl (.inl hv)) (dps_of (n := n) (rv.un e) hs)
    · obtain ⟨ds, e, rfl⟩ := Option.map_eq_some_iff.mp h
      cases n <;> cases hs
    · cases h
theorem shp_shaped {d : D} (h : shp 60 d = true) : SeqAt.shaped (toP d) = true := by
  obtain ⟨a, b⟩ := shp_ok 60 d h
  unfold SeqAt.shaped
  rw [a, Bool.true_and]
  exact decide_eq_true (Nat.le_trans b (by decide))
def rEqA (K : PySem.W.Frag) : R2 := fun x y H Q => rEq x y H Q ∨ rEqD K x y H Q
def rNeA (K : PySem.W.Frag) : R2 := fun x y H Q => rNe x y H Q ∨ rNeD K x y H Q
theorem op_eqA (hu : X.A.units + 64 < cLine) : OpR X (compareOp .Eq) (rEqA X.K) := OpR.or op_eq (op_eqD hu)
theorem op_neA (hu : X.A.units + 64 < cLine) : OpR X (compareOp .NotEq) (rNeA X.K) := OpR.or op_ne (op_neD hu)
theorem dec_txt (x y : List Nat) : decide (V.str (txt x) = V.str (txt y)) = (x == y) := by rw [dec_str, txt_beq]
theorem eqW_ok {x y : W} {v u : V} {b : Bool} (s : p.st F m H S) (rx : p.w F m H x v) (ry : p.w F m H y u) (h : eqW S x y = some b) :
    (scal v u = true ∧ decide (v = u) = b) ∨ ∃ d e, Dp p.K H v d ∧ Dp p.K H u e ∧ SeqAt.shaped d = true ∧ SeqAt.shaped e = true ∧ PyData.eqv d e = b := by
  unfold eqW at h
  split at h
  · cases rx with | d rx =>
    cases rx
    cases ry with | d ry =>
    cases ry
    cases h
    exact .inl ⟨rfl, dec_int⟩
  · cases rx with | d rx =>
    cases rx
    cases ry with | d ry =>
    cases ry
    cases h
    exact .inl ⟨rfl, dec_txt _ _⟩
  · split at h
    · rename_i a b' e1 e2
      split at h
      · rename_i hs
        simp only [Bool.and_eq_true] at hs
        cases h
        exact .inr ⟨_, _, snap_dp s rx e1 hs.1, snap_dp s ry e2 hs.2, shp_shaped hs.1, shp_shaped hs.2, eqv_D 60 60 _ _ hs.1 hs.2⟩
      · cases h
    · cases h
theorem fits_eq : Fits2B p eqF (rEqA p.K) := by
  intro F m H S σ Q Wx x y v u s rx ry h
  unfold eqF at h
  split at h
  · rename_i b e
    have q := h b _ _ (Ext.refl _ _) rfl s
    rcases eqW_ok s rx ry e with ⟨h1, h2⟩ | ⟨d, e', h1, h2, h3, h4, h5⟩
    · exact .inl ⟨h1, by rw [h2]; exact q⟩
    · exact .inr ⟨d, e', h1, h2, h3, h4, by rw [h5]; exact q⟩
  · exact h.elim
theorem fits_ne : Fits2B p neF (rNeA p.K) := by
  intro F m H S σ Q Wx x y v u s rx ry h
  unfold neF at h
  split at h
  · rename_i b e
    have q := h (!b) _ _ (Ext.refl _ _) rfl s
    rcases eqW_ok s rx ry e with ⟨h1, h2⟩ | ⟨d, e', h1, h2, h3, h4, h5⟩
    · exact .inl ⟨h1, by rw [h2]; exact q⟩
    · exact .inr ⟨d, e', h1, h2, h3, h4, by rw [h5]; exact q⟩
  · exact h.elim
/-! is None -/
theorem st_isN {a : Expr} {fa : EV} {j pos pos'} (ha : SE p X Wx a fa) : ST p X Wx (.Compare a [.Is] [.Constant .none j pos'] pos) (t1 isNF fa) := by
  obtain ⟨ta, pa, ga⟩ := ha
  refine ⟨_, pt_cmpR op_isN pa pe_non (nomark _), fun F H m e S σ Q r0 s h => ?_⟩
  refine ga.seq r0 s h fun x S1 v H1 m1 _ r1 rx s1 h1 => ?_
  refine ⟨rfl, _, rfl, ?_⟩
  rw [← rep_non rx]
  exact h1 _ _ _ (Ext.refl _ _) rfl s1
theorem se_isN {a : Expr} {fa : EV} {j pos pos'} (ha : SE p X Wx a fa) : SE p X Wx (.Compare a [.Is] [.Constant .none j pos'] pos) (valE (t1 isNF fa)) := by
  obtain ⟨ta, pa, ga⟩ := ha
  refine ⟨_, pe_cmpR op_isN pa pe_non (nomark _), fun F H m e S σ Q r0 s h => ?_⟩
  refine ga.seq r0 s h.val fun x S1 v H1 m1 _ r1 rx s1 h1 => ?_
  refine ⟨rfl, ?_⟩
  rw [← rep_non rx]
  exact h1 _ _ _ (Ext.refl _ _) rfl s1
theorem st_notN {a : Expr} {fa : EV} {j pos pos'} (ha : SE p X Wx a fa) : ST p X Wx (.Compare a [.IsNot] [.Constant .none j pos'] pos) (t1 notNF fa) := by
  obtain ⟨ta, pa, ga⟩ := ha
  refine ⟨_, pt_cmpR op_notN pa pe_non (nomark _), fun F H m e S σ Q r0 s h => ?_⟩
  refine ga.seq r0 s h fun x S1 v H1 m1 _ r1 rx s1 h1 => ?_
  refine ⟨rfl, _, rfl, ?_⟩
  rw [← rep_non rx]
  exact h1 _ _ _ (Ext.refl _ _) rfl s1
theorem se_notN {a : Expr} {fa : EV} {j pos pos'} (ha : SE p X Wx a fa) : SE p X Wx (.Compare a [.IsNot] [.Constant .none j pos'] pos) (valE (t1 notNF fa)) := by
  obtain ⟨ta, pa, ga⟩ := ha
  refine ⟨_, pe_cmpR op_notN pa pe_non (nomark _), fun F H m e S σ Q r0 s h => ?_⟩
  refine ga.seq r0 s h.val fun x S1 v H1 m1 _ r1 rx s1 h1 => ?_
  refine ⟨rfl, ?_⟩
  rw [← rep_non rx]
  exact h1 _ _ _ (Ext.refl _ _) rfl s1
end
end Pv

end

section
set_option linter.all false
set_option maxRecDepth 100000
set_option Elab.async false
set_option linter.all false
/-! Pv5: in, subscripts, slices, fresh lists, calls of built-ins, methods. -/
namespace Pv
open PySem PySem.Spec PyProof.Rows L2
section
variable {p : Pr} {X : Cx} {Wx : WX} {F m m1 m' : List Addr} {H H1 H' : Hp} {σ : L2.St} {e : En} {S : Store}

/-! ### in -/
def rInD2 (neg : Bool) : R2 := fun x y H Q => ∃ a o, y = .ref a ∧ DGet H a x o ∧ Q (.bl (if neg then !o.isSome else o.isSome)) H
theorem op_inDict (hu : X.A.units + 1 < cLine) : OpR X (compareOp .In) (rInD2 false) := by
  intro pins s σ H x y v u Q I rx ry h
  obtain ⟨a, o, rfl, g, q⟩ := h
  cases ry
  exact d_in hu I g rx fun s3 I3 => ⟨.bl o.isSome, H, I3, rfl, q⟩
theorem op_notInDict (hu : X.A.units + 1 < cLine) : OpR X (compareOp .NotIn) (rInD2 true) := by
  intro pins s σ H x y v u Q I rx ry h
  obtain ⟨a, o, rfl, g, q⟩ := h
  cases ry
  exact d_notIn hu I g rx fun s3 I3 => ⟨.bl (!o.isSome), H, I3, rfl, q⟩
def rInC (neg : Bool) : R2 := fun x y H Q => ∃ (c : Nat) (z : Str), x = .str ⟨#[c]⟩ ∧ y = .str z ∧ Q (.bl (if neg then !decide (c ∈ z.cps.toList) else decide (c ∈ z.cps.toList))) H
def rInA (K : PySem.W.Frag) (neg : Bool) : R2 := fun x y H Q => rInC neg x y H Q ∨ rInD2 neg x y H Q ∨ rIn K neg x y H Q
theorem op_inA (hu : X.A.units + 1 < cLine) : OpR X (compareOp .In) (rInA X.K false) := OpR.or op_in_sign (OpR.or (op_inDict hu) op_in_seq)
theorem op_notInA (hu : X.A.units + 1 < cLine) : OpR X (compareOp .NotIn) (rInA X.K true) := OpR.or op_notIn_sign (OpR.or (op_notInDict hu) op_notIn_seq)

/-! keys of a dict -/
theorem keyOf_rep {Z : List Addr} {k : D} {v : V} (r : RepD p.kt p.K H Z k v) (h : keyD k = true) : ∃ κ, keyOf k = some κ ∧ v = kV κ := by
  cases r with
  | int i => exact ⟨_, rfl, rfl⟩
  | str x => exact ⟨_, rfl, rfl⟩
  | _ => cases h
theorem keysOf_rep {Z : List Addr} : ∀ {ks : List D} {vs : List V}, RepDs p.kt p.K H Z ks vs → ks.all keyD = true → ∃ κs, keysOf ks = some κs ∧ vs = κs.map kV
  | _, _, .nil, _ => ⟨[], rfl, rfl⟩
  | _, _, .cons a b, h => by
    simp only [List.all_cons, Bool.and_eq_true] at h
    obtain ⟨κ, e1, rfl⟩ := keyOf_rep a h.1
    obtain ⟨κs, e2, rfl⟩ := keysOf_rep b h.2
    exact ⟨κ :: κs, by unfold keysOf; rw [e1, e2], rfl⟩
theorem keyT_rep {Z : List Addr} {k : D} {v : V} (r : RepD p.kt p.K H Z k v) (h : keyT p.kt k = true) : ∃ ks κs b, k = .tup ks ∧ keysOf ks = some κs ∧ v = .ref b ∧ H b = some (.tup (κs.map kV)) := by
  cases r with
  | tup h1 _ r =>
    simp only [keyT, Bool.and_eq_true] at h
    obtain ⟨κs, e, rfl⟩ := keysOf_rep r h.1
    exact ⟨_, κs, _, rfl, e, rfl, h1⟩
  | tupK h1 hk r =>
    simp only [keyT, Bool.and_eq_true, Bool.not_eq_true'] at h
    rw [hk] at h
    cases h.2
  | _ => cases h
theorem txt_dec (x y : List Nat) : decide (txt x = txt y) = (x == y) := by
  by_cases h : x = y
  · subst h; simp
  · rw [decide_eq_false fun e => h (txt_inj e), beq_eq_false_iff_ne.mpr h]
theorem eqK_key {k k' : D} {κ κ' : Key} (h : keyOf k = some κ) (h' : keyOf k' = some κ') : eqK k k' = decide (κ = κ') := by
  cases k <;> cases h <;> cases k' <;> cases h'
  · exact (key_ll _ _).symm
  · exact (key_lr _ _).symm
  · exact (key_rl _ _).symm
  · rw [key_rr, txt_dec]; rfl
theorem eqD_key {k k' : D} {κ κ' : Key} (h : keyOf k = some κ) (h' : keyOf k' = some κ') : eqD k k' = decide (κ = κ') := by
  cases k <;> cases h <;> cases k' <;> cases h'
  · exact (key_ll _ _).symm
  · exact (key_lr _ _).symm
  · exact (key_rl _ _).symm
  · rw [key_rr, txt_dec]; rfl
theorem eqDs_keys : ∀ {ks ks' : List D} {κs κs' : List Key}, keysOf ks = some κs → keysOf ks' = some κs' → eqDs ks ks' = decide (κs = κs')
  | [], [], _, _, h, h' => by cases h; cases h'; rfl
  | [], k :: r, _, _, h, h' => by
    cases h
    unfold keysOf at h'
    split at h'
    · cases h'; rfl
    · cases h'
  | k :: r, [], _, _, h, h' => by
    cases h'
    unfold keysOf at h
    split at h
    · cases h; rfl
    · cases h
  | k :: r, k' :: r', _, _, h, h' => by
    unfold keysOf at h h'
    split at h
    · rename_i a as e1 e2
      split at h'
      · rename_i b bs e3 e4
        cases h
        cases h'
        show (eqD k k' && eqDs r r') = _
        rw [eqD_key e1 e3, eqDs_keys e2 e4]
        by_cases x : a = b <;> by_cases y : as = bs <;> simp [x, y]
      · cases h'
    · cases h
/-- what a dict holds -/
theorem getK_K {kvs : List (D × W)} {ks : List (Key × V)} {Z : List Addr} (r : RepKW p.kt p.K H Z m kvs ks) {k : D} {κ : Key} (h : keyOf k = some κ) :
    (getK kvs k = none → valV ks κ = none) ∧ ∀ w, getK kvs k = some w → ∃ v, valV ks κ = some v ∧ RepW p.kt p.K H Z m w v := by
  induction r with
  | nil => exact ⟨fun _ => rfl, fun _ h => by cases h⟩
  | @cons k' w' κ' v' ds vs hk hw _ ih =>
    unfold getK
    rw [eqK_key hk h]
    by_cases e : κ' = κ
    · rw [decide_eq_true e, if_pos rfl]
      refine ⟨fun q => (nomatch q), fun w q => ?_⟩
      cases q
      exact ⟨v', valV_pos e, hw⟩
    · rw [decide_eq_false e, if_neg Bool.false_ne_true, valV_neg e]
      exact ih
theorem getK_T {kvs : List (D × W)} {ks : List (List Key × V)} {Z : List Addr} (r : RepTW p.kt p.K H Z m kvs ks) {k : List D} {κ : List Key} (h : keysOf k = some κ) :
    (getK kvs (.tup k) = none → valV ks κ = none) ∧ ∀ w, getK kvs (.tup k) = some w → ∃ v, valV ks κ = some v ∧ RepW p.kt p.K H Z m w v := by
  induction r with
  | nil => exact ⟨fun _ => rfl, fun _ h => by cases h⟩
  | @cons k' w' κ' v' ds vs hk _ hw _ ih =>
    unfold getK
    rw [show eqK (.tup k') (.tup k) = decide (κ' = κ) from eqDs_keys hk h]
    by_cases e : κ' = κ
    · rw [decide_eq_true e, if_pos rfl]
      refine ⟨fun q => (nomatch q), fun w q => ?_⟩
      cases q
      exact ⟨v', valV_pos e, hw⟩
    · rw [decide_eq_false e, if_neg Bool.false_ne_true, valV_neg e]
      exact ih
theorem kw_of : ∀ {kvs : List (D × D)} {ks : List (Key × V)} {Z : List Addr}, RepK p.kt p.K H Z kvs ks → RepKW p.kt p.K H Z m (kvs.map fun q => (q.1, .d q.2)) ks
  | _, _, _, .nil => .nil
  | _, _, _, .cons a b c => .cons a (.d b) (kw_of c)
theorem tw_of : ∀ {kvs : List (D × D)} {ks : List (List Key × V)} {Z : List Addr}, RepT p.kt p.K H Z kvs ks → RepTW p.kt p.K H Z m (kvs.map fun q => (q.1, .d q.2)) ks
  | _, _, _, .nil => .nil
  | _, _, _, .cons a z b c => .cons a z (.d b) (tw_of c)
theorem getK_map {kvs : List (D × D)} {k : D} : getK (kvs.map fun q => (q.1, W.d q.2)) k = (getK kvs k).map .d := by
  induction kvs with
  | nil => rfl
  | cons q r ih =>
    obtain ⟨a, b⟩ := q
    simp only [List.map_cons, getK]
    split
    · rfl
    · exact ih
/-- a dict's answer: at a, for the key v -/
theorem dgetW {a : Addr} {tk : Bool} {kvs : List (D × W)} {k : D} {v : V} {Z : List Addr} (rk : RepD p.kt p.K H Z k v) (hk : okKey p.kt tk k = true)
    (h : match tk with | false => ∃ ks, Rd H a (.dK ks) ∧ RepKW p.kt p.K H Z m kvs ks | true => ∃ ks, Rd H a (.dT ks) ∧ RepTW p.kt p.K H Z m kvs ks) :
    (getK kvs k = none → DGet H a v none) ∧ ∀ w, getK kvs k = some w → ∃ u, DGet H a v (some u) ∧ RepW p.kt p.K H Z m w u := by
  cases tk with
  | false =>
    obtain ⟨ks, hr, r⟩ := h
    obtain ⟨κ, e, rfl⟩ := keyOf_rep rk hk
    obtain ⟨h1, h2⟩ := getK_K r e
    exact ⟨fun q => .inl ⟨ks, κ, hr, rfl, (h1 q).symm⟩, fun w q => let ⟨u, e1, e2⟩ := h2 w q; ⟨u, .inl ⟨ks, κ, hr, rfl, e1.symm⟩, e2⟩⟩
  | true =>
    obtain ⟨ks, hr, r⟩ := h
    obtain ⟨ds, κs, b, rfl, e, rfl, hb⟩ := keyT_rep rk hk
    obtain ⟨h1, h2⟩ := getK_T r e
    exact ⟨fun q => .inr ⟨ks, κs, b, hr, rfl, hb, (h1 q).symm⟩, fun w q => let ⟨u, e1, e2⟩ := h2 w q; ⟨u, .inr ⟨ks, κs, b, hr, rfl, hb, e1.symm⟩, e2⟩⟩
theorem dgetD {tk : Bool} {kvs : List (D × D)} {k : D} {v u : V} {Z : List Addr} (rk : RepD p.kt p.K H Z k v) (hk : okKey p.kt tk k = true) (h : RepD p.kt p.K H Z (.dct tk kvs) u) :
    ∃ a, u = .ref a ∧ IsD H a ∧ (getK kvs k = none → DGet H a v none) ∧ ∀ x, getK kvs k = some x → ∃ u, DGet H a v (some u) ∧ RepD p.kt p.K H Z x u := by
  have fin : ∀ {a : Addr}, ((getK (kvs.map fun q => (q.1, W.d q.2)) k = none → DGet H a v none) ∧ ∀ w, getK (kvs.map fun q => (q.1, W.d q.2)) k = some w → ∃ u, DGet H a v (some u) ∧ RepW p.kt p.K H Z ([] : List Addr) w u) →
      (getK kvs k = none → DGet H a v none) ∧ ∀ x, getK kvs k = some x → ∃ u, DGet H a v (some u) ∧ RepD p.kt p.K H Z x u := fun {a} ⟨h1, h2⟩ => by
    rw [getK_map] at h1 h2
    refine ⟨fun q => h1 (by rw [q]; rfl), fun x q => ?_⟩
    obtain ⟨u, e1, e2⟩ := h2 (.d x) (by rw [q]; rfl)
    cases e2 with
    | d e2 => exact ⟨u, e1, e2⟩
  cases h with
  | dK hr _ r => exact ⟨_, rfl, .inl ⟨_, hr⟩, fin (dgetW (tk := false) rk hk ⟨_, hr, kw_of r⟩)⟩
  | dT hr _ r => exact ⟨_, rfl, .inr ⟨_, hr⟩, fin (dgetW (tk := true) rk hk ⟨_, hr, tw_of r⟩)⟩
/-- .. of the store -/
theorem dgetR {i : Nat} {tk : Bool} {kvs : List (D × W)} {k : D} {v u : V} (s : p.st F m H S) (rk : p.d F m H k v) (hk : okKey p.kt tk k = true) (ri : p.w F m H (.ref i) u) (h : getO S i = some (.dct tk kvs)) :
    ∃ a, u = .ref a ∧ IsD H a ∧ (getK kvs k = none → DGet H a v none) ∧ ∀ w, getK kvs k = some w → ∃ u, DGet H a v (some u) ∧ p.w F m H w u := by
  cases ri with
  | ref hi =>
    have o := s.obj _ _ _ hi h
    cases tk with
    | false =>
      obtain ⟨ks, e, r⟩ := o
      exact ⟨_, rfl, .inl ⟨_, .inl e⟩, dgetW (tk := false) rk hk ⟨_, .inl e, r⟩⟩
    | true =>
      obtain ⟨ks, e, r⟩ := o
      exact ⟨_, rfl, .inr ⟨_, .inl e⟩, dgetW (tk := true) rk hk ⟨_, .inl e, r⟩⟩
theorem flat_rep {Z : List Addr} {d : D} {v : V} (r : RepD p.kt p.K H Z d v) (h : flatD d = true) : flatV v = true := by
  cases r <;> first | rfl | cases h
theorem flats_rep {Z : List Addr} : ∀ {ds : List D} {vs : List V}, RepDs p.kt p.K H Z ds vs → allFlat ds = true → vs.all flatV = true
  | _, _, .nil, _ => rfl
  | _, _, .cons a b, h => by
    simp only [allFlat, Bool.and_eq_true] at h
    rw [List.all_cons, flat_rep a h.1, flats_rep b h.2]; rfl
theorem eqV_rep {Z : List Addr} {d d' : D} {v v' : V} (r : RepD p.kt p.K H Z d v) (r' : RepD p.kt p.K H Z d' v') (h : flatD d = true) (h' : flatD d' = true) : eqV v v' = eqD d d' := by
  cases r <;> first
    | (cases h; done)
    | (cases r' <;> first
      | (cases h'; done)
      | exact txt_beq _ _
      | rfl)
theorem inV_rep {Z : List Addr} {d : D} {v : V} (r : RepD p.kt p.K H Z d v) (h : flatD d = true) : ∀ {ds : List D} {vs : List V}, RepDs p.kt p.K H Z ds vs → allFlat ds = true → inV v vs = inItems d ds
  | _, _, .nil, _ => rfl
  | _, _, .cons a b, h' => by
    simp only [allFlat, Bool.and_eq_true] at h'
    show (eqV _ v || inV v _) = (eqD _ d || inItems d _)
    rw [eqV_rep a r h'.1 h, inV_rep r h b h'.2]
theorem inW_ok {x y : W} {v u : V} {b : Bool} {Q : Bool → Prop} {neg : Bool} {Qv : VK} (s : p.st F m H S) (rx : p.w F m H x v) (ry : p.w F m H y u) (h : inW p.kt S x y = some b) (hq : Qv (.bl (if neg then !b else b)) H) : rInA p.K neg v u H Qv := by
  unfold inW at h
  split at h
  · cases rx with | d rx =>
    cases rx
    cases ry with | d ry =>
    cases ry
    cases h
    rename_i c z
    refine .inl ⟨c, txt z, rfl, rfl, ?_⟩
    have e : decide (c ∈ (txt z).cps.toList) = z.contains c := by
      show decide (c ∈ z.toArray.toList) = _
      simp [List.contains_eq_mem]
    rw [e]; exact hq
  · rename_i a tk kvs
    split at h
    · rename_i hk
      cases h
      cases rx with | d rx =>
      cases ry with | d ry =>
      obtain ⟨b, rfl, _, h1, h2⟩ := dgetD rx hk ry
      cases q : getK kvs a with
      | none => rw [q] at hq; exact .inr (.inl ⟨b, _, rfl, h1 q, hq⟩)
      | some w =>
        rw [q] at hq
        obtain ⟨u, g, _⟩ := h2 w q
        exact .inr (.inl ⟨b, _, rfl, g, hq⟩)
    · cases h
  · rename_i a i
    cases rx with | d rx =>
    split at h
    · rename_i tk kvs q0
      split at h
      · rename_i hk
        cases h
        obtain ⟨b, rfl, _, h1, h2⟩ := dgetR s rx hk ry q0
        cases q : getK kvs a with
        | none => rw [q] at hq; exact .inr (.inl ⟨b, _, rfl, h1 q, hq⟩)
        | some w =>
          rw [q] at hq
          obtain ⟨u, g, _⟩ := h2 w q
          exact .inr (.inl ⟨b, _, rfl, g, hq⟩)
      · cases h
    · rename_i ws q0
      split at h
      · rename_i xs e
        split at h
        · rename_i hf
          simp only [Bool.and_eq_true] at hf
          cases h
          cases ry with | ref hi =>
          obtain ⟨vs, hv, rv⟩ := s.obj _ _ _ hi q0
          have rd := rv.un e
          refine .inr (.inr ⟨_, vs, rfl, .inl (.inl (.inl hv)), flat_rep rx hf.1, flats_rep rd hf.2, ?_⟩)
          rw [inV_rep rx hf.1 rd hf.2]; exact hq
        · cases h
      · cases h
    · cases h
  · split at h
    · rename_i hf
      simp only [Bool.and_eq_true] at hf
      cases h
      cases rx with | d rx =>
      cases ry with | d ry =>
      cases ry with | lst h1 _ rs =>
      refine .inr (.inr ⟨_, _, rfl, .inl (.inl (.inl h1)), flat_rep rx hf.1, flats_rep rs hf.2, ?_⟩)
      rw [inV_rep rx hf.1 rs hf.2]; exact hq
    · cases h
  · split at h
    · rename_i hf
      simp only [Bool.and_eq_true] at hf
      cases h
      cases rx with | d rx =>
      cases ry with | d ry =>
      obtain ⟨a, vs, rfl, ha, rs⟩ := ry.tupAt
      refine .inr (.inr ⟨_, _, rfl, .inr ha, flat_rep rx hf.1, flats_rep rs hf.2, ?_⟩)
      rw [inV_rep rx hf.1 rs hf.2]; exact hq
    · cases h
  · cases h
theorem fits_in : Fits2B p (inF p.kt) (rInA p.K false) := by
  intro F m H S σ Q Wx x y v u s rx ry h
  unfold inF at h
  split at h
  · rename_i b e
    exact inW_ok (Q := fun _ => True) s rx ry e (h b _ _ (Ext.refl _ _) rfl s)
  · exact h.elim
theorem fits_notIn : Fits2B p (notInF p.kt) (rInA p.K true) := by
  intro F m H S σ Q Wx x y v u s rx ry h
  unfold notInF at h
  split at h
  · rename_i b e
    exact inW_ok (Q := fun _ => True) s rx ry e (h (!b) _ _ (Ext.refl _ _) rfl s)
  · exact h.elim
end
end Pv

end

section
set_option linter.all false
set_option maxRecDepth 100000
set_option Elab.async false
set_option linter.all false
/-! Pv6: subscripts, slices, fresh lists, arguments, tuples. -/
namespace Pv
open PySem PySem.Spec PyProof.Rows L2
section
variable {p : Pr} {X : Cx} {Wx : WX} {F m m1 m' : List Addr} {H H1 H' : Hp} {σ : L2.St} {e : En} {S : Store}

/-! ### o[i] -/
theorem ixN_pos (n k : Nat) : ixN n (k : Int) = if k < n then some k else none := by
  unfold ixN
  rw [if_pos (by omega)]
  by_cases h : k < n
  · rw [if_pos (by omega), if_pos h]; rfl
  · rw [if_neg (by omega), if_neg h]
theorem ixN_neg (n k : Nat) : ixN n (Int.negSucc k) = if k + 1 ≤ n then some (n - (k + 1)) else none := by
  unfold ixN
  rw [if_neg (by omega)]
  by_cases h : k + 1 ≤ n
  · rw [if_pos (by omega), if_pos h]
    congr 1
    omega
  · rw [if_neg (by omega), if_neg h]
theorem atL_I {α : Type} (xs : List α) (i : Int) : atL xs i = atI xs i := by
  cases i with
  | ofNat n =>
    show xs[n]? = (ixN xs.length (n : Int)).bind fun j => xs[j]?
    rw [ixN_pos]
    by_cases h : n < xs.length
    · rw [if_pos h]; rfl
    · rw [if_neg h]
      exact List.getElem?_eq_none (by omega)
  | negSucc n =>
    show (if Nat.ble (n + 1) xs.length then xs[xs.length - (n + 1)]? else none) = _
    unfold atI
    rw [ixN_neg]
    by_cases h : n + 1 ≤ xs.length
    · rw [if_pos h, if_pos (Nat.ble_eq_true_of_le h)]; rfl
    · rw [if_neg h, if_neg (by rw [Nat.ble_eq]; omega)]; rfl
theorem plN_I (n : Nat) (i : Int) : plN n i = ixN n i := by
  cases i with
  | ofNat k =>
    show (if Nat.blt k n then some k else none) = ixN n (k : Int)
    rw [ixN_pos]
    by_cases h : k < n
    · rw [if_pos h, if_pos (by rw [Nat.blt_eq]; exact h)]
    · rw [if_neg h, if_neg (by rw [Nat.blt_eq]; exact h)]
  | negSucc k =>
    show (if Nat.ble (k + 1) n then some (n - (k + 1)) else none) = _
    rw [ixN_neg]
    by_cases h : k + 1 ≤ n
    · rw [if_pos h, if_pos (Nat.ble_eq_true_of_le h)]
    · rw [if_neg h, if_neg (by rw [Nat.ble_eq]; omega)]
theorem RepDs.at {Z : List Addr} {ds : List D} {vs : List V} {i : Int} {d : D} (r : RepDs p.kt p.K H Z ds vs) (h : atL ds i = some d) : ∃ v, atI vs i = some v ∧ RepD p.kt p.K H Z d v := by
  rw [atL_I] at h
  unfold atI at h ⊢
  rw [← r.length]
  obtain ⟨j, e, g⟩ := Option.bind_eq_some_iff.mp h
  obtain ⟨v, e2, rv⟩ := r.get g
  exact ⟨v, by rw [e]; exact e2, rv⟩
theorem RepWs.at {Z : List Addr} {ds : List W} {vs : List V} {i : Int} {d : W} (r : RepWs p.kt p.K H Z m ds vs) (h : atL ds i = some d) : ∃ v, atI vs i = some v ∧ RepW p.kt p.K H Z m d v := by
  rw [atL_I] at h
  unfold atI at h ⊢
  rw [← r.len]
  obtain ⟨j, e, g⟩ := Option.bind_eq_some_iff.mp h
  obtain ⟨v, e2, rv⟩ := r.get g
  exact ⟨v, by rw [e]; exact e2, rv⟩
def rIxD : R2 := fun x y H Q => ∃ a v, x = .ref a ∧ DGet H a y (some v) ∧ Q v H
theorem ix_dict (hu : X.A.units + 1 < cLine) : IxR X rIxD := by
  intro value slice pins s σ H x y v u Q I rx ry h hs
  obtain ⟨a, z, rfl, g, q⟩ := h
  cases rx
  have hT := dict_typeIs I g
  have h₂ := d_getItem (A := X.A) (E := X.xe) (Q := EP X pins σ Q) hu I g ry fun w' s3 I3 rw' => ⟨z, H, I3, rw', q⟩
  unfold subscriptTail
  refine wpAny_bind ?_
  rw [getitemInPython_of_ne hT.not_modules]
  refine wpAny_bind (wpAny_specialOf hT PySem.F.slot_dict_getitem.lookup ?_)
  have fin : wpAny (model X.prog X.w) X.A (subscripted slice false (.ref a) u) (fun r s₃ => wpAny (model X.prog X.w) X.A (letTemporaryGo value (.ref a) r >>= fun _ => pure r) (EP X pins σ Q) X.xe s₃) X.xe s := by
    rw [hs]
    exact wpAny_operating (wpAny_mono h₂ (fun r s₃ h₃ => wpAny_bind (wpAny_letTemporaryGo (wpAny_pure h₃))) fun _ _ x => x)
  first
    | exact wpAny_pure (wpAny_bind fin)
    | exact wpAny_bind (wpAny_pure (wpAny_bind fin))
    | exact wpAny_bind fin
def rIxA (K : PySem.W.Frag) : R2 := fun x y H Q => rIx K x y H Q ∨ rIxD x y H Q
theorem IxR.or2 {r r' : R2} (h : IxR X r) (h' : IxR X r') : IxR X (fun x y H Q => r x y H Q ∨ r' x y H Q) := by
  intro value slice pins s σ H x y v u Q I rx ry q hs
  rcases q with q | q
  · exact h value slice pins s σ H x y v u Q I rx ry q hs
  · exact h' value slice pins s σ H x y v u Q I rx ry q hs
theorem ix_all (hu : X.A.units + 1 < cLine) : IxR X (rIxA X.K) := IxR.or2 ix_seq (ix_dict hu)
theorem fits_ix : Fits2 p (ixF p.kt) (rIxA p.K) := by
  intro F m H S σ Q Wx x y v u s rx ry h
  unfold ixF at h
  split at h
  · cases rx with | d rx =>
    cases rx with | lst h1 _ rs =>
    cases ry with | d ry =>
    cases ry
    split at h
    · rename_i d e
      obtain ⟨w, e2, rw'⟩ := rs.at e
      exact .inl (.inl ⟨_, _, _, w, rfl, rfl, .inl (.inl h1), e2, h _ _ _ (Ext.refl _ _) (.d rw') s⟩)
    · exact h.elim
  · cases rx with | d rx =>
    obtain ⟨a, vs, rfl, ha, rs⟩ := rx.tupAt
    cases ry with | d ry =>
    cases ry
    split at h
    · rename_i d e
      obtain ⟨w, e2, rw'⟩ := rs.at e
      exact .inl (.inr (.inl ⟨_, _, _, w, rfl, rfl, ha, e2, h _ _ _ (Ext.refl _ _) (.d rw') s⟩))
    · exact h.elim
  · cases rx with | d rx =>
    cases rx
    cases ry with | d ry =>
    cases ry
    split at h
    · rename_i hs
      split at h
      · rename_i c e
        refine .inl (.inr (.inr ⟨_, _, c, rfl, rfl, ?_, ?_, h _ _ _ (Ext.refl _ _) (.d (.str [c])) s⟩))
        · rw [txt_len]; exact smallN_ok hs
        · rw [← atL_I]; exact e
      · exact h.elim
    · exact h.elim
  · split at h
    · rename_i hk
      cases rx with | d rx =>
      cases ry with | d ry =>
      obtain ⟨a, rfl, _, _, h2⟩ := dgetD ry hk rx
      split at h
      · rename_i w e
        obtain ⟨z, g, rz⟩ := h2 w e
        exact .inr ⟨a, z, rfl, g, h _ _ _ (Ext.refl _ _) (.d rz) s⟩
      · exact h.elim
    · exact h.elim
  · cases ry with | d ry =>
    split at h
    · rename_i ws q0
      cases rx with | ref hi =>
      obtain ⟨vs, hv, rv⟩ := s.obj _ _ _ hi q0
      split at h
      · cases ry
        split at h
        · rename_i w e
          obtain ⟨z, e2, rz⟩ := rv.at e
          exact .inl (.inl ⟨_, _, _, z, rfl, rfl, .inl (.inl hv), e2, h _ _ _ (Ext.refl _ _) rz s⟩)
        · exact h.elim
      · exact h.elim
    · rename_i tk kvs q0
      split at h
      · rename_i hk
        obtain ⟨a, rfl, _, _, h2⟩ := dgetR s ry hk rx q0
        split at h
        · rename_i w e
          obtain ⟨z, g, rz⟩ := h2 w e
          exact .inr ⟨a, z, rfl, g, h _ _ _ (Ext.refl _ _) rz s⟩
        · exact h.elim
      · exact h.elim
    · exact h.elim
  · exact h.elim
theorem se_ix {a b : Expr} {fa fb : EV} {pos : Pos} (hK : X.K = p.K) (hu : X.A.units + 1 < cLine) (hs : PlainIx b) (ha : SE p X Wx a fa) (hb : SE p X Wx b fb) : SE p X Wx (.Subscript a b pos) (op2 (ixF p.kt) fa fb) := by
  obtain ⟨ta, pa, ga⟩ := ha
  obtain ⟨tb, pb, gb⟩ := hb
  exact ⟨_, pe_ix (ix_all hu) pa pb hs, good2 (hK ▸ fits_ix) ga gb⟩

/-! ### slices -/
theorem clip_I (n d : Nat) (o : Option Int) : clip n d o = HT.sIx n d o := by
  cases o with
  | none => rfl
  | some v =>
    cases v with
    | ofNat k =>
      show min k n = if (k : Int) < 0 then ((k : Int) + (n : Int)).toNat else min k n
      rw [if_neg (by omega)]
    | negSucc k =>
      show n - (k + 1) = if Int.negSucc k < 0 then (Int.negSucc k + (n : Int)).toNat else min (Int.negSucc k).toNat n
      rw [if_pos (by omega)]; omega
theorem cut_V {α : Type} (xs : List α) (lo hi : Option Int) : cut xs lo hi = (xs.drop (HT.sIx xs.length 0 lo)).take (HT.sIx xs.length xs.length hi - HT.sIx xs.length 0 lo) := by
  unfold cut; rw [clip_I, clip_I]
theorem RepDs.cut {Z : List Addr} {ds : List D} {vs : List V} (r : RepDs p.kt p.K H Z ds vs) (lo hi : Option Int) : RepDs p.kt p.K H Z (Pv.cut ds lo hi) (cutV vs lo hi) := by
  rw [cut_V]
  unfold cutV
  rw [r.length]
  exact (r.drop _).take _
theorem RepWs.cut {Z : List Addr} {ds : List W} {vs : List V} (r : RepWs p.kt p.K H Z m ds vs) (lo hi : Option Int) : RepWs p.kt p.K H Z m (Pv.cut ds lo hi) (cutV vs lo hi) := by
  rw [cut_V]
  unfold cutV
  rw [RepWs.len r]
  exact RepWs.take (RepWs.drop r _) _
theorem cut_txt (x : List Nat) (lo hi : Option Int) : cutS (txt x) lo hi = txt (cut x lo hi) := by
  unfold cutS
  rw [cut_V, txt_len]
  rfl
def SB (p : Pr) (X : Cx) (Wx : WX) (o : Option Expr) (f : Option EV) : Prop := ∃ t, PO X o t ∧ Good p (fun _ _ _ a b => a = b) Wx t (bndE f)
theorem so_none : SB p X Wx none none := ⟨_, po_none, fun F H m e S σ Q r0 s h => h _ _ _ (Ext.refl _ _) rfl s⟩
theorem so_some {a : Expr} {fa : EV} (ha : SE p X Wx a fa) : SB p X Wx (some a) (some fa) := by
  obtain ⟨ta, pa, ga⟩ := ha
  refine ⟨_, po_some pa, fun F H m e S σ Q r0 s h => ?_⟩
  refine ga.seq r0 s h fun x S1 v H1 m1 _ r1 rx s1 h1 => ?_
  split at h1
  · cases rx with | d rx =>
    cases rx
    exact ⟨_, rfl, h1 _ _ _ (Ext.refl _ _) rfl s1⟩
  · exact h1.elim
def rSlAll (K : PySem.W.Frag) : V → Option Int → Option Int → Hp → VK → Prop := fun x lo hi H Q => rSlS x lo hi H Q ∨ rSlA K x lo hi H Q ∨ rSlL K x lo hi H Q
theorem sl_all : SlR X (rSlAll X.K) := SlR.or sl_str (SlR.or sl_tupA sl_list)
theorem se_sl {a : Expr} {lo hi : Option Expr} {fa : EV} {fl fh : Option EV} {pos p2 : Pos} (hK : X.K = p.K) (ha : SE p X Wx a fa) (hl : SB p X Wx lo fl) (hh : SB p X Wx hi fh) : SE p X Wx (.Subscript a (.Slice lo hi none p2) pos) (slE fa fl fh) := by
  obtain ⟨ta, pa, ga⟩ := ha
  obtain ⟨tl, pl, gl⟩ := hl
  obtain ⟨th, ph, gh⟩ := hh
  refine ⟨_, pe_slice sl_all pa pl ph, fun F H m e S σ Q r0 s h => ?_⟩
  rw [hK]
  refine ga.seq r0 s h fun x S1 v H1 m1 _ r1 rx s1 h1 => ?_
  refine gl.seq r1 s1 h1 fun l S2 l' H2 m2 x2 r2 e2 s2 h2 => ?_
  refine gh.seq r2 s2 h2 fun u S3 u' H3 m3 x3 r3 e3 s3 h3 => ?_
  subst e2 e3
  have rx3 := (x2.trans x3).w rx
  split at h3
  · cases rx3 with | d rx3 =>
    cases rx3
    split at h3
    · rename_i hs
      refine .inl ⟨_, rfl, by rw [txt_len]; exact smallN_ok hs, ?_⟩
      rw [cut_txt]
      exact h3 _ _ _ (Ext.refl _ _) (.d (.str _)) s3
    · exact h3.elim
  · cases rx3 with | d rx3 =>
    obtain ⟨a, vs, rfl, hq, rs⟩ := rx3.tupAt
    refine .inr (.inl ⟨a, vs, rfl, hq, fun hw => ?_, fun _ q hq => new_tup s3 (rs.cut _ _) h3 hq⟩)
    refine h3 _ _ _ (Ext.refl _ _) (.d ?_) s3
    rename_i xs
    have e : cut xs l u = xs := by
      rw [cut_V, rs.length, hw.1, hw.2]
      simp [← rs.length]
    rw [e]; exact rx3
  · split at h3
    · rename_i xs q
      obtain ⟨a, vs, rfl, ha, rs⟩ := dataL_ok s3 rx3 q
      exact .inr (.inr ⟨a, vs, rfl, .inl (.inl ha), fun q hq => new_lst s3 (rs.cut _ _) h3 hq⟩)
    · exact h3.elim

/-! ### fresh lists -/
def PostF (p : Pr) (F : List Addr) (H : Hp) (m : List Addr) (σ : L2.St) (Q : VK) (Wx : WX) : R (List W) → Prop
  | .ok ws S => ∀ a vs H' m', Ext H m H' m' → H a = none → a ∉ F ++ m' → H' a = some (.lst vs) → p.ws (a :: F) m' H' ws vs → p.st (a :: F) m' H' S → Q (.ref a) H'
  | .exc x S => ∀ cls dx H' m', Ext H m H' m' → p.XR x cls dx H' → p.st F m' H' S → Wx cls dx σ H'
  | .stuck => False
def SF (p : Pr) (X : Cx) (Wx : WX) (ex : Expr) (f : FV) : Prop := ∃ t, PE X ex t ∧ ∀ (F : List Addr) (H : Hp) (m : List Addr) (e : En) (S : Store) (σ : L2.St) (Q : VK), p.en F m H e σ → p.st F m H S → PostF p F H m σ Q Wx (f e S) → t σ H Q
theorem Rst.weak {a : Addr} (s : p.st (a :: F) m H S) : p.st F m H S :=
  ⟨s.len, s.nd, fun q h => s.apart q (List.mem_cons_of_mem _ h), fun q h => s.there q (List.mem_cons_of_mem _ h), fun i q o hi ho =>
    (s.obj i q o hi ho).go (fun b u hb n => ⟨hb, fun z => n (List.mem_cons_of_mem _ z)⟩) ⟨[], by simp⟩ rfl⟩
theorem Rst.adopt {a : Addr} {t : Th} (s : p.st (a :: F) m H S) (nF : a ∉ F) (ht : RepO p.kt p.K H (a :: F ++ m) m a t) : p.st F (m ++ [a]) H (S ++ [t]) := by
  have nm : a ∉ m := s.apart a List.mem_cons_self
  have hk : ∀ b u, H b = some u → b ∉ a :: F ++ m → H b = some u ∧ b ∉ F ++ (m ++ [a]) := fun b u hb n => ⟨hb, fun z => n (by
    simp only [List.mem_append, List.mem_cons, List.not_mem_nil, or_false, List.cons_append] at z ⊢
    rcases z with z | z | z
    · exact .inr (.inl z)
    · exact .inr (.inr z)
    · exact .inl z)⟩
  refine ⟨by rw [List.length_append, List.length_append, s.len]; rfl, ?_, fun q hq => ?_, fun q hq => s.there q (List.mem_cons_of_mem _ hq), fun i q u hi hu => ?_⟩
  · rw [List.nodup_append]
    exact ⟨s.nd, by simp, fun x hx y hy e => nm (by rw [List.mem_singleton.mp hy] at e; rw [← e]; exact hx)⟩
  · rw [List.mem_append, not_or]
    exact ⟨s.apart q (List.mem_cons_of_mem _ hq), fun z => nF (by rw [List.mem_singleton.mp z] at hq; exact hq)⟩
  · rcases getO_push hu with hu | ⟨e, rfl⟩
    · rw [List.getElem?_append_left (s.len ▸ getO_lt hu)] at hi
      exact (s.obj i q u hi hu).go hk ⟨[a], rfl⟩ rfl
    · subst e
      have hl : m.length = S.length := s.len
      rw [← hl, List.getElem?_append_right (Nat.le_refl _), Nat.sub_self] at hi
      cases (Option.some.inj hi : a = q)
      exact ht.go hk ⟨[a], rfl⟩ rfl
theorem Ext.adopt {a : Addr} (x : Ext H m H' m') (hn : H a = none) (hs : H' a ≠ none) : Ext H m H' (m' ++ [a]) := by
  obtain ⟨l, e⟩ := x.pre
  refine ⟨⟨l ++ [a], by rw [e, List.append_assoc]⟩, x.keep, fun q hq => ?_, x.stay⟩
  rcases List.mem_append.mp hq with z | z
  · exact x.fresh q z
  · rw [List.mem_singleton.mp z]; exact .inr hn
theorem good_frz {t : TE} {f : FV} (g : ∀ (F : List Addr) (H : Hp) (m : List Addr) (e : En) (S : Store) (σ : L2.St) (Q : VK), p.en F m H e σ → p.st F m H S → PostF p F H m σ Q Wx (f e S) → t σ H Q) : Good p p.w Wx t (frzE f) := by
  refine fun F H m e S σ Q r0 s h => g F H m e S σ Q r0 s ?_
  unfold frzE at h
  cases q : f e S with
  | exc x S1 => rw [q] at h; exact h
  | stuck => rw [q] at h; exact h
  | ok ws S1 =>
    rw [q] at h
    intro a vs H' m' x hn nin ha rws st
    simp only [R.bind] at h
    split at h
    · rename_i xs e1
      refine h (.ref a) H' m' x (.d (.lst ha nin ?_)) st.weak
      exact (rws.un e1).go fun b u hb n => ⟨hb, fun z => n (List.mem_cons_of_mem _ z)⟩
    · exact h.elim
theorem se_frz {ex : Expr} {f : FV} (h : SF p X Wx ex f) : SE p X Wx ex (frzE f) := let ⟨t, pt, g⟩ := h; ⟨t, pt, good_frz g⟩
theorem good_new {t : TE} {f : FV} (g : ∀ (F : List Addr) (H : Hp) (m : List Addr) (e : En) (S : Store) (σ : L2.St) (Q : VK), p.en F m H e σ → p.st F m H S → PostF p F H m σ Q Wx (f e S) → t σ H Q) : Good p p.w Wx t (newE f) := by
  refine fun F H m e S σ Q r0 s h => g F H m e S σ Q r0 s ?_
  unfold newE at h
  cases q : f e S with
  | exc x S1 => rw [q] at h; exact h
  | stuck => rw [q] at h; exact h
  | ok ws S1 =>
    rw [q] at h
    intro a vs H' m' x hn nin ha rws st
    have nF : a ∉ F := fun z => nin (List.mem_append_left _ z)
    refine h (.ref a) H' (m' ++ [a]) (x.adopt hn (by rw [ha]; simp)) (.ref ?_) (Rst.adopt st nF ⟨vs, ha, rws⟩)
    rw [← st.len, List.getElem?_append_right (Nat.le_refl _), Nat.sub_self]
    rfl
theorem se_new {ex : Expr} {f : FV} (h : SF p X Wx ex f) : SE p X Wx ex (newE f) := let ⟨t, pt, g⟩ := h; ⟨t, pt, good_new g⟩
/-- a fresh list is laid -/
theorem newF {Q : VK} {ws : List W} {vs : List V} {a : Addr} (s : p.st F m H S) (r : p.ws F m H ws vs) (h : PostF p F H m σ Q Wx (.ok ws S)) (ha : H a = none) : Q (.ref a) (upd H a (.lst vs)) := by
  have x : Ext H m (upd H a (.lst vs)) m := Ext.new ha
  have hk : ∀ b u, H b = some u → b ∉ F ++ m → upd H a (.lst vs) b = some u ∧ b ∉ a :: F ++ m := fun b u hb n => ⟨by rw [upd_ne (ne_of_none hb ha)]; exact hb, fun z => by
    rw [List.cons_append] at z
    rcases List.mem_cons.mp z with z | z
    · rw [z, ha] at hb; cases hb
    · exact n z⟩
  refine h a vs _ m x ha (s.ne ha) upd_same (RepWs.go hk ⟨[], by simp⟩ r) ⟨s.len, s.nd, fun q hq => ?_, fun q hq => ?_, fun i q o hi ho => ?_⟩
  · rcases List.mem_cons.mp hq with e | hq
    · rw [e]; exact fun z => s.thing z ha
    · exact s.apart q hq
  · by_cases e : q = a
    · subst e; rw [upd_same]; exact ⟨by simp, fun _ z => by cases z⟩
    · rw [upd_ne e]
      rcases List.mem_cons.mp hq with e' | hq
      · exact absurd e' e
      · exact s.there q hq
  · have hq : q ∈ m := List.mem_of_getElem? hi
    have ne : q ≠ a := fun e => s.thing hq (by rw [e]; exact ha)
    exact (s.obj i q o hi ho).go hk ⟨[], by simp⟩ (upd_ne ne).symm
theorem PostF.ext {Q : VK} {r : R (List W)} (x : Ext H m H1 m1) (h : PostF p F H m σ Q Wx r) : PostF p F H1 m1 σ Q Wx r := by
  cases r with
  | ok a S =>
    intro a vs H' m' y hn nin ha rws st
    refine h a vs H' m' (x.trans y) ?_ nin ha rws st
    cases q : H a with
    | none => rfl
    | some u =>
      by_cases hm : a ∈ m
      · exact absurd (by obtain ⟨l, e⟩ := (x.trans y).pre; rw [e]; exact List.mem_append_right _ (List.mem_append_left _ hm)) nin
      · rw [x.keep a u q hm] at hn; cases hn
  | exc x' S => exact fun cls dx H' m' y => h cls dx H' m' (x.trans y)
  | stuck => exact h
theorem Good.seqF {α β : Type} {Rel : RelT α β} {t : L2.St → Hp → (β → Hp → Prop) → Prop} {f : En → Store → R α} {k : α → Store → R (List W)} {Q : VK} {Q1 : β → Hp → Prop}
    (g : Good p Rel Wx t f) (r : p.en F m H e σ) (s : p.st F m H S) (h : PostF p F H m σ Q Wx ((f e S).bind k))
    (hk : ∀ a S1 v H1 m1, Ext H m H1 m1 → p.en F m1 H1 e σ → Rel F m1 H1 a v → p.st F m1 H1 S1 → PostF p F H1 m1 σ Q Wx (k a S1) → Q1 v H1) : t σ H Q1 := by
  refine g F H m e S σ Q1 r s ?_
  cases q : f e S with
  | ok a S1 =>
    rw [q] at h
    exact fun v H' m' x rel s' => hk a S1 v H' m' x (x.env r) rel s' (h.ext x)
  | exc x S1 => rw [q] at h; exact h
  | stuck => rw [q] at h; exact h

/-! ### arguments, displays -/
theorem sa_nil : SA p X Wx [] (argsF []) := ⟨_, pa_nil, fun F H m e S σ Q r0 s h => h [] H m (Ext.refl _ _) .nil s⟩
theorem sa_cons {a : Expr} {as : List Expr} {fa : EV} {fs : List EV} (ha : SE p X Wx a fa) (hs : SA p X Wx as (argsF fs)) (hst : starEach (a :: as) X.env = (false, eval a X.env) :: starEach as X.env) : SA p X Wx (a :: as) (argsF (fa :: fs)) := by
  obtain ⟨ta, pa, ga⟩ := ha
  obtain ⟨ts, ps, gs⟩ := hs
  refine ⟨_, pa_cons pa ps hst, fun F H m e S σ Q r0 s h => ?_⟩
  refine ga.seq r0 s h fun x S1 v H1 m1 _ r1 rx s1 h1 => ?_
  refine gs.seq r1 s1 h1 fun xs S2 vs H2 m2 x2 r2 rxs s2 h2 => ?_
  exact h2 (v :: vs) H2 m2 (Ext.refl _ _) (.cons (x2.w rx) rxs) s2
theorem args_len : ∀ {fs : List EV} {S S' : Store} {ws : List W}, argsF fs e S = .ok ws S' → ws.length = fs.length
  | [], _, _, _, h => by cases h; rfl
  | f :: fs, S, S', ws, h => by
    unfold argsF at h
    cases q : f e S with
    | ok a S1 =>
      rw [q] at h
      simp only [R.bind] at h
      cases q2 : argsF fs e S1 with
      | ok as S2 =>
        rw [q2] at h
        cases h
        show as.length + 1 = fs.length + 1
        rw [args_len q2]
      | exc x S2 => rw [q2] at h; cases h
      | stuck => rw [q2] at h; cases h
    | exc x S1 => rw [q] at h; cases h
    | stuck => rw [q] at h; cases h
theorem few_line {n : Nat} (h : n ≤ 1000) : n ≤ sizeLine := by rw [line]; omega
theorem Good.args {γ δ : Type} {Rel' : RelT γ δ} {t : L2.St → Hp → (List V → Hp → Prop) → Prop} {fs : List EV} {k : List W → Store → R γ} {Q : δ → Hp → Prop} {Q1 : List V → Hp → Prop}
    (g : Good p p.ws Wx t (argsF fs)) (r : p.en F m H e σ) (s : p.st F m H S) (h : Post p Rel' F H m σ Q Wx ((argsF fs e S).bind k))
    (hk : ∀ a S1 v H1 m1, a.length = fs.length → Ext H m H1 m1 → p.en F m1 H1 e σ → p.ws F m1 H1 a v → p.st F m1 H1 S1 → Post p Rel' F H1 m1 σ Q Wx (k a S1) → Q1 v H1) : t σ H Q1 := by
  refine g F H m e S σ Q1 r s ?_
  cases q : argsF fs e S with
  | ok a S1 =>
    rw [q] at h
    exact fun v H' m' x rel s' => hk a S1 v H' m' (args_len q) x (x.env r) rel s' (h.ext x)
  | exc x S1 => rw [q] at h; exact h
  | stuck => rw [q] at h; exact h
theorem Good.argsF {t : L2.St → Hp → (List V → Hp → Prop) → Prop} {fs : List EV} {k : List W → Store → R (List W)} {Q : VK} {Q1 : List V → Hp → Prop}
    (g : Good p p.ws Wx t (argsF fs)) (r : p.en F m H e σ) (s : p.st F m H S) (h : PostF p F H m σ Q Wx ((Pv.argsF fs e S).bind k))
    (hk : ∀ a S1 v H1 m1, a.length = fs.length → Ext H m H1 m1 → p.en F m1 H1 e σ → p.ws F m1 H1 a v → p.st F m1 H1 S1 → PostF p F H1 m1 σ Q Wx (k a S1) → Q1 v H1) : t σ H Q1 := by
  refine g F H m e S σ Q1 r s ?_
  cases q : Pv.argsF fs e S with
  | ok a S1 =>
    rw [q] at h
    exact fun v H' m' x rel s' => hk a S1 v H' m' (args_len q) x (x.env r) rel s' (h.ext x)
  | exc x S1 => rw [q] at h; exact h
  | stuck => rw [q] at h; exact h
theorem se_tup {as : List Expr} {fs : List EV} {k : Nat} {pos : Pos} (hz : fs.length ≤ 1000) (h : SA p X Wx as (Pv.argsF fs)) : SE p X Wx (.Tuple as k pos) (tupE fs) := by
  obtain ⟨t, pt, g⟩ := h
  refine ⟨_, pe_tup pt, fun F H m e S σ Q r0 s h => ?_⟩
  refine Good.args g r0 s h fun ws S1 vs H1 m1 hl _ r1 rw' s1 h1 => ?_
  refine ⟨by rw [← RepWs.len rw', hl]; exact few_line hz, fun a ha => ?_⟩
  split at h1
  · rename_i xs e1
    exact new_tup s1 (rw'.un e1) h1 ha
  · exact h1.elim
theorem bind_ok {α : Type} (r : R α) : r.bind .ok = r := by cases r <;> rfl
theorem sf_lst {as : List Expr} {fs : List EV} {pos : Pos} (hz : fs.length ≤ 1000) (h : SA p X Wx as (Pv.argsF fs)) : SF p X Wx (.List as pos) (lstF fs) := by
  obtain ⟨t, pt, g⟩ := h
  refine ⟨_, pe_lst pt, fun F H m e S σ Q r0 s h => ?_⟩
  unfold lstF at h
  rw [← bind_ok (Pv.argsF fs e S)] at h
  refine Good.argsF g r0 s h fun ws S1 vs H1 m1 hl _ r1 rw' s1 h1 => ?_
  exact ⟨by rw [← RepWs.len rw', hl]; exact few_line hz, fun a ha => newF s1 rw' h1 ha⟩
end
end Pv

end

section
set_option linter.all false
set_option maxRecDepth 100000
set_option Elab.async false
set_option linter.all false
/-! Pv7: fresh lists by operators; calls of built-ins; methods of built-in types. -/
namespace Pv
open PySem PySem.Spec PyProof.Rows L2
section
variable {p : Pr} {X : Cx} {Wx : WX} {F m m1 m' : List Addr} {H H1 H' : Hp} {σ : L2.St} {e : En} {S : Store}

/-! ### fresh lists by operators -/
theorem sf_sl {a : Expr} {lo hi : Option Expr} {fa : EV} {fl fh : Option EV} {pos p2 : Pos} (hK : X.K = p.K) (ha : SE p X Wx a fa) (hl : SB p X Wx lo fl) (hh : SB p X Wx hi fh) : SF p X Wx (.Subscript a (.Slice lo hi none p2) pos) (slF fa fl fh) := by
  obtain ⟨ta, pa, ga⟩ := ha
  obtain ⟨tl, pl, gl⟩ := hl
  obtain ⟨th, ph, gh⟩ := hh
  refine ⟨_, pe_slice sl_list pa pl ph, fun F H m e S σ Q r0 s h => ?_⟩
  rw [hK]
  refine ga.seqF r0 s h fun x S1 v H1 m1 _ r1 rx s1 h1 => ?_
  refine gl.seqF r1 s1 h1 fun l S2 l' H2 m2 x2 r2 e2 s2 h2 => ?_
  refine gh.seqF r2 s2 h2 fun u S3 u' H3 m3 x3 r3 e3 s3 h3 => ?_
  subst e2 e3
  have rx3 := (x2.trans x3).w rx
  split at h3
  · rename_i xs q
    obtain ⟨a, vs, rfl, ha, rs⟩ := itemsL_ok s3 rx3 q
    exact ⟨a, vs, rfl, .inl (.inl ha), fun q hq => newF s3 (RepWs.cut rs _ _) h3 hq⟩
  · exact h3.elim
theorem sf_cat {a b : Expr} {fa fb : EV} {pos : Pos} (ha : SE p X Wx a fa) (hb : SE p X Wx b fb) : SF p X Wx (.BinOp a .Add b pos) (catF fa fb) := by
  obtain ⟨ta, pa, ga⟩ := ha
  obtain ⟨tb, pb, gb⟩ := hb
  refine ⟨_, pe_op op_cat pa pb, fun F H m e S σ Q r0 s h => ?_⟩
  refine ga.seqF r0 s h fun x S1 v H1 m1 _ r1 rx s1 h1 => ?_
  refine gb.seqF r1 s1 h1 fun y S2 u H2 m2 x2 r2 ry s2 h2 => ?_
  split at h2
  · rename_i xs ys q1 q2
    split at h2
    · rename_i hs
      obtain ⟨a, vs, rfl, ha, ra⟩ := itemsL_ok s2 (x2.w rx) q1
      obtain ⟨b, us, rfl, hb, rb⟩ := itemsL_ok s2 ry q2
      exact ⟨a, b, vs, us, rfl, rfl, ha, hb, by rw [← RepWs.len ra, ← RepWs.len rb]; exact smallN_ok hs, fun q hq => newF s2 (ra.app rb) h2 hq⟩
    · exact h2.elim
  · exact h2.elim
theorem sf_rep {a b : Expr} {fa fb : EV} {pos : Pos} (ha : SE p X Wx a fa) (hb : SE p X Wx b fb) : SF p X Wx (.BinOp a .Mult b pos) (repF fa fb) := by
  obtain ⟨ta, pa, ga⟩ := ha
  obtain ⟨tb, pb, gb⟩ := hb
  refine ⟨_, pe_op op_rep pa pb, fun F H m e S σ Q r0 s h => ?_⟩
  refine ga.seqF r0 s h fun x S1 v H1 m1 _ r1 rx s1 h1 => ?_
  refine gb.seqF r1 s1 h1 fun y S2 u H2 m2 x2 r2 ry s2 h2 => ?_
  split at h2
  · rename_i xs k q1
    cases ry with | d ry =>
    cases ry
    split at h2
    · rename_i hs
      simp only [Bool.and_eq_true, decide_eq_true_eq] at hs
      obtain ⟨a, vs, rfl, ha, ra⟩ := itemsL_ok s2 (x2.w rx) q1
      exact ⟨a, k, vs, rfl, rfl, ha, by omega, by omega, by rw [← RepWs.len ra]; exact smallN_ok hs.2, fun q hq => newF s2 (RepWs.rep ra _) h2 hq⟩
    · exact h2.elim
  · exact h2.elim

/-! ### calls of built-ins by values -/
def FitsL (p : Pr) (g : List W → Store → R W) (r : List V → Hp → VK → Prop) : Prop :=
  ∀ (F m : List Addr) (H : Hp) (S : Store) (σ : L2.St) (Q : VK) (Wx : WX) (ws : List W) (vs : List V), p.st F m H S → p.ws F m H ws vs → Post p p.w F H m σ Q Wx (g ws S) → r vs H Q
def FitsLF (p : Pr) (g : List W → Store → R (List W)) (r : List V → Hp → VK → Prop) : Prop :=
  ∀ (F m : List Addr) (H : Hp) (S : Store) (σ : L2.St) (Q : VK) (Wx : WX) (ws : List W) (vs : List V), p.st F m H S → p.ws F m H ws vs → PostF p F H m σ Q Wx (g ws S) → r vs H Q
theorem CallR.or2 {f : Value} {r r' : List V → Hp → VK → Prop} (h : CallR X f r) (h' : CallR X f r') : CallR X f (fun xs H Q => r xs H Q ∨ r' xs H Q) := by
  intro pins s σ H xs us Q I rs q
  rcases q with q | q
  · exact h pins s σ H xs us Q I rs q
  · exact h' pins s σ H xs us Q I rs q
/-- a built-in function or type that is called by its name -/
theorem pe_callV {x : Str} {p0 pos : Pos} {a : Expr} {as : List Expr} {t : TA} {f : Value} {r : List V → Hp → VK → Prop} (hf : (∃ id, f = .builtin id) ∨ ∃ T, f = .type T) (hc : CallR X f r) (hg : Gl X x) (hm : X.mg x = none) (hv : bootBuiltins x = some f) (ha : PA X (a :: as) t) (hn : x ≠ "__name__") (hdb : (x == ("__debug__" : Str)) = false)
    (he : starEach (a :: as) X.env = (false, eval a X.env) :: starEach as X.env) (hpl : (backTo pos (starEach as X.env)).any (·.1) = false) : PE X (.Call (.Name x p0) (a :: as) [] pos) (tCB r t) := by
  rcases hf with ⟨id, rfl⟩ | ⟨T, rfl⟩
  · exact pe_callB hc hg hm hv ha hn hdb he hpl
  · exact pe_callTy hc hg hm hv ha hn hdb he hpl
theorem se_callB {x : Str} {p0 pos : Pos} {a : Expr} {as : List Expr} {fs : List EV} {g : List W → Store → R W} {f : Value} {r : List V → Hp → VK → Prop} (hf : (∃ id, f = .builtin id) ∨ ∃ T, f = .type T) (hc : CallR X f r) (hfit : FitsL p g r) (hg : Gl X x) (hm : X.mg x = none) (hv : bootBuiltins x = some f) (hn : x ≠ "__name__") (hdb : (x == ("__debug__" : Str)) = false)
    (he : starEach (a :: as) X.env = (false, eval a X.env) :: starEach as X.env) (hpl : (backTo pos (starEach as X.env)).any (·.1) = false) (hs : SA p X Wx (a :: as) (argsF fs)) : SE p X Wx (.Call (.Name x p0) (a :: as) [] pos) (callB g fs) := by
  obtain ⟨t, pt, gt⟩ := hs
  refine ⟨_, pe_callV hf hc hg hm hv pt hn hdb he hpl, fun F H m e S σ Q r0 s h => ?_⟩
  exact gt.seq r0 s h fun ws S1 vs H1 m1 _ r1 rw' s1 h1 => hfit F m1 H1 S1 σ Q Wx ws vs s1 rw' h1
theorem sf_callB {x : Str} {p0 pos : Pos} {a : Expr} {as : List Expr} {fs : List EV} {g : List W → Store → R (List W)} {f : Value} {r : List V → Hp → VK → Prop} (hf : (∃ id, f = .builtin id) ∨ ∃ T, f = .type T) (hc : CallR X f r) (hfit : FitsLF p g r) (hg : Gl X x) (hm : X.mg x = none) (hv : bootBuiltins x = some f) (hn : x ≠ "__name__") (hdb : (x == ("__debug__" : Str)) = false)
    (he : starEach (a :: as) X.env = (false, eval a X.env) :: starEach as X.env) (hpl : (backTo pos (starEach as X.env)).any (·.1) = false) (hs : SA p X Wx (a :: as) (argsF fs)) : SF p X Wx (.Call (.Name x p0) (a :: as) [] pos) (callF g fs) := by
  obtain ⟨t, pt, gt⟩ := hs
  refine ⟨_, pe_callV hf hc hg hm hv pt hn hdb he hpl, fun F H m e S σ Q r0 s h => ?_⟩
  exact gt.seqF r0 s h fun ws S1 vs H1 m1 _ r1 rw' s1 h1 => hfit F m1 H1 S1 σ Q Wx ws vs s1 rw' h1
/-- one argument -/
theorem fits_arg1 {g : W → Store → R W} {r : List V → Hp → VK → Prop} (h : ∀ (F m : List Addr) (H : Hp) (S : Store) (σ : L2.St) (Q : VK) (Wx : WX) (x : W) (v : V), p.st F m H S → p.w F m H x v → Post p p.w F H m σ Q Wx (g x S) → r [v] H Q) : FitsL p (arg1 g) r := by
  intro F m H S σ Q Wx ws vs s rs hp
  unfold arg1 at hp
  split at hp
  · cases rs with | cons a b =>
    cases b
    exact h F m H _ σ Q Wx _ _ s a hp
  · exact hp.elim
theorem fits_arg2 {g : W → W → Store → R W} {r : List V → Hp → VK → Prop} (h : ∀ (F m : List Addr) (H : Hp) (S : Store) (σ : L2.St) (Q : VK) (Wx : WX) (x y : W) (v u : V), p.st F m H S → p.w F m H x v → p.w F m H y u → Post p p.w F H m σ Q Wx (g x y S) → r [v, u] H Q) : FitsL p (arg2 g) r := by
  intro F m H S σ Q Wx ws vs s rs hp
  unfold arg2 at hp
  split at hp
  · cases rs with | cons a b =>
    cases b with | cons b c =>
    cases c
    exact h F m H _ σ Q Wx _ _ _ _ s a b hp
  · exact hp.elim

/-! len -/
def rLenA (K : PySem.W.Frag) : List V → Hp → VK → Prop := fun xs H Q => (∃ x n, xs = [x] ∧ LenV K x H n ∧ Q (.int n) H) ∨ (∃ a kvs, xs = [V.ref a] ∧ H a = some (.dK kvs) ∧ Q (.int kvs.length) H) ∨ rLenT xs H Q
theorem call_lenA : CallR X (.builtin "len") (rLenA X.K) := CallR.or2 call_len (CallR.or2 call_lenD call_len_dT)
theorem RepKW.len {Z : List Addr} {kvs : List (D × W)} {ks : List (Key × V)} (r : RepKW p.kt p.K H Z m kvs ks) : kvs.length = ks.length := by
  induction r with
  | nil => rfl
  | cons _ _ _ ih => exact congrArg (· + 1) ih
theorem RepTW.len {Z : List Addr} {kvs : List (D × W)} {ks : List (List Key × V)} (r : RepTW p.kt p.K H Z m kvs ks) : kvs.length = ks.length := by
  induction r with
  | nil => rfl
  | cons _ _ _ _ ih => exact congrArg (· + 1) ih
theorem fits_len : FitsL p (arg1 lenF) (rLenA p.K) := fits_arg1 fun F m H S σ Q Wx x v s rx h => by
  unfold lenF at h
  split at h
  · cases rx with | d rx =>
    cases rx
    split at h
    · rename_i x hs
      refine .inl ⟨_, x.length, rfl, ⟨by rw [txt_len]; exact smallN_ok hs, (txt_len _).symm⟩, h _ _ _ (Ext.refl _ _) (.d (.int _)) s⟩
    · exact h.elim
  · cases rx with | d rx =>
    obtain ⟨a, vs, rfl, ha, rs⟩ := rx.tupAt
    exact .inl ⟨_, _, rfl, .inr ⟨vs, ha, rfl⟩, rs.length ▸ h _ _ _ (Ext.refl _ _) (.d (.int _)) s⟩
  · cases rx with | d rx =>
    cases rx with | lst h1 _ rs =>
    exact .inl ⟨_, _, rfl, .inl ⟨_, .inl (.inl h1), rfl⟩, rs.length ▸ h _ _ _ (Ext.refl _ _) (.d (.int _)) s⟩
  · cases rx with | d rx =>
    cases rx with
    | scr h1 _ => exact .inl ⟨_, _, rfl, .inl ⟨_, .inl (.inr ⟨_, h1⟩), rfl⟩, by rw [List.length_map] at h ⊢; exact h _ _ _ (Ext.refl _ _) (.d (.int _)) s⟩
    | scrK h1 => exact .inl ⟨_, _, rfl, .inl ⟨_, .inr h1, rfl⟩, by rw [List.length_map] at h ⊢; exact h _ _ _ (Ext.refl _ _) (.d (.int _)) s⟩
  · exact h.elim
  · split at h
    · rename_i ws q
      cases rx with | ref hi =>
      obtain ⟨vs, hv, rv⟩ := s.obj _ _ _ hi q
      exact .inl ⟨_, _, rfl, .inl ⟨_, .inl (.inl hv), rfl⟩, RepWs.len rv ▸ h _ _ _ (Ext.refl _ _) (.d (.int _)) s⟩
    · rename_i tk kvs q
      cases rx with | ref hi =>
      cases tk with
      | false =>
        obtain ⟨ks, hv, rv⟩ := s.obj _ _ _ hi q
        exact .inr (.inl ⟨_, _, rfl, hv, RepKW.len rv ▸ h _ _ _ (Ext.refl _ _) (.d (.int _)) s⟩)
      | true =>
        obtain ⟨ks, hv, rv⟩ := s.obj _ _ _ hi q
        exact .inr (.inr ⟨_, _, rfl, hv, RepTW.len rv ▸ h _ _ _ (Ext.refl _ _) (.d (.int _)) s⟩)
    · exact h.elim
  · exact h.elim

/-! ints in a list -/
theorem intsOf_rep {Z : List Addr} : ∀ {ws : List W} {vs : List V} {ns : List Int}, RepWs p.kt p.K H Z m ws vs → intsOf ws = some ns → vs = ns.map V.int
  | [], _, _, .nil, h => by cases h; rfl
  | .d (.int i) :: r, _, _, .cons a b, h => by
    cases a with | d a =>
    cases a
    unfold intsOf at h
    obtain ⟨ns, e, rfl⟩ := Option.map_eq_some_iff.mp h
    rw [intsOf_rep b e]; rfl
  | .ref _ :: _, _, _, .cons _ _, h => by cases h
  | .d .non :: _, _, _, .cons _ _, h => by cases h
  | .d (.bl _) :: _, _, _, .cons _ _, h => by cases h
  | .d (.str _) :: _, _, _, .cons _ _, h => by cases h
  | .d (.tup _) :: _, _, _, .cons _ _, h => by cases h
  | .d (.lst _) :: _, _, _, .cons _ _, h => by cases h
  | .d (.scr _) :: _, _, _, .cons _ _, h => by cases h
  | .d (.dct _ _) :: _, _, _, .cons _ _, h => by cases h
theorem boolsOf_rep {Z : List Addr} : ∀ {ws : List W} {vs : List V} {ns : List Bool}, RepWs p.kt p.K H Z m ws vs → boolsOf ws = some ns → vs = ns.map V.bl
  | [], _, _, .nil, h => by cases h; rfl
  | .d (.bl i) :: r, _, _, .cons a b, h => by
    cases a with | d a =>
    cases a
    unfold boolsOf at h
    obtain ⟨ns, e, rfl⟩ := Option.map_eq_some_iff.mp h
    rw [boolsOf_rep b e]; rfl
  | .ref _ :: _, _, _, .cons _ _, h => by cases h
  | .d .non :: _, _, _, .cons _ _, h => by cases h
  | .d (.int _) :: _, _, _, .cons _ _, h => by cases h
  | .d (.str _) :: _, _, _, .cons _ _, h => by cases h
  | .d (.tup _) :: _, _, _, .cons _ _, h => by cases h
  | .d (.lst _) :: _, _, _, .cons _ _, h => by cases h
  | .d (.scr _) :: _, _, _, .cons _ _, h => by cases h
  | .d (.dct _ _) :: _, _, _, .cons _ _, h => by cases h
theorem ints_ok {x : W} {v : V} {ns : List Int} (s : p.st F m H S) (r : p.w F m H x v) (h : (itemsL S x).bind intsOf = some ns) : ∃ a, v = .ref a ∧ H a = some (.lst (ns.map V.int)) := by
  obtain ⟨ws, e1, e2⟩ := Option.bind_eq_some_iff.mp h
  obtain ⟨a, vs, rfl, ha, rs⟩ := itemsL_ok s r e1
  rw [intsOf_rep rs e2] at ha
  exact ⟨a, rfl, ha⟩
theorem bools_ok {x : W} {v : V} {ns : List Bool} (s : p.st F m H S) (r : p.w F m H x v) (h : (itemsL S x).bind boolsOf = some ns) : ∃ a, v = .ref a ∧ H a = some (.lst (ns.map V.bl)) := by
  obtain ⟨ws, e1, e2⟩ := Option.bind_eq_some_iff.mp h
  obtain ⟨a, vs, rfl, ha, rs⟩ := itemsL_ok s r e1
  rw [boolsOf_rep rs e2] at ha
  exact ⟨a, rfl, ha⟩
theorem fits_sum : FitsL p (arg1 sumF) (rSum p.K) := fits_arg1 fun F m H S σ Q Wx x v s rx h => by
  unfold sumF at h
  split at h
  · rename_i ns q
    obtain ⟨a, rfl, ha⟩ := ints_ok s rx q
    exact ⟨a, ns, rfl, .inl (.inl ha), h _ _ _ (Ext.refl _ _) (.d (.int _)) s⟩
  · exact h.elim
theorem fits_any : FitsL p (arg1 anyF) (rAny p.K) := fits_arg1 fun F m H S σ Q Wx x v s rx h => by
  unfold anyF at h
  split at h
  · rename_i ns q
    obtain ⟨a, rfl, ha⟩ := bools_ok s rx q
    exact ⟨a, ns, rfl, .inl (.inl ha), h _ _ _ (Ext.refl _ _) (.d (.bl _)) s⟩
  · exact h.elim
theorem fits_all : FitsL p (arg1 allF) (rAll p.K) := fits_arg1 fun F m H S σ Q Wx x v s rx h => by
  unfold allF at h
  split at h
  · rename_i ns q
    obtain ⟨a, rfl, ha⟩ := bools_ok s rx q
    exact ⟨a, ns, rfl, .inl (.inl ha), h _ _ _ (Ext.refl _ _) (.d (.bl _)) s⟩
  · exact h.elim
theorem maxL_spec : ∀ (r : List Int) (n m : Int), (m = n ∨ m ∈ r) → (n ≤ m ∧ ∀ y ∈ r, y ≤ m) → maxL n r = m
  | [], n, m, h, _ => by rcases h with h | h; exact h.symm; cases h
  | k :: r, n, m, h, ⟨h1, h2⟩ => by
    unfold maxL
    have hk := h2 k List.mem_cons_self
    refine maxL_spec r _ m ?_ ⟨by split <;> assumption, fun y hy => h2 y (List.mem_cons_of_mem _ hy)⟩
    rcases h with h | h
    · subst h
      exact .inl (by split <;> omega)
    · rcases List.mem_cons.mp h with e | h
      · subst e
        by_cases z : n < m
        · exact .inl (by rw [if_pos z])
        · exact .inl (by rw [if_neg z]; omega)
      · exact .inr h
theorem minL_spec : ∀ (r : List Int) (n m : Int), (m = n ∨ m ∈ r) → (m ≤ n ∧ ∀ y ∈ r, m ≤ y) → minL n r = m
  | [], n, m, h, _ => by rcases h with h | h; exact h.symm; cases h
  | k :: r, n, m, h, ⟨h1, h2⟩ => by
    unfold minL
    have hk := h2 k List.mem_cons_self
    refine minL_spec r _ m ?_ ⟨by split <;> assumption, fun y hy => h2 y (List.mem_cons_of_mem _ hy)⟩
    rcases h with h | h
    · subst h
      exact .inl (by split <;> omega)
    · rcases List.mem_cons.mp h with e | h
      · subst e
        by_cases z : m < n
        · exact .inl (by rw [if_pos z])
        · exact .inl (by rw [if_neg z]; omega)
      · exact .inr h
theorem fits_max : FitsL p (arg1 maxF) (rMax p.K) := fits_arg1 fun F m H S σ Q Wx x v s rx h => by
  unfold maxF at h
  split at h
  · rename_i n r q
    obtain ⟨a, rfl, ha⟩ := ints_ok s rx q
    refine ⟨a, n :: r, rfl, .inl (.inl ha), Nat.succ_pos _, fun k hk hle => ?_⟩
    rw [← maxL_spec r n k (List.mem_cons.mp hk) ⟨hle n List.mem_cons_self, fun y hy => hle y (List.mem_cons_of_mem _ hy)⟩]
    exact h _ _ _ (Ext.refl _ _) (.d (.int _)) s
  · exact h.elim
theorem fits_min : FitsL p (arg1 minF) (rMin p.K) := fits_arg1 fun F m H S σ Q Wx x v s rx h => by
  unfold minF at h
  split at h
  · rename_i n r q
    obtain ⟨a, rfl, ha⟩ := ints_ok s rx q
    refine ⟨a, n :: r, rfl, .inl (.inl ha), Nat.succ_pos _, fun k hk hle => ?_⟩
    rw [← minL_spec r n k (List.mem_cons.mp hk) ⟨hle n List.mem_cons_self, fun y hy => hle y (List.mem_cons_of_mem _ hy)⟩]
    exact h _ _ _ (Ext.refl _ _) (.d (.int _)) s
  · exact h.elim
theorem fits_max2 : FitsL p (arg2 max2F) (fun xs H Q => ∃ i j, xs = [.int i, .int j] ∧ Q (.int (if j > i then j else i)) H) := fits_arg2 fun F m H S σ Q Wx x y v u s rx ry h => by
  unfold max2F at h
  split at h
  · cases rx with | d rx =>
    cases rx
    cases ry with | d ry =>
    cases ry
    exact ⟨_, _, rfl, h _ _ _ (Ext.refl _ _) (.d (.int _)) s⟩
  · exact h.elim
theorem fits_min2 : FitsL p (arg2 min2F) (fun xs H Q => ∃ i j, xs = [.int i, .int j] ∧ Q (.int (if j < i then j else i)) H) := fits_arg2 fun F m H S σ Q Wx x y v u s rx ry h => by
  unfold min2F at h
  split at h
  · cases rx with | d rx =>
    cases rx
    cases ry with | d ry =>
    cases ry
    exact ⟨_, _, rfl, h _ _ _ (Ext.refl _ _) (.d (.int _)) s⟩
  · exact h.elim
theorem fits_abs : FitsL p (arg1 absF) (fun xs H Q => ∃ i, xs = [.int i] ∧ Q (.int (if i < 0 then -i else i)) H) := fits_arg1 fun F m H S σ Q Wx x v s rx h => by
  unfold absF at h
  split at h
  · cases rx with | d rx =>
    cases rx
    exact ⟨_, rfl, h _ _ _ (Ext.refl _ _) (.d (.int _)) s⟩
  · exact h.elim
theorem insI_perm (n : Int) : ∀ r : List Int, (insI n r).Perm (n :: r)
  | [] => .refl _
  | m :: r => by
    unfold insI
    split
    · exact .refl _
    · exact ((insI_perm n r).cons m).trans (.swap n m r)
theorem insI_pw (n : Int) : ∀ r : List Int, r.Pairwise (· ≤ ·) → (insI n r).Pairwise (· ≤ ·)
  | [], _ => by simp [insI]
  | m :: r, h => by
    unfold insI
    have h' := List.pairwise_cons.mp h
    split
    · rename_i hle
      exact List.pairwise_cons.mpr ⟨fun y hy => by
        rcases List.mem_cons.mp hy with e | hy
        · rw [e]; exact hle
        · exact Int.le_trans hle (h'.1 y hy), h⟩
    · rename_i hle
      refine List.pairwise_cons.mpr ⟨fun y hy => ?_, insI_pw n r h'.2⟩
      rcases List.mem_cons.mp ((insI_perm n r).mem_iff.mp hy) with e | hy
      · omega
      · exact h'.1 y hy
theorem sortI_perm : ∀ r : List Int, (sortI r).Perm r
  | [] => .refl _
  | n :: r => (insI_perm n _).trans ((sortI_perm r).cons n)
theorem sortI_pw : ∀ r : List Int, (sortI r).Pairwise (· ≤ ·)
  | [] => .nil
  | n :: r => insI_pw n _ (sortI_pw r)
theorem sort_same {ns r : List Int} (h1 : r.Perm ns) (h2 : r.Pairwise (· ≤ ·)) : r = sortI ns :=
  (h1.trans (sortI_perm ns).symm).eq_of_pairwise (fun x y _ _ a b => Int.le_antisymm a b) h2 (sortI_pw ns)
theorem ints_ws {Z : List Addr} : ∀ ns : List Int, RepWs p.kt p.K H Z m (ns.map fun n => .d (.int n)) (ns.map V.int)
  | [] => .nil
  | n :: r => .cons (.d (.int n)) (ints_ws r)
theorem fits_sorted : FitsLF p sortG (rSortedI p.K) := by
  intro F m H S σ Q Wx ws vs s rs h
  unfold sortG at h
  split at h
  · cases rs with | cons a b =>
    cases b
    split at h
    · rename_i ns q
      obtain ⟨l, rfl, ha⟩ := ints_ok s a q
      exact ⟨l, ns, rfl, .inl (.inl ha), fun ns' q h1 h2 hq => sort_same h1 h2 ▸ newF s (ints_ws _) h hq⟩
    · exact h.elim
  · exact h.elim
/-- list, tuple of a list or tuple -/
theorem itemsS_ok {x : W} {v : V} {xs : List W} (s : p.st F m H S) (r : p.w F m H x v) (h : itemsS S x = some xs) : ∃ a vs, v = .ref a ∧ (SqL p.K H a vs ∨ SqT p.K H a vs) ∧ p.ws F m H xs vs := by
  cases r with
  | ref hi =>
    simp only [itemsS] at h
    split at h
    · rename_i ws q
      obtain ⟨vs, hv, rv⟩ := s.obj _ _ _ hi q
      cases h
      exact ⟨_, vs, rfl, .inl (.inl (.inl hv)), rv⟩
    · cases h
  | d r =>
    have sc : ∀ ns : List Int, p.ws F m H ((ns.map D.int).map W.d) (ns.map V.int) := fun ns => by
      rw [List.map_map]
      exact ints_ws ns
    cases r with
    | lst h1 _ rs => cases h; exact ⟨_, _, rfl, .inl (.inl (.inl h1)), rs.ws⟩
    | tup h1 _ rs => cases h; exact ⟨_, _, rfl, .inr (.inl (.inl h1)), rs.ws⟩
    | tupK h1 _ rs => cases h; exact ⟨_, _, rfl, .inr (.inr h1), rs.ws⟩
    | scr h1 _ => cases h; exact ⟨_, _, rfl, .inl (.inl (.inr ⟨_, h1⟩)), sc _⟩
    | scrK h1 => cases h; exact ⟨_, _, rfl, .inl (.inr h1), sc _⟩
    | _ => cases h
theorem fits_list : FitsLF p listG (fun xs H Q => ∃ b ys, xs = [.ref b] ∧ (SqL p.K H b ys ∨ SqT p.K H b ys) ∧ ∀ l, H l = none → Q (.ref l) (upd H l (.lst ys))) := by
  intro F m H S σ Q Wx ws vs s rs h
  unfold listG at h
  split at h
  · cases rs with | cons a b =>
    cases b
    split at h
    · rename_i ws q
      obtain ⟨l, vs, rfl, hq, rv⟩ := itemsS_ok s a q
      exact ⟨l, vs, rfl, hq, fun l hl => newF s rv h hl⟩
    · exact h.elim
  · exact h.elim
theorem fits_tuple : FitsL p tupleG (fun xs H Q => ∃ b ys, xs = [.ref b] ∧ ((SqL p.K H b ys ∧ ∀ l, H l = none → Q (.ref l) (upd H l (.tup ys))) ∨ (SqT p.K H b ys ∧ Q (.ref b) H))) := by
  intro F m H S σ Q Wx ws vs s rs h
  unfold tupleG at h
  split at h
  · rename_i x
    cases rs with | cons a b =>
    cases b
    split at h
    · rename_i ws q
      split at h
      · rename_i xs e
        by_cases ht : ∃ ts, x = W.d (D.tup ts)
        · obtain ⟨ts, rfl⟩ := ht
          cases a with | d a =>
          obtain ⟨b', vs', rfl, hq', rs'⟩ := a.tupAt
          simp only [itemsS] at q
          cases q
          rw [unWs_map] at e
          cases e
          exact ⟨b', vs', rfl, .inr ⟨hq', h _ _ _ (Ext.refl _ _) (.d a) s⟩⟩
        · cases a with
          | ref hi =>
            simp only [itemsS] at q
            split at q
            · rename_i ws' q'
              obtain ⟨vs, hv, rv⟩ := s.obj _ _ _ hi q'
              cases q
              exact ⟨_, vs, rfl, .inl ⟨.inl (.inl hv), fun l hl => new_tup s (rv.un e) h hl⟩⟩
            · cases q
          | d a =>
            have sc : ∀ ns : List Int, p.ws F m H ((ns.map D.int).map W.d) (ns.map V.int) := fun ns => by
              rw [List.map_map]
              exact ints_ws ns
            cases a with
            | lst h1 _ rs => cases q; rw [unWs_map] at e; cases e; exact ⟨_, _, rfl, .inl ⟨.inl (.inl h1), fun l hl => new_tup s rs h hl⟩⟩
            | scr h1 _ => cases q; exact ⟨_, _, rfl, .inl ⟨.inl (.inr ⟨_, h1⟩), fun l hl => new_tup s ((sc _).un e) h hl⟩⟩
            | scrK h1 => cases q; exact ⟨_, _, rfl, .inl ⟨.inr h1, fun l hl => new_tup s ((sc _).un e) h hl⟩⟩
            | tup _ _ _ => exact absurd ⟨_, rfl⟩ ht
            | tupK _ _ _ => exact absurd ⟨_, rfl⟩ ht
            | _ => cases q
      · exact h.elim
    · exact h.elim
  · exact h.elim
end
end Pv

end

section
set_option linter.all false
set_option maxRecDepth 100000
set_option Elab.async false
set_option linter.all false
/-! Pv8: numbers and texts; methods. -/
namespace Pv
open PySem PySem.Spec PyProof.Rows L2
section
variable {p : Pr} {X : Cx} {Wx : WX} {F m m1 m' : List Addr} {H H1 H' : Hp} {σ : L2.St} {e : En} {S : Store}

/-! ### str(n), int(x) -/
theorem txt_num (n : Nat) : Str.ofString (toString ((n : Nat) : Int)) = txt (digitsN n) := by
  apply TL.ext_tl
  rw [TL.tl_num]
  show TL.numL n = (digitsN n).toArray.toList
  rw [List.toList_toArray]
  rfl
theorem txt_int (i : Int) : Str.ofString (toString i) = txt (textI i) := by
  unfold textI
  cases i with
  | ofNat n =>
    rw [if_neg (show ¬ Int.ofNat n < 0 from Int.not_lt.mpr (Int.natCast_nonneg n))]
    exact txt_num n
  | negSucc n =>
    rw [if_pos (by omega)]
    apply TL.ext_tl
    rw [TL.tl_ofString]
    show ("-" ++ Nat.repr (n + 1)).toList.map Char.toNat = (45 :: digitsN (n + 1)).toArray.toList
    rw [String.toList_append, List.map_append, Nat.toList_repr]
    rw [List.toList_toArray]
    rfl
def rStrI : List V → Hp → VK → Prop := fun xs H Q => ∃ i, xs = [.int i] ∧ i.natAbs.log2 < 1920 ∧ Q (.str (Str.ofString (toString i))) H
theorem fits_str : FitsL p (arg1 strF) rStrI := fits_arg1 fun F m H S σ Q Wx x v s rx h => by
  unfold strF at h
  split at h
  · cases rx with | d rx =>
    cases rx
    split at h
    · rename_i i hs
      refine ⟨i, rfl, Nat.le_of_ble_eq_true hs, ?_⟩
      rw [txt_int]
      exact h _ _ _ (Ext.refl _ _) (.d (.str _)) s
    · exact h.elim
  · exact h.elim
theorem digs_ok : ∀ (l : List Nat) (a v : Nat), digs l a = some v → NumText.AllDigits l ∧ v = l.foldl (fun acc c => acc * 10 + (c - 48)) a
  | [], a, v, h => by cases h; exact ⟨fun _ h => (nomatch h), rfl⟩
  | c :: r, a, v, h => by
    unfold digs at h
    split at h
    · rename_i hc
      simp only [Bool.and_eq_true] at hc
      obtain ⟨h1, h2⟩ := digs_ok r _ v h
      refine ⟨fun d hd => ?_, h2⟩
      rcases List.mem_cons.mp hd with e | hd
      · rw [e]; exact ⟨Nat.le_of_ble_eq_true hc.1, Nat.le_of_ble_eq_true hc.2⟩
      · exact h1 d hd
    · cases h
theorem intText_ok {x : List Nat} {n : Int} (h : intText x = some n) (hl : x.length ≤ 640) : PySem.intText? (txt x) = some n := by
  have tl : (txt x).cps.toList = x := by show x.toArray.toList = x; rw [List.toList_toArray]
  have hz : (txt x).length ≤ 4300 := by rw [txt_len]; omega
  unfold intText at h
  split at h
  · cases h
  · rename_i c r
    obtain ⟨k, e, rfl⟩ := Option.map_eq_some_iff.mp h
    obtain ⟨h1, h2⟩ := digs_ok _ _ _ e
    rw [intText_neg (cs := c :: r) tl h1 (by simp) hz]
    unfold NumText.digitsVal
    rw [h2]
  · rename_i c r _
    obtain ⟨k, e, rfl⟩ := Option.map_eq_some_iff.mp h
    obtain ⟨h1, h2⟩ := digs_ok _ _ _ e
    rw [intText_digits (by rw [tl]; exact h1) (by rw [tl]; simp) hz, tl]
    unfold NumText.digitsVal
    rw [h2]
def rIntA : List V → Hp → VK → Prop := fun xs H Q => ((∃ i, xs = [.int i] ∧ Q (.int i) H) ∨ ∃ k, xs = [.bl k] ∧ Q (.int (if k then 1 else 0)) H) ∨ ∃ a n, xs = [.str a] ∧ PySem.intText? a = some n ∧ a.length ≤ 640 ∧ Q (.int n) H
theorem call_intA : CallR X (.type "int") rIntA := CallR.or2 call_int1 call_int_str
theorem fits_int : FitsL p (arg1 intF) rIntA := fits_arg1 fun F m H S σ Q Wx x v s rx h => by
  unfold intF at h
  split at h
  · cases rx with | d rx =>
    cases rx
    exact .inl (.inl ⟨_, rfl, h _ _ _ (Ext.refl _ _) (.d (.int _)) s⟩)
  · cases rx with | d rx =>
    cases rx
    exact .inl (.inr ⟨_, rfl, h _ _ _ (Ext.refl _ _) (.d (.int _)) s⟩)
  · cases rx with | d rx =>
    cases rx
    split at h
    · rename_i x hl
      have hl := Nat.le_of_ble_eq_true hl
      split at h
      · rename_i n e
        exact .inr ⟨_, n, rfl, intText_ok e hl, by rw [txt_len]; exact hl, h _ _ _ (Ext.refl _ _) (.d (.int _)) s⟩
      · exact h.elim
    · exact h.elim
  · exact h.elim

/-! ### methods: the receiver's type is known when it has come -/
def TyM (K : PySem.W.Frag) (T : String) (x : V) (H : Hp) : Prop :=
  (T = "str" ∧ ∃ a, x = .str a) ∨ (T = "list" ∧ ∃ q xs, x = .ref q ∧ SqL K H q xs) ∨ (T = "dict" ∧ ∃ q, x = .ref q ∧ IsD H q)
theorem tyM_is {pins : List (Addr × Obj)} {s : Shared} {T : String} {x : V} {v : Value} (I : Inv X pins σ H s) (r : RelV x v) (ty : TyM X.K T x H) : s.TypeIs v T ∧ ∀ a, v = .ref a → ∃ ob, s.heap.get? a = some ob ∧ ob.dict = none := by
  rcases ty with ⟨rfl, a, rfl⟩ | ⟨rfl, q, xs, rfl, h⟩ | ⟨rfl, q, rfl, h⟩
  · obtain ⟨t, rfl⟩ := r
    exact ⟨typeIs_str _ _ _, fun _ e => nomatch e⟩
  · exact tyV_is I r (.inl ⟨rfl, xs, h⟩)
  · cases r
    obtain ⟨h1, h2, _⟩ := isD_at I h
    exact ⟨h1, h2⟩
structure MtAt (X : Cx) (name : Str) (x : V) (H : Hp) (r : V → List V → Hp → VK → Prop) : Prop where
  ex : ∃ (T id : String), PlainAttrs T ∧ Slot T name id ∧ typeOf (.builtin id) = pure (.type "method_descriptor") ∧ TyM X.K T x H ∧ MtR X id r
def tDM (X : Cx) (name : Str) (to : TE) (t : TA) : TE := fun σ H Q => to σ H fun x H1 => ∃ r, MtAt X name x H1 r ∧ t σ H1 fun vs H2 => r x vs H2 Q
theorem pe_dm {o a : Expr} {as : List Expr} {name : Str} {apos cpos : Pos} {to : TE} {t : TA} (ho : PE X o to) (ha : PA X (a :: as) t)
    (hbase : attributeBase o name X.env (eval o X.env) = eval o X.env)
    (hfew : ((backTo cpos (starEach (a :: as) X.env)).all (fun x => !x.1) && (backToKw cpos (keywordEach [] X.env)).all (fun x => x.1.isSome)
      && decide ((a :: as).length + ([] : List Keyword).length + (if ([] : List Keyword).isEmpty then 0 else 1) < 30)) = true)
    (hline : (apos.endLine == cpos.line) = true) (hs : starEach (a :: as) X.env = (false, eval a X.env) :: starEach as X.env) (hplain : (backTo cpos (starEach as X.env)).any (·.1) = false) :
    PE X (.Call (.Attribute o name apos) (a :: as) [] cpos) (tDM X name to t) := by
  refine ⟨fun pins s σ H Q I h => ?_⟩
  refine wpAny_Call_method_late hbase hfew hline rfl (thn (ho.run pins s σ H _ I h) fun v s1 ⟨x, H1, I1, r1, r, ⟨T, id, pa, slot, hty, ty, hm⟩, q1⟩ => ?_)
  obtain ⟨h1, h2⟩ := tyM_is I1 r1 ty
  refine ⟨T, id, pa, slot, hty, h1, h2, ?_⟩
  have hA := ha.run cpos pins s1 σ H1 _ I1 q1
  rw [hs] at hA ⊢
  refine Calls.callWith_builtin (by show (false || (backTo cpos (starEach as X.env)).any (·.1)) = false; rw [hplain] <;> rfl) (Calls.evalArgs_plain ?_)
  exact thn hA fun us s2 ⟨vs, H2, I2, r2, q2⟩ => hm pins s2 σ H2 x vs v us Q I2 r1 r2 q2
theorem pe_dm0 {o : Expr} {name : Str} {apos cpos : Pos} {to : TE} (ho : PE X o to)
    (hbase : attributeBase o name X.env (eval o X.env) = eval o X.env) (hline : (apos.endLine == cpos.line) = true) :
    PE X (.Call (.Attribute o name apos) [] [] cpos) (tDM X name to tNil) := by
  refine ⟨fun pins s σ H Q I h => ?_⟩
  refine wpAny_Call_method0_late hbase hline (thn (ho.run pins s σ H _ I h) fun v s1 ⟨x, H1, I1, r1, r, ⟨T, id, pa, slot, hty, ty, hm⟩, q1⟩ => ?_)
  obtain ⟨h1, h2⟩ := tyM_is I1 r1 ty
  exact ⟨T, id, pa, slot, hty, h1, h2, Calls.callWith_builtin rfl (PySem.evalArgs_none (hm pins s1 σ H1 x [] v [] Q I1 r1 .nil q1))⟩
/-- a method's meaning fits -/
def FitsM (p : Pr) (X : Cx) (name : Str) (ks : List Nat) (g : W → List W → Store → R W) : Prop :=
  ∀ (F m : List Addr) (H : Hp) (S : Store) (x : W) (v : V), p.st F m H S → p.w F m H x v → ks.contains (kindW S x) = true →
    ∃ r, MtAt X name v H r ∧ ∀ (m' : List Addr) (H' : Hp) (S' : Store) (σ : L2.St) (Q : VK) (Wx : WX) (ws : List W) (vs : List V), p.st F m' H' S' → p.w F m' H' x v → p.ws F m' H' ws vs → Post p p.w F H' m' σ Q Wx (g x ws S') → r v vs H' Q
def FitsMF (p : Pr) (X : Cx) (name : Str) (ks : List Nat) (g : W → List W → Store → R (List W)) : Prop :=
  ∀ (F m : List Addr) (H : Hp) (S : Store) (x : W) (v : V), p.st F m H S → p.w F m H x v → ks.contains (kindW S x) = true →
    ∃ r, MtAt X name v H r ∧ ∀ (m' : List Addr) (H' : Hp) (S' : Store) (σ : L2.St) (Q : VK) (Wx : WX) (ws : List W) (vs : List V), p.st F m' H' S' → p.w F m' H' x v → p.ws F m' H' ws vs → PostF p F H' m' σ Q Wx (g x ws S') → r v vs H' Q
theorem good_meth {to : TE} {t : TA} {name : Str} {ks : List Nat} {g : W → List W → Store → R W} {fo : EV} {fs : List EV} (hf : FitsM p X name ks g) (go : Good p p.w Wx to fo) (gs : Good p p.ws Wx t (argsF fs)) : Good p p.w Wx (tDM X name to t) (methE ks g fo fs) := by
  intro F H m e S σ Q r0 s h
  refine go.seq r0 s h fun x S1 v H1 m1 _ r1 rx s1 h1 => ?_
  split at h1
  · rename_i hk
    obtain ⟨r, hr, hq⟩ := hf F m1 H1 S1 x v s1 rx hk
    refine ⟨r, hr, ?_⟩
    exact gs.seq r1 s1 h1 fun ws S2 vs H2 m2 x2 r2 rw' s2 h2 => hq m2 H2 S2 σ Q Wx ws vs s2 (x2.w rx) rw' h2
  · exact h1.elim
theorem goodF_meth {to : TE} {t : TA} {name : Str} {ks : List Nat} {g : W → List W → Store → R (List W)} {fo : EV} {fs : List EV} (hf : FitsMF p X name ks g) (go : Good p p.w Wx to fo) (gs : Good p p.ws Wx t (argsF fs)) (F : List Addr) (H : Hp) (m : List Addr) (e : En) (S : Store) (σ : L2.St) (Q : VK) (r0 : p.en F m H e σ) (s : p.st F m H S) (h : PostF p F H m σ Q Wx (methF ks g fo fs e S)) : tDM X name to t σ H Q := by
  refine go.seqF r0 s h fun x S1 v H1 m1 _ r1 rx s1 h1 => ?_
  split at h1
  · rename_i hk
    obtain ⟨r, hr, hq⟩ := hf F m1 H1 S1 x v s1 rx hk
    refine ⟨r, hr, ?_⟩
    exact gs.seqF r1 s1 h1 fun ws S2 vs H2 m2 x2 r2 rw' s2 h2 => hq m2 H2 S2 σ Q Wx ws vs s2 (x2.w rx) rw' h2
  · exact h1.elim
theorem se_meth {o a : Expr} {as : List Expr} {name : Str} {apos cpos : Pos} {ks : List Nat} {g : W → List W → Store → R W} {fo : EV} {fs : List EV} (hf : FitsM p X name ks g)
    (hbase : attributeBase o name X.env (eval o X.env) = eval o X.env)
    (hfew : ((backTo cpos (starEach (a :: as) X.env)).all (fun x => !x.1) && (backToKw cpos (keywordEach [] X.env)).all (fun x => x.1.isSome)
      && decide ((a :: as).length + ([] : List Keyword).length + (if ([] : List Keyword).isEmpty then 0 else 1) < 30)) = true)
    (hline : (apos.endLine == cpos.line) = true) (hs : starEach (a :: as) X.env = (false, eval a X.env) :: starEach as X.env) (hplain : (backTo cpos (starEach as X.env)).any (·.1) = false)
    (ho : SE p X Wx o fo) (ha : SA p X Wx (a :: as) (argsF fs)) : SE p X Wx (.Call (.Attribute o name apos) (a :: as) [] cpos) (methE ks g fo fs) := by
  obtain ⟨to, po, go⟩ := ho
  obtain ⟨t, pt, gt⟩ := ha
  exact ⟨_, pe_dm po pt hbase hfew hline hs hplain, good_meth hf go gt⟩
theorem se_meth0 {o : Expr} {name : Str} {apos cpos : Pos} {ks : List Nat} {g : W → List W → Store → R W} {fo : EV} (hf : FitsM p X name ks g)
    (hbase : attributeBase o name X.env (eval o X.env) = eval o X.env) (hline : (apos.endLine == cpos.line) = true)
    (ho : SE p X Wx o fo) : SE p X Wx (.Call (.Attribute o name apos) [] [] cpos) (methE ks g fo []) := by
  obtain ⟨to, po, go⟩ := ho
  exact ⟨_, pe_dm0 po hbase hline, good_meth hf go fun F H m e S σ Q r0 s h => h [] H m (Ext.refl _ _) .nil s⟩
theorem sf_meth {o a : Expr} {as : List Expr} {name : Str} {apos cpos : Pos} {ks : List Nat} {g : W → List W → Store → R (List W)} {fo : EV} {fs : List EV} (hf : FitsMF p X name ks g)
    (hbase : attributeBase o name X.env (eval o X.env) = eval o X.env)
    (hfew : ((backTo cpos (starEach (a :: as) X.env)).all (fun x => !x.1) && (backToKw cpos (keywordEach [] X.env)).all (fun x => x.1.isSome)
      && decide ((a :: as).length + ([] : List Keyword).length + (if ([] : List Keyword).isEmpty then 0 else 1) < 30)) = true)
    (hline : (apos.endLine == cpos.line) = true) (hs : starEach (a :: as) X.env = (false, eval a X.env) :: starEach as X.env) (hplain : (backTo cpos (starEach as X.env)).any (·.1) = false)
    (ho : SE p X Wx o fo) (ha : SA p X Wx (a :: as) (argsF fs)) : SF p X Wx (.Call (.Attribute o name apos) (a :: as) [] cpos) (methF ks g fo fs) := by
  obtain ⟨to, po, go⟩ := ho
  obtain ⟨t, pt, gt⟩ := ha
  exact ⟨_, pe_dm po pt hbase hfew hline hs hplain, goodF_meth hf go gt⟩

/-! what has which kind -/
theorem kind1 {x : W} {v : V} (r : p.w F m H x v) (h : ([1] : List Nat).contains (kindW S x) = true) : ∃ z, x = .d (.str z) ∧ v = .str (txt z) := by
  cases r with
  | ref hi =>
    simp only [kindW] at h
    split at h <;> cases h
  | d r =>
    cases r with
    | str z => exact ⟨z, rfl, rfl⟩
    | _ => cases h
theorem kind2 {x : W} {v : V} (s : p.st F m H S) (r : p.w F m H x v) (h : ([2] : List Nat).contains (kindW S x) = true) : ∃ q xs, v = .ref q ∧ SqL p.K H q xs := by
  cases r with
  | ref hi =>
    simp only [kindW] at h
    split at h
    · rename_i q
      obtain ⟨vs, hv, _⟩ := s.obj _ _ _ hi q
      exact ⟨_, vs, rfl, .inl (.inl hv)⟩
    · cases h
    · cases h
  | d r =>
    cases r with
    | lst h1 _ _ => exact ⟨_, _, rfl, .inl (.inl h1)⟩
    | _ => cases h
theorem kind3 {x : W} {v : V} (s : p.st F m H S) (r : p.w F m H x v) (h : ([3] : List Nat).contains (kindW S x) = true) : ∃ q, v = .ref q ∧ IsD H q := by
  cases r with
  | ref hi =>
    simp only [kindW] at h
    split at h
    · cases h
    · rename_i tk kvs q
      cases tk with
      | false => obtain ⟨vs, hv, _⟩ := s.obj _ _ _ hi q; exact ⟨_, rfl, .inl ⟨_, .inl hv⟩⟩
      | true => obtain ⟨vs, hv, _⟩ := s.obj _ _ _ hi q; exact ⟨_, rfl, .inr ⟨_, .inl hv⟩⟩
    · cases h
  | d r =>
    cases r with
    | dK h1 _ _ => exact ⟨_, rfl, .inl ⟨_, h1⟩⟩
    | dT h1 _ _ => exact ⟨_, rfl, .inr ⟨_, h1⟩⟩
    | _ => cases h
/-! lists: append, extend, pop -/
theorem set_obj {i : Nat} {a : Addr} {ws : List W} {vs : List V} {Q : V → Hp → Prop} {r : W} {u : V} (s : p.st F m H S) (hi : m[i]? = some a) (rv : p.ws F m H ws vs) (ru : ∀ H', Ext H m H' m → p.w F m H' r u) (h : Post p p.w F H m σ Q Wx (.ok r (setO S i (.lst ws)))) : Q u (upd H a (.lst vs)) := by
  have hm : a ∈ m := List.mem_of_getElem? hi
  have x : Ext H m (upd H a (.lst vs)) m := Ext.set hm
  exact h u _ m x (ru _ x) (s.set hi ⟨vs, upd_same, x.ws rv⟩)
theorem fits_append (hK : X.K = p.K) : FitsM p X "append" [2] appendG := by
  intro F m H S x v s rx hk
  obtain ⟨q, xs, rfl, hq⟩ := kind2 s rx hk
  refine ⟨_, ⟨"list", _, PySem.F.plainAttrs_list, PySem.F.slot_list_append, PySem.F.type_list_append, .inr (.inl ⟨rfl, q, xs, rfl, hK ▸ hq⟩), mt_append⟩, fun m' H' S' σ Q Wx ws vs s' rx' rs h => ?_⟩
  unfold appendG at h
  split at h
  · rename_i i w _
    cases rs with | cons a b =>
    cases b
    split at h
    · rename_i ws q0
      cases rx' with | ref hi =>
      obtain ⟨vs, hv, rv⟩ := s'.obj _ _ _ hi q0
      split at h
      · rename_i hl
        refine ⟨_, vs, _, rfl, rfl, hv, ?_, set_obj s' hi (rv.app (.cons a .nil)) (fun _ _ => .d .non) h⟩
        rw [← RepWs.len rv, line]
        exact Nat.le_of_ble_eq_true hl
      · exact h.elim
    · exact h.elim
  · exact h.elim
theorem fits_extend (hK : X.K = p.K) : FitsM p X "extend" [2] extendG := by
  intro F m H S x v s rx hk
  obtain ⟨q, xs, rfl, hq⟩ := kind2 s rx hk
  refine ⟨_, ⟨"list", _, PySem.F.plainAttrs_list, PySem.F.slot_list_extend, PySem.F.type_list_extend, .inr (.inl ⟨rfl, q, xs, rfl, hK ▸ hq⟩), mt_extend⟩, fun m' H' S' σ Q Wx ws vs s' rx' rs h => ?_⟩
  unfold extendG at h
  split at h
  · cases rs with | cons a b =>
    cases b
    split at h
    · rename_i ws us q0 q1
      cases rx' with | ref hi =>
      obtain ⟨vs, hv, rv⟩ := s'.obj _ _ _ hi q0
      obtain ⟨l, us', rfl, hu, ru⟩ := itemsL_ok s' a q1
      split at h
      · rename_i hl
        refine ⟨_, l, vs, us', rfl, rfl, hv, hu, ?_, set_obj s' hi (rv.app ru) (fun _ _ => .d .non) h⟩
        rw [← RepWs.len rv, ← RepWs.len ru]
        exact smallN_ok hl
      · exact h.elim
    · exact h.elim
  · exact h.elim
theorem RepWs.dropLast {Z : List Addr} {ws : List W} {vs : List V} (r : RepWs p.kt p.K H Z m ws vs) : RepWs p.kt p.K H Z m ws.dropLast vs.dropLast := by
  rw [List.dropLast_eq_take, List.dropLast_eq_take, RepWs.len r]
  exact RepWs.take r _
theorem fits_pop (hK : X.K = p.K) : FitsM p X "pop" [2] popG := by
  intro F m H S x v s rx hk
  obtain ⟨q, xs, rfl, hq⟩ := kind2 s rx hk
  refine ⟨_, ⟨"list", _, PySem.F.plainAttrs_list, PySem.F.slot_list_pop, PySem.F.type_list_pop, .inr (.inl ⟨rfl, q, xs, rfl, hK ▸ hq⟩), mt_pop⟩, fun m' H' S' σ Q Wx ws vs s' rx' rs h => ?_⟩
  unfold popG at h
  split at h
  · cases rs
    split at h
    · rename_i ws q0
      cases rx' with | ref hi =>
      obtain ⟨vs, hv, rv⟩ := s'.obj _ _ _ hi q0
      split at h
      · rename_i w e
        obtain ⟨u, eu, ru⟩ := RepWs.get rv e
        exact ⟨_, vs, u, rfl, rfl, hv, by rw [← RepWs.len rv]; exact eu, set_obj s' hi (RepWs.dropLast rv) (fun _ x => x.w ru) h⟩
      · exact h.elim
    · exact h.elim
  · exact h.elim
end
end Pv

end

section
set_option linter.all false
set_option maxRecDepth 100000
set_option Elab.async false
set_option linter.all false
/-! Pv9: methods of texts; dicts: get, stores. -/
namespace Pv
open PySem PySem.Spec PyProof.Rows L2
section
variable {p : Pr} {X : Cx} {Wx : WX} {F m m1 m' : List Addr} {H H1 H' : Hp} {σ : L2.St} {e : En} {S : Store}
theorem tl_txt (x : List Nat) : TL.tl (txt x) = x := by show x.toArray.toList = x; rw [List.toList_toArray]
theorem txt_tl (x : Str) : txt (TL.tl x) = x := TL.ext_tl (tl_txt _)

/-! ### split -/
theorem spl_C (c : Nat) : ∀ (l acc : List Nat), TL.spl [c] 0 acc.reverse l = splitC c acc l
  | [], acc => rfl
  | x :: r, acc => by
    unfold splitC
    by_cases h : x = c
    · subst h
      rw [if_pos (by simp)]
      rw [TL.spl_hit (by simp [TL.pre])]
      have := spl_C x r []
      exact congrArg (acc.reverse :: ·) this
    · rw [if_neg (by simpa using h)]
      rw [TL.spl_miss (by simp [TL.pre, h])]
      rw [← spl_C c r (x :: acc), List.reverse_cons]
theorem split_ok {t : List Nat} {c : Nat} (hc : c < 128) : Txt.split (txt t) (txt [c]) = (splitC c [] t).map txt := by
  have h1 := TL.split_spl (txt t) (txt [c]) (by rw [tl_txt]; simp) (TL.kind_ok (by
    show (#[c] : Array Nat).all (· < 256) = true
    simp; omega))
  rw [tl_txt, tl_txt] at h1
  rw [show TL.spl [c] 0 [] t = splitC c [] t from spl_C c t []] at h1
  refine TL.map_tl_inj ?_
  rw [h1, List.map_map]
  exact ((List.map_congr_left fun x _ => tl_txt x).trans (List.map_id _)).symm
theorem txts_ws {Z : List Addr} : ∀ xs : List (List Nat), RepWs p.kt p.K H Z m (xs.map fun w => .d (.str w)) ((xs.map txt).map V.str)
  | [] => .nil
  | n :: r => .cons (.d (.str n)) (txts_ws r)
theorem fits_split : FitsMF p X "split" [1] splitG := by
  intro F m H S x v s rx hk
  obtain ⟨z, rfl, rfl⟩ := kind1 rx hk
  refine ⟨_, ⟨"str", _, PySem.F.plainAttrs_str, PySem.F.slot_str_split, PySem.F.type_str_split, .inl ⟨rfl, _, rfl⟩, mt_split⟩, fun m' H' S' σ Q Wx ws vs s' rx' rs h => ?_⟩
  unfold splitG at h
  split at h
  · rename_i t c e
    cases e
    cases rs with | cons a b =>
    cases b
    cases a with | d a =>
    cases a
    split at h
    · rename_i hs
      simp only [Bool.and_eq_true] at hs
      refine ⟨_, _, rfl, rfl, rfl, by rw [txt_len, line]; exact Nat.le_of_ble_eq_true hs.1, ?_⟩
      rw [split_ok (Nat.le_of_ble_eq_true hs.2)]
      exact fun q hq => newF s' (txts_ws _) h hq
    · exact h.elim
  · exact h.elim

/-! ### join -/
theorem joinL_T (s : List Nat) : ∀ xs : List (List Nat), TL.joinL s xs = joinL s xs
  | [] => rfl
  | [x] => rfl
  | x :: y :: r => by
    show x ++ (s ++ TL.joinL s (y :: r)) = x ++ (s ++ joinL s (y :: r))
    rw [joinL_T s (y :: r)]
theorem join_ok (s : List Nat) (xs : List (List Nat)) : Txt.join (txt s) (xs.map txt) = txt (joinL s xs) := by
  rw [TL.join_eq]
  apply TL.ext_tl
  rw [TL.tl_join, tl_txt, tl_txt, List.map_map, joinL_T]
  congr 1
  exact (List.map_congr_left fun x _ => tl_txt x).trans (List.map_id _)
theorem textsOf_rep {Z : List Addr} : ∀ {ws : List W} {vs : List V} {ns : List (List Nat)}, RepWs p.kt p.K H Z m ws vs → textsOf ws = some ns → vs = (ns.map txt).map V.str
  | [], _, _, .nil, h => by cases h; rfl
  | .d (.str i) :: r, _, _, .cons a b, h => by
    cases a with | d a =>
    cases a
    unfold textsOf at h
    obtain ⟨ns, e, rfl⟩ := Option.map_eq_some_iff.mp h
    rw [textsOf_rep b e]; rfl
  | .ref _ :: _, _, _, .cons _ _, h => by cases h
  | .d .non :: _, _, _, .cons _ _, h => by cases h
  | .d (.bl _) :: _, _, _, .cons _ _, h => by cases h
  | .d (.int _) :: _, _, _, .cons _ _, h => by cases h
  | .d (.tup _) :: _, _, _, .cons _ _, h => by cases h
  | .d (.lst _) :: _, _, _, .cons _ _, h => by cases h
  | .d (.scr _) :: _, _, _, .cons _ _, h => by cases h
  | .d (.dct _ _) :: _, _, _, .cons _ _, h => by cases h
theorem fits_join (hK : X.K = p.K) : FitsM p X "join" [1] joinG := by
  intro F m H S x v s rx hk
  obtain ⟨z, rfl, rfl⟩ := kind1 rx hk
  refine ⟨_, ⟨"str", _, PySem.F.plainAttrs_str, PySem.F.slot_str_join, PySem.F.type_str_join, .inl ⟨rfl, _, rfl⟩, mt_join⟩, fun m' H' S' σ Q Wx ws vs s' rx' rs h => ?_⟩
  unfold joinG at h
  split at h
  · rename_i t y e
    cases e
    cases rs with | cons a b =>
    cases b
    split at h
    · rename_i xs q
      obtain ⟨us, e1, e2⟩ := Option.bind_eq_some_iff.mp q
      obtain ⟨l, vs, rfl, hq, rv⟩ := itemsS_ok s' a e1
      have := textsOf_rep rv e2
      subst this
      split at h
      · rename_i hl
        refine ⟨txt z, l, xs.map txt, rfl, rfl, by rw [hK]; exact hq, ?_, ?_⟩
        · rw [List.map_map, List.length_map, txt_len]
          have : (List.map ((fun x => x.length) ∘ txt) xs) = xs.map List.length := List.map_congr_left fun x _ => txt_len x
          rw [this]
          exact Nat.le_of_ble_eq_true hl
        · rw [join_ok]
          exact h _ _ _ (Ext.refl _ _) (.d (.str _)) s'
      · exact h.elim
    · exact h.elim
  · exact h.elim

/-! ### startswith, index -/
theorem starts_ok (x y : List Nat) : Txt.startswith (txt x) (txt y) = y.isPrefixOf x := by
  unfold Txt.startswith
  rw [PySem.StrLaws.subAt_eq, txt_len, txt_len]
  show (decide (0 + y.length ≤ x.length) && (List.take y.length ((txt x).cps.toList.drop 0) == (txt y).cps.toList)) = _
  rw [show (txt x).cps.toList = x from tl_txt x, show (txt y).cps.toList = y from tl_txt y, List.drop_zero]
  by_cases h : y.isPrefixOf x = true
  · rw [h]
    have h' := List.isPrefixOf_iff_prefix.mp h
    rw [decide_eq_true (by have := h'.length_le; omega), Bool.true_and, beq_iff_eq]
    exact (List.prefix_iff_eq_take.mp h').symm
  · rw [Bool.not_eq_true] at h
    rw [h]
    by_cases h2 : List.take y.length x = y
    · have : y <+: x := List.prefix_iff_eq_take.mpr h2.symm
      rw [List.isPrefixOf_iff_prefix.mpr this] at h; cases h
    · rw [beq_eq_false_iff_ne.mpr h2, Bool.and_false]
theorem fits_starts : FitsM p X "startswith" [1] startsG := by
  intro F m H S x v s rx hk
  obtain ⟨z, rfl, rfl⟩ := kind1 rx hk
  refine ⟨_, ⟨"str", _, PySem.F.plainAttrs_str, PySem.F.slot_str_startswith, PySem.F.type_str_startswith, .inl ⟨rfl, _, rfl⟩, mt_startswith⟩, fun m' H' S' σ Q Wx ws vs s' rx' rs h => ?_⟩
  unfold startsG at h
  split at h
  · rename_i t y e
    cases e
    cases rs with | cons a b =>
    cases b
    cases a with | d a =>
    cases a
    refine ⟨_, _, rfl, rfl, ?_⟩
    rw [starts_ok]
    exact h _ _ _ (Ext.refl _ _) (.d (.bl _)) s'
  · exact h.elim
theorem filter_one {c : Nat} : ∀ {x : List Nat} {i j : Nat}, (x.filter (· == c)).length = 1 → x[i]? = some c → x[j]? = some c → i = j
  | [], i, j, _, h, _ => by simp at h
  | a :: r, 0, 0, _, _, _ => rfl
  | a :: r, 0, j + 1, hl, h1, h2 => by
    cases h1
    rw [List.filter_cons_of_pos (by simp), List.length_cons] at hl
    have : c ∈ r.filter (· == c) := List.mem_filter.mpr ⟨List.mem_of_getElem? (by simpa using h2), by simp⟩
    rw [List.length_eq_zero_iff.mp (by omega : (r.filter (· == c)).length = 0)] at this
    cases this
  | a :: r, i + 1, 0, hl, h1, h2 => by
    cases h2
    rw [List.filter_cons_of_pos (by simp), List.length_cons] at hl
    have : c ∈ r.filter (· == c) := List.mem_filter.mpr ⟨List.mem_of_getElem? (by simpa using h1), by simp⟩
    rw [List.length_eq_zero_iff.mp (by omega : (r.filter (· == c)).length = 0)] at this
    cases this
  | a :: r, i + 1, j + 1, hl, h1, h2 => by
    by_cases h : a = c
    · subst h
      rw [List.filter_cons_of_pos (by simp), List.length_cons] at hl
      have : a ∈ r.filter (· == a) := List.mem_filter.mpr ⟨List.mem_of_getElem? (by simpa using h1), by simp⟩
      rw [List.length_eq_zero_iff.mp (by omega : (r.filter (· == a)).length = 0)] at this
      cases this
    · rw [List.filter_cons_of_neg (by simpa using h)] at hl
      exact congrArg (· + 1) (filter_one hl (by simpa using h1) (by simpa using h2))
theorem fits_index : FitsM p X "index" [1] indexG := by
  intro F m H S x v s rx hk
  obtain ⟨z, rfl, rfl⟩ := kind1 rx hk
  refine ⟨_, ⟨"str", _, PySem.F.plainAttrs_str, PySem.F.slot_str_index, PySem.F.type_str_index, .inl ⟨rfl, _, rfl⟩, mt_sindex⟩, fun m' H' S' σ Q Wx ws vs s' rx' rs h => ?_⟩
  unfold indexG at h
  split at h
  · rename_i t c e
    cases e
    cases rs with | cons a b =>
    cases b
    cases a with | d a =>
    cases a
    split at h
    · rename_i i q
      split at h
      · rename_i hf
        have hf : (z.filter (· == c)).length = 1 := by simpa using hf
        have hi : z[i]? = some c := by
          obtain ⟨h1, h2, _⟩ := List.findIdx?_eq_some_iff_getElem.mp q
          rw [List.getElem?_eq_getElem h1]
          simpa using h2
        have hm : c ∈ (txt z).cps.toList := by rw [show (txt z).cps.toList = z from tl_txt z]; exact List.mem_of_getElem? hi
        have ho := PySem.StrLaws.found_one (txt z) c
        cases qo : Builtin.Str.occurrences (txt z) (txt [c]) 0 (txt z).length 1 with
        | nil =>
          have ho' : (!(Builtin.Str.occurrences (txt z) (txt [c]) 0 (txt z).length 1).isEmpty) = decide (c ∈ (txt z).cps.toList) := ho
          rw [qo, decide_eq_true hm] at ho'
          cases ho'
        | cons k rest =>
          have hk := PySem.StrLaws.occ_spec (txt z) (txt [c]) 0 (txt z).length 1 k (by rw [qo]; exact List.mem_cons_self)
          have hz : z[k]? = some c := by
            have := (PySem.StrLaws.subAt_one (txt z) c k).mp hk
            rwa [show (txt z).cps.toList = z from tl_txt z] at this
          have : i = k := filter_one hf hi hz
          subst this
          exact ⟨_, _, i, rest, rfl, rfl, qo, h _ _ _ (Ext.refl _ _) (.d (.int _)) s'⟩
      · exact h.elim
    · exact h.elim
  · exact h.elim
end
end Pv

end

section
set_option linter.all false
set_option maxRecDepth 100000
set_option Elab.async false
set_option linter.all false
/-! Pv10: targets, what is walked, statements. -/
namespace Pv
open PySem PySem.Spec PyProof.Rows L2
section
variable {p : Pr} {X : Cx} {Wx : WX} {F m m1 m' : List Addr} {H H1 H' : Hp} {σ : L2.St} {e : En} {S : Store}

/-! ### slots forgotten -/
theorem wipe_get (σ : L2.St) : ∀ (vs : List Nat) (j : Nat), (wipe σ vs)[j]? = if j ∈ vs then (if j < σ.length then some none else none) else σ[j]?
  | [], j => by simp [wipe]
  | v :: vs, j => by
    unfold wipe
    by_cases h : v = j
    · subst h
      rw [if_pos List.mem_cons_self]
      by_cases hl : v < σ.length
      · rw [if_pos hl, List.getElem?_set_self (by rw [wipe_length]; exact hl)]
      · rw [if_neg hl, List.getElem?_eq_none (by rw [List.length_set, wipe_length]; omega)]
    · rw [List.getElem?_set_ne h, wipe_get σ vs j]
      by_cases h2 : j ∈ vs
      · rw [if_pos h2, if_pos (List.mem_cons_of_mem _ h2)]
      · rw [if_neg h2, if_neg (by simp [h2]; exact fun z => h z.symm)]
theorem wipe_ext {σ σ' : L2.St} {us : List Nat} (hl : σ'.length = σ.length) (h : ∀ j, j ∉ us → σ'[j]? = σ[j]?) : wipe σ' us = wipe σ us := by
  apply List.ext_getElem?
  intro j
  rw [wipe_get, wipe_get, hl]
  by_cases hj : j ∈ us
  · rw [if_pos hj, if_pos hj]
  · rw [if_neg hj, if_neg hj, h j hj]
/-- σ' differs from σ at vs alone -/
def Near (vs : List Nat) (σ σ' : L2.St) : Prop := σ'.length = σ.length ∧ ∀ j, j ∉ vs → σ'[j]? = σ[j]?
theorem Near.refl {vs : List Nat} {σ : L2.St} : Near vs σ σ := ⟨rfl, fun _ _ => rfl⟩
theorem Near.set {i : Nat} {σ : L2.St} {v : Option V} : Near [i] σ (σ.set i v) := ⟨List.length_set, fun j h => List.getElem?_set_ne (by simp at h; exact fun z => h z.symm)⟩
theorem Near.trans {vs us : List Nat} {σ σ' σ'' : L2.St} (a : Near vs σ σ') (b : Near us σ' σ'') : Near (vs ++ us) σ σ'' :=
  ⟨b.1.trans a.1, fun j h => (b.2 j fun z => h (List.mem_append_right _ z)).trans (a.2 j fun z => h (List.mem_append_left _ z))⟩
theorem Near.wipe {vs us : List Nat} {σ σ' : L2.St} (a : Near vs σ σ') (h : ∀ j ∈ vs, j ∈ us) : L2.wipe σ' us = L2.wipe σ us := wipe_ext a.1 fun j hj => a.2 j fun z => hj (h j z)

/-! ### targets -/
def PostG (p : Pr) (vs : List Nat) (F : List Addr) (H : Hp) (m : List Addr) (σ : L2.St) (Q : L2.St → Hp → Prop) (Wx : WX) : R En → Prop
  | .ok e S => ∀ σ' H' m', Ext H m H' m' → Near vs σ σ' → p.en F m' H' e σ' → p.st F m' H' S → Q σ' H'
  | .exc x S => ∀ cls dx σ' H' m', Ext H m H' m' → p.XR x cls dx H' → p.st F m' H' S → Wx cls dx σ' H'
  | .stuck => False
def SG (p : Pr) (X : Cx) (Wx : WX) (vs : List Nat) (tg : Expr) (g : GV) : Prop := ∃ t, PG X tg t ∧ ∀ (F : List Addr) (H : Hp) (m : List Addr) (e : En) (S : Store) (σ : L2.St) (w : W) (v : V) (Q : L2.St → Hp → Prop),
  p.en F m H e σ → p.st F m H S → p.w F m H w v → PostG p vs F H m σ Q Wx (g w e S) → t v σ H Q
def SGs (p : Pr) (X : Cx) (Wx : WX) (vs : List Nat) (ts : List Expr) (gs : List GV) : Prop := ∃ t, PGs X ts t ∧ ∀ (F : List Addr) (H : Hp) (m : List Addr) (e : En) (S : Store) (σ : L2.St) (ws : List W) (us : List V) (Q : L2.St → Hp → Prop),
  p.en F m H e σ → p.st F m H S → p.ws F m H ws us → PostG p vs F H m σ Q Wx (eachG gs ws e S) → t us σ H Q
theorem sg_name {i : Nat} {x : Str} {pos : Pos} (hN : X.N.Nodup) (hi : X.N[i]? = some x) (hx : Loc X.env.scope x) (hf : X.fn x = true ∨ X.env.scope.names.lookup x = some .local) : SG p X Wx [i] (.Name x pos) (nameG i) :=
  ⟨_, pg_name hN hi hx hf, fun F H m e S σ w v Q r s rw' h => h _ _ _ (Ext.refl _ _) Near.set (r.set rw') s⟩
theorem sgs_nil : SGs p X Wx [] [] [] := ⟨_, pgs_nil, fun F H m e S σ ws us Q r s rs h => by
  cases rs with
  | nil => exact ⟨rfl, h _ _ _ (Ext.refl _ _) Near.refl r s⟩
  | cons => exact h.elim⟩
theorem sgs_cons {t : Expr} {ts : List Expr} {g : GV} {gs : List GV} {vs us : List Nat} (h1 : SG p X Wx vs t g) (h2 : SGs p X Wx us ts gs)
    (hs : (assignEach (t :: ts) X.env).map (·.2) = assign t X.env :: (assignEach ts X.env).map (·.2)) : SGs p X Wx (vs ++ us) (t :: ts) (g :: gs) := by
  obtain ⟨t1, p1, g1⟩ := h1
  obtain ⟨t2, p2, g2⟩ := h2
  refine ⟨_, pgs_cons p1 p2 hs, fun F H m e S σ ws us' Q r s rs h => ?_⟩
  cases rs with
  | nil => exact h.elim
  | cons a b =>
    rename_i w v ws us
    refine ⟨v, us, rfl, g1 F H m e S σ w v _ r s a ?_⟩
    unfold eachG at h
    cases q : g w e S with
    | exc x S1 => rw [q] at h; exact h
    | stuck => rw [q] at h; exact h
    | ok e1 S1 =>
      rw [q] at h
      intro σ1 H1 m1 x n r1 s1
      refine g2 F H1 m1 e1 S1 σ1 ws us Q r1 s1 (x.ws b) ?_
      simp only [R.bind] at h
      cases q2 : eachG gs ws e1 S1 with
      | exc x' S2 =>
        rw [q2] at h
        exact fun cls dx σ' H' m' y => h cls dx σ' H' m' (x.trans y)
      | stuck => rw [q2] at h; exact h
      | ok e2 S2 =>
        rw [q2] at h
        exact fun σ' H' m' y n' => h σ' H' m' (x.trans y) (n.trans n')
theorem sg_tup {ts : List Expr} {gs : List GV} {vs : List Nat} {k n : Nat} {pos : Pos} (hK : X.K = p.K) (hc : X.calm = true) (h : SGs p X Wx vs ts gs) (hgl : gs.length = n)
    (hn : (assignEach ts X.env).length = n) (hst : (assignEach ts X.env).findIdx? (·.1) = none) : SG p X Wx vs (.Tuple ts k pos) (tupG gs) := by
  obtain ⟨t, pt, g⟩ := h
  refine ⟨_, pg_tup hc pt hn hst, fun F H m e S σ w v Q r s rw' h => ?_⟩
  unfold tupG at h
  split at h
  · rename_i xs
    cases rw' with | d rd =>
    obtain ⟨a, vs', rfl, ha, rs⟩ := rd.tupAt
    split at h
    · rename_i hl
      exact ⟨a, vs', rfl, hK ▸ ha, by rw [← rs.length, ← hgl]; simpa using hl, g F H m e S σ _ vs' Q r s rs.ws h⟩
    · exact h.elim
  · exact h.elim
/-! o[i] = w -/
def rSetD : TSet := fun o i v H Q => ∃ a H', o = .ref a ∧ DPut H a i v H' ∧ Q H'
def rSetA : TSet := fun o i v H Q => rSetL o i v H Q ∨ rSetD o i v H Q
theorem set_all (hu : X.A.units + 1 < cLine) : PSet X rSetA := by
  intro pins s σ H o i v ov iv u Q I ro ri rv h
  rcases h with h | ⟨a, H', rfl, g, q⟩
  · exact set_list pins s σ H o i v ov iv u Q I ro ri rv h
  · cases ro
    exact d_setItem hu I g ri rv fun s3 I3 => ⟨H', I3, q⟩
theorem hasK_K {kvs : List (D × W)} {ks : List (Key × V)} {Z : List Addr} (r : RepKW p.kt p.K H Z m kvs ks) {k : D} {κ : Key} (h : keyOf k = some κ) : hasK kvs k = ks.any fun kv => decide (kv.1 = κ) := by
  induction r with
  | nil => rfl
  | cons hk _ _ ih =>
    show (eqK _ k || hasK _ k) = _
    rw [List.any_cons, eqK_key hk h, ih]
theorem repK_K {kvs : List (D × W)} {ks : List (Key × V)} {Z : List Addr} (r : RepKW p.kt p.K H Z m kvs ks) {k : D} {κ : Key} {w : W} {v : V} (h : keyOf k = some κ) (rw' : RepW p.kt p.K H Z m w v) :
    RepKW p.kt p.K H Z m (repK kvs k w) (ks.map fun kv => if kv.1 = κ then (kv.1, v) else kv) := by
  induction r with
  | nil => exact .nil
  | @cons k' w' κ' v' ds vs hk hw _ ih =>
    rw [List.map_cons]
    unfold repK
    rw [eqK_key hk h]
    by_cases e : κ' = κ
    · rw [decide_eq_true e, if_pos rfl, if_pos e]
      exact .cons hk rw' ih
    · rw [decide_eq_false e, if_neg Bool.false_ne_true, if_neg e]
      exact .cons hk hw ih
theorem kw_app {a b : List (D × W)} {ka kb : List (Key × V)} {Z : List Addr} (r : RepKW p.kt p.K H Z m a ka) (r' : RepKW p.kt p.K H Z m b kb) : RepKW p.kt p.K H Z m (a ++ b) (ka ++ kb) := by
  induction r with
  | nil => exact r'
  | cons h1 h2 _ ih => exact .cons h1 h2 ih
theorem putK_K {kvs : List (D × W)} {ks : List (Key × V)} {Z : List Addr} (r : RepKW p.kt p.K H Z m kvs ks) {k : D} {κ : Key} {w : W} {v : V} (h : keyOf k = some κ) (rw' : RepW p.kt p.K H Z m w v) : RepKW p.kt p.K H Z m (Pv.putK kvs k w) (L2.putK ks κ v) := by
  unfold Pv.putK L2.putK
  rw [hasK_K r h]
  split
  · exact repK_K r h rw'
  · exact kw_app r (.cons h rw' .nil)
theorem hasK_T {kvs : List (D × W)} {ks : List (List Key × V)} {Z : List Addr} (r : RepTW p.kt p.K H Z m kvs ks) {k : List D} {κ : List Key} (h : keysOf k = some κ) : hasK kvs (.tup k) = ks.any fun kv => decide (kv.1 = κ) := by
  induction r with
  | nil => rfl
  | @cons k' w' κ' v' ds vs hk _ _ _ ih =>
    show (eqK (.tup k') (.tup k) || hasK _ (.tup k)) = _
    rw [List.any_cons, ih, show eqK (.tup k') (.tup k) = decide (κ' = κ) from eqDs_keys hk h]
theorem repK_T {kvs : List (D × W)} {ks : List (List Key × V)} {Z : List Addr} (r : RepTW p.kt p.K H Z m kvs ks) {k : List D} {κ : List Key} {w : W} {v : V} (h : keysOf k = some κ) (rw' : RepW p.kt p.K H Z m w v) :
    RepTW p.kt p.K H Z m (repK kvs (.tup k) w) (ks.map fun kv => if kv.1 = κ then (kv.1, v) else kv) := by
  induction r with
  | nil => exact .nil
  | @cons k' w' κ' v' ds vs hk hz hw _ ih =>
    rw [List.map_cons]
    unfold repK
    rw [show eqK (.tup k') (.tup k) = decide (κ' = κ) from eqDs_keys hk h]
    by_cases e : κ' = κ
    · rw [decide_eq_true e, if_pos rfl, if_pos e]
      exact .cons hk hz rw' ih
    · rw [decide_eq_false e, if_neg Bool.false_ne_true, if_neg e]
      exact .cons hk hz hw ih
theorem tw_app {a b : List (D × W)} {ka kb : List (List Key × V)} {Z : List Addr} (r : RepTW p.kt p.K H Z m a ka) (r' : RepTW p.kt p.K H Z m b kb) : RepTW p.kt p.K H Z m (a ++ b) (ka ++ kb) := by
  induction r with
  | nil => exact r'
  | cons h1 hz h2 _ ih => exact .cons h1 hz h2 ih
theorem putK_T {kvs : List (D × W)} {ks : List (List Key × V)} {Z : List Addr} (r : RepTW p.kt p.K H Z m kvs ks) {k : List D} {κ : List Key} {w : W} {v : V} (h : keysOf k = some κ) (hz : keyT p.kt (.tup k) = true) (rw' : RepW p.kt p.K H Z m w v) : RepTW p.kt p.K H Z m (Pv.putK kvs (.tup k) w) (L2.putK ks κ v) := by
  unfold Pv.putK L2.putK
  rw [hasK_T r h]
  split
  · exact repK_T r h rw'
  · exact tw_app r (.cons h hz rw' .nil)
/-- a store into a thing of the store -/
theorem setIx_ok {x i w : W} {vx vi vw : V} {S' : Store} (s : p.st F m H S) (rx : p.w F m H x vx) (ri : p.w F m H i vi) (rw' : p.w F m H w vw) (h : setIx p.kt x i w S = .ok () S') :
    ∃ a o, a ∈ m ∧ p.st F m (upd H a o) S' ∧ ∀ Q : Hp → Prop, Q (upd H a o) → rSetA vx vi vw H Q := by
  unfold setIx at h
  split at h
  · rename_i r k
    cases rx with | ref hr =>
    rename_i a
    cases ri with | d ri =>
    have hm : a ∈ m := List.mem_of_getElem? hr
    split at h
    · rename_i ws q
      obtain ⟨vs, hv, rv⟩ := s.obj _ _ _ hr q
      split at h
      · rename_i j
        cases ri
        split at h
        · rename_i pl e
          cases h
          rw [plN_I] at e
          have x : Ext H m (upd H a (.lst (vs.set pl vw))) m := Ext.set hm
          refine ⟨a, .lst (vs.set pl vw), hm, s.set hr ⟨_, upd_same, x.ws (RepWs.set rv rw' pl)⟩, fun Q hq => .inl ⟨a, vs, j, pl, rfl, rfl, hv, by rw [← RepWs.len rv]; exact e, hq⟩⟩
        · cases h
      · cases h
    · rename_i tk kvs q
      split at h
      · rename_i hk
        cases h
        simp only [Bool.and_eq_true] at hk
        cases tk with
        | false =>
          obtain ⟨ks, hv, rv⟩ := s.obj _ _ _ hr q
          obtain ⟨κ, e, rfl⟩ := keyOf_rep ri hk.1
          have x : Ext H m (upd H a (.dK (L2.putK ks κ vw))) m := Ext.set hm
          refine ⟨a, .dK (L2.putK ks κ vw), hm, s.set hr ⟨_, upd_same, x.kw (putK_K rv e rw')⟩, fun Q hq => .inr ⟨a, _, rfl, .inl ⟨ks, κ, hv, rfl, ?_, rfl⟩, hq⟩⟩
          rw [← RepKW.len rv, line]
          exact Nat.le_of_ble_eq_true hk.2
        | true =>
          obtain ⟨ks, hv, rv⟩ := s.obj _ _ _ hr q
          obtain ⟨ds, κs, b, rfl, e, rfl, hb⟩ := keyT_rep ri hk.1
          have x : Ext H m (upd H a (.dT (L2.putK ks κs vw))) m := Ext.set hm
          refine ⟨a, .dT (L2.putK ks κs vw), hm, s.set hr ⟨_, upd_same, x.tw (putK_T rv e hk.1 rw')⟩, fun Q hq => .inr ⟨a, _, rfl, .inr ⟨ks, κs, b, hv, rfl, hb, ?_, rfl⟩, hq⟩⟩
          rw [← RepTW.len rv, line]
          exact Nat.le_of_ble_eq_true hk.2
      · cases h
    · cases h
  · cases h
theorem setIx_exc {kt : List (List D)} {x i w : W} {x' : Xc} {S' : Store} (h : setIx kt x i w S = .exc x' S') : False := by
  unfold setIx at h
  split at h
  · split at h
    · split at h
      · split at h <;> cases h
      · cases h
    · split at h <;> cases h
    · cases h
  · cases h
/-- what ahead of the end is kept -/
theorem PostG.ext {vs : List Nat} {Q : L2.St → Hp → Prop} {r : R En} (x : Ext H m H1 m1) (h : PostG p vs F H m σ Q Wx r) : PostG p vs F H1 m1 σ Q Wx r := by
  cases r with
  | ok a S => exact fun v H' m' y => h v H' m' (x.trans y)
  | exc x' S => exact fun cls dx σ' H' m' y => h cls dx σ' H' m' (x.trans y)
  | stuck => exact h
theorem Good.seqG {α β : Type} {Rel : RelT α β} {t : L2.St → Hp → (β → Hp → Prop) → Prop} {f : En → Store → R α} {k : α → Store → R En} {vs : List Nat} {Q : L2.St → Hp → Prop} {Q1 : β → Hp → Prop}
    (g : Good p Rel Wx t f) (r : p.en F m H e σ) (s : p.st F m H S) (h : PostG p vs F H m σ Q Wx ((f e S).bind k))
    (hk : ∀ a S1 v H1 m1, Ext H m H1 m1 → p.en F m1 H1 e σ → Rel F m1 H1 a v → p.st F m1 H1 S1 → PostG p vs F H1 m1 σ Q Wx (k a S1) → Q1 v H1) : t σ H Q1 := by
  refine g F H m e S σ Q1 r s ?_
  cases q : f e S with
  | ok a S1 =>
    rw [q] at h
    exact fun v H' m' x rel s' => hk a S1 v H' m' x (x.env r) rel s' (h.ext x)
  | exc x S1 => rw [q] at h; exact fun cls dx H' m' y => h cls dx σ H' m' y
  | stuck => rw [q] at h; exact h
theorem sg_sub {o i : Expr} {fo fi : EV} {pos : Pos} (hu : X.A.units + 1 < cLine) (ho : SE p X Wx o fo) (hi : SE p X Wx i fi)
    (ha : ∀ v, assign (.Subscript o i pos) X.env v = (do
      let ov ← holding [v] (eval o X.env)
      let iv ← holding [v, ov] (eval i X.env)
      standAt pos
      holding [v, ov, iv] (setItem ov iv v)
      release [v, ov, iv] [])) : SG p X Wx [] (.Subscript o i pos) (subG p.kt fo fi) := by
  obtain ⟨to, po, go⟩ := ho
  obtain ⟨ti, pi, gi⟩ := hi
  refine ⟨_, pg_sub po pi (set_all hu) ha, fun F H m e S σ w v Q r s rw' h => ?_⟩
  refine go.seqG r s h fun x S1 vx H1 m1 x1 r1 rx s1 h1 => ?_
  refine gi.seqG r1 s1 h1 fun y S2 vy H2 m2 x2 r2 ry s2 h2 => ?_
  cases q : setIx p.kt x y w S2 with
  | stuck => rw [q] at h2; exact h2.elim
  | exc x' S3 => exact (setIx_exc q).elim
  | ok u S3 =>
    rw [q] at h2
    obtain ⟨a, ob, hm, s3, fin⟩ := setIx_ok s2 (x2.w rx) ry ((x1.trans x2).w rw') q
    have x3 : Ext H2 m2 (upd H2 a ob) m2 := Ext.set hm
    exact fin _ (h2 σ _ m2 x3 Near.refl (x3.env r2) s3)
end
end Pv

end

section
set_option linter.all false
set_option maxRecDepth 100000
set_option Elab.async false
set_option linter.all false
/-! Pv11: statements. -/
namespace Pv
open PySem PySem.Spec PyProof.Rows L2
section
variable {p : Pr} {X : Cx} {Wx : WX} {F m m1 m' : List Addr} {H H1 H' : Hp} {σ : L2.St} {e : En} {S : Store}
def PostS (p : Pr) (F : List Addr) (H : Hp) (m : List Addr) (D : Ends) (Wx : WX) : SO → Prop
  | .nx e S => ∀ σ' H' m', Ext H m H' m' → p.en F m' H' e σ' → p.st F m' H' S → D.nx σ' H'
  | .bk e S => ∀ σ' H' m', Ext H m H' m' → p.en F m' H' e σ' → p.st F m' H' S → D.bk σ' H'
  | .ct e S => ∀ σ' H' m', Ext H m H' m' → p.en F m' H' e σ' → p.st F m' H' S → D.ct σ' H'
  | .rt w S => ∀ v H' m', Ext H m H' m' → p.w F m' H' w v → p.st F m' H' S → D.rt v H'
  | .exc x e S => ∀ cls dx σ' H' m', Ext H m H' m' → p.XR x cls dx H' → p.st F m' H' S → Wx cls dx σ' H'
  | .stuck => False
def GoodS (p : Pr) (Wx : WX) (t : TS) (f : SV) : Prop := ∀ (F : List Addr) (H : Hp) (m : List Addr) (e : En) (S : Store) (σ : L2.St) (D : Ends), p.en F m H e σ → p.st F m H S → PostS p F H m D Wx (f e S) → t D σ H
def SS (p : Pr) (X : Cx) (Wx : WX) (st : Stmt) (f : SV) : Prop := ∃ t, PS X st t ∧ GoodS p Wx t f
def SSs (p : Pr) (X : Cx) (Wx : WX) (st : List Stmt) (f : SV) : Prop := ∃ t, PSs X st t ∧ GoodS p Wx t f
theorem PostS.ext {D : Ends} {r : SO} (x : Ext H m H1 m1) (h : PostS p F H m D Wx r) : PostS p F H1 m1 D Wx r := by
  cases r with
  | nx e S => exact fun σ' H' m' y => h σ' H' m' (x.trans y)
  | bk e S => exact fun σ' H' m' y => h σ' H' m' (x.trans y)
  | ct e S => exact fun σ' H' m' y => h σ' H' m' (x.trans y)
  | rt w S => exact fun v H' m' y => h v H' m' (x.trans y)
  | exc x' e S => exact fun cls dx σ' H' m' y => h cls dx σ' H' m' (x.trans y)
  | stuck => exact h
theorem Good.seqS {α β : Type} {Rel : RelT α β} {t : L2.St → Hp → (β → Hp → Prop) → Prop} {f : En → Store → R α} {k : α → Store → SO} {D : Ends} {Q1 : β → Hp → Prop} {e0 : En}
    (g : Good p Rel Wx t f) (r : p.en F m H e σ) (s : p.st F m H S) (h : PostS p F H m D Wx ((f e S).so e0 k))
    (hk : ∀ a S1 v H1 m1, Ext H m H1 m1 → p.en F m1 H1 e σ → Rel F m1 H1 a v → p.st F m1 H1 S1 → PostS p F H1 m1 D Wx (k a S1) → Q1 v H1) : t σ H Q1 := by
  refine g F H m e S σ Q1 r s ?_
  cases q : f e S with
  | ok a S1 =>
    rw [q] at h
    exact fun v H' m' x rel s' => hk a S1 v H' m' x (x.env r) rel s' (h.ext x)
  | exc x S1 => rw [q] at h; exact fun cls dx H' m' y => h cls dx σ H' m' y
  | stuck => rw [q] at h; exact h
/-! ### blocks, small statements -/
theorem sss_nil : SSs p X Wx [] nxS := ⟨_, pss_nil, fun F H m e S σ D r s h => h σ H m (Ext.refl _ _) r s⟩
theorem sss_cons {st : Stmt} {sts : List Stmt} {f g : SV} (h1 : SS p X Wx st f) (h2 : SSs p X Wx sts g) : SSs p X Wx (st :: sts) (seqS f g) := by
  obtain ⟨t1, p1, g1⟩ := h1
  obtain ⟨t2, p2, g2⟩ := h2
  refine ⟨_, pss_cons p1 p2, fun F H m e S σ D r s h => ?_⟩
  refine g1 F H m e S σ _ r s ?_
  unfold seqS at h
  cases q : f e S with
  | nx e1 S1 =>
    rw [q] at h
    exact fun σ1 H1 m1 x r1 s1 => g2 F H1 m1 e1 S1 σ1 D r1 s1 (h.ext x)
  | bk e1 S1 => rw [q] at h; exact h
  | ct e1 S1 => rw [q] at h; exact h
  | rt w S1 => rw [q] at h; exact h
  | exc x e1 S1 => rw [q] at h; exact h
  | stuck => rw [q] at h; exact h
theorem sss_one {st : Stmt} {f : SV} (h1 : SS p X Wx st f) : SSs p X Wx [st] f := let ⟨t, pt, g⟩ := h1; ⟨t, pss_one pt, g⟩
theorem ss_pass {pos : Pos} : SS p X Wx (.Pass pos) nxS := ⟨_, ps_pass, fun F H m e S σ D r s h => h σ H m (Ext.refl _ _) r s⟩
theorem ss_break {pos : Pos} : SS p X Wx (.Break pos) brkS := ⟨_, ps_break, fun F H m e S σ D r s h => h σ H m (Ext.refl _ _) r s⟩
theorem ss_continue {pos : Pos} : SS p X Wx (.Continue pos) cntS := ⟨_, ps_continue, fun F H m e S σ D r s h => h σ H m (Ext.refl _ _) r s⟩
theorem ss_expr {a : Expr} {fa : EV} {pos : Pos} (hs : swapsWith a none pos.line X.env = pure false) (ha : SE p X Wx a fa) : SS p X Wx (.Expr a pos) (dropS fa) := by
  obtain ⟨t, pt, g⟩ := ha
  refine ⟨_, ps_expr pt hs, fun F H m e S σ D r s h => ?_⟩
  exact g.seqS r s h fun w S1 v H1 m1 _ r1 _ s1 h1 => h1 σ H1 m1 (Ext.refl _ _) r1 s1
theorem ss_ret {a : Expr} {fa : EV} {pos : Pos} (ha : SE p X Wx a fa) : SS p X Wx (.Return (some a) pos) (retS fa) := by
  obtain ⟨t, pt, g⟩ := ha
  refine ⟨_, ps_ret pt, fun F H m e S σ D r s h => ?_⟩
  exact g.seqS r s h fun w S1 v H1 m1 _ r1 rw' s1 h1 => h1 v H1 m1 (Ext.refl _ _) rw' s1
theorem ss_retN {pos : Pos} : SS p X Wx (.Return none pos) retN := ⟨_, ps_retN, fun F H m e S σ D r s h => h .non H m (Ext.refl _ _) (.d .non) s⟩
theorem PostG.so {vs : List Nat} {D : Ends} {r : R En} {e0 : En} (h : PostS p F H m D Wx (r.so e0 fun e S => .nx e S)) : PostG p vs F H m σ D.nx Wx r := by
  cases r with
  | ok e1 S1 => exact fun σ' H' m' x _ r1 s1 => h σ' H' m' x r1 s1
  | exc x S1 => exact h
  | stuck => exact h
/-- target = value -/
theorem ss_asg {tg a : Expr} {g : GV} {fa : EV} {vs : List Nat} {pos : Pos} (hs : swapsWithSole [tg] a pos.line X.env = pure false) (hw : swappedStores [tg] a X.env = pure none) (h1 : (assignEach [tg] X.env).map (·.2) = [assign tg X.env])
    (hg : SG p X Wx vs tg g) (ha : SE p X Wx a fa) : SS p X Wx (.Assign [tg] a pos) (asgS g fa) := by
  obtain ⟨t, pt, gt⟩ := ha
  obtain ⟨u, pu, gu⟩ := hg
  refine ⟨_, ps_asg pt pu hs hw h1, fun F H m e S σ D r s h => ?_⟩
  exact gt.seqS r s h fun w S1 v H1 m1 _ r1 rw' s1 h1 => gu F H1 m1 e S1 σ w v D.nx r1 s1 rw' (PostG.so h1)
/-- x = value, its own comprehension too -/
theorem ss_set {i : Nat} {x : Str} {a : Expr} {fa : EV} {pos pos' : Pos} (hN : X.N.Nodup) (hi : X.N[i]? = some x) (hx : Loc X.env.scope x) (hs : swapsWith a (some (.Name x pos')) pos.line X.env = pure false) (hf : X.fn x = true ∨ X.env.scope.names.lookup x = some .local)
    (ha : SE p X Wx a fa) : SS p X Wx (.Assign [.Name x pos'] a pos) (asgS (nameG i) fa) := by
  obtain ⟨t, pt, gt⟩ := ha
  refine ⟨_, ps_set hN hi hx pt hs hf, fun F H m e S σ D r s h => ?_⟩
  exact gt.seqS r s h fun w S1 v H1 m1 _ r1 rw' s1 h1 => h1 _ H1 m1 (Ext.refl _ _) (r1.set rw') s1
/-- a, b = x, y: names -/
theorem ss_par {i j : Nat} {x y : Str} {a b : Expr} {fa fb : EV} {px py pt pos : Pos} {kt k2 pt2} (hc : X.calm = true) (hN : X.N.Nodup) (hi : X.N[i]? = some x) (hj : X.N[j]? = some y) (hij : i ≠ j)
    (hx : X.env.scope.names.lookup x = some .local) (hy : X.env.scope.names.lookup y = some .local)
    (hw : swappedStores [.Tuple [.Name x px, .Name y py] kt pt] (.Tuple [a, b] k2 pt2) X.env = pure (some [x, y]))
    (hs : swapsWithSole [.Tuple [.Name x px, .Name y py] kt pt] (.Tuple [a, b] k2 pt2) pos.line X.env = pure false) (h : SA p X Wx [a, b] (argsF [fa, fb])) :
    SS p X Wx (.Assign [.Tuple [.Name x px, .Name y py] kt pt] (.Tuple [a, b] k2 pt2) pos) (asgTT [nameG i, nameG j] [fa, fb]) := by
  obtain ⟨t, pt, gt⟩ := h
  refine ⟨_, ps_par hc hN hi hj hij hx hy pt hw hs, fun F H m e S σ D r s h => ?_⟩
  refine gt.seqS r s h fun ws S1 vs H1 m1 _ r1 rs s1 h1 => ?_
  match ws, rs, h1 with
  | [], _, h1 => exact h1.elim
  | [_], .cons _ .nil, h1 => exact h1.elim
  | [w, u], .cons (b := v1) ra (.cons (b := v2) rb .nil), h1 => exact ⟨_, _, rfl, h1 _ H1 m1 (Ext.refl _ _) ((r1.set ra).set rb) s1⟩
  | _ :: _ :: _ :: _, .cons _ (.cons _ (.cons _ _)), h1 => exact h1.elim
theorem ss_par3 {i j l : Nat} {x y z : Str} {a b c : Expr} {fa fb fc : EV} {px py pz pt pos : Pos} {kt k2 pt2} (hc : X.calm = true) (hN : X.N.Nodup) (hi : X.N[i]? = some x) (hj : X.N[j]? = some y) (hl : X.N[l]? = some z) (hij : i ≠ j) (hil : i ≠ l) (hjl : j ≠ l)
    (hx : X.env.scope.names.lookup x = some .local) (hy : X.env.scope.names.lookup y = some .local) (hz : X.env.scope.names.lookup z = some .local)
    (hw : swappedStores [.Tuple [.Name x px, .Name y py, .Name z pz] kt pt] (.Tuple [a, b, c] k2 pt2) X.env = pure (some [x, y, z]))
    (hs : swapsWithSole [.Tuple [.Name x px, .Name y py, .Name z pz] kt pt] (.Tuple [a, b, c] k2 pt2) pos.line X.env = pure false) (h : SA p X Wx [a, b, c] (argsF [fa, fb, fc])) :
    SS p X Wx (.Assign [.Tuple [.Name x px, .Name y py, .Name z pz] kt pt] (.Tuple [a, b, c] k2 pt2) pos) (asgTT [nameG i, nameG j, nameG l] [fa, fb, fc]) := by
  obtain ⟨t, pt, gt⟩ := h
  refine ⟨_, ps_par3 hc hN hi hj hl hij hil hjl hx hy hz pt hw hs, fun F H m e S σ D r s h => ?_⟩
  refine gt.seqS r s h fun ws S1 vs H1 m1 _ r1 rs s1 h1 => ?_
  match ws, rs, h1 with
  | [], _, h1 => exact h1.elim
  | [_], .cons _ .nil, h1 => exact h1.elim
  | [_, _], .cons _ (.cons _ .nil), h1 => exact h1.elim
  | [w, u, w3], .cons (b := v1) ra (.cons (b := v2) rb (.cons (b := v3) rc .nil)), h1 => exact ⟨_, _, _, rfl, h1 _ H1 m1 (Ext.refl _ _) (((r1.set ra).set rb).set rc) s1⟩
  | _ :: _ :: _ :: _ :: _, .cons _ (.cons _ (.cons _ (.cons _ _))), h1 => exact h1.elim
/-- .. other targets: a tuple is made and taken apart -/
theorem ss_tt {ts as : List Expr} {gs : List GV} {fs : List EV} {vs : List Nat} {k k2 n : Nat} {pt pt2 pos : Pos} (hc : X.calm = true) (hz : fs.length ≤ 1000) (hlen : fs.length = n)
    (hs : swapsWithSole [.Tuple ts k pt] (.Tuple as k2 pt2) pos.line X.env = pure false) (hw : swappedStores [.Tuple ts k pt] (.Tuple as k2 pt2) X.env = pure none) (h1 : (assignEach [.Tuple ts k pt] X.env).map (·.2) = [assign (.Tuple ts k pt) X.env])
    (hn : (assignEach ts X.env).length = n) (hst : (assignEach ts X.env).findIdx? (·.1) = none)
    (hg : SGs p X Wx vs ts gs) (ha : SA p X Wx as (argsF fs)) : SS p X Wx (.Assign [.Tuple ts k pt] (.Tuple as k2 pt2) pos) (asgTT gs fs) := by
  obtain ⟨t, pta, gt⟩ := ha
  obtain ⟨u, pu, gu⟩ := hg
  refine ⟨_, ps_asg (pe_tup pta) (pg_tup hc pu hn hst) hs hw h1, fun F H m e S σ D r s h => ?_⟩
  refine gt F H m e S σ _ r s ?_
  unfold asgTT at h
  cases q : argsF fs e S with
  | exc x S1 => rw [q] at h; exact fun cls dx H' m' y => h cls dx σ H' m' y
  | stuck => rw [q] at h; exact h
  | ok ws S1 =>
    rw [q] at h
    intro us H1 m1 x rs s1
    have hl := args_len q
    have hl2 := RepWs.len rs
    refine ⟨few_line (by omega), fun a ha => ⟨a, us, rfl, .inl (.inl upd_same), by omega, ?_⟩⟩
    have x2 : Ext H1 m1 (upd H1 a (.tup us)) m1 := Ext.new ha
    exact gu F _ m1 e S1 σ ws us D.nx ((x.trans x2).env r) (s1.new ha) (x2.ws rs) (PostG.so (PostS.ext (x.trans x2) h))
/-- x op= a -/
theorem ss_aug {i : Nat} {x : Str} {a : Expr} {op : Operator} {f : W → W → Store → R W} {rd : R2} {fa : EV} {pos pos' : Pos} (hN : X.N.Nodup) (hi : X.N[i]? = some x) (hx : Loc X.env.scope x) (hf : X.fn x = true ∨ X.env.scope.names.lookup x = some .local)
    (ho : OpR X (inplaceOp op) rd) (hfit : Fits2 p f rd) (ha : SE p X Wx a fa) : SS p X Wx (.AugAssign (.Name x pos') op a pos) (augS i f fa) := by
  obtain ⟨t, pt, gt⟩ := ha
  refine ⟨_, ps_aug hN hi hx pt ho hf, fun F H m e S σ D r s h => ?_⟩
  unfold augS at h
  cases q : getV e i with
  | none => rw [q] at h; exact h.elim
  | some w =>
    rw [q] at h
    obtain ⟨v, hv, rv⟩ := r.2 i w q
    refine ⟨v, hv, gt.seqS r s h fun y S1 u H1 m1 x1 r1 ry s1 h1 => ?_⟩
    refine hfit F m1 H1 S1 σ _ Wx w y v u s1 (x1.w rv) ry ?_
    cases q2 : f w y S1 with
    | ok z S2 =>
      rw [q2] at h1
      exact fun z' H2 m2 x2 rz s2 => h1 _ H2 m2 x2 ((x2.env r1).set rz) s2
    | exc x' S2 => rw [q2] at h1; exact fun cls dx H' m' y => h1 cls dx σ H' m' y
    | stuck => rw [q2] at h1; exact h1
theorem ss_if {c : Expr} {a b : List Stmt} {ft : TV} {f g : SV} {pos : Pos} (hc : ST p X Wx c ft) (ha : SSs p X Wx a f) (hb : SSs p X Wx b g) : SS p X Wx (.If c a b pos) (ifS ft f g) := by
  obtain ⟨t, pt, gt⟩ := hc
  obtain ⟨t1, p1, g1⟩ := ha
  obtain ⟨t2, p2, g2⟩ := hb
  refine ⟨_, ps_if pt p1 p2, fun F H m e S σ D r s h => ?_⟩
  refine gt.seqS r s h fun k S1 v H1 m1 _ r1 e1 s1 h1 => ?_
  cases e1
  cases k with
  | true => rw [if_pos rfl]; exact g1 F H1 m1 e S1 σ D r1 s1 h1
  | false => rw [if_neg Bool.false_ne_true]; exact g2 F H1 m1 e S1 σ D r1 s1 h1
/-- while, at most n turns -/
theorem ss_while {c : Expr} {body : List Stmt} {ft : TV} {f : SV} {pos : Pos} (n : Nat) (hp : PassesOwn (model X.prog X.w) X.A X.env X.xe) (hc : ST p X Wx c ft) (hb : SSs p X Wx body f) : SS p X Wx (.While c body [] pos) (whileN ft f n) := by
  obtain ⟨t, pt, gt⟩ := hc
  obtain ⟨t1, p1, g1⟩ := hb
  refine ⟨_, ps_while hp pt p1, fun F H m e S σ D r s h => ?_⟩
  refine ⟨fun k σ' H' => ∃ e' S' m', Ext H m H' m' ∧ p.en F m' H' e' σ' ∧ p.st F m' H' S' ∧ PostS p F H' m' D Wx (whileN ft f k e' S'), ⟨n, e, S, m, Ext.refl _ _, r, s, h⟩, ?_⟩
  rintro k σ' H' ⟨e', S', m', x, r', s', h'⟩
  cases k with
  | zero => exact h'.elim
  | succ k =>
    refine gt.seqS r' s' h' fun b S1 v H1 m1 x1 r1 e1 s1 h1 => ?_
    cases e1
    cases b with
    | false => rw [if_neg Bool.false_ne_true]; exact h1 σ' H1 m1 (Ext.refl _ _) r1 s1
    | true =>
      rw [if_pos rfl]
      refine ⟨fun σ2 H2 => ∃ e2 S2 m2, Ext H m H2 m2 ∧ p.en F m2 H2 e2 σ2 ∧ p.st F m2 H2 S2 ∧ PostS p F H2 m2 D Wx (whileN ft f k e2 S2), fun σ2 H2 hN => ⟨k, Nat.lt_succ_self k, hN⟩, ?_⟩
      refine g1 F H1 m1 e' S1 σ' _ r1 s1 ?_
      cases q : f e' S1 with
      | nx e2 S2 => rw [q] at h1; exact fun σ2 H2 m2 x2 r2 s2 => ⟨e2, S2, m2, (x.trans x1).trans x2, r2, s2, h1.ext x2⟩
      | ct e2 S2 => rw [q] at h1; exact fun σ2 H2 m2 x2 r2 s2 => ⟨e2, S2, m2, (x.trans x1).trans x2, r2, s2, h1.ext x2⟩
      | bk e2 S2 => rw [q] at h1; exact h1
      | rt w S2 => rw [q] at h1; exact h1
      | exc x' e2 S2 => rw [q] at h1; exact h1
      | stuck => rw [q] at h1; exact h1

/-! ### what is walked -/
/-- a walk over things that stand -/
def FixOk (p : Pr) (J : L2.It) (F : List Addr) (H : Hp) (m : List Addr) (ws : List W) : Prop :=
  ∀ (F' : List Addr) (H' : Hp) (m' : List Addr), (∀ q ∈ F', q ∈ F ∨ H q = none) → Ext H m H' m' →
    (∀ i, ws.length ≤ i → J.stop i H') ∧
    ∀ i w, ws[i]? = some w → J.go i H' ∧ ∀ x H'', J.yld i H' x H'' → Ext H' m' H'' m' ∧ (∀ S, p.st F' m' H' S → p.w F' m' H'' w x ∧ p.st F' m' H'' S)
def ItOk (p : Pr) (J : L2.It) (F : List Addr) (H : Hp) (m : List Addr) : Pv.It → Prop
  | .fix ws => FixOk p J F H m ws
  | .ref i => ∃ a, m[i]? = some a ∧ J = Itl p.K a
def PostI (p : Pr) (F : List Addr) (H : Hp) (m : List Addr) (σ : L2.St) (Q : L2.It → Hp → Prop) (Wx : WX) : R Pv.It → Prop
  | .ok it S => ∀ J H' m', Ext H m H' m' → ItOk p J F H' m' it → p.st F m' H' S → Q J H'
  | .exc x S => ∀ cls dx H' m', Ext H m H' m' → p.XR x cls dx H' → p.st F m' H' S → Wx cls dx σ H'
  | .stuck => False
def SI (p : Pr) (X : Cx) (Wx : WX) (tg it : Expr) (f : IV) : Prop := ∃ wi, PI X tg it wi ∧ ∀ (F : List Addr) (H : Hp) (m : List Addr) (e : En) (S : Store) (σ : L2.St) (Q : L2.It → Hp → Prop), p.en F m H e σ → p.st F m H S → PostI p F H m σ Q Wx (f e S) → wi σ H Q
theorem for_fix {J : L2.It} {ws : List W} {g : GV} {f : SV} {tgt : TG} {t1 : TS} {vs : List Nat} {D : Ends} {S1 : Store}
    (gg : ∀ (F : List Addr) (H : Hp) (m : List Addr) (e : En) (S : Store) (σ : L2.St) (w : W) (v : V) (Q : L2.St → Hp → Prop), p.en F m H e σ → p.st F m H S → p.w F m H w v → PostG p vs F H m σ Q Wx (g w e S) → tgt v σ H Q)
    (g1 : GoodS p Wx t1 f) (ok : FixOk p J F H1 m1 ws) (r1 : p.en F m1 H1 e σ) (s1 : p.st F m1 H1 S1) (h : PostS p F H1 m1 D Wx (forL g f ws e S1)) :
    ∃ W : Nat → Nat → L2.St → Hp → Prop, (∃ m, W 0 m σ H1) ∧ ∀ i m σ H, W i m σ H →
      (J.stop i H ∧ D.nx σ H) ∨ (J.go i H ∧ ∃ N : L2.St → Hp → Prop, (∀ σ' H', N σ' H' → ∃ m', m' < m ∧ W (i + 1) m' σ' H') ∧ ∀ x H', J.yld i H x H' → tgt x σ H' fun σ2 H2 => t1 { D with nx := N, ct := N, bk := D.nx } σ2 H2) := by
  refine ⟨fun i k σ' H' => k = ws.length - i ∧ ∃ e' S' m', Ext H1 m1 H' m' ∧ p.en F m' H' e' σ' ∧ p.st F m' H' S' ∧ PostS p F H' m' D Wx (forL g f (ws.drop i) e' S'), ⟨ws.length, by simp, e, S1, m1, Ext.refl _ _, r1, s1, h⟩, ?_⟩
  rintro i k σ' H' ⟨rfl, e', S', m', x, r', s', h'⟩
  obtain ⟨hstop, hgo⟩ := ok F H' m' (fun _ z => .inl z) x
  by_cases hlt : i < ws.length
  · have hd : ws.drop i = ws[i] :: ws.drop (i + 1) := List.drop_eq_getElem_cons hlt
    obtain ⟨go, hy⟩ := hgo i ws[i] (List.getElem?_eq_getElem hlt)
    rw [hd] at h'
    refine .inr ⟨go, fun σ2 H2 => ∃ e2 S2 m2, Ext H1 m1 H2 m2 ∧ p.en F m2 H2 e2 σ2 ∧ p.st F m2 H2 S2 ∧ PostS p F H2 m2 D Wx (forL g f (ws.drop (i + 1)) e2 S2), fun σ2 H2 hN => ⟨ws.length - (i + 1), by omega, rfl, hN⟩, fun y H'' hyl => ?_⟩
    obtain ⟨x2, hr⟩ := hy y H'' hyl
    obtain ⟨ry, s2⟩ := hr S' s'
    refine gg F H'' m' e' S' σ' ws[i] y _ (x2.env r') s2 ry ?_
    have h'' := h'.ext x2
    unfold forL at h''
    cases q2 : g ws[i] e' S' with
    | exc x' S2 => rw [q2] at h''; exact h''
    | stuck => rw [q2] at h''; exact h''
    | ok e2 S2 =>
      rw [q2] at h''
      intro σ3 H3 m3 x3 _ r3 s3
      refine g1 F H3 m3 e2 S2 σ3 _ r3 s3 ?_
      have h3 := h''.ext x3
      simp only [R.so] at h3
      have xx := (x.trans x2).trans x3
      cases q3 : f e2 S2 with
      | nx e4 S4 => rw [q3] at h3; exact fun σ4 H4 m4 x4 r4 s4 => ⟨e4, S4, m4, xx.trans x4, r4, s4, h3.ext x4⟩
      | ct e4 S4 => rw [q3] at h3; exact fun σ4 H4 m4 x4 r4 s4 => ⟨e4, S4, m4, xx.trans x4, r4, s4, h3.ext x4⟩
      | bk e4 S4 => rw [q3] at h3; exact h3
      | rt w S4 => rw [q3] at h3; exact h3
      | exc x' e4 S4 => rw [q3] at h3; exact h3
      | stuck => rw [q3] at h3; exact h3
  · have hd : ws.drop i = [] := List.drop_eq_nil_of_le (by omega)
    rw [hd] at h'
    exact .inl ⟨hstop i (by omega), h' σ' H' m' (Ext.refl _ _) r' s'⟩
theorem ss_for {tg it : Expr} {body : List Stmt} {g : GV} {f : SV} {fi : IV} {vs : List Nat} {pos : Pos} (hK : X.K = p.K) (hp : PassesOwn (model X.prog X.w) X.A X.env X.xe) (hc : X.calm = true) (hs : ∀ x, foldedSetIterable it X.env x = pure x)
    (hi : SI p X Wx tg it fi) (hg : SG p X Wx vs tg g) (hb : SSs p X Wx body f) : SS p X Wx (.For tg it body [] pos) (forS fi g f) := by
  obtain ⟨wi, pi, gi⟩ := hi
  obtain ⟨tgt, pg, gg⟩ := hg
  obtain ⟨t1, p1, g1⟩ := hb
  refine ⟨_, ps_for hp hc pi pg p1 hs, fun F H m e S σ D r s h => ?_⟩
  refine gi F H m e S σ _ r s ?_
  unfold forS at h
  cases q : fi e S with
  | exc x S1 => rw [q] at h; exact fun cls dx H' m' y => h cls dx σ H' m' y
  | stuck => rw [q] at h; exact h
  | ok t S1 =>
    rw [q] at h
    intro J H1 m1 x1 ok s1
    have h := h.ext x1
    have r1 := x1.env r
    cases t with
    | fix ws =>
      exact for_fix gg g1 ok r1 s1 h
    | ref j =>
      obtain ⟨a, ha, rfl⟩ := ok
      refine ⟨fun i k σ' H' => ∃ e' S' m', Ext H1 m1 H' m' ∧ p.en F m' H' e' σ' ∧ p.st F m' H' S' ∧ PostS p F H' m' D Wx (forR g f j k i e' S'), ⟨1000000, e, S1, m1, Ext.refl _ _, r1, s1, h⟩, ?_⟩
      rintro i k σ' H' ⟨e', S', m', x, r', s', h'⟩
      cases k with
      | zero => exact h'.elim
      | succ k =>
        have ha' : m'[j]? = some a := by
          obtain ⟨l, rfl⟩ := x.pre
          rw [List.getElem?_append_left (List.getElem?_eq_some_iff.mp ha).1]; exact ha
        unfold forR at h'
        cases q0 : getO S' j with
        | none => rw [q0] at h'; exact h'.elim
        | some o =>
          rw [q0] at h'
          cases o with
          | dct => exact h'.elim
          | lst ws =>
            obtain ⟨vs', hv, rv⟩ := s'.obj _ _ _ ha' q0
            have hq : SqL p.K H' a vs' := .inl (.inl hv)
            cases q1 : ws[i]? with
            | none =>
              simp only [q1] at h'
              refine .inl ⟨⟨vs', hq, ?_⟩, h' σ' H' m' (Ext.refl _ _) r' s'⟩
              rw [← RepWs.len rv]
              exact List.getElem?_eq_none_iff.mp q1
            | some w =>
              simp only [q1] at h'
              obtain ⟨v, ev, rw'⟩ := RepWs.get rv q1
              refine .inr ⟨⟨vs', v, hq, ev⟩, fun σ2 H2 => ∃ e2 S2 m2, Ext H1 m1 H2 m2 ∧ p.en F m2 H2 e2 σ2 ∧ p.st F m2 H2 S2 ∧ PostS p F H2 m2 D Wx (forR g f j k (i + 1) e2 S2), fun σ2 H2 hN => ⟨k, Nat.lt_succ_self k, hN⟩, fun y H'' hyl => ?_⟩
              obtain ⟨rfl, hy⟩ := hyl
              have ey : v = y := Option.some.inj (ev.symm.trans (hy vs' hq))
              subst ey
              refine gg F H'' m' e' S' σ' w v _ r' s' rw' ?_
              cases q2 : g w e' S' with
              | exc x' S2 => rw [q2] at h'; exact h'
              | stuck => rw [q2] at h'; exact h'
              | ok e2 S2 =>
                rw [q2] at h'
                intro σ3 H3 m3 x3 _ r3 s3
                refine g1 F H3 m3 e2 S2 σ3 _ r3 s3 ?_
                have h3 := h'.ext x3
                simp only [R.so] at h3
                have xx := x.trans x3
                cases q3 : f e2 S2 with
                | nx e4 S4 => rw [q3] at h3; exact fun σ4 H4 m4 x4 r4 s4 => ⟨e4, S4, m4, xx.trans x4, r4, s4, h3.ext x4⟩
                | ct e4 S4 => rw [q3] at h3; exact fun σ4 H4 m4 x4 r4 s4 => ⟨e4, S4, m4, xx.trans x4, r4, s4, h3.ext x4⟩
                | bk e4 S4 => rw [q3] at h3; exact h3
                | rt w S4 => rw [q3] at h3; exact h3
                | exc x' e4 S4 => rw [q3] at h3; exact h3
                | stuck => rw [q3] at h3; exact h3
end
end Pv

end

section
set_option linter.all false
set_option maxRecDepth 100000
set_option Elab.async false
set_option linter.all false
/-! Pv12: what is walked; list comprehensions. -/
namespace Pv
open PySem PySem.Spec PyProof.Rows L2
section
variable {p : Pr} {X : Cx} {Wx : WX} {F m m1 m' F' : List Addr} {H H1 H' : Hp} {σ : L2.St} {e : En} {S : Store}
/-! ### readings that know no context -/
/-- nothing may be raised -/
def W0 : WX := fun _ _ _ _ => False
def tOf (p : Pr) {α β : Type} (Rel : RelT α β) (Wx : WX) (f : En → Store → R α) : L2.St → Hp → (β → Hp → Prop) → Prop :=
  fun σ H Q => ∃ F m e S, p.en F m H e σ ∧ p.st F m H S ∧ Post p Rel F H m σ Q Wx (f e S)
theorem SE.can {ex : Expr} {f : EV} (h : SE p X Wx ex f) : PE X ex (tOf p p.w Wx f) :=
  let ⟨_, pt, g⟩ := h
  ⟨fun pins s σ H Q I hw => let ⟨F, m, e, S, r, s', q⟩ := hw; pt.run pins s σ H Q I (g F H m e S σ Q r s' q)⟩
theorem ST.can {ex : Expr} {f : TV} (h : ST p X Wx ex f) : PT X ex (tOf p relB Wx f) :=
  let ⟨_, pt, g⟩ := h
  ⟨fun pins s σ H Q I hw => let ⟨F, m, e, S, r, s', q⟩ := hw; pt.run pins s σ H Q I (g F H m e S σ Q r s' q)⟩
def gOf (p : Pr) (vs : List Nat) (Wx : WX) (g : GV) : V → L2.St → Hp → (L2.St → Hp → Prop) → Prop :=
  fun v σ H Q => ∃ F m e S w, p.en F m H e σ ∧ p.st F m H S ∧ p.w F m H w v ∧ PostG p vs F H m σ Q Wx (g w e S)
theorem SG.can {ex : Expr} {vs : List Nat} {g : GV} (h : SG p X Wx vs ex g) : PG X ex (gOf p vs Wx g) :=
  let ⟨_, pt, g⟩ := h
  ⟨fun pins s σ H v u Q I rv hw => let ⟨F, m, e, S, w, r, s', rw', q⟩ := hw; pt.run pins s σ H v u Q I rv (g F H m e S σ w v Q r s' rw' q)⟩
theorem PI.or {tg it : Expr} {t u : TI} (h1 : PI X tg it t) (h2 : PI X tg it u) : PI X tg it (fun σ H Q => t σ H Q ∨ u σ H Q) := ⟨fun pins s σ H Q I h => h.elim (h1.run pins s σ H Q I) (h2.run pins s σ H Q I)⟩

/-! ### what is walked -/
theorem leansF (x : Ext H m H' m') (hF : ∀ q ∈ F', q ∈ F ∨ H q = none) : ∀ b u, H b = some u → b ∉ F ++ m → H' b = some u ∧ b ∉ F' ++ m' := fun b u hb n => by
  have n1 : b ∉ F := fun z => n (List.mem_append_left _ z)
  have n2 : b ∉ m := fun z => n (List.mem_append_right _ z)
  refine ⟨x.keep b u hb n2, fun z => ?_⟩
  rcases List.mem_append.mp z with z | z
  · rcases hF b z with z | z
    · exact n1 z
    · rw [hb] at z; cases z
  · rcases x.fresh b z with q | q
    · exact n2 q
    · rw [hb] at q; cases q
theorem map_get {ds : List D} {i : Nat} {w : W} (h : (ds.map W.d)[i]? = some w) : ∃ d, ds[i]? = some d ∧ w = .d d := by
  rw [List.getElem?_map] at h
  cases q : ds[i]? with
  | none => rw [q] at h; cases h
  | some d => rw [q] at h; cases h; exact ⟨d, rfl, rfl⟩
theorem fix_lst {a : Addr} {ds : List D} {vs : List V} (ha : H a = some (.lst vs)) (na : a ∉ F ++ m) (r : p.ds F m H ds vs) : FixOk p (Itl p.K a) F H m (ds.map .d) := by
  intro F' H' m' hF x
  have hk := leansF x hF
  have hq : SqL p.K H' a vs := .inl (.inl (hk a _ ha na).1)
  have r' : p.ds F' m' H' ds vs := r.go hk
  refine ⟨fun i hi => ⟨vs, hq, by rw [← r.length]; simpa using hi⟩, fun i w hw => ?_⟩
  obtain ⟨d, hd, rfl⟩ := map_get hw
  obtain ⟨v, hv, rv⟩ := r'.get hd
  refine ⟨⟨vs, v, hq, hv⟩, fun y H'' hy => ?_⟩
  obtain ⟨rfl, hy⟩ := hy
  have e1 := hy vs hq
  rw [hv] at e1
  cases e1
  exact ⟨Ext.refl _ _, fun S s => ⟨.d rv, s⟩⟩
theorem fix_tup {a : Addr} {ds : List D} (rd : p.d F m H (.tup ds) (.ref a)) : FixOk p (Itt p.K a) F H m (ds.map .d) := by
  intro F' H' m' hF x
  have rd' : p.d F' m' H' (.tup ds) (.ref a) := rd.go (leansF x hF)
  obtain ⟨a', vs, e, hq, r'⟩ := rd'.tupAt
  cases e
  refine ⟨fun i hi => ⟨vs, hq, by rw [← r'.length]; simpa using hi⟩, fun i w hw => ?_⟩
  obtain ⟨d, hd, rfl⟩ := map_get hw
  obtain ⟨v, hv, rv⟩ := r'.get hd
  refine ⟨⟨vs, v, hq, hv⟩, fun y H'' hy => ?_⟩
  obtain ⟨rfl, hy⟩ := hy
  have e1 := hy vs hq
  rw [hv] at e1
  cases e1
  exact ⟨Ext.refl _ _, fun S s => ⟨.d rv, s⟩⟩
theorem fix_str {xs : List Nat} : FixOk p (Its (txt xs)) F H m (xs.map fun c => .d (.str [c])) := by
  intro F' H' m' hF x
  have hz : (txt xs).cps.size = xs.length := by simp [txt]
  refine ⟨fun i hi => ?_, fun i w hw => ?_⟩
  · show (txt xs).cps.size ≤ i
    rw [hz]; simpa using hi
  · rw [List.getElem?_map] at hw
    cases q : xs[i]? with
    | none => rw [q] at hw; cases hw
    | some c =>
      rw [q] at hw
      cases hw
      have hl := (List.getElem?_eq_some_iff.mp q).1
      refine ⟨by show i < (txt xs).cps.size; rw [hz]; exact hl, fun y H'' hy => ?_⟩
      obtain ⟨rfl, c', hc, rfl⟩ := hy
      have e1 : (txt xs).cps[i]? = some c := by simpa [txt] using q
      rw [e1] at hc
      cases hc
      exact ⟨Ext.refl _ _, fun S s => ⟨.d (.str [c]), s⟩⟩
theorem rangeD_len (lo : Int) (n : Nat) : (rangeD lo n).length = n := by
  induction n generalizing lo with
  | zero => rfl
  | succ n ih => exact congrArg (· + 1) (ih _)
theorem rangeD_get {lo : Int} {n i : Nat} {w : W} (h : (rangeD lo n)[i]? = some w) : w = .d (.int (lo + i)) := by
  induction n generalizing lo i with
  | zero => simp [rangeD] at h
  | succ n ih =>
    cases i with
    | zero => cases h; simp
    | succ i =>
      have := ih (lo := lo + 1) (i := i) h
      rw [this]
      congr 2
      omega
theorem fix_rng {lo : Int} {n : Nat} : FixOk p (Itr lo n) F H m (rangeD lo n) := by
  intro F' H' m' hF x
  refine ⟨fun i hi => by rw [rangeD_len] at hi; exact hi, fun i w hw => ?_⟩
  have hl := (List.getElem?_eq_some_iff.mp hw).1
  rw [rangeD_len] at hl
  refine ⟨hl, fun y H'' hy => ?_⟩
  obtain ⟨rfl, rfl⟩ := hy
  rw [rangeD_get hw]
  exact ⟨Ext.refl _ _, fun S s => ⟨.d (.int _), s⟩⟩
theorem si_seq {tg it : Expr} {fa : EV} (hK : X.K = p.K) (ha : SE p X Wx it fa) : SI p X Wx tg it (seqI fa) := by
  obtain ⟨t, pt, g⟩ := ha
  refine ⟨_, PI.or (pi_list pt) (PI.or (pi_tup pt) (pi_str pt)), fun F H m e S σ Q r s h => ?_⟩
  rw [hK]
  unfold seqI at h
  have h0 := h
  cases q : fa e S with
  | exc x S1 =>
    rw [q] at h
    exact .inl (g F H m e S σ _ r s (by rw [q]; exact h))
  | stuck => rw [q] at h; exact h.elim
  | ok w S1 =>
    rw [q] at h
    simp only [R.bind] at h
    split at h
    · rename_i xs
      refine .inl (g F H m e S σ _ r s ?_)
      rw [q]
      intro v H1 m1 x rv s1
      cases rv with | d rv =>
      cases rv with | lst ha na rs =>
      exact ⟨_, rfl, ⟨_, .inl (.inl ha)⟩, h _ H1 m1 x (fix_lst ha na rs) s1⟩
    · rename_i xs
      refine .inr (.inl (g F H m e S σ _ r s ?_))
      rw [q]
      intro v H1 m1 x rv s1
      cases rv with | d rv =>
      obtain ⟨a, vs, rfl, hq, rs⟩ := rv.tupAt
      exact ⟨a, rfl, ⟨vs, hq⟩, h _ H1 m1 x (fix_tup rv) s1⟩
    · rename_i xs
      refine .inr (.inr (g F H m e S σ _ r s ?_))
      rw [q]
      intro v H1 m1 x rv s1
      cases rv with | d rv =>
      cases rv
      exact ⟨_, rfl, h _ H1 m1 x fix_str s1⟩
    · rename_i i
      split at h
      · rename_i ws q0
        refine .inl (g F H m e S σ _ r s ?_)
        rw [q]
        intro v H1 m1 x rv s1
        cases rv with | ref hi =>
        obtain ⟨vs, hv, _⟩ := s1.obj _ _ _ hi q0
        exact ⟨_, rfl, ⟨vs, .inl (.inl hv)⟩, h _ H1 m1 x ⟨_, hi, rfl⟩ s1⟩
      · exact h.elim
    · exact h.elim
theorem big62_ok {i : Int} (h : big62 i = true) : -(2 ^ 62) ≤ i ∧ i < 2 ^ 62 := by
  unfold big62 at h
  rw [Bool.and_eq_true, decide_eq_true_eq, decide_eq_true_eq] at h
  exact ⟨by omega, by omega⟩
theorem si_rng1 {tg a : Expr} {fa : EV} {p0 pos : Pos} (hg : Gl X "range") (hm : X.mg "range" = none) (hs : starEach [a] X.env = [(false, eval a X.env)]) (ha : SA p X Wx [a] (argsF [fa])) : SI p X Wx tg (.Call (.Name "range" p0) [a] [] pos) (rng1 fa) := by
  obtain ⟨t, pt, g⟩ := ha
  refine ⟨_, pi_range1 hg hm pt hs, fun F H m e S σ Q r s h => ?_⟩
  refine g F H m e S σ _ r s ?_
  unfold rng1 at h
  unfold argsF
  cases q : fa e S with
  | exc x S1 => rw [q] at h; exact h
  | stuck => rw [q] at h; exact h
  | ok w S1 =>
    rw [q] at h
    simp only [R.bind] at h
    intro vs H1 m1 x rv s1
    cases rv with | cons rv rr =>
    cases rr
    split at h
    · rename_i n
      cases rv with | d rv =>
      cases rv
      split at h
      · rename_i hb
        exact ⟨_, rfl, (big62_ok hb).1, (big62_ok hb).2, h _ H1 m1 x fix_rng s1⟩
      · exact h.elim
    · exact h.elim
theorem si_rng2 {tg a b : Expr} {fa fb : EV} {p0 pos : Pos} (hg : Gl X "range") (hm : X.mg "range" = none) (hs : starEach [a, b] X.env = [(false, eval a X.env), (false, eval b X.env)]) (hs2 : starEach [b] X.env = [(false, eval b X.env)])
    (ha : SA p X Wx [a, b] (argsF [fa, fb])) : SI p X Wx tg (.Call (.Name "range" p0) [a, b] [] pos) (rng2 fa fb) := by
  obtain ⟨t, pt, g⟩ := ha
  refine ⟨_, pi_range2 hg hm pt hs hs2, fun F H m e S σ Q r s h => ?_⟩
  refine g F H m e S σ _ r s ?_
  unfold rng2 at h
  unfold argsF
  cases q : fa e S with
  | exc x S1 => rw [q] at h; exact h
  | stuck => rw [q] at h; exact h
  | ok w S1 =>
    rw [q] at h
    simp only [R.bind] at h ⊢
    unfold argsF
    cases q2 : fb e S1 with
    | exc x S1 => rw [q2] at h; exact h
    | stuck => rw [q2] at h; exact h
    | ok w2 S2 =>
      rw [q2] at h
      simp only [R.bind, argsF] at h ⊢
      intro vs H1 m1 x rv s1
      cases rv with | cons rv rr =>
      cases rr with | cons rv2 rr =>
      cases rr
      split at h
      · cases rv with | d rv =>
        cases rv
        cases rv2 with | d rv2 =>
        cases rv2
        split at h
        · rename_i hb
          rw [Bool.and_eq_true] at hb
          exact ⟨_, _, rfl, ⟨(big62_ok hb.1).1, (big62_ok hb.1).2, (big62_ok hb.2).1, (big62_ok hb.2).2⟩, h _ H1 m1 x fix_rng s1⟩
        · exact h.elim
      · exact h.elim

/-! ### comprehensions -/
theorem Ext.own {D : Addr} {o : HO} (x : Ext H m H' m') (hD : H D = none) : Ext H m (upd H' D o) m' :=
  ⟨x.pre, fun q u h n => by rw [upd_ne (ne_of_none h hD)]; exact x.keep q u h n, x.fresh, fun q hq n => by
    by_cases e : q = D
    · rw [e, upd_same]; simp
    · rw [upd_ne e]; exact x.stay q hq n⟩
/-- a thing kept from the rest is written -/
theorem leansD {D : Addr} {o : HO} (hD : D ∈ F) : ∀ b u, H b = some u → b ∉ F ++ m → upd H D o b = some u ∧ b ∉ F ++ m := fun b u hb n => by
  have ne : b ≠ D := fun z => n (List.mem_append_left _ (by rw [z]; exact hD))
  exact ⟨by rw [upd_ne ne]; exact hb, n⟩
theorem Rst.wr {D : Addr} {o : HO} (s : p.st F m H S) (hD : D ∈ F) (ho : ∀ xs, o ≠ .tup xs := by intro _ z; cases z) : p.st F m (upd H D o) S :=
  ⟨s.len, s.nd, s.apart, fun q hq => by
    by_cases e : q = D
    · rw [e, upd_same]; exact ⟨by simp, fun xs z => ho xs (Option.some.inj z)⟩
    · rw [upd_ne e]; exact s.there q hq, fun i q u hi hu => by
    have ne : q ≠ D := fun e => s.apart D hD (by rw [← e]; exact List.mem_of_getElem? hi)
    exact (s.obj i q u hi hu).go (leansD hD) ⟨[], by simp⟩ (upd_ne ne).symm⟩
/-- F grows by a fresh thing -/
theorem leansC {D : Addr} {o : HO} (hD : H D = none) : ∀ b u, H b = some u → b ∉ F ++ m → upd H D o b = some u ∧ b ∉ (D :: F) ++ m := fun b u hb n => by
  have ne : b ≠ D := fun z => by rw [z, hD] at hb; cases hb
  refine ⟨by rw [upd_ne ne]; exact hb, fun z => ?_⟩
  rw [List.cons_append] at z
  rcases List.mem_cons.mp z with z | z
  · exact ne z
  · exact n z
theorem Rst.hold {D : Addr} {o : HO} (s : p.st F m H S) (hD : H D = none) (ho : ∀ xs, o ≠ .tup xs := by intro _ z; cases z) : p.st (D :: F) m (upd H D o) S := by
  refine ⟨s.len, s.nd, fun q hq => ?_, fun q hq => ?_, fun i q u hi hu => ?_⟩
  · rcases List.mem_cons.mp hq with e | hq
    · rw [e]; exact fun z => s.thing z hD
    · exact s.apart q hq
  · by_cases e : q = D
    · rw [e, upd_same]; exact ⟨by simp, fun xs z => ho xs (Option.some.inj z)⟩
    · rw [upd_ne e]
      rcases List.mem_cons.mp hq with e' | hq
      · exact absurd e' e
      · exact s.there q hq
  · have hq : q ∈ m := List.mem_of_getElem? hi
    have ne : q ≠ D := fun e => s.thing hq (by rw [e]; exact hD)
    exact (s.obj i q u hi hu).go (leansC hD) ⟨[], by simp⟩ (upd_ne ne).symm
theorem REnv.hold {D : Addr} {o : HO} (r : p.en F m H e σ) (hD : H D = none) : p.en (D :: F) m (upd H D o) e σ :=
  ⟨r.1, fun i w g => let ⟨v, a, b⟩ := r.2 i w g; ⟨v, a, b.go (leansC hD) ⟨[], by simp⟩⟩⟩
theorem REnv.wr {D : Addr} {o : HO} (r : p.en F m H e σ) (hD : D ∈ F) : p.en F m (upd H D o) e σ :=
  ⟨r.1, fun i w g => let ⟨v, a, b⟩ := r.2 i w g; ⟨v, a, b.go (leansD hD) ⟨[], by simp⟩⟩⟩
theorem wipeV_get (e : En) : ∀ (vs : List Nat) (j : Nat) (w : W), getV (wipeV e vs) j = some w → getV e j = some w ∧ j ∉ vs := by
  have gv : ∀ (e : En) (j : Nat), getV e j = (e[j]?).getD none := by
    intro e
    induction e with
    | nil => intro j; rfl
    | cons a r ih =>
      intro j
      cases j with
      | zero => rfl
      | succ j => exact ih j
  intro vs
  induction vs with
  | nil => exact fun j w h => ⟨h, by simp⟩
  | cons v vs ih =>
    intro j w h
    unfold wipeV at h
    rw [gv] at h
    by_cases hv : v = j
    · subst hv
      by_cases hl : v < (wipeV e vs).length
      · rw [List.getElem?_set_self hl] at h; cases h
      · rw [List.getElem?_eq_none (by rw [List.length_set]; omega)] at h; cases h
    · rw [List.getElem?_set_ne hv, ← gv] at h
      obtain ⟨a, b⟩ := ih j w h
      exact ⟨a, by simp [b]; exact fun z => hv z.symm⟩
theorem wipeV_len (e : En) : ∀ vs : List Nat, (wipeV e vs).length = e.length
  | [] => rfl
  | v :: vs => by unfold wipeV; rw [List.length_set, wipeV_len e vs]
theorem REnv.wipe {vs : List Nat} (r : p.en F m H e σ) : p.en F m H (wipeV e vs) (L2.wipe σ vs) := by
  refine ⟨by rw [wipeV_len, wipe_length]; exact r.1, fun i w g => ?_⟩
  obtain ⟨g', n⟩ := wipeV_get e vs i w g
  obtain ⟨v, a, b⟩ := r.2 i w g'
  refine ⟨v, ?_, b⟩
  rw [wipe_get, if_neg n]; exact a
/-- what the block's parts tell, whatever the context -/
structure Blk (p : Pr) (X : Cx) (scope : Scope) (tg : Expr) (vs : List Nat) (g : GV) (ifs : List Expr) (t : TV) (elts : List Expr) (fs : List EV) : Prop where
  g : ∀ (s : Shared) (H : Hp) (C : Addr) (cl : List (Str × Addr)) (fp : List Addr), SG p (X.blk s H scope (compEnvC scope cl C X.env) fp) W0 vs tg g
  t : ∀ (s : Shared) (H : Hp) (C : Addr) (cl : List (Str × Addr)) (fp : List Addr), PTs (X.blk s H scope (compEnvC scope cl C X.env) fp) ifs (tOf p relB W0 t)
  e : ∀ (s : Shared) (H : Hp) (C : Addr) (cl : List (Str × Addr)) (fp : List Addr), Paired (fun el fe => SE p (X.blk s H scope (compEnvC scope cl C X.env) fp) W0 el fe) elts fs
theorem pts_yes : PTs X [] (tOf p relB W0 yesT) := ⟨fun pins s σ H Q I hw => by
  obtain ⟨F, m, e, S, r, s', q⟩ := hw
  exact pts_nil.run pins s σ H Q I (q true H m (Ext.refl _ _) rfl s')⟩
theorem pts_if {c : Expr} {t : TV} (h : ST p X W0 c t) : PTs X [c] (tOf p relB W0 t) := pts_one h.can

/-- one turn's element is appended -/
theorem comp_turn {own vs : List Nat} {g : GV} {t : TV} {el : EV} {e0 : En} {D : Addr} {Nx : Hp → Prop} {Q : VK} {w : W} {v : V} {acc : List W} {va : List V} {rest : List W → Store → R (List W)} {Fo : List Addr} (hown : ∀ j ∈ vs, j ∈ own)
    (hFo : F = D :: Fo) (hD : H D = some (.lst va)) (r : p.en F m H (wipeV e0 own) (L2.wipe σ own)) (s : p.st F m H S) (rv : p.w F m H w v) (ra : p.ws F m H acc va)
    (h : PostF p Fo H1 m1 σ Q Wx ((g w (wipeV e0 own) S).bindS fun e' S => (t e' S).bindS fun k S => match k with
      | false => rest acc S
      | true => (el e' S).bindS fun y S => if Nat.blt acc.length 16777216 then rest (acc ++ [y]) S else .stuck))
    (hn : ∀ acc' va' H' m' S', Ext H m H' m' → H' D = some (.lst va') → p.ws F m' H' acc' va' → p.st F m' H' S' → PostF p Fo H1 m1 σ Q Wx (rest acc' S') → Nx H') 
    (hn2 : ∀ acc' va' y z H' m' S', Ext H m H' m' → H' D = some (.lst va') → p.ws F m' H' acc' va' → p.w F m' H' y z → p.st F m' H' S' → acc'.length < 16777216 → PostF p Fo H1 m1 σ Q Wx (rest (acc' ++ [y]) S') → Nx (upd H' D (.lst (va' ++ [z])))) :
    gOf p vs W0 g v (L2.wipe σ own) H fun σ2 H2 => L2.wipe σ2 own = L2.wipe σ own ∧ tOf p relB W0 t σ2 H2 fun b H3 =>
      if b = true then tOf p p.w W0 el σ2 H3 fun y H4 => ∃ acc, H4 D = some (.lst acc) ∧ acc.length < sizeLine ∧ Nx (upd H4 D (.lst (acc ++ [y]))) else Nx H3 := by
  refine ⟨F, m, _, S, w, r, s, rv, ?_⟩
  cases q : g w (wipeV e0 own) S with
  | exc x S1 => rw [q] at h; exact h.elim
  | stuck => rw [q] at h; exact h.elim
  | ok e1 S1 =>
    rw [q] at h
    simp only [R.bindS] at h
    intro σ2 H2 m2 x2 near r2 s2
    have hm2 : D ∉ m := s.apart D (by rw [hFo]; exact List.mem_cons_self)
    have hD2 := x2.keep D _ hD hm2
    have e2 : L2.wipe σ2 own = L2.wipe (L2.wipe σ own) own := near.wipe hown
    have e3 : L2.wipe (L2.wipe σ own) own = L2.wipe σ own := by
      apply List.ext_getElem?
      intro j
      rw [wipe_get, wipe_get, wipe_length]
      by_cases hj : j ∈ own
      · rw [if_pos hj, if_pos hj]
      · rw [if_neg hj, if_neg hj]
    refine ⟨e2.trans e3, F, m2, e1, S1, r2, s2, ?_⟩
    cases q2 : t e1 S1 with
    | exc x S1 => rw [q2] at h; exact h.elim
    | stuck => rw [q2] at h; exact h.elim
    | ok b S2 =>
      rw [q2] at h
      intro b' H3 m3 x3 eb s3
      cases eb
      have hm3 : D ∉ m2 := s2.apart D (by rw [hFo]; exact List.mem_cons_self)
      have hD3 := x3.keep D _ hD2 hm3
      have ra3 := (x2.trans x3).ws ra
      cases b with
      | false => rw [if_neg Bool.false_ne_true]; exact hn acc va H3 m3 S2 (x2.trans x3) hD3 ra3 s3 h
      | true =>
        rw [if_pos rfl]
        refine ⟨F, m3, e1, S2, x3.env r2, s3, ?_⟩
        simp only at h
        cases q3 : el e1 S2 with
        | exc x S1 => rw [q3] at h; exact h.elim
        | stuck => rw [q3] at h; exact h.elim
        | ok y S3 =>
          rw [q3] at h
          intro z H4 m4 x4 rz s4
          have hm4 : D ∉ m3 := s3.apart D (by rw [hFo]; exact List.mem_cons_self)
          have hD4 := x4.keep D _ hD3 hm4
          simp only at h
          split at h
          · rename_i hb
            have hb := Nat.le_of_ble_eq_true hb
            have ra4 := x4.ws ra3
            refine ⟨va, hD4, by rw [← RepWs.len ra4, line]; exact hb, hn2 acc va y z H4 m4 S3 ((x2.trans x3).trans x4) hD4 ra4 rz s4 hb h⟩
          · exact h.elim
theorem comp_fix {J : L2.It} {ws : List W} {own vs : List Nat} {g : GV} {t : TV} {el : EV} {Q : VK} {S1 : Store} {D : Addr} (hown : ∀ j ∈ vs, j ∈ own) (okJ : FixOk p J F H1 m1 ws) (hD : H1 D = none) (r1 : p.en F m1 H1 e σ) (s1 : p.st F m1 H1 S1)
    (h : PostF p F H1 m1 σ Q Wx (compL g t el (wipeV e own) ws [] S1)) :
    ∃ W : Nat → Nat → Hp → Prop, (∃ m, W 0 m (upd H1 D (.lst []))) ∧ ∀ i m H, W i m H →
      (J.stop i H ∧ Q (.ref D) H) ∨ (J.go i H ∧ ∃ Nx : Hp → Prop, (∀ H', Nx H' → ∃ m', m' < m ∧ W (i + 1) m' H') ∧ ∀ x H', J.yld i H x H' → gOf p vs W0 g x (L2.wipe σ own) H' fun σ2 H2 => L2.wipe σ2 own = L2.wipe σ own ∧ tOf p relB W0 t σ2 H2 fun b H3 =>
        if b = true then tOf p p.w W0 el σ2 H3 fun y H4 => ∃ acc, H4 D = some (.lst acc) ∧ acc.length < sizeLine ∧ Nx (upd H4 D (.lst (acc ++ [y]))) else Nx H3) := by
  have x0 : Ext H1 m1 (upd H1 D (.lst [])) m1 := Ext.new hD
  have nF : D ∉ F := fun z => (s1.there D z).1 hD
  have nm : D ∉ m1 := fun z => s1.thing z hD
  have fin : ∀ (acc : List W) (va : List V) (H' : Hp) (m' : List Addr) (S' : Store), Ext H1 m1 H' m' → H' D = some (.lst va) → p.ws (D :: F) m' H' acc va → p.st (D :: F) m' H' S' → PostF p F H1 m1 σ Q Wx (.ok acc S') → Q (.ref D) H' := fun acc va H' m' S' x hv ra s' h => by
    refine h D va H' m' x hD ?_ hv ra s'
    rw [List.mem_append, not_or]
    exact ⟨nF, s'.apart D List.mem_cons_self⟩
  refine ⟨fun i k H' => k = ws.length - i ∧ ∃ acc va S' m', Ext H1 m1 H' m' ∧ H' D = some (.lst va) ∧ p.ws (D :: F) m' H' acc va ∧ p.st (D :: F) m' H' S' ∧ p.en (D :: F) m' H' e σ ∧ PostF p F H1 m1 σ Q Wx (compL g t el (wipeV e own) (ws.drop i) acc S'),
    ⟨ws.length, by simp, [], [], S1, m1, x0, upd_same, .nil, s1.hold hD, r1.hold hD, h⟩, ?_⟩
  rintro i k H' ⟨rfl, acc, va, S', m', x, hv, ra, s', re, h'⟩
  obtain ⟨hstop, hgo⟩ := okJ (D :: F) H' m' (fun q hq => by
    rcases List.mem_cons.mp hq with z | z
    · exact .inr (by rw [z]; exact hD)
    · exact .inl z) x
  by_cases hlt : i < ws.length
  · have hd : ws.drop i = ws[i] :: ws.drop (i + 1) := List.drop_eq_getElem_cons hlt
    obtain ⟨go, hy⟩ := hgo i ws[i] (List.getElem?_eq_getElem hlt)
    rw [hd] at h'
    unfold compL at h'
    refine .inr ⟨go, fun H2 => ∃ acc va S2 m2, Ext H1 m1 H2 m2 ∧ H2 D = some (.lst va) ∧ p.ws (D :: F) m2 H2 acc va ∧ p.st (D :: F) m2 H2 S2 ∧ p.en (D :: F) m2 H2 e σ ∧ PostF p F H1 m1 σ Q Wx (compL g t el (wipeV e own) (ws.drop (i + 1)) acc S2),
      fun H2 ⟨acc, va, S2, m2, a⟩ => ⟨ws.length - (i + 1), by omega, rfl, acc, va, S2, m2, a⟩, fun y H'' hyl => ?_⟩
    obtain ⟨x2, hr⟩ := hy y H'' hyl
    obtain ⟨ry, s2⟩ := hr S' s'
    have hD2 := x2.keep D _ hv (s'.apart D List.mem_cons_self)
    refine comp_turn hown rfl hD2 (REnv.wipe (x2.env re)) s2 ry (x2.ws ra) h' (fun acc' va' H2 m2 S2 x3 hv2 ra2 s2' h2 => ⟨acc', va', S2, m2, (x.trans x2).trans x3, hv2, ra2, s2', (x2.trans x3).env re, h2⟩) ?_
    intro acc' va' y' z H2 m2 S2 x3 hv2 ra2 rz s2' hl h2
    refine ⟨acc' ++ [y'], va' ++ [z], S2, m2, ((x.trans x2).trans x3).own hD, upd_same, ?_, s2'.wr List.mem_cons_self, REnv.wr ((x2.trans x3).env re) List.mem_cons_self, h2⟩
    exact RepWs.go (leansD List.mem_cons_self) ⟨[], by simp⟩ (ra2.app (.cons rz .nil))
  · have hd : ws.drop i = [] := List.drop_eq_nil_of_le (by omega)
    rw [hd] at h'
    exact .inl ⟨hstop i (by omega), fin acc va H' m' S' x hv ra s' h'⟩
/-- a fresh thing that a name's assignment takes at once, too -/
def SFC (p : Pr) (X : Cx) (Wx : WX) (ex : Expr) (f : FV) : Prop := ∃ t, PE X ex t ∧ (∀ (i : Nat) (y : Str) (py spos : Pos), X.N[i]? = some y → X.env.scope.names.lookup y = some .local → swapsWith ex (some (.Name y py)) spos.line X.env = pure true → PS X (.Assign [.Name y py] ex spos) (tAsg t (gName i))) ∧
  ∀ (F : List Addr) (H : Hp) (m : List Addr) (e : En) (S : Store) (σ : L2.St) (Q : VK), p.en F m H e σ → p.st F m H S → PostF p F H m σ Q Wx (f e S) → t σ H Q
theorem SFC.sf {ex : Expr} {f : FV} (h : SFC p X Wx ex f) : SF p X Wx ex f := let ⟨t, pt, _, g⟩ := h; ⟨t, pt, g⟩
/-- name = [..] at once: the new list is data, or of the store -/
theorem ss_setC {ex : Expr} {f : FV} {i : Nat} {y : Str} {py spos : Pos} (hi : X.N[i]? = some y) (hl : X.env.scope.names.lookup y = some .local) (hs : swapsWith ex (some (.Name y py)) spos.line X.env = pure true) (h : SFC p X Wx ex f) :
    SS p X Wx (.Assign [.Name y py] ex spos) (asgS (nameG i) (frzE f)) ∧ SS p X Wx (.Assign [.Name y py] ex spos) (asgS (nameG i) (newE f)) := by
  obtain ⟨t, pt, ps, g⟩ := h
  have gf : SF p X Wx ex f := ⟨t, pt, g⟩
  have key : ∀ (fe : EV), Good p p.w Wx t fe → SS p X Wx (.Assign [.Name y py] ex spos) (asgS (nameG i) fe) := fun fe ge => by
    refine ⟨_, ps i y py spos hi hl hs, fun F H m e S σ D r s h => ?_⟩
    exact ge.seqS r s h fun w S1 v H1 m1 _ r1 rw' s1 h1 => h1 _ H1 m1 (Ext.refl _ _) (r1.set rw') s1
  exact ⟨key _ (good_frz g), key _ (good_new g)⟩
theorem sfc_comp {elt tg iter : Expr} {ifs : List Expr} {scope : Scope} {own : List (Str × Nat)} {vs : List Nat} {pos : Pos} {fi : IV} {g : GV} {t : TV} {el : EV} (hK : X.K = p.K) (hc : X.calm = true) (hN : X.N.Nodup) (hi : SI p X Wx tg iter fi) (ok : BlkOk X.N X.env.scope scope own)
    (hown : ∀ j ∈ vs, j ∈ own.map (·.2)) (hb : Blk p X scope tg vs g ifs t [elt] [el]) (hs : ∀ x, foldedSetIterable iter X.env x = pure x) :
    SFC p X Wx (.ListComp elt [⟨tg, iter, ifs, 0⟩] scope pos) (compF (own.map (·.2)) fi g t el) := by
  obtain ⟨wi, pi, gi⟩ := hi
  refine ⟨_, pe_lc hc hN pi ok (fun s H C cl fp => (hb.g s H C cl fp).can) (hb.t) (fun s H C cl fp => by
    have := hb.e s H C cl fp
    cases this with | cons a _ => exact a.can) hs, fun i y py spos hi0 hl hsw => ps_setLc hc hN hi0 hl hsw pi ok (fun s H C cl fp => (hb.g s H C cl fp).can) (hb.t) (fun s H C cl fp => by
    have := hb.e s H C cl fp
    cases this with | cons a _ => exact a.can) hs, fun F H m e S σ Q r s h => ?_⟩
  refine gi F H m e S σ _ r s ?_
  unfold compF at h
  cases q : fi e S with
  | exc x S1 => rw [q] at h; exact h
  | stuck => rw [q] at h; exact h
  | ok j S1 =>
    rw [q] at h
    simp only [R.bind] at h
    intro J H1 m1 x1 okJ s1 D hD
    have h := h.ext x1
    have r1 := x1.env r
    have x0 : Ext H1 m1 (upd H1 D (.lst [])) m1 := Ext.new hD
    have nF : D ∉ F := fun z => (s1.there D z).1 hD
    have nm : D ∉ m1 := fun z => s1.thing z hD
    have fin : ∀ (acc : List W) (va : List V) (H' : Hp) (m' : List Addr) (S' : Store), Ext H1 m1 H' m' → H' D = some (.lst va) → p.ws (D :: F) m' H' acc va → p.st (D :: F) m' H' S' → PostF p F H1 m1 σ Q Wx (.ok acc S') → Q (.ref D) H' := fun acc va H' m' S' x hv ra s' h => by
      refine h D va H' m' x hD ?_ hv ra s'
      rw [List.mem_append, not_or]
      exact ⟨nF, s'.apart D List.mem_cons_self⟩
    cases j with
    | fix ws =>
      exact comp_fix hown okJ hD r1 s1 h
    | ref j =>
      obtain ⟨a, ha, rfl⟩ := okJ
      refine ⟨fun i k H' => ∃ acc va S' m', Ext H1 m1 H' m' ∧ H' D = some (.lst va) ∧ p.ws (D :: F) m' H' acc va ∧ p.st (D :: F) m' H' S' ∧ p.en (D :: F) m' H' e σ ∧ PostF p F H1 m1 σ Q Wx (compR g t el (wipeV e (own.map (·.2))) j k i acc S'),
        ⟨1000000, [], [], S1, m1, x0, upd_same, .nil, s1.hold hD, r1.hold hD, h⟩, ?_⟩
      rintro i k H' ⟨acc, va, S', m', x, hv, ra, s', re, h'⟩
      cases k with
      | zero => exact h'.elim
      | succ k =>
        have ha' : m'[j]? = some a := by
          obtain ⟨l, rfl⟩ := x.pre
          rw [List.getElem?_append_left (List.getElem?_eq_some_iff.mp ha).1]; exact ha
        unfold compR at h'
        cases q0 : getO S' j with
        | none => rw [q0] at h'; exact h'.elim
        | some o =>
          rw [q0] at h'
          cases o with
          | dct => exact h'.elim
          | lst ws =>
            obtain ⟨vs', hv', rv⟩ := s'.obj _ _ _ ha' q0
            have hq : SqL p.K H' a vs' := .inl (.inl hv')
            cases q1 : ws[i]? with
            | none =>
              simp only [q1] at h'
              refine .inl ⟨⟨vs', hq, ?_⟩, fin acc va H' m' S' x hv ra s' h'⟩
              rw [← RepWs.len rv]
              exact List.getElem?_eq_none_iff.mp q1
            | some w =>
              simp only [q1] at h'
              obtain ⟨v, ev, rw'⟩ := RepWs.get rv q1
              refine .inr ⟨⟨vs', v, hq, ev⟩, fun H2 => ∃ acc va S2 m2, Ext H1 m1 H2 m2 ∧ H2 D = some (.lst va) ∧ p.ws (D :: F) m2 H2 acc va ∧ p.st (D :: F) m2 H2 S2 ∧ p.en (D :: F) m2 H2 e σ ∧ PostF p F H1 m1 σ Q Wx (compR g t el (wipeV e (own.map (·.2))) j k (i + 1) acc S2),
                fun H2 hN => ⟨k, Nat.lt_succ_self k, hN⟩, fun y H'' hyl => ?_⟩
              obtain ⟨rfl, hy⟩ := hyl
              have ey : v = y := Option.some.inj (ev.symm.trans (hy vs' hq))
              subst ey
              refine comp_turn hown rfl hv (REnv.wipe re) s' rw' ra h' (fun acc' va' H2 m2 S2 x3 hv2 ra2 s2' h2 => ⟨acc', va', S2, m2, x.trans x3, hv2, ra2, s2', x3.env re, h2⟩) ?_
              intro acc' va' y' z H2 m2 S2 x3 hv2 ra2 rz s2' hl h2
              refine ⟨acc' ++ [y'], va' ++ [z], S2, m2, (x.trans x3).own hD, upd_same, ?_, s2'.wr List.mem_cons_self, REnv.wr (x3.env re) List.mem_cons_self, h2⟩
              exact RepWs.go (leansD List.mem_cons_self) ⟨[], by simp⟩ (ra2.app (.cons rz .nil))
end
end Pv

end

section
set_option linter.all false
set_option maxRecDepth 100000
set_option Elab.async false
set_option linter.all false
/-! Pv13: dicts: walked, made, asked. -/
namespace Pv
open PySem PySem.Spec PyProof.Rows L2
section
variable {p : Pr} {X : Cx} {Wx : WX} {F m m1 m' F' Z : List Addr} {H H1 H' : Hp} {σ : L2.St} {e : En} {S : Store} {kt : List (List D)} {K : PySem.W.Frag}

/-! ### a dict is locked -/
def DO (u : HO) : Prop := (∃ ks, u = .dK ks) ∨ ∃ ks, u = .dT ks
theorem DO.ntup {u : HO} (h : DO u) {xs : List V} (e : HO.tup xs = u) : False := by
  rcases h with ⟨ks, rfl⟩ | ⟨ks, rfl⟩ <;> cases e
/-- the same but for dicts locked or not -/
def Lk (H H' : Hp) (Z : List Addr) : Prop := ∀ b o, H b = some o → b ∉ Z → H' b = some o ∨ ∃ u, DO u ∧ Rd H b u ∧ Rd H' b u
theorem RepD.lk (hk : Lk H H' Z) {d : D} {v : V} (h : RepD kt K H Z d v) : RepD kt K H' Z d v := by
  have nt : ∀ {b : Addr} {o : HO}, H b = some o → b ∉ Z → (∀ u, DO u → o ≠ u) → (∀ u o', DO u → o ≠ .frz o' u) → H' b = some o := fun {b o} hb n h1 h2 => by
    rcases hk b o hb n with z | ⟨u, du, r, _⟩
    · exact z
    · rcases r with r | ⟨o', r⟩
      · rw [hb] at r; exact absurd (Option.some.inj r) (h1 u du)
      · rw [hb] at r; exact absurd (Option.some.inj r) (h2 u o' du)
  have rd : ∀ {b : Addr} {u : HO}, Rd H b u → DO u → b ∉ Z → Rd H' b u := fun {b u} r du n => by
    have key : ∀ u', DO u' → Rd H b u' → u' = u := fun u' du' r' => by
      rcases r with r | ⟨o, r⟩ <;> rcases r' with r' | ⟨o', r'⟩ <;> rw [r] at r' <;> cases r' <;> first | rfl | (exfalso; rcases du' with ⟨_, z⟩ | ⟨_, z⟩ <;> cases z; done) | (exfalso; rcases du with ⟨_, z⟩ | ⟨_, z⟩ <;> cases z; done)
    rcases r with r | ⟨o, r⟩
    · rcases hk b _ r n with z | ⟨u', du', a, c⟩
      · exact .inl z
      · rw [← key u' du' a]; exact c
    · rcases hk b _ r n with z | ⟨u', du', a, c⟩
      · exact .inr ⟨o, z⟩
      · rw [← key u' du' a]; exact c
  exact RepD.rec (motive_1 := fun d v _ => RepD kt K H' Z d v) (motive_2 := fun ds vs _ => RepDs kt K H' Z ds vs) (motive_3 := fun ds vs _ => RepK kt K H' Z ds vs) (motive_4 := fun ds vs _ => RepT kt K H' Z ds vs)
    .non .bl .int .str
    (fun h n _ i => .tup (nt h n (fun u du z => du.ntup z) (fun _ _ _ z => nomatch z)) n i) (fun h z _ i => .tupK h z i)
    (fun h n _ i => .lst (nt h n (fun u du z => by rcases du with ⟨_, rfl⟩ | ⟨_, rfl⟩ <;> cases z) (fun _ _ _ z => nomatch z)) n i)
    (fun h n => .scr (nt h n (fun u du z => by rcases du with ⟨_, rfl⟩ | ⟨_, rfl⟩ <;> cases z) (fun u _ du z => by rcases du with ⟨_, rfl⟩ | ⟨_, rfl⟩ <;> cases z)) n) .scrK
    (fun h n _ i => .dK (rd h (.inl ⟨_, rfl⟩) n) n i) (fun h n _ i => .dT (rd h (.inr ⟨_, rfl⟩) n) n i)
    .nil (fun _ _ a b => .cons a b) .nil (fun h _ _ a b => .cons h a b) .nil (fun h z _ _ a b => .cons h z a b) h
theorem RepW.lk (hk : Lk H H' Z) {w : W} {v : V} (h : RepW kt K H Z m w v) : RepW kt K H' Z m w v := by
  cases h with
  | d h => exact .d (h.lk hk)
  | ref h => exact .ref h
theorem RepWs.lk (hk : Lk H H' Z) : ∀ {ws : List W} {vs : List V}, RepWs kt K H Z m ws vs → RepWs kt K H' Z m ws vs
  | _, _, .nil => .nil
  | _, _, .cons a b => .cons (a.lk hk) (RepWs.lk hk b)
theorem RepKW.lk (hk : Lk H H' Z) : ∀ {ws : List (D × W)} {vs : List (Key × V)}, RepKW kt K H Z m ws vs → RepKW kt K H' Z m ws vs
  | _, _, .nil => .nil
  | _, _, .cons k a b => .cons k (a.lk hk) (RepKW.lk hk b)
theorem RepTW.lk (hk : Lk H H' Z) : ∀ {ws : List (D × W)} {vs : List (List Key × V)}, RepTW kt K H Z m ws vs → RepTW kt K H' Z m ws vs
  | _, _, .nil => .nil
  | _, _, .cons k z a b => .cons k z (a.lk hk) (RepTW.lk hk b)
theorem RepO.lk (hk : Lk H H' Z) {q : Addr} (hp : H q = H' q) {o : Th} (h : RepO kt K H Z m q o) : RepO kt K H' Z m q o := by
  match o, h with
  | .lst ws, ⟨vs, h, r⟩ => exact ⟨vs, hp ▸ h, RepWs.lk hk r⟩
  | .dct false ws, ⟨vs, h, r⟩ => exact ⟨vs, hp ▸ h, RepKW.lk hk r⟩
  | .dct true ws, ⟨vs, h, r⟩ => exact ⟨vs, hp ▸ h, RepTW.lk hk r⟩
theorem Rst.lk (hk : Lk H H' (F ++ m)) (he : ∀ q ∈ F ++ m, H q = H' q) (s : p.st F m H S) : p.st F m H' S :=
  ⟨s.len, s.nd, s.apart, fun q hq => he q (List.mem_append_left _ hq) ▸ s.there q hq, fun i q o hi ho => (s.obj i q o hi ho).lk hk (he q (List.mem_append_right _ (List.mem_of_getElem? hi)))⟩
theorem REnv.lk (hk : Lk H H' (F ++ m)) (r : p.en F m H e σ) : p.en F m H' e σ := ⟨r.1, fun i w g => let ⟨v, a, b⟩ := r.2 i w g; ⟨v, a, b.lk hk⟩⟩
theorem lk_on {a : Addr} {u : HO} {o : Obj} (ha : H a = some u) (du : DO u) : Lk H (upd H a (.frz o u)) Z := fun b ob hb _ => by
  by_cases e : b = a
  · subst e; exact .inr ⟨u, du, .inl ha, .inr ⟨o, upd_same⟩⟩
  · exact .inl (by rw [upd_ne e]; exact hb)
theorem lk_off {a : Addr} {u : HO} {o : Obj} (ha : H a = some (.frz o u)) (du : DO u) : Lk H (upd H a u) Z := fun b ob hb _ => by
  by_cases e : b = a
  · subst e; exact .inr ⟨u, du, .inr ⟨o, ha⟩, .inl upd_same⟩
  · exact .inl (by rw [upd_ne e]; exact hb)
theorem eq_off {a : Addr} {u : HO} (n : a ∉ Z) : ∀ q ∈ Z, H q = upd H a u q := fun q hq => (upd_ne fun e => n (by rw [← e]; exact hq)).symm
theorem Ext.off {a : Addr} {u : HO} {o : Obj} (x : Ext (upd H a (.frz o u)) m H' m') (ha : H a = some u) (n : a ∉ m) : Ext H m (upd H' a u) m' := by
  have hL : ∀ q, q ≠ a → upd H a (.frz o u) q = H q := fun q e => upd_ne e
  refine ⟨x.pre, fun q w hq nm => ?_, fun q hq => ?_, fun q hq hn => ?_⟩
  · by_cases e : q = a
    · subst e; rw [upd_same, ← ha]; exact hq
    · rw [upd_ne e]; exact x.keep q w (by rw [hL q e]; exact hq) nm
  · rcases x.fresh q hq with z | z
    · exact .inl z
    · by_cases e : q = a
      · subst e; rw [upd_same] at z; cases z
      · rw [hL q e] at z; exact .inr z
  · by_cases e : q = a
    · subst e; exact absurd hq n
    · rw [upd_ne e]; exact x.stay q hq (by rw [hL q e]; exact hn)
theorem RepD.dctAt {tk : Bool} {kvs : List (D × D)} {v : V} (r : RepD kt K H Z (.dct tk kvs) v) :
    ∃ a, v = .ref a ∧ a ∉ Z ∧ ((tk = false ∧ ∃ ks, Rd H a (.dK ks) ∧ RepK kt K H Z kvs ks) ∨ (tk = true ∧ ∃ ks, Rd H a (.dT ks) ∧ RepT kt K H Z kvs ks)) := by
  cases r with
  | dK h n r => exact ⟨_, rfl, n, .inl ⟨rfl, _, h, r⟩⟩
  | dT h n r => exact ⟨_, rfl, n, .inr ⟨rfl, _, h, r⟩⟩

/-! ### a dict's keys, walked -/
theorem key_rep {k : D} {κ : Key} (h : keyOf k = some κ) : RepD kt K H Z k (kV κ) := by
  cases k with
  | int i => cases h; exact .int i
  | str x => cases h; exact .str x
  | _ => cases h
theorem keys_rep : ∀ {ks : List D} {κs : List Key}, keysOf ks = some κs → RepDs kt K H Z ks (κs.map kV)
  | [], _, h => by cases h; exact .nil
  | k :: ks, κs, h => by
    unfold keysOf at h
    split at h
    · rename_i κ κs' h1 h2
      cases h
      exact .cons (key_rep h1) (keys_rep h2)
    · cases h
theorem RepK.key {kvs : List (D × D)} {ks : List (Key × V)} (r : RepK kt K H Z kvs ks) : ∀ {i : Nat} {k : D} {d : D}, kvs[i]? = some (k, d) → ∃ κ v, ks[i]? = some (κ, v) ∧ keyOf k = some κ := by
  induction kvs generalizing ks with
  | nil => intro i k d h; simp at h
  | cons q kvs ih =>
    cases r with | cons hk hd hr =>
    intro i k d h
    cases i with
    | zero => cases h; exact ⟨_, _, rfl, hk⟩
    | succ i => exact ih hr (i := i) h
theorem RepT.key {kvs : List (D × D)} {ks : List (List Key × V)} (r : RepT kt K H Z kvs ks) : ∀ {i : Nat} {k : D} {d : D}, kvs[i]? = some (k, d) → ∃ k' κ v, ks[i]? = some (κ, v) ∧ k = .tup k' ∧ keysOf k' = some κ := by
  induction kvs generalizing ks with
  | nil => intro i k d h; simp at h
  | cons q kvs ih =>
    cases r with | cons hk ht hd hr =>
    intro i k d h
    cases i with
    | zero => cases h; exact ⟨_, _, _, rfl, rfl, hk⟩
    | succ i => exact ih hr (i := i) h
theorem RepK.length : ∀ {kvs : List (D × D)} {ks : List (Key × V)}, RepK kt K H Z kvs ks → kvs.length = ks.length
  | _, _, .nil => rfl
  | _, _, .cons _ _ b => congrArg (· + 1) b.length
theorem RepT.length : ∀ {kvs : List (D × D)} {ks : List (List Key × V)}, RepT kt K H Z kvs ks → kvs.length = ks.length
  | _, _, .nil => rfl
  | _, _, .cons _ _ _ b => congrArg (· + 1) b.length
theorem Rst.noTup {q : Addr} {xs : List V} (s : p.st F m H S) (h : H q = some (.tup xs)) : q ∉ F ++ m := fun z => by
  rcases List.mem_append.mp z with z | z
  · exact (s.there q z).2 xs h
  · obtain ⟨i, hi, e⟩ := List.mem_iff_getElem.mp z
    have hm : m[i]? = some q := by rw [List.getElem?_eq_getElem hi, e]
    obtain ⟨o, ho⟩ := getO_some (S := S) (i := i) (s.len ▸ hi)
    have r := s.obj i q o hm ho
    match o, r with
    | .lst ws, ⟨vs, h', r⟩ => rw [h] at h'; cases h'
    | .dct false ws, ⟨vs, h', r⟩ => rw [h] at h'; cases h'
    | .dct true ws, ⟨vs, h', r⟩ => rw [h] at h'; cases h'
theorem mapk_get {kvs : List (D × D)} {i : Nat} {w : W} (h : (kvs.map fun kv => W.d kv.1)[i]? = some w) : ∃ k d, kvs[i]? = some (k, d) ∧ w = .d k := by
  rw [List.getElem?_map] at h
  cases q : kvs[i]? with
  | none => rw [q] at h; cases h
  | some d => rw [q] at h; cases h; exact ⟨_, _, rfl, rfl⟩
theorem fix_keysK {a : Addr} {o : Obj} {kvs : List (D × D)} {ks : List (Key × V)} (ha : H a = some (.frz o (.dK ks))) (na : a ∉ F ++ m) (r : RepK p.kt p.K H (F ++ m) kvs ks) : FixOk p (Itk a o ks) F H m (kvs.map fun kv => .d kv.1) := by
  intro F' H' m' hF x
  have ha' := (leansF x hF a _ ha na).1
  refine ⟨fun i hi => ⟨ha', by rw [← r.length]; simpa using hi⟩, fun i w hw => ?_⟩
  obtain ⟨k, d, hk, rfl⟩ := mapk_get hw
  obtain ⟨κ, v, h1, h2⟩ := r.key hk
  refine ⟨⟨ha', (List.getElem?_eq_some_iff.mp h1).1⟩, fun y H'' hy => ?_⟩
  obtain ⟨rfl, κ', v', h3, rfl⟩ := hy
  rw [h1] at h3
  cases h3
  exact ⟨Ext.refl _ _, fun S s => ⟨.d (key_rep h2), s⟩⟩
theorem fix_keysT {a : Addr} {o : Obj} {kvs : List (D × D)} {ks : List (List Key × V)} (ha : H a = some (.frz o (.dT ks))) (na : a ∉ F ++ m) (r : RepT p.kt p.K H (F ++ m) kvs ks) : FixOk p (Itkt a o ks) F H m (kvs.map fun kv => .d kv.1) := by
  intro F' H' m' hF x
  have ha' := (leansF x hF a _ ha na).1
  refine ⟨fun i hi => ⟨ha', by rw [← r.length]; simpa using hi⟩, fun i w hw => ?_⟩
  obtain ⟨k, d, hk, rfl⟩ := mapk_get hw
  obtain ⟨k', κ, v, h1, rfl, h2⟩ := r.key hk
  refine ⟨⟨ha', (List.getElem?_eq_some_iff.mp h1).1⟩, fun y H'' hy => ?_⟩
  obtain ⟨rfl, κ', v', q, h3, rfl, hq⟩ := hy
  rw [h1] at h3
  cases h3
  exact ⟨Ext.refl _ _, fun S s => ⟨.d (.tup hq (s.noTup hq) (keys_rep h2)), s⟩⟩
/-- the walk of a dict that is data, locked: J and the walk -/
theorem keys_walk {a : Addr} {tk : Bool} {kvs : List (D × D)} {o : Obj} {u : HO} (na : a ∉ F ++ m) (ha : H a = some (.frz o u)) (r : (tk = false ∧ ∃ ks, u = .dK ks ∧ RepK p.kt p.K H (F ++ m) kvs ks) ∨ (tk = true ∧ ∃ ks, u = .dT ks ∧ RepT p.kt p.K H (F ++ m) kvs ks)) :
    (∃ ks, u = .dK ks ∧ FixOk p (Itk a o ks) F H m (kvs.map fun kv => .d kv.1)) ∨ ∃ ks, u = .dT ks ∧ FixOk p (Itkt a o ks) F H m (kvs.map fun kv => .d kv.1) := by
  rcases r with ⟨_, ks, rfl, r⟩ | ⟨_, ks, rfl, r⟩
  · exact .inl ⟨_, rfl, fix_keysK ha na r⟩
  · exact .inr ⟨_, rfl, fix_keysT ha na r⟩
theorem RepK.lk (hk : Lk H H' Z) : ∀ {ws : List (D × D)} {vs : List (Key × V)}, RepK kt K H Z ws vs → RepK kt K H' Z ws vs
  | _, _, .nil => .nil
  | _, _, .cons k a b => .cons k (a.lk hk) (RepK.lk hk b)
theorem RepT.lk (hk : Lk H H' Z) : ∀ {ws : List (D × D)} {vs : List (List Key × V)}, RepT kt K H Z ws vs → RepT kt K H' Z ws vs
  | _, _, .nil => .nil
  | _, _, .cons k z a b => .cons k z (a.lk hk) (RepT.lk hk b)
/-- a dict that is data: it is locked, or is to be -/
theorem dct_lock {tk : Bool} {kvs : List (D × D)} {v : V} (s : p.st F m H S) (r : p.d F m H (.dct tk kvs) v) : ∃ a u, v = .ref a ∧ a ∉ F ++ m ∧ DO u ∧
    ((H a = some u ∧ Mut (some u) ∧ ∀ o, (tk = false ∧ ∃ ks, u = .dK ks ∧ RepK p.kt p.K (upd H a (.frz o u)) (F ++ m) kvs ks) ∨ (tk = true ∧ ∃ ks, u = .dT ks ∧ RepT p.kt p.K (upd H a (.frz o u)) (F ++ m) kvs ks)) ∨
     ∃ o, H a = some (.frz o u) ∧ ((tk = false ∧ ∃ ks, u = .dK ks ∧ RepK p.kt p.K H (F ++ m) kvs ks) ∨ (tk = true ∧ ∃ ks, u = .dT ks ∧ RepT p.kt p.K H (F ++ m) kvs ks))) := by
  obtain ⟨a, rfl, na, h⟩ := r.dctAt
  rcases h with ⟨rfl, ks, h, r⟩ | ⟨rfl, ks, h, r⟩
  · refine ⟨a, .dK ks, rfl, na, .inl ⟨_, rfl⟩, ?_⟩
    rcases h with h | ⟨o, h⟩
    · exact .inl ⟨h, trivial, fun o => .inl ⟨rfl, ks, rfl, r.lk (lk_on h (.inl ⟨_, rfl⟩))⟩⟩
    · exact .inr ⟨o, h, .inl ⟨rfl, ks, rfl, r⟩⟩
  · refine ⟨a, .dT ks, rfl, na, .inr ⟨_, rfl⟩, ?_⟩
    rcases h with h | ⟨o, h⟩
    · exact .inl ⟨h, trivial, fun o => .inr ⟨rfl, ks, rfl, r.lk (lk_on h (.inr ⟨_, rfl⟩))⟩⟩
    · exact .inr ⟨o, h, .inr ⟨rfl, ks, rfl, r⟩⟩

/-! ### for .. in name -/
theorem PostS.noX {D : Ends} {r : SO} (h : PostS p F H m D Wx (noX r)) : PostS p F H m D W0 r := by
  cases r with
  | exc x e S => exact h.elim
  | stuck => exact h
  | nx e S => exact h
  | rt w S => exact h
  | bk e S => exact h
  | ct e S => exact h
def sOf (p : Pr) (Wx : WX) (f : SV) : Ends → L2.St → Hp → Prop := fun D σ H => ∃ F m e S, p.en F m H e σ ∧ p.st F m H S ∧ PostS p F H m D Wx (f e S)
theorem ss_forN {i : Nat} {x : Str} {tg : Expr} {body : List Stmt} {g : GV} {f : SV} {fi : IV} {vs : List Nat} {p0 pos : Pos} (hK : X.K = p.K) (hp : PassesOwn (model X.prog X.w) X.A X.env X.xe) (hc : X.calm = true)
    (hN : X.N[i]? = some x) (hv : Vis X.env.scope x) (hd : (x == ("__debug__" : Str)) = false) (hcd : (x == ("__classdict__" : Str)) = false) (hs : ∀ y, foldedSetIterable (.Name x p0) X.env y = pure y)
    (hi : SI p X Wx tg (.Name x p0) fi) (hg : SG p X Wx vs tg g) (hb : SSs p X Wx body f) (hg0 : SG p X W0 vs tg g) (hb0 : SSs p X W0 body f) : SS p X Wx (.For tg (.Name x p0) body [] pos) (forN i fi g f) := by
  obtain ⟨t2, p2, g2⟩ := ss_for (pos := pos) hK hp hc hs hi hg hb
  obtain ⟨tgt, pg, gg⟩ := hg0
  obtain ⟨t1, p1, g1⟩ := hb0
  have pf := ps_for (pos := pos) hp hc (pi_keys (tg := tg) (pe_var (pos := p0) hN hv hd hcd)) pg p1 hs
  refine ⟨_, PS.or (PS.or (ps_lock pf) pf) p2, fun F H m e S σ D r s h => ?_⟩
  unfold forN at h
  split at h
  · rename_i tk kvs q
    obtain ⟨v, hσ, rv⟩ := r.2 i _ q
    cases rv with | d rd =>
    obtain ⟨a, u, rfl, na, du, hh⟩ := dct_lock s rd
    have nm : a ∉ m := fun z => na (List.mem_append_right _ z)
    rcases hh with ⟨ha, mu, rr⟩ | ⟨o, ha, rr⟩
    · refine .inl (.inl ⟨a, u, ha, mu, fun od => ⟨.ref a, hσ, ?_⟩⟩)
      have lk : Lk H (upd H a (.frz od u)) (F ++ m) := lk_on ha du
      have s1 : p.st F m (upd H a (.frz od u)) S := s.lk lk (eq_off na)
      have r1 : p.en F m (upd H a (.frz od u)) e σ := r.lk lk
      suffices hL : PostS p F (upd H a (.frz od u)) m ⟨fun σ' H' => H' a = some (.frz od u) ∧ D.nx σ' (upd H' a u), fun v H' => H' a = some (.frz od u) ∧ D.rt v (upd H' a u), fun σ' H' => H' a = some (.frz od u) ∧ D.bk σ' (upd H' a u), fun σ' H' => H' a = some (.frz od u) ∧ D.ct σ' (upd H' a u)⟩ W0 (forL g f (kvs.map fun kv => .d kv.1) e S) by
        rcases keys_walk (p := p) na upd_same (rr od) with ⟨ks, rfl, ok⟩ | ⟨ks, rfl, ok⟩
        · exact ⟨a, od, rfl, .inl ⟨ks, upd_same, for_fix gg g1 ok r1 s1 hL⟩⟩
        · exact ⟨a, od, rfl, .inr ⟨ks, upd_same, for_fix gg g1 ok r1 s1 hL⟩⟩
      have h' := PostS.noX h
      have tr : ∀ {H' m' S'}, Ext (upd H a (.frz od u)) m H' m' → p.st F m' H' S' → H' a = some (.frz od u) ∧ Ext H m (upd H' a u) m' ∧ (Lk H' (upd H' a u) (F ++ m')) ∧ (∀ q ∈ F ++ m', H' q = upd H' a u q) := fun {H' m' S'} x st => by
        have z : H' a = some (.frz od u) := x.keep a _ upd_same nm
        have nF : a ∉ F := fun y => na (List.mem_append_left _ y)
        have nm' : a ∉ m' := fun y => by
          rcases x.fresh a y with w | w
          · exact nm w
          · rw [upd_same] at w; cases w
        refine ⟨z, x.off ha nm, lk_off z du, eq_off ?_⟩
        rw [List.mem_append, not_or]; exact ⟨nF, nm'⟩
      cases q2 : forL g f (kvs.map fun kv => .d kv.1) e S with
      | nx e2 S2 => rw [q2] at h'; exact fun σ' H' m' x r' s' => let ⟨z, x', l, eq⟩ := tr x s'; ⟨z, h' σ' _ m' x' (r'.lk l) (s'.lk l eq)⟩
      | bk e2 S2 => rw [q2] at h'; exact fun σ' H' m' x r' s' => let ⟨z, x', l, eq⟩ := tr x s'; ⟨z, h' σ' _ m' x' (r'.lk l) (s'.lk l eq)⟩
      | ct e2 S2 => rw [q2] at h'; exact fun σ' H' m' x r' s' => let ⟨z, x', l, eq⟩ := tr x s'; ⟨z, h' σ' _ m' x' (r'.lk l) (s'.lk l eq)⟩
      | rt w S2 => rw [q2] at h'; exact fun v H' m' x rv s' => let ⟨z, x', l, eq⟩ := tr x s'; ⟨z, h' v _ m' x' (rv.lk l) (s'.lk l eq)⟩
      | exc y e2 S2 => rw [q2] at h; exact h.elim
      | stuck => rw [q2] at h; exact h.elim
    · refine .inl (.inr ⟨.ref a, hσ, ?_⟩)
      rcases keys_walk (p := p) na ha rr with ⟨ks, rfl, ok⟩ | ⟨ks, rfl, ok⟩
      · exact ⟨a, o, rfl, .inl ⟨ks, ha, for_fix gg g1 ok r s (PostS.noX h)⟩⟩
      · exact ⟨a, o, rfl, .inr ⟨ks, ha, for_fix gg g1 ok r s (PostS.noX h)⟩⟩
  · exact .inr (g2 F H m e S σ D r s h)
theorem sfc_compN {i : Nat} {x : Str} {elt tg : Expr} {ifs : List Expr} {scope : Scope} {own : List (Str × Nat)} {vs : List Nat} {p0 pos : Pos} {fi : IV} {g : GV} {t : TV} {el : EV} (hK : X.K = p.K) (hc : X.calm = true) (hN : X.N.Nodup)
    (hi0 : X.N[i]? = some x) (hv : Vis X.env.scope x) (hd : (x == ("__debug__" : Str)) = false) (hcd : (x == ("__classdict__" : Str)) = false) (hi : SI p X Wx tg (.Name x p0) fi) (ok : BlkOk X.N X.env.scope scope own)
    (hown : ∀ j ∈ vs, j ∈ own.map (·.2)) (hb : Blk p X scope tg vs g ifs t [elt] [el]) (hs : ∀ y, foldedSetIterable (.Name x p0) X.env y = pure y) :
    SFC p X Wx (.ListComp elt [⟨tg, (.Name x p0), ifs, 0⟩] scope pos) (compN (own.map (·.2)) i fi g t el) := by
  obtain ⟨t2, p2, ps2, g2⟩ := sfc_comp (pos := pos) hK hc hN hi ok hown hb hs
  have pf := pe_lc (pos := pos) hc hN (pi_keys (tg := tg) (pe_var (pos := p0) hi0 hv hd hcd)) ok (fun s H C cl fp => (hb.g s H C cl fp).can) (hb.t) (fun s H C cl fp => by
    have := hb.e s H C cl fp
    cases this with | cons a _ => exact a.can) hs
  refine ⟨_, PE.or (PE.or (pe_lock pf) pf) p2, fun j y py spos hj hl hsw => ?_, fun F H m e S σ Q r s h => ?_⟩
  · have q := ps_setLc hc hN hj hl hsw (pi_keys (tg := tg) (pe_var (pos := p0) hi0 hv hd hcd)) ok (fun s H C cl fp => (hb.g s H C cl fp).can) (hb.t) (fun s H C cl fp => by
      have := hb.e s H C cl fp
      cases this with | cons a _ => exact a.can) hs
    exact PS.or (PS.or (ps_lock q) q) (ps2 j y py spos hj hl hsw)
  unfold compN at h
  split at h
  · rename_i tk kvs q
    obtain ⟨v, hσ, rv⟩ := r.2 i _ q
    cases rv with | d rd =>
    obtain ⟨a, u, rfl, na, du, hh⟩ := dct_lock s rd
    have nm : a ∉ m := fun z => na (List.mem_append_right _ z)
    rcases hh with ⟨ha, mu, rr⟩ | ⟨o, ha, rr⟩
    · refine .inl (.inl ⟨a, u, ha, mu, fun od => ⟨.ref a, hσ, ?_⟩⟩)
      have lk : Lk H (upd H a (.frz od u)) (F ++ m) := lk_on ha du
      have s1 : p.st F m (upd H a (.frz od u)) S := s.lk lk (eq_off na)
      have r1 : p.en F m (upd H a (.frz od u)) e σ := r.lk lk
      suffices hL : PostF p F (upd H a (.frz od u)) m σ (fun v H' => H' a = some (.frz od u) ∧ Q v (upd H' a u)) W0 (compL g t el (wipeV e (own.map (·.2))) (kvs.map fun kv => .d kv.1) [] S) by
        rcases keys_walk (p := p) na upd_same (rr od) with ⟨ks, rfl, ok⟩ | ⟨ks, rfl, ok⟩
        · exact ⟨a, od, rfl, .inl ⟨ks, upd_same, fun D hD => comp_fix hown ok hD r1 s1 hL⟩⟩
        · exact ⟨a, od, rfl, .inr ⟨ks, upd_same, fun D hD => comp_fix hown ok hD r1 s1 hL⟩⟩
      cases q2 : compL g t el (wipeV e (own.map (·.2))) (kvs.map fun kv => .d kv.1) [] S with
      | exc y S2 =>
        exfalso
        have nox : ∀ (ws : List W) (acc : List W) (S : Store), compL g t el (wipeV e (own.map (·.2))) ws acc S ≠ .exc y S2 := by
          intro ws
          induction ws with
          | nil => intro acc S z; cases z
          | cons w ws ih =>
            intro acc S z
            unfold compL at z
            cases q3 : g w (wipeV e (own.map (·.2))) S with
            | exc => rw [q3] at z; cases z
            | stuck => rw [q3] at z; cases z
            | ok e1 S1 =>
              rw [q3] at z
              simp only [R.bindS] at z
              cases q4 : t e1 S1 with
              | exc => rw [q4] at z; cases z
              | stuck => rw [q4] at z; cases z
              | ok b S3 =>
                rw [q4] at z
                cases b with
                | false => exact ih _ _ z
                | true =>
                  simp only at z
                  cases q5 : el e1 S3 with
                  | exc => rw [q5] at z; cases z
                  | stuck => rw [q5] at z; cases z
                  | ok b S3 =>
                    rw [q5] at z
                    simp only at z
                    split at z
                    · exact ih _ _ z
                    · cases z
        exact nox _ _ _ q2
      | stuck => rw [q2] at h; exact h.elim
      | ok ws S2 =>
        rw [q2] at h
        intro c vs' H' m' x hn nin hc' rws st
        have z : H' a = some (.frz od u) := x.keep a _ upd_same nm
        have nF : a ∉ F := fun y => na (List.mem_append_left _ y)
        have nm' : a ∉ m' := fun y => by
          rcases x.fresh a y with w | w
          · exact nm w
          · rw [upd_same] at w; cases w
        have ca : c ≠ a := fun y => by rw [y, upd_same] at hn; cases hn
        have nZ : a ∉ (c :: F) ++ m' := by
          simp only [List.cons_append, List.mem_cons, List.mem_append, not_or]; exact ⟨fun y => ca y.symm, nF, nm'⟩
        have l : Lk H' (upd H' a u) ((c :: F) ++ m') := lk_off z du
        exact ⟨z, h c vs' _ m' (x.off ha nm) (by rw [upd_ne ca] at hn; exact hn) nin (by rw [upd_ne ca]; exact hc') (RepWs.lk l rws) (st.lk l (eq_off nZ))⟩
    · refine .inl (.inr ⟨.ref a, hσ, ?_⟩)
      rcases keys_walk (p := p) na ha rr with ⟨ks, rfl, ok⟩ | ⟨ks, rfl, ok⟩
      · exact ⟨a, o, rfl, .inl ⟨ks, ha, fun D hD => comp_fix hown ok hD r s h⟩⟩
      · exact ⟨a, o, rfl, .inr ⟨ks, ha, fun D hD => comp_fix hown ok hD r s h⟩⟩
  · exact .inr (g2 F H m e S σ Q r s h)
end
end Pv

end

section
set_option linter.all false
set_option maxRecDepth 100000
set_option Elab.async false
set_option linter.all false
set_option maxRecDepth 100000
/-! Pv14: dicts made and asked. -/
namespace Pv
open PySem PySem.Spec PyProof.Rows L2
section
variable {p : Pr} {X : Cx} {Wx : WX} {F m m1 m' F' Z : List Addr} {H H1 H' : Hp} {σ : L2.St} {e : En} {S : Store}

/-! ### {} -/
def o0 : Bool → HO
  | false => .dK []
  | true => .dT []
theorem se_dnew {tk : Bool} {pos : Pos} : SE p X Wx (.Dict [] [] pos) (dictE tk) := by
  cases tk with
  | false =>
    refine ⟨_, pe_dnewK, fun F H m e S σ Q r s h a ha => ?_⟩
    refine h (.ref a) _ (m ++ [a]) (Ext.push ha) (.ref ?_) (s.push ha ⟨[], upd_same, .nil⟩)
    rw [← s.len, List.getElem?_append_right (Nat.le_refl _), Nat.sub_self]
    rfl
  | true =>
    refine ⟨_, pe_dnewT, fun F H m e S σ Q r s h a ha => ?_⟩
    refine h (.ref a) _ (m ++ [a]) (Ext.push ha) (.ref ?_) (s.push ha ⟨[], upd_same, .nil⟩)
    rw [← s.len, List.getElem?_append_right (Nat.le_refl _), Nat.sub_self]
    rfl
/-! ### d == {} -/
def rEqE : R2 := fun x y H Q => ∃ a b ks, x = .ref a ∧ y = .ref b ∧ Rd H a (.dK ks) ∧ H b = some (.dK []) ∧ Q (.bl ks.isEmpty) H
theorem op_eqE (hu : X.A.units < cLine) : OpR X (compareOp .Eq) rEqE := by
  intro pins s σ H x y v u Q I rx ry h
  obtain ⟨a, b, ks, rfl, rfl, ea, eb, q⟩ := h
  obtain rfl : v = Value.ref a := rx
  obtain rfl : u = Value.ref b := ry
  obtain ⟨_, ya, va, ra, da⟩ := dk_rd I.hok ea
  obtain ⟨_, yb, vb, rb, db⟩ := dk_of I.hok eb
  have hb : vb = [] := by cases rb; rfl
  subst hb
  have hl := ra.length
  refine PySem.W.keq_eq (knd := mixKind X.prog X.w) (r := true) ya yb da db hu (fun e => ?_) (fin_bl I q ?_)
  · have : va = [] := List.length_eq_zero_iff.mp (by simpa using e)
    subst this
    exact hits_all (ks := ks) rb ra (by cases ra; simp)
  · cases ra <;> simp
theorem emp_map {α β γ : Type} {kvs : List (α × β)} {ks : List γ} (h : kvs.length = ks.length) : kvs.isEmpty = ks.isEmpty := by cases kvs <;> cases ks <;> first | rfl | cases h
theorem good_none {ta : TE} {fa : EV} {Q : VK} (ga : Good p p.w Wx ta fa) (r : p.en F m H e σ) (s : p.st F m H S) (h : Post p relB F H m σ (fun k H' => Q (.bl k) H') Wx (t1 noneF fa e S)) : tOp rEqE ta tDNewK σ H Q := by
  refine ga.seq r s h fun x S1 v H1 m1 _ r1 rx s1 h1 b hb => ?_
  have nb : ∀ {c : Addr} {u : HO}, Rd H1 c u → Rd (upd H1 b (.dK [])) c u := fun {c u} h => by
    rcases h with h | ⟨o, h⟩
    · exact .inl (by rw [upd_ne (ne_of_none h hb)]; exact h)
    · exact .inr ⟨o, by rw [upd_ne (ne_of_none h hb)]; exact h⟩
  unfold noneF at h1
  split at h1
  · rename_i kvs
    cases rx with | d rx =>
    cases rx with | dK hr n rk =>
    refine ⟨_, b, _, rfl, rfl, nb hr, upd_same, ?_⟩
    rw [← emp_map rk.length]
    exact h1 _ _ m1 (Ext.new hb) rfl (s1.new hb)
  · split at h1
    · rename_i kvs q
      cases rx with | ref hi =>
      obtain ⟨ks, hv, rk⟩ := s1.obj _ _ _ hi q
      refine ⟨_, b, ks, rfl, rfl, nb (.inl hv), upd_same, ?_⟩
      rw [← emp_map rk.len]
      exact h1 _ _ m1 (Ext.new hb) rfl (s1.new hb)
    · exact h1.elim
  · exact h1.elim
theorem st_none {a : Expr} {fa : EV} {pos pos' : Pos} (hu : X.A.units < cLine) (ha : SE p X Wx a fa) : ST p X Wx (.Compare a [.Eq] [.Dict [] [] pos'] pos) (t1 noneF fa) := by
  obtain ⟨ta, pa, ga⟩ := ha
  exact ⟨_, pt_cmpR (op_eqE hu) pa pe_dnewK rfl, fun F H m e S σ Q r0 s h => good_none ga r0 s (h.imp fun k H' q => ⟨k, rfl, q⟩)⟩
theorem se_none {a : Expr} {fa : EV} {pos pos' : Pos} (hu : X.A.units < cLine) (ha : SE p X Wx a fa) : SE p X Wx (.Compare a [.Eq] [.Dict [] [] pos'] pos) (valE (t1 noneF fa)) := by
  obtain ⟨ta, pa, ga⟩ := ha
  exact ⟨_, pe_cmpR (op_eqE hu) pa pe_dnewK rfl, fun F H m e S σ Q r0 s h => good_none ga r0 s h.val⟩
/-! ### d.get(k, z) -/
def rGet2 : V → List V → Hp → VK → Prop := fun x xs H Q => ∃ a y z o, x = .ref a ∧ xs = [y, z] ∧ DGet H a y o ∧ Q (o.getD z) H
theorem mt_get2 (hu : X.A.units + 1 < cLine) : MtR X "dict.get" rGet2 := by
  intro pins s σ H x xs v us Q I rx rs h
  obtain ⟨a, y, z, o, rfl, rfl, g, q⟩ := h
  cases rs with | cons r1 rs =>
  cases rs with | cons r2 rs =>
  cases rs
  cases (show v = Value.ref a from rx)
  exact d_get2 hu I g r1 r2 fun w' s' I' r' => ⟨_, H, I', r', q⟩
theorem fits_get (hK : X.K = p.K) (hu : X.A.units + 1 < cLine) : FitsM p X "get" [3] (getG p.kt) := by
  intro F m H S x v s rx hk
  obtain ⟨q, rfl, hq⟩ := kind3 s rx hk
  refine ⟨_, ⟨"dict", _, PySem.F.plainAttrs_dict, PySem.F.slot_dict_get, PySem.F.type_dict_get, .inr (.inr ⟨rfl, q, rfl, hq⟩), mt_get2 hu⟩, fun m' H' S' σ Q Wx ws vs s' rx' rs h => ?_⟩
  unfold getG at h
  split at h
  · rename_i tk kvs k z _
    cases rs with | cons a b =>
    cases b with | cons b c =>
    cases c
    cases a with | d rk =>
    cases rx' with | d rx' =>
    split at h
    · rename_i hk2
      obtain ⟨a, e, _, h1, h2⟩ := dgetD rk hk2 rx'
      cases e
      split at h
      · rename_i x e
        obtain ⟨u, g, ru⟩ := h2 x e
        exact ⟨_, _, _, _, rfl, rfl, g, h _ _ _ (Ext.refl _ _) (.d ru) s'⟩
      · rename_i e
        exact ⟨_, _, _, _, rfl, rfl, h1 e, h _ _ _ (Ext.refl _ _) b s'⟩
    · exact h.elim
  · rename_i i k z _
    cases rs with | cons a b =>
    cases b with | cons b c =>
    cases c
    cases a with | d rk =>
    split at h
    · rename_i tk kvs q0
      split at h
      · rename_i hk2
        obtain ⟨a, e, _, h1, h2⟩ := dgetR s' rk hk2 rx' q0
        cases e
        split at h
        · rename_i x e
          obtain ⟨u, g, ru⟩ := h2 x e
          exact ⟨_, _, _, _, rfl, rfl, g, h _ _ _ (Ext.refl _ _) ru s'⟩
        · rename_i e
          exact ⟨_, _, _, _, rfl, rfl, h1 e, h _ _ _ (Ext.refl _ _) b s'⟩
      · exact h.elim
    · exact h.elim
  · exact h.elim

/-! ### dict comprehensions, keys of either kind -/
theorem d_dictSetA {pins : List (Addr × Obj)} {s : Shared} {E : Value → Shared → Prop} {D : Addr} {y v : V} {u r : Value} {Q : Unit → Shared → Prop} (hu : X.A.units < cLine) (I : Inv X pins σ H s) (g : DPut H D y v H') (ry : RelV y u) (rv : RelV v r)
    (h : ∀ s', Inv X pins σ H' s' → Q () s') : wpAny (model X.prog X.w) X.A (dictSet D u r) Q E s := by
  rcases g with ⟨kvs, k, e, rfl, l, rfl⟩ | ⟨kvs, k, b, e, rfl, eb, l, rfl⟩
  · exact d_dictSet I e l ry rv h
  · cases (show u = Value.ref b from ry)
    obtain ⟨z, hd, xs, rel, dd⟩ := dt_of I.hok e
    have hz : xs.length ≤ sizeLine := by rw [← Paired.length rel]; exact z
    have hl : (L2.putK kvs k v).length ≤ sizeLine := by have := length_putK kvs k v; omega
    refine wpAny_dictSet_heap (hsz := hz) (knd := tupleKind (mixKind X.prog X.w)) hu (key_of I.hok eb) dd fun h' dd' hs => h _ ?_
    obtain ⟨q, es, ep, hq, h2, h3, h4, _, h5⟩ := dd'
    refine d_write I (by rw [e]; exact True.intro) hs ⟨q, hq⟩ ⟨hl, hd, _, (rel.put k eb rv).keeps fun c ys ec => ?_, q, es, ep, hq, h2, h3, h4, h5⟩
    rw [upd_ne (ne_of ec e (fun z => nomatch z))]
    exact ec
def tDcA (tk : Bool) (wi : TI) (g : TG) (tt : TT) (ty tv : TE) (vs : List Nat) : TE := fun σ H Q => wi σ H fun J H1 => ∀ D, H1 D = none → ∃ W : Nat → Nat → Hp → Prop, (∃ m, W 0 m (upd H1 D (o0 tk))) ∧ ∀ i m H, W i m H →
  (J.stop i H ∧ Q (.ref D) H) ∨ (J.go i H ∧ ∃ Nx : Hp → Prop, (∀ H', Nx H' → ∃ m', m' < m ∧ W (i + 1) m' H') ∧ ∀ x H', J.yld i H x H' → g x (L2.wipe σ vs) H' fun σ2 H2 => L2.wipe σ2 vs = L2.wipe σ vs ∧ tt σ2 H2 fun b H3 =>
    if b = true then ty σ2 H3 fun y H4 => tv σ2 H4 fun z H5 => ∃ H6, DPut H5 D y z H6 ∧ Nx H6 else Nx H3)
theorem dcA_core {tk0 : Bool} {pins : List (Addr × Obj)} {s : Shared} {σ : L2.St} {H : Hp} {Q : VK} {kx vx tg iter : Expr} {ifs : List Expr} {scope : Scope} {own : List (Str × Nat)} {pos pos' : Pos} {wi : TI} {g : TG} {tt : TT} {tk tv : TE} {use : Option (Value → Sem Unit)} {Qf : Value → Shared → Prop}
    (hu : X.A.units < cLine) (hc : X.calm = true) (hN : X.N.Nodup) (I : Inv X pins σ H s) (hi : PI X tg iter wi) (ok : BlkOk X.N X.env.scope scope own)
    (hg : ∀ (s : Shared) (H : Hp) (C : Addr) (cl : List (Str × Addr)) (fp : List Addr), PG (X.blk s H scope (compEnvC scope cl C X.env) fp) tg g) (ht : ∀ (s : Shared) (H : Hp) (C : Addr) (cl : List (Str × Addr)) (fp : List Addr), PTs (X.blk s H scope (compEnvC scope cl C X.env) fp) ifs tt)
    (hk : ∀ (s : Shared) (H : Hp) (C : Addr) (cl : List (Str × Addr)) (fp : List Addr), PE (X.blk s H scope (compEnvC scope cl C X.env) fp) kx tk)
    (he : ∀ (s : Shared) (H : Hp) (C : Addr) (cl : List (Str × Addr)) (fp : List Addr), PE (X.blk s H scope (compEnvC scope cl C X.env) fp) vx tv) (hs : ∀ x, foldedSetIterable iter X.env x = pure x)
    (h : tDcA tk0 wi g tt tk tv (own.map (·.2)) σ H Q)
    (hRR : ∀ D C s' m H', Inv X pins σ H' s' → Q (.ref D) H' → s'.heap.Ns C m → FpOk X pins H' C → compPost (model X.prog X.w) X.A X.xe use Qf (.ref D) C (.ok .next) s') :
    wpAny (model X.prog X.w) X.A (comprehension (.DictComp kx vx [⟨tg, iter, ifs, 0⟩] scope pos) scope X.env pos' newDict false (eval iter X.env) use) Qf X.xe s := by
  have hfree : ∀ y ∈ scope.names, y.2 = .free → ∃ c, X.env.cells.lookup y.1 = some c := fun y hy e => by
    rcases ok.free y hy e with k | k
    · exact I.ok.has _ (.inl k)
    · exact I.ok.has _ (.inr k)
  refine wpAny_comprehension_free (use := use) rfl hs (closure_ok hfree) ok.kind (fun y hy e => by rw [ok.uniq y hy, e])
    (thn (hi.run pins s σ H _ I h) fun xv s1 hx => thn hx fun itv s2 h2 => ?_)
  obtain ⟨it, fp, tn, J, H2, e, I2, T, st2, f2, q⟩ := h2
  subst e
  refine wpAny_newObj_type (newEnv_comp ?_)
  generalize hD : s2.heap.objs.size = D
  have hDn : H2 D = none := I2.hok.fresh (Nat.le_of_eq hD)
  obtain ⟨W, ⟨m0, w0⟩, turn⟩ := q D hDn
  generalize hs3 : ({ s2 with heap := s2.heap.push { cls := .type "dict", data := .dict #[] } } : Shared) = s3
  have I3 : Inv X pins σ (upd H2 D (o0 tk0)) s3 := by
    rw [← hs3]
    refine I2.laid (t' := s2.toks) (fun b o e => Heap.get?_push_of_some _ e) (Nat.le_of_eq hD) ?_
    rw [← hD]
    cases tk0 with
    | false => exact dk_empty s2.heap I2.big
    | true => exact dt_empty s2.heap I2.big
  have h3 : s3.heap = s2.heap.push { cls := .type "dict", data := .dict #[] } := by rw [← hs3]
  have sz : ∀ b ∈ fp, b < s2.heap.objs.size := fun b hb => by
    obtain ⟨o, e, _⟩ := T.obj _ _ st2 b hb
    exact Heap.lt_size e
  have f3 : ∀ b ∈ fp, FpOk X pins (upd H2 D (o0 tk0)) b ∧ b < s3.heap.objs.size := fun b hb => by
    have hlt := sz b hb
    refine ⟨⟨?_, (f2 b hb).2⟩, by rw [h3, Heap.size_push]; exact Nat.lt_succ_of_lt hlt⟩
    rw [upd_ne (by rw [← hD]; exact Nat.ne_of_lt hlt)]
    exact (f2 b hb).1
  have st3 : tn 0 s3.heap := T.keep _ _ _ st2 fun b _ o e => by rw [h3]; exact Heap.get?_push_of_some _ e
  have I4 := block_start I3 ok hN f3
  have pg := hg s3 (upd H2 D (o0 tk0)) s3.heap.objs.size (cellsFrom (s3.heap.objs.size + 1) scope.names (cloFrom X.env.cells scope.names [])) fp
  have pt := ht s3 (upd H2 D (o0 tk0)) s3.heap.objs.size (cellsFrom (s3.heap.objs.size + 1) scope.names (cloFrom X.env.cells scope.names [])) fp
  have pk := hk s3 (upd H2 D (o0 tk0)) s3.heap.objs.size (cellsFrom (s3.heap.objs.size + 1) scope.names (cloFrom X.env.cells scope.names [])) fp
  have pe := he s3 (upd H2 D (o0 tk0)) s3.heap.objs.size (cellsFrom (s3.heap.objs.size + 1) scope.names (cloFrom X.env.cells scope.names [])) fp
  show codeAny _ _ (.compStart (.DictComp kx vx [⟨tg, iter, ifs, 0⟩] scope pos) 0 (.ref it) (.ref D) (compEnvC scope (cellsFrom (s3.heap.objs.size + 1) scope.names (cloFrom X.env.cells scope.names [])) s3.heap.objs.size X.env)) (compPost (model X.prog X.w) X.A X.xe use Qf (.ref D) s3.heap.objs.size) { s3 with heap := pushCells (s3.heap.push { cls := .type "dict", data := .dict #[] }) scope.names }
  have nfp : ∀ b ∈ fp, (upd H2 D (o0 tk0)) b = none := fun b hb => (f3 b hb).1.1
  generalize hce : compEnvC scope (cellsFrom (s3.heap.objs.size + 1) scope.names (cloFrom X.env.cells scope.names [])) s3.heap.objs.size X.env = ce at I4 pg pt pk pe ⊢
  have cL : ce.locals = s3.heap.objs.size := by subst hce; rfl
  generalize hH3 : upd H2 D (o0 tk0) = H3 at I3 I4 pg pt pk pe w0 nfp f3
  generalize hs4 : ({ s3 with heap := pushCells (s3.heap.push { cls := .type "dict", data := .dict #[] }) scope.names } : Shared) = s4 at I4 ⊢
  have st4 : tn 0 s4.heap := T.keep _ _ _ st3 fun b _ o e => by rw [← hs4]; exact pushCells_keeps _ _ _ _ (Heap.get?_push_of_some _ e)
  have stat : ∀ {σ' : L2.St} {H' : Hp} {s' : Shared}, Inv (X.blk s3 H3 scope ce fp) [] σ' H' s' → (∀ b ∈ fp, H' b = none) → ∀ b ∈ fp, FpOk (X.blk s3 H3 scope ce fp) [] H' b := fun {σ' H' s'} I' hn b hb =>
    ⟨hn b hb, (I'.ok.exf b hb).1, I'.ok.exfs b hb, .inl hb, fun x c e => (I'.ok.exf b hb).2 x c e, fun p hp => absurd (show p ∈ ([] : List (Addr × Obj)) ++ [] from hp) (by simp)⟩
  have loop : codeAny (model X.prog X.w) X.A (.compLoop (.DictComp kx vx [⟨tg, iter, ifs, 0⟩] scope pos) 0 (.ref it) (.ref D) ce) (compPost (model X.prog X.w) X.A X.xe use Qf (.ref D) s3.heap.objs.size) s4 := by
    refine compLoop_anyD (fun n s' => ∃ i H', Inv (X.blk s3 H3 scope ce fp) [] (L2.wipe σ (own.map (·.2))) H' s' ∧ tn i s'.heap ∧ (∀ b ∈ fp, H' b = none) ∧ W i n H') ?_ m0 ⟨0, H3, I4, st4, nfp, w0⟩
    rintro n s5 ⟨i, H5, I5, st5, n5, w5⟩
    rcases turn i n H5 w5 with ⟨stop, qq⟩ | ⟨go, Nx, hNx, step⟩
    · have td := T.done (X.blk s3 H3 scope ce fp) rfl rfl rfl hc i [] s5 _ H5 (fun _ _ => False) I5 (stat I5 n5) st5 stop
      refine thnF td fun r s6 ⟨hr, I6⟩ => ?_
      subst hr
      have I7 : Inv X pins σ H5 s6 := I3.call' (ch := fp) I6.os I6.base I6.hok I6.bare fun b hb => ⟨(f3 b hb).1.2.2.2.1, (f3 b hb).1.2.1, (f3 b hb).1.2.2.2.2.1, (f3 b hb).1.2.2.2.2.2⟩
      have nC : H5 s3.heap.objs.size = none := by
        have z : H5 ce.locals = none := I6.free
        rw [cL] at z
        exact z
      obtain ⟨m, hn, _⟩ := I6.loc
      have hn : s6.heap.Ns ce.locals m := hn
      rw [cL] at hn
      exact hRR D s3.heap.objs.size s6 m H5 I7 qq hn (I3.fpOk (Nat.le_refl _) nC)
    · have ti := T.item (X.blk s3 H3 scope ce fp) rfl rfl rfl hc i [] s5 _ H5 (fun _ _ => False) I5 (stat I5 n5) st5 go
      refine thnF ti fun r s6 ⟨u, hr, h6⟩ => ?_
      subst hr
      refine thnF h6 fun _ s7 ⟨x, H7, I7, r7, y7, st7, n7⟩ => ?_
      have I7' := I7.pinned (stat I7 n7) (T.obj _ _ st7)
      refine thnF (pg.run _ s7 _ H7 x u _ I7' r7 (step x H7 y7)) fun _ s8 ⟨σ8, H8, I8, hw8, q8⟩ => ?_
      refine thnF (pt.run _ s8 σ8 H8 _ I8 q8) fun b s9 ⟨H9, I9, q9⟩ => ?_
      have fin : ∀ {s' : Shared} {H' : Hp}, Inv (X.blk s3 H3 scope ce fp) ([] ++ pinsAt fp s7.heap) σ8 H' s' → Nx H' → ∃ m, m < n ∧ ∃ i H', Inv (X.blk s3 H3 scope ce fp) [] (L2.wipe σ (own.map (·.2))) H' s' ∧ tn i s'.heap ∧ (∀ b ∈ fp, H' b = none) ∧ W i m H' := fun {s' H'} I' nx => by
        obtain ⟨m', hm, w'⟩ := hNx H' nx
        have pin' : ∀ b ∈ fp, ∀ o, s7.heap.get? b = some o → s'.heap.get? b = some o ∧ H' b = none := fun b hb o e =>
          let z := I'.pin (b, o) (List.mem_append_right _ (List.mem_append_right _ (mem_pinsAt hb e)))
          ⟨z.1, z.2.1⟩
        have hl : (L2.wipe σ (own.map (·.2))).length = σ8.length := by rw [← hw8, wipe_length]
        refine ⟨m', hm, i + 1, H', (I'.unpinned (pins := [])).weak hl (fun j v e => ?_), T.keep _ _ _ st7 fun b hb o e => (pin' b hb o e).1, fun b hb => ?_, w'⟩
        · rw [← hw8] at e
          exact (wipe_some e).1
        · obtain ⟨o, e, _⟩ := T.obj _ _ st7 b hb
          exact (pin' b hb o e).2
      cases b with
      | false =>
        simp only [Bool.false_eq_true, if_false] at q9 ⊢
        exact fin I9 q9
      | true =>
        simp only [if_true] at q9 ⊢
        refine thnF (pk.run _ s9 σ8 H9 _ I9 q9) fun z s10 ⟨yk, H10, I10, r10, q10⟩ => ?_
        refine thnF (pe.run _ s10 σ8 H10 _ I10 q10) fun z2 s11 ⟨yv, H11, I11, r11, H12, dp, nx⟩ => ?_
        exact d_dictSetA (X := X.blk s3 H3 scope ce fp) hu I11 dp r10 r11 fun s12 I12 => fin I12 nx
  exact codeAny_compStart_dict loop (T.self X.A 0 _ _ _ st4 loop)
theorem pe_dcA {tk0 : Bool} {kx vx tg iter : Expr} {ifs : List Expr} {scope : Scope} {own : List (Str × Nat)} {pos : Pos} {wi : TI} {g : TG} {tt : TT} {tk tv : TE} (hu : X.A.units < cLine) (hc : X.calm = true) (hN : X.N.Nodup) (hi : PI X tg iter wi) (ok : BlkOk X.N X.env.scope scope own)
    (hg : ∀ (s : Shared) (H : Hp) (C : Addr) (cl : List (Str × Addr)) (fp : List Addr), PG (X.blk s H scope (compEnvC scope cl C X.env) fp) tg g) (ht : ∀ (s : Shared) (H : Hp) (C : Addr) (cl : List (Str × Addr)) (fp : List Addr), PTs (X.blk s H scope (compEnvC scope cl C X.env) fp) ifs tt)
    (hk : ∀ (s : Shared) (H : Hp) (C : Addr) (cl : List (Str × Addr)) (fp : List Addr), PE (X.blk s H scope (compEnvC scope cl C X.env) fp) kx tk)
    (he : ∀ (s : Shared) (H : Hp) (C : Addr) (cl : List (Str × Addr)) (fp : List Addr), PE (X.blk s H scope (compEnvC scope cl C X.env) fp) vx tv) (hs : ∀ x, foldedSetIterable iter X.env x = pure x) :
    PE X (.DictComp kx vx [⟨tg, iter, ifs, 0⟩] scope pos) (tDcA tk0 wi g tt tk tv (own.map (·.2))) := by
  refine ⟨fun pins s σ H Q I h => ?_⟩
  rw [arm_eval_DictComp]
  refine dcA_core hu hc hN I hi ok hg ht hk he hs h fun D C s' m H' I' q hn f => ⟨m, hn, fun h'' sb => ?_⟩
  obtain ⟨f0, f1, f2, f3, f4, f5⟩ := f
  exact ⟨.ref D, H', I'.turned (t' := s'.toks) (fun b o hb e => (sb.2 b hb).trans e) f0 f1 f3 f4 f5, rfl, q⟩
theorem ps_setDcA {tk0 : Bool} {i : Nat} {y : Str} {py : Pos} {kx vx tg iter : Expr} {ifs : List Expr} {scope : Scope} {own : List (Str × Nat)} {pos spos : Pos} {wi : TI} {g : TG} {tt : TT} {tk tv : TE} (hu : X.A.units < cLine) (hc : X.calm = true) (hN : X.N.Nodup) (hy : X.N[i]? = some y) (hyl : X.env.scope.names.lookup y = some .local)
    (hsw : swapsWith (.DictComp kx vx [⟨tg, iter, ifs, 0⟩] scope pos) (some (.Name y py)) spos.line X.env = pure true) (hi : PI X tg iter wi) (ok : BlkOk X.N X.env.scope scope own)
    (hg : ∀ (s : Shared) (H : Hp) (C : Addr) (cl : List (Str × Addr)) (fp : List Addr), PG (X.blk s H scope (compEnvC scope cl C X.env) fp) tg g) (ht : ∀ (s : Shared) (H : Hp) (C : Addr) (cl : List (Str × Addr)) (fp : List Addr), PTs (X.blk s H scope (compEnvC scope cl C X.env) fp) ifs tt)
    (hk : ∀ (s : Shared) (H : Hp) (C : Addr) (cl : List (Str × Addr)) (fp : List Addr), PE (X.blk s H scope (compEnvC scope cl C X.env) fp) kx tk)
    (he : ∀ (s : Shared) (H : Hp) (C : Addr) (cl : List (Str × Addr)) (fp : List Addr), PE (X.blk s H scope (compEnvC scope cl C X.env) fp) vx tv) (hs : ∀ x, foldedSetIterable iter X.env x = pure x) :
    PS X (.Assign [.Name y py] (.DictComp kx vx [⟨tg, iter, ifs, 0⟩] scope pos) spos) (tAsg (tDcA tk0 wi g tt tk tv (own.map (·.2))) (gName i)) := by
  refine ⟨fun pins s σ H D I h => ?_⟩
  rw [exec_Assign_Name_used _ _ _ _ hsw]
  refine wpAny_bind (wpAny_standAt (wpAny_bind ?_))
  show wpAny _ X.A (do let _ ← comprehension (.DictComp kx vx [⟨tg, iter, ifs, 0⟩] scope pos) scope X.env (firstIterPos [⟨tg, iter, ifs, 0⟩] pos) newDict false (eval iter X.env) (some (assign (.Name y py) X.env))) _ _ s
  have h : tDcA tk0 wi g tt tk tv (own.map (·.2)) σ H (fun x H1 => gName i x σ H1 D.nx) := h
  refine wpAny_bind (thn (dcA_core (Qf := fun _ s' => SP X pins D .next s') hu hc hN I hi ok hg ht hk he hs h fun L C s' m H' I' q hn f => ?_) fun _ s' hq => wpAny_pure (wpAny_pure hq))
  show wpAny _ _ (assign (.Name y py) X.env (.ref L)) _ _ _
  refine wpAny_assign_Name (store_ok2 (v := V.ref L) I' hN hy (.inl hyl) rfl (fun s2 I2 ⟨a, sb, ha⟩ => ?_) (.inr hyl))
  obtain ⟨f0, f1, f2, f3, f4, f5⟩ := f
  have haC : C ≠ a := by
    rcases ha with z | z
    · rw [z]; exact f1
    · exact fun e => f4 y a z e.symm
  refine ⟨m, hn.sameBut sb haC, fun h3 sb3 => ?_⟩
  exact ⟨_, H', I2.turned (t' := s2.toks) (fun b o hb e => (sb3.2 b hb).trans e) f0 f1 f3 f4 f5, q⟩
def SEC (p : Pr) (X : Cx) (Wx : WX) (ex : Expr) (f : EV) : Prop := ∃ t, PE X ex t ∧ (∀ (i : Nat) (y : Str) (py spos : Pos), X.N[i]? = some y → X.env.scope.names.lookup y = some .local → swapsWith ex (some (.Name y py)) spos.line X.env = pure true → PS X (.Assign [.Name y py] ex spos) (tAsg t (gName i))) ∧ Good p p.w Wx t f
theorem SEC.se {ex : Expr} {f : EV} (h : SEC p X Wx ex f) : SE p X Wx ex f := let ⟨t, pt, _, g⟩ := h; ⟨t, pt, g⟩
theorem ss_setE {ex : Expr} {f : EV} {i : Nat} {y : Str} {py spos : Pos} (hi : X.N[i]? = some y) (hl : X.env.scope.names.lookup y = some .local) (hs : swapsWith ex (some (.Name y py)) spos.line X.env = pure true) (h : SEC p X Wx ex f) :
    SS p X Wx (.Assign [.Name y py] ex spos) (asgS (nameG i) f) := by
  obtain ⟨t, pt, ps, g⟩ := h
  refine ⟨_, ps i y py spos hi hl hs, fun F H m e S σ D r s h => ?_⟩
  exact g.seqS r s h fun w S1 v H1 m1 _ r1 rw' s1 h1 => h1 _ H1 m1 (Ext.refl _ _) (r1.set rw') s1
/-- d[k] = w in a dict held apart -/
theorem put_own {tk : Bool} {acc : List (D × W)} {D0 : Addr} {k : D} {w : W} {vk vw : V} (hD : D0 ∈ F) (ho : RepO p.kt p.K H (F ++ m) m D0 (.dct tk acc)) (rk : p.d F m H k vk) (hk : okKey p.kt tk k = true) (hl : acc.length < 16777216) (rw' : p.w F m H w vw) :
    ∃ o, (∀ xs, o ≠ .tup xs) ∧ DPut H D0 vk vw (upd H D0 o) ∧ RepO p.kt p.K (upd H D0 o) (F ++ m) m D0 (.dct tk (Pv.putK acc k w)) := by
  cases tk with
  | false =>
    obtain ⟨ks, hv, rv⟩ := ho
    obtain ⟨κ, e, rfl⟩ := keyOf_rep rk hk
    refine ⟨.dK (L2.putK ks κ vw), (fun _ z => nomatch z), .inl ⟨ks, κ, hv, rfl, by rw [← RepKW.len rv, line]; exact hl, rfl⟩, _, upd_same, ?_⟩
    exact RepKW.go (leansD hD) ⟨[], by simp⟩ (putK_K rv e rw')
  | true =>
    obtain ⟨ks, hv, rv⟩ := ho
    obtain ⟨ds, κs, b, rfl, e, rfl, hb⟩ := keyT_rep rk hk
    refine ⟨.dT (L2.putK ks κs vw), (fun _ z => nomatch z), .inr ⟨ks, κs, b, hv, rfl, hb, by rw [← RepTW.len rv, line]; exact hl, rfl⟩, _, upd_same, ?_⟩
    exact RepTW.go (leansD hD) ⟨[], by simp⟩ (putK_T rv e hk rw')
theorem RepO.ext {q : Addr} {o : Th} (x : Ext H m H' m') (hq : H q = H' q) (h : RepO p.kt p.K H (F ++ m) m q o) : RepO p.kt p.K H' (F ++ m') m' q o := h.go x.leans x.pre hq
theorem sec_compD {tk : Bool} {kx vx tg iter : Expr} {ifs : List Expr} {scope : Scope} {own : List (Str × Nat)} {vs : List Nat} {pos : Pos} {fi : IV} {g : GV} {t : TV} {fk fv : EV} (hu : X.A.units < cLine) (hc : X.calm = true) (hN : X.N.Nodup) (hi : SI p X Wx tg iter fi) (ok : BlkOk X.N X.env.scope scope own)
    (hown : ∀ j ∈ vs, j ∈ own.map (·.2)) (hb : Blk p X scope tg vs g ifs t [kx, vx] [fk, fv]) (hs : ∀ x, foldedSetIterable iter X.env x = pure x) :
    SEC p X Wx (.DictComp kx vx [⟨tg, iter, ifs, 0⟩] scope pos) (compD p.kt tk (own.map (·.2)) fi g t fk fv) := by
  obtain ⟨wi, pi, gi⟩ := hi
  have hk0 : ∀ (s : Shared) (H : Hp) (C : Addr) (cl : List (Str × Addr)) (fp : List Addr), PE (X.blk s H scope (compEnvC scope cl C X.env) fp) kx (tOf p p.w W0 fk) := fun s H C cl fp => by
    have := hb.e s H C cl fp
    cases this with | cons a _ => exact a.can
  have hv0 : ∀ (s : Shared) (H : Hp) (C : Addr) (cl : List (Str × Addr)) (fp : List Addr), PE (X.blk s H scope (compEnvC scope cl C X.env) fp) vx (tOf p p.w W0 fv) := fun s H C cl fp => by
    have := hb.e s H C cl fp
    cases this with | cons _ b => cases b with | cons b _ => exact b.can
  refine ⟨_, pe_dcA (tk0 := tk) hu hc hN pi ok (fun s H C cl fp => (hb.g s H C cl fp).can) (hb.t) hk0 hv0 hs, fun i y py spos hi0 hl hsw => ps_setDcA hu hc hN hi0 hl hsw pi ok (fun s H C cl fp => (hb.g s H C cl fp).can) (hb.t) hk0 hv0 hs, fun F H m e S σ Q r s h => ?_⟩
  generalize hO : own.map (·.2) = ow at h hown
  refine gi F H m e S σ _ r s ?_
  unfold compD at h
  cases q : fi e S with
  | exc x S1 => rw [q] at h; exact h
  | stuck => rw [q] at h; exact h
  | ok j S1 =>
    rw [q] at h
    intro J H1 m1 x1 okJ s1 D hD
    have h := h.ext x1
    have r1 := x1.env r
    have x0 : Ext H1 m1 (upd H1 D (o0 tk)) m1 := Ext.new hD
    have nF : D ∉ F := fun z => (s1.there D z).1 hD
    have nm : D ∉ m1 := fun z => s1.thing z hD
    cases j with
    | ref _ => exact h.elim
    | fix ws =>
      have h : Post p p.w F H1 m1 σ Q Wx ((compDL p.kt tk g t fk fv (wipeV e ow) ws [] S1).bind fun (kvs : List (Pv.D × W)) (S : Store) => R.ok (W.ref S.length) (S ++ [Th.dct tk kvs])) := h
      have nt0 : ∀ xs, o0 tk ≠ .tup xs := fun xs z => by cases tk <;> cases z
      refine ⟨fun i k H' => k = ws.length - i ∧ ∃ acc S' m', Ext H1 m1 H' m' ∧ RepO p.kt p.K H' ((D :: F) ++ m') m' D (.dct tk acc) ∧ p.st (D :: F) m' H' S' ∧ p.en (D :: F) m' H' e σ ∧ Post p p.w F H1 m1 σ Q Wx ((compDL p.kt tk g t fk fv (wipeV e ow) (ws.drop i) acc S').bind fun (kvs : List (Pv.D × W)) (S : Store) => R.ok (W.ref S.length) (S ++ [Th.dct tk kvs])),
        ⟨ws.length, by simp, [], S1, m1, x0, ?_, s1.hold hD nt0, r1.hold hD, h⟩, ?_⟩
      · cases tk with
        | false => exact ⟨[], upd_same, .nil⟩
        | true => exact ⟨[], upd_same, .nil⟩
      rintro i k H' ⟨rfl, acc, S', m', x, ro, s', re, h'⟩
      obtain ⟨hstop, hgo⟩ := okJ (D :: F) H' m' (fun q hq => by
        rcases List.mem_cons.mp hq with z | z
        · exact .inr (by rw [z]; exact hD)
        · exact .inl z) x
      by_cases hlt : i < ws.length
      · have hd : ws.drop i = ws[i] :: ws.drop (i + 1) := List.drop_eq_getElem_cons hlt
        obtain ⟨go, hy⟩ := hgo i ws[i] (List.getElem?_eq_getElem hlt)
        rw [hd] at h'
        unfold compDL at h'
        refine .inr ⟨go, fun H2 => ∃ acc S2 m2, Ext H1 m1 H2 m2 ∧ RepO p.kt p.K H2 ((D :: F) ++ m2) m2 D (.dct tk acc) ∧ p.st (D :: F) m2 H2 S2 ∧ p.en (D :: F) m2 H2 e σ ∧ Post p p.w F H1 m1 σ Q Wx ((compDL p.kt tk g t fk fv (wipeV e ow) (ws.drop (i + 1)) acc S2).bind fun (kvs : List (Pv.D × W)) (S : Store) => R.ok (W.ref S.length) (S ++ [Th.dct tk kvs])),
          fun H2 ⟨acc, S2, m2, a⟩ => ⟨ws.length - (i + 1), by omega, rfl, acc, S2, m2, a⟩, fun y H'' hyl => ?_⟩
        obtain ⟨x2, hr⟩ := hy y H'' hyl
        obtain ⟨ry, s2⟩ := hr S' s'
        have kD : ∀ {Ha Hb : Hp} {ma mb : List Addr} {Sa : Store} {o : Th}, Ext Ha ma Hb mb → p.st (D :: F) ma Ha Sa → RepO p.kt p.K Ha ((D :: F) ++ ma) ma D o → RepO p.kt p.K Hb ((D :: F) ++ mb) mb D o := fun {Ha Hb ma mb Sa o} x st ro => by
          refine RepO.ext x ?_ ro
          cases q : Ha D with
          | none => exact absurd q (RepO.some ro)
          | some u => exact (x.keep D u q (st.apart D List.mem_cons_self)).symm
        have ro2 := kD x2 s' ro
        refine ⟨D :: F, m', wipeV e ow, S', ws[i], REnv.wipe (x2.env re), s2, ry, ?_⟩
        cases q1 : g ws[i] (wipeV e ow) S' with
        | exc => rw [q1] at h'; exact h'.elim
        | stuck => rw [q1] at h'; exact h'.elim
        | ok e1 S1 =>
        rw [q1] at h'
        simp only [R.bindS] at h'
        intro σ2 H2 m2 x3 near r2 s3
        have e2 : L2.wipe σ2 ow = L2.wipe (L2.wipe σ ow) ow := near.wipe hown
        have e3 : L2.wipe (L2.wipe σ ow) ow = L2.wipe σ ow := by
          apply List.ext_getElem?
          intro j
          rw [wipe_get, wipe_get, wipe_length]
          by_cases hj : j ∈ ow
          · rw [if_pos hj, if_pos hj]
          · rw [if_neg hj, if_neg hj]
        have ro3 := kD x3 s2 ro2
        refine ⟨e2.trans e3, D :: F, m2, e1, S1, r2, s3, ?_⟩
        cases q2 : t e1 S1 with
        | exc => rw [q2] at h'; exact h'.elim
        | stuck => rw [q2] at h'; exact h'.elim
        | ok b S2 =>
        rw [q2] at h'
        intro b' H3 m3 x4 eb s4
        cases eb
        have ro4 := kD x4 s3 ro3
        have xx := ((x.trans x2).trans x3).trans x4
        have re4 := (x4.env ((x3.env (x2.env re))))
        cases b with
        | false => rw [if_neg Bool.false_ne_true]; exact ⟨acc, S2, m3, xx, ro4, s4, re4, h'⟩
        | true =>
          rw [if_pos rfl]
          refine ⟨D :: F, m3, e1, S2, x4.env r2, s4, ?_⟩
          simp only at h'
          cases q3 : fk e1 S2 with
          | exc => rw [q3] at h'; exact h'.elim
          | stuck => rw [q3] at h'; exact h'.elim
          | ok yk S3 =>
          rw [q3] at h'
          intro vk H4 m4 x5 rk s5
          have ro5 := kD x5 s4 ro4
          refine ⟨D :: F, m4, e1, S3, x5.env (x4.env r2), s5, ?_⟩
          simp only at h'
          cases q4 : fv e1 S3 with
          | exc => rw [q4] at h'; exact h'.elim
          | stuck => rw [q4] at h'; exact h'.elim
          | ok yv S4 =>
          rw [q4] at h'
          intro vv H5 m5 x6 rv s6
          have ro6 := kD x6 s5 ro5
          simp only at h'
          split at h'
          · rename_i kd
            split at h'
            · rename_i hk
              simp only [Bool.and_eq_true] at hk
              cases rk with | d rk =>
              obtain ⟨o, nt, dp, ro7⟩ := put_own (F := D :: F) List.mem_cons_self ro6 (x6.d rk) hk.1 (Nat.le_of_ble_eq_true hk.2) rv
              refine ⟨_, dp, _, S4, m5, ((xx.trans x5).trans x6).own hD, ro7, s6.wr List.mem_cons_self nt, REnv.wr (x6.env (x5.env re4)) List.mem_cons_self, h'⟩
            · exact h'.elim
          · exact h'.elim
      · have hd : ws.drop i = [] := List.drop_eq_nil_of_le (by omega)
        rw [hd] at h'
        refine .inl ⟨hstop i (by omega), ?_⟩
        have hs : H' D ≠ none := RepO.some ro
        refine h' (.ref D) H' (m' ++ [D]) (x.adopt hD hs) (.ref ?_) (Rst.adopt s' nF ro)
        rw [← s'.len, List.getElem?_append_right (Nat.le_refl _), Nat.sub_self]
        rfl
end
end Pv

end

section
set_option linter.all false
set_option maxRecDepth 100000
set_option Elab.async false
set_option linter.all false
set_option maxRecDepth 100000
/-! Pv15: max, min, sorted over a dict's keys. -/
namespace Pv
open PySem PySem.Spec PyProof.Rows L2
section
variable {p : Pr} {X : Cx} {Wx : WX} {F m m1 m' F' Z : List Addr} {H H1 H' : Hp} {σ : L2.St} {e : En} {S : Store}

theorem kv_keys {kvs : List (Key × V)} {vs : List (Key × Value)} (rel : KV kvs vs) {ks : List Int} (hks : kvs.map (·.1) = ks.map Sum.inl) {X : Cx} {i : Nat} {v : Value} (h : ∃ k x, vs[i]? = some (k, x) ∧ (mixKind X.prog X.w).is k v = true) : ∃ t, v = .int (ks.getD i 0) t := by
  obtain ⟨k, x, e1, e2⟩ := h
  have hkeys : vs.map (·.1) = ks.map Sum.inl := rel.keys.symm.trans hks
  have e3 : (vs.map (·.1))[i]? = some k := by rw [List.getElem?_map, e1]; rfl
  rw [hkeys, List.getElem?_map] at e3
  cases e4 : ks[i]? with
  | none => rw [e4] at e3; cases e3
  | some y =>
    rw [e4] at e3
    have e5 : Sum.inl y = k := Option.some.inj e3
    subst e5
    rcases keyIs_shape (show keyIs (Sum.inl y) v = true from e2) with ⟨i', t, ek, ev⟩ | ⟨z, t, ek, ev⟩
    · cases ek
      exact ⟨t, by rw [ev, List.getD_eq_getElem?_getD, e4]; rfl⟩
    · cases ek
def rMaxD : List V → Hp → VK → Prop := fun xs H Q => ∃ (a : Addr) (kvs : List (Key × V)) (ks : List Int), xs = [.ref a] ∧ Rd H a (.dK kvs) ∧ kvs.map (·.1) = ks.map Sum.inl ∧ 0 < ks.length ∧ ∀ n, n ∈ ks → (∀ y, y ∈ ks → y ≤ n) → Q (.int n) H
def rMinD : List V → Hp → VK → Prop := fun xs H Q => ∃ (a : Addr) (kvs : List (Key × V)) (ks : List Int), xs = [.ref a] ∧ Rd H a (.dK kvs) ∧ kvs.map (·.1) = ks.map Sum.inl ∧ 0 < ks.length ∧ ∀ n, n ∈ ks → (∀ y, y ∈ ks → n ≤ y) → Q (.int n) H
theorem mem_at {ks : List Int} {y : Int} (h : y ∈ ks) : ∃ j, j ≤ ks.length - 1 ∧ y = ks.getD j 0 := by
  obtain ⟨j, hj, e⟩ := List.mem_iff_getElem.mp h
  exact ⟨j, by omega, by rw [List.getD_eq_getElem?_getD, List.getElem?_eq_getElem hj, e]; rfl⟩
theorem at_mem {ks : List Int} {j : Nat} (h : j < ks.length) : ks.getD j 0 ∈ ks := by
  rw [List.getD_eq_getElem?_getD, List.getElem?_eq_getElem h]
  exact List.getElem_mem h
theorem call_maxD (hc : X.calm = true) : CallR X (.builtin "max") rMaxD := by
  intro pins s σ H xs us Q I r q
  obtain ⟨a, kvs, ks, rfl, hd, hks, hpos, q⟩ := q
  obtain ⟨u, rfl, rx⟩ := vals1 r
  cases rx
  obtain ⟨z, lo, vs, rel, dd⟩ := dk_rd I.hok hd
  obtain ⟨ep, hat⟩ := dd.dictAt
  have hl : vs.length = ks.length := by
    have e := congrArg List.length (rel.keys.symm.trans hks)
    rw [List.length_map, List.length_map] at e
    exact e
  refine call_max_walk (wpAny_pyIter_dict lo hat ?_)
  refine ⟨_, _, _, _, _, _, _, rfl, Walks.dictKeys (A := X.A.in1) (I.ok.hd hc) _ a (Nat.ne_of_lt hat.lt_size) vs ep, ⟨⟨_, Heap.get?_push_size _ rfl, rfl, rfl⟩, hat.push _⟩, fun b hb => ?_, by omega, CmpOf.ints_gt (fun i => ks.getD i 0) (fun i v h => kv_keys rel hks h), fun v h' tk hP hk => ?_⟩
  · show b < (s.heap.push _).objs.size
    rw [Heap.size_push]
    rcases List.mem_cons.mp hb with e | hb
    · rw [e]; exact Nat.lt_succ_self _
    · rw [List.mem_singleton.mp hb]; exact Nat.lt_succ_of_lt hat.lt_size
  · obtain ⟨t, rfl⟩ := kv_keys rel hks hP
    obtain ⟨h1, h2⟩ := argBest_gt (fun i => ks.getD i 0) (vs.length - 1)
    have hk' : ∀ b o, s.heap.get? b = some o → h'.get? b = some o := fun b o e => hk b o (by rw [List.mem_singleton]; exact Nat.ne_of_lt (Heap.lt_size e)) (Heap.get?_push_of_some _ e)
    refine ⟨.int _, H, I.kept hk', ⟨t, rfl⟩, q _ (at_mem (by omega)) fun y hy => ?_⟩
    obtain ⟨j, hj, rfl⟩ := mem_at hy
    exact h2 j (by omega)
theorem call_minD (hc : X.calm = true) : CallR X (.builtin "min") rMinD := by
  intro pins s σ H xs us Q I r q
  obtain ⟨a, kvs, ks, rfl, hd, hks, hpos, q⟩ := q
  obtain ⟨u, rfl, rx⟩ := vals1 r
  cases rx
  obtain ⟨z, lo, vs, rel, dd⟩ := dk_rd I.hok hd
  obtain ⟨ep, hat⟩ := dd.dictAt
  have hl : vs.length = ks.length := by
    have e := congrArg List.length (rel.keys.symm.trans hks)
    rw [List.length_map, List.length_map] at e
    exact e
  refine call_min_walk (wpAny_pyIter_dict lo hat ?_)
  refine ⟨_, _, _, _, _, _, _, rfl, Walks.dictKeys (A := X.A.in1) (I.ok.hd hc) _ a (Nat.ne_of_lt hat.lt_size) vs ep, ⟨⟨_, Heap.get?_push_size _ rfl, rfl, rfl⟩, hat.push _⟩, fun b hb => ?_, by omega, CmpOf.ints_lt (fun i => ks.getD i 0) (fun i v h => kv_keys rel hks h), fun v h' tk hP hk => ?_⟩
  · show b < (s.heap.push _).objs.size
    rw [Heap.size_push]
    rcases List.mem_cons.mp hb with e | hb
    · rw [e]; exact Nat.lt_succ_self _
    · rw [List.mem_singleton.mp hb]; exact Nat.lt_succ_of_lt hat.lt_size
  · obtain ⟨t, rfl⟩ := kv_keys rel hks hP
    obtain ⟨h1, h2⟩ := argBest_lt (fun i => ks.getD i 0) (vs.length - 1)
    have hk' : ∀ b o, s.heap.get? b = some o → h'.get? b = some o := fun b o e => hk b o (by rw [List.mem_singleton]; exact Nat.ne_of_lt (Heap.lt_size e)) (Heap.get?_push_of_some _ e)
    refine ⟨.int _, H, I.kept hk', ⟨t, rfl⟩, q _ (at_mem (by omega)) fun y hy => ?_⟩
    obtain ⟨j, hj, rfl⟩ := mem_at hy
    exact h2 j (by omega)
/-! what keys a dict has -/
theorem keysD_K {kvs : List (D × W)} {ks : List (Key × V)} {Z : List Addr} (r : RepKW p.kt p.K H Z m kvs ks) {ns : List Int} (h : intsD (kvs.map fun kv => kv.1) = some ns) : ks.map (·.1) = ns.map Sum.inl := by
  induction r generalizing ns with
  | nil => cases h; rfl
  | @cons k w κ v ds vs hk hw _ ih =>
    cases k with
    | int i =>
      simp only [List.map_cons, intsD] at h
      obtain ⟨ns', e, rfl⟩ := Option.map_eq_some_iff.mp h
      cases hk
      rw [List.map_cons, List.map_cons, ih e]
    | _ => cases h
theorem keysD_T {kvs : List (D × W)} {ks : List (List Key × V)} {Z : List Addr} (r : RepTW p.kt p.K H Z m kvs ks) {ns : List (Int × Int)} (h : pairsD (kvs.map fun kv => kv.1) = some ns) : ks.map (·.1) = ns.map fun q => [Sum.inl q.1, Sum.inl q.2] := by
  induction r generalizing ns with
  | nil => cases h; rfl
  | @cons k w κ v ds vs hk _ hw _ ih =>
    simp only [List.map_cons] at h
    unfold pairsD at h
    split at h
    · rename_i e; cases e
    · rename_i i j r e
      cases e
      obtain ⟨ns', e, rfl⟩ := Option.map_eq_some_iff.mp h
      cases hk
      rw [List.map_cons, List.map_cons, ih e]
    · cases h
/-- a dict with int keys, or pairs -/
theorem keys_ints {x : W} {v : V} {ns : List Int} (s : p.st F m H S) (rx : p.w F m H x v) (h : (keysW S x).bind intsD = some ns) (hne : ns ≠ []) : ∃ a kvs, v = .ref a ∧ Rd H a (.dK kvs) ∧ kvs.map (·.1) = ns.map Sum.inl := by
  have noT : ∀ {kvs : List (D × W)} {ks : List (List Key × V)} {Z : List Addr}, RepTW p.kt p.K H Z m kvs ks → intsD (kvs.map fun kv => kv.1) = some ns → False := fun {kvs ks Z} r h => by
    cases r with
    | nil => cases h; exact hne rfl
    | cons => cases h
  obtain ⟨ds, h1, h2⟩ := Option.bind_eq_some_iff.mp h
  unfold keysW at h1
  split at h1
  · rename_i tk kvs
    cases h1
    cases rx with | d rx =>
    have hm : (kvs.map fun q => ((q.1, W.d q.2) : D × W)).map (fun kv => kv.1) = kvs.map fun kv => kv.1 := by rw [List.map_map]; rfl
    cases rx with
    | dK hr _ rk => exact ⟨_, _, rfl, hr, keysD_K (kw_of (m := m) rk) (by rw [hm]; exact h2)⟩
    | dT hr _ rk => exact (noT (tw_of (m := m) rk) (by rw [hm]; exact h2)).elim
  · split at h1
    · rename_i tk kvs q
      cases h1
      cases rx with | ref hi =>
      have o := s.obj _ _ _ hi q
      cases tk with
      | false =>
        obtain ⟨ks, hv, rk⟩ := o
        exact ⟨_, ks, rfl, .inl hv, keysD_K rk h2⟩
      | true =>
        obtain ⟨ks, hv, rk⟩ := o
        exact (noT rk h2).elim
    · cases h1
  · cases h1
theorem keys_pairs {x : W} {v : V} {ns : List (Int × Int)} (s : p.st F m H S) (rx : p.w F m H x v) (h : (keysW S x).bind pairsD = some ns) :
    (∃ a kvs, v = .ref a ∧ Rd H a (.dT kvs) ∧ kvs.map (·.1) = ns.map fun q => [Sum.inl q.1, Sum.inl q.2]) ∨ ∃ a, v = .ref a ∧ Rd H a (.dK []) ∧ ns = [] := by
  have noK : ∀ {kvs : List (D × W)} {ks : List (Key × V)} {Z : List Addr}, RepKW p.kt p.K H Z m kvs ks → pairsD (kvs.map fun kv => kv.1) = some ns → ks = [] ∧ ns = [] := fun {kvs ks Z} r h => by
    cases r with
    | nil => cases h; exact ⟨rfl, rfl⟩
    | @cons k _ _ _ _ _ hk => cases k <;> first | cases h | cases hk
  obtain ⟨ds, h1, h2⟩ := Option.bind_eq_some_iff.mp h
  unfold keysW at h1
  split at h1
  · rename_i tk kvs
    cases h1
    cases rx with | d rx =>
    have hm : (kvs.map fun q => ((q.1, W.d q.2) : D × W)).map (fun kv => kv.1) = kvs.map fun kv => kv.1 := by rw [List.map_map]; rfl
    cases rx with
    | dT hr _ rk => exact .inl ⟨_, _, rfl, hr, keysD_T (tw_of (m := m) rk) (by rw [hm]; exact h2)⟩
    | dK hr _ rk =>
      obtain ⟨rfl, e⟩ := noK (kw_of (m := m) rk) (by rw [hm]; exact h2)
      exact .inr ⟨_, rfl, hr, e⟩
  · split at h1
    · rename_i tk kvs q
      cases h1
      cases rx with | ref hi =>
      have o := s.obj _ _ _ hi q
      cases tk with
      | true =>
        obtain ⟨ks, hv, rk⟩ := o
        exact .inl ⟨_, ks, rfl, .inl hv, keysD_T rk h2⟩
      | false =>
        obtain ⟨ks, hv, rk⟩ := o
        obtain ⟨rfl, e⟩ := noK rk h2
        exact .inr ⟨_, rfl, .inl hv, e⟩
    · cases h1
  · cases h1
theorem call_maxA (hc : X.calm = true) : CallR X (.builtin "max") (fun xs H Q => rMaxD xs H Q ∨ rMax X.K xs H Q) := CallR.or2 (call_maxD hc) (cr_max hc)
theorem call_minA (hc : X.calm = true) : CallR X (.builtin "min") (fun xs H Q => rMinD xs H Q ∨ rMin X.K xs H Q) := CallR.or2 (call_minD hc) (cr_min hc)
theorem maxL_of {n : Int} {r : List Int} {k : Int} (h : k ∈ n :: r) (hm : ∀ y, y ∈ n :: r → y ≤ k) : maxL n r = k := by
  refine maxL_spec r n k ?_ ⟨hm n List.mem_cons_self, fun y hy => hm y (List.mem_cons_of_mem _ hy)⟩
  rcases List.mem_cons.mp h with e | e
  · exact .inl e
  · exact .inr e
theorem minL_of {n : Int} {r : List Int} {k : Int} (h : k ∈ n :: r) (hm : ∀ y, y ∈ n :: r → k ≤ y) : minL n r = k := by
  refine minL_spec r n k ?_ ⟨hm n List.mem_cons_self, fun y hy => hm y (List.mem_cons_of_mem _ hy)⟩
  rcases List.mem_cons.mp h with e | e
  · exact .inl e
  · exact .inr e
theorem fits_maxD : FitsL p (arg1 maxDF) (fun xs H Q => rMaxD xs H Q ∨ rMax p.K xs H Q) := fits_arg1 fun F m H S σ Q Wx x v s rx h => by
  unfold maxDF at h
  split at h
  · rename_i n r e
    obtain ⟨a, kvs, rfl, hr, hk⟩ := keys_ints s rx e (by simp)
    refine .inl ⟨a, kvs, n :: r, rfl, hr, hk, by simp, fun k h1 h2 => ?_⟩
    rw [← maxL_of h1 h2]
    exact h _ _ _ (Ext.refl _ _) (.d (.int _)) s
  · refine .inr (fits_max F m H S σ Q Wx [x] [v] s (.cons rx .nil) ?_)
    exact h
theorem fits_minD : FitsL p (arg1 minDF) (fun xs H Q => rMinD xs H Q ∨ rMin p.K xs H Q) := fits_arg1 fun F m H S σ Q Wx x v s rx h => by
  unfold minDF at h
  split at h
  · rename_i n r e
    obtain ⟨a, kvs, rfl, hr, hk⟩ := keys_ints s rx e (by simp)
    refine .inl ⟨a, kvs, n :: r, rfl, hr, hk, by simp, fun k h1 h2 => ?_⟩
    rw [← minL_of h1 h2]
    exact h _ _ _ (Ext.refl _ _) (.d (.int _)) s
  · refine .inr (fits_min F m H S σ Q Wx [x] [v] s (.cons rx .nil) ?_)
    exact h

/-! ### sorted of a dict of pairs -/
theorem src_raw {prog : Program} {w : World} {d : Addr} {o : Obj} {es : Array DictEntry} {ep : Nat} (lo : (d == sysModules) = false) (hx : o.ExactDict) (hd : o.data = .dict es ep) :
    PySem.W.KdlSrc prog w "dict" d d es.size (fun i v => ∃ en, es[i]? = some en ∧ v = en.key) (fun h => h.get? d = some o) where
  type := fun _ h => ⟨o, h, hx.1⟩
  there := fun _ h => ⟨Heap.lt_size h, Heap.lt_size h⟩
  keep := fun _ _ h hk => hk d (.inl rfl) o h
  notList := by decide
  notTuple := by decide
  hint := fun _ _ _ _ h hq => PySem.W.kdl_hint_dict ⟨o, h, hx.1⟩ hq
  iter := fun A s hh h => ⟨{ cls := .type "dict_keyiterator", data := .fields #[.ref d, .int 0 0, .int es.size 0, .int ep 0] }, fun i h => h.IsKeyIter s.heap.objs.size d i es.size ep ∧ h.get? d = some o,
    fun E Q hq => iter_keys lo h hx hd hq,
    { sub := fun b hb => by simp at hb; simp [hb]
      frame := fun _ _ _ st hk => ⟨st.1.at fun o e => hk _ (by simp) o e, hk d (by simp) o st.2⟩
      item := fun i s1 Q E hi st hQ => by
        refine next_key_item st.1 st.2 hd rfl (Array.getElem?_eq_getElem hi) fun h' hit' hs' => ?_
        have hne : d ≠ s.heap.objs.size := Nat.ne_of_lt (Heap.lt_size h)
        exact hQ _ h' s1.toks ⟨_, Array.getElem?_eq_getElem hi, rfl⟩ ⟨hit', (hs'.2 d hne).trans st.2⟩ fun b o hb e => (hs'.2 b (by simpa using hb)).trans e
      done := fun s1 Q E st hQ => next_key_end hh st.1 st.2 hd rfl (Nat.le_refl _) fun h' he' => hQ h' s1.toks fun b o hb e => he' b o (by simpa using hb) e
      self := fun i s1 Q E st hQ => wpAny_pyIter_keyiter st.1 hQ },
    ⟨⟨_, Heap.get?_push_size _ rfl, rfl, by simp [rawInt]⟩, Heap.get?_push_of_some _ h⟩⟩
def rSortTP : List V → Hp → VK → Prop := fun xs H Q => ∃ (a : Addr) (kvs : List (List Key × V)) (ps : List (Int × Int)), xs = [.ref a] ∧ Rd H a (.dT kvs) ∧ (kvs.map (·.1) = ps.map fun q => [Sum.inl q.1, Sum.inl q.2]) ∧
  ∀ (ys : List V) (d : Addr), Paired (fun y (q : Int × Int) => ∃ t, y = V.ref t ∧ H t = some (.tup [.int q.1, .int q.2])) ys (sortP ps) → H d = none → Q (.ref d) (upd H d (.lst ys))
theorem insP_perm (n : Int × Int) : ∀ r, (insP n r).Perm (n :: r)
  | [] => .refl _
  | m :: r => by
    unfold insP
    split
    · exact .refl _
    · exact ((insP_perm n r).cons m).trans (.swap _ _ _)
theorem leP_tot {p q : Int × Int} (h : leP p q = false) : leP q p = true := by
  unfold leP at *
  simp only [Bool.or_eq_false_iff, Bool.and_eq_false_iff, decide_eq_false_iff_not, Bool.or_eq_true, Bool.and_eq_true, decide_eq_true_eq] at *
  omega
theorem leP_trans {a b c : Int × Int} (h : leP a b = true) (h' : leP b c = true) : leP a c = true := by
  unfold leP at *
  simp only [Bool.or_eq_true, Bool.and_eq_true, decide_eq_true_eq] at *
  omega
theorem leP_anti {a b : Int × Int} (h : leP a b = true) (h' : leP b a = true) : a = b := by
  unfold leP at *
  simp only [Bool.or_eq_true, Bool.and_eq_true, decide_eq_true_eq] at *
  apply Prod.ext <;> omega
theorem insP_pw (n : Int × Int) : ∀ r, r.Pairwise (fun a b => leP a b = true) → (insP n r).Pairwise (fun a b => leP a b = true)
  | [], _ => by simp [insP]
  | m :: r, h => by
    obtain ⟨h1, h2⟩ := List.pairwise_cons.mp h
    unfold insP
    split
    · rename_i hle
      refine List.pairwise_cons.mpr ⟨fun y hy => ?_, h⟩
      rcases List.mem_cons.mp hy with e | hy
      · rw [e]; exact hle
      · exact leP_trans hle (h1 y hy)
    · rename_i hle
      refine List.pairwise_cons.mpr ⟨fun y hy => ?_, insP_pw n r h2⟩
      rcases List.mem_cons.mp ((insP_perm n r).mem_iff.mp hy) with e | hy
      · rw [e]; exact leP_tot (by simpa using hle)
      · exact h1 y hy
theorem sortP_perm : ∀ r, (sortP r).Perm r
  | [] => .refl _
  | n :: r => (insP_perm n _).trans ((sortP_perm r).cons n)
theorem sortP_pw : ∀ r, (sortP r).Pairwise (fun a b => leP a b = true)
  | [] => .nil
  | n :: r => insP_pw n _ (sortP_pw r)
theorem sortP_same {ns r : List (Int × Int)} (h1 : r.Perm ns) (h2 : r.Pairwise (fun a b => leP a b = true)) : r = sortP ns :=
  (h1.trans (sortP_perm ns).symm).eq_of_pairwise (fun x y _ _ a b => leP_anti a b) h2 (sortP_pw ns)
/-- the pair at a tuple -/
def pairAt (H : Hp) : Value → Int × Int
  | .ref a => match H a with
    | some (.tup [.int i, .int j]) => (i, j)
    | _ => (0, 0)
  | _ => (0, 0)
theorem pairAt_eq {H : Hp} {t : Addr} {i j : Int} (h : H t = some (.tup [.int i, .int j])) : pairAt H (.ref t) = (i, j) := by
  simp only [pairAt, h]
theorem backV_refs {H : Hp} {out : List Value} (h : ∀ u ∈ out, ∃ t i j, u = Value.ref t ∧ H t = some (.tup [.int i, .int j])) :
    Paired (fun y (q : Int × Int) => ∃ t, y = V.ref t ∧ H t = some (.tup [.int q.1, .int q.2])) (out.map backV) (out.map (pairAt H)) := by
  induction out with
  | nil => exact .nil
  | cons u us ih =>
    obtain ⟨t, i, j, rfl, ht⟩ := h u List.mem_cons_self
    refine .cons ⟨t, rfl, ?_⟩ (ih fun v hv => h v (List.mem_cons_of_mem _ hv))
    rw [pairAt_eq ht]
    exact ht
theorem cr_sortedTP (hc : X.calm = true) : CallR X (.builtin "sorted") rSortTP := by
  intro pins s σ H xs us Q I r q
  obtain ⟨a, kvs, ps, rfl, hd, hks, q⟩ := q
  obtain ⟨u, rfl, rx⟩ := vals1 r
  cases rx
  obtain ⟨z, lo, xs, pr, o, es, ep, ho, hx, hdt, he, _⟩ := (show ObjOk X.prog X.w H s.heap a (.dT kvs) from rd_of I.hok hd)
  have l1 : es.size = xs.length := by rw [← Array.length_toList, he, List.length_map]
  have l2 : kvs.length = xs.length := Paired.length pr
  have l3 : kvs.length = ps.length := by have e := congrArg List.length hks; rwa [List.length_map, List.length_map] at e
  have ent : ∀ (i : Nat) (en : DictEntry), es[i]? = some en → ∃ t pq, ps[i]? = some pq ∧ en.key = .ref t ∧ H t = some (.tup [.int pq.1, .int pq.2]) := fun i en hen => by
    have hi : i < kvs.length := by
      obtain ⟨h1, _⟩ := Array.getElem?_eq_some_iff.mp hen
      omega
    have e1 : kvs[i]? = some kvs[i] := List.getElem?_eq_getElem hi
    obtain ⟨b, hb, e2, e3, _⟩ := paired_get pr e1
    have e4 : es.toList[i]? = some en := by rw [Array.getElem?_toList]; exact hen
    rw [he, List.getElem?_map, hb] at e4
    have e5 := Option.some.inj e4
    have e6 : (kvs.map (·.1))[i]? = some kvs[i].1 := by rw [List.getElem?_map, e1]; rfl
    rw [hks, List.getElem?_map] at e6
    cases e7 : ps[i]? with
    | none => rw [e7] at e6; cases e6
    | some pq =>
      rw [e7] at e6
      have e8 := Option.some.inj e6
      refine ⟨b.2.1, pq, rfl, by rw [← e5]; rfl, ?_⟩
      rw [e3, ← e8]
      rfl
  have h16 : es.size ≤ sizeLine := by omega
  refine Calls.call_function_entry PyProof.Rows.kind_sorted PyProof.Rows.plain_sorted PyProof.Rows.entry_sorted (PyProof.Rows.args_sorted1 _) ?_
  unfold Builtin.«sorted»
  refine wpAny_bind (m := checkCount "sorted" 1 1 _) (wpAny_pure ?_)
  refine wpAny_bind (PySem.W.kdu_collect (A := X.A.in1) (src_raw lo hx hdt) (I.ok.hd hc) ho h16 fun h' tk acc hk hacc => ?_)
  have hal : acc.toList.length = ps.length := by rw [Array.length_toList, hacc.1]; omega
  have I1 : Inv X pins σ H { s with heap := h', toks := tk } := I.kept hk
  have refs : ∀ (j : Nat) (v : Value), acc.toList[j]? = some v → ∃ t pq, ps[j]? = some pq ∧ v = .ref t ∧ H t = some (.tup [.int pq.1, .int pq.2]) := fun j v e => by
    obtain ⟨en, h1, rfl⟩ := hacc.2 j v (by rw [← Array.getElem?_toList]; exact e)
    exact ent j en h1
  have refs' : ∀ v ∈ acc.toList, ∃ t i j, v = Value.ref t ∧ H t = some (.tup [.int i, .int j]) := fun v hv => by
    obtain ⟨j, hj, e⟩ := List.mem_iff_getElem.mp hv
    obtain ⟨t, pq, _, h1, h2⟩ := refs j v (by rw [List.getElem?_eq_getElem hj, e])
    exact ⟨t, pq.1, pq.2, h1, h2⟩
  have hmap : acc.toList.map (pairAt H) = ps := by
    apply List.ext_getElem?
    intro j
    rw [List.getElem?_map]
    cases e : acc.toList[j]? with
    | none =>
      have := List.getElem?_eq_none_iff.mp e
      rw [List.getElem?_eq_none (by omega)]; rfl
    | some v =>
      obtain ⟨t, pq, h1, rfl, h3⟩ := refs j v e
      rw [h1]
      show some (pairAt H (.ref t)) = _
      rw [pairAt_eq h3]
  refine wpAny_bind (wpAny_newList ?_ (by rw [hal]; omega))
  have hoL : (h'.push (seqObj "list" acc.toList.toArray 0)).get? h'.objs.size = some (seqObj "list" acc.toList.toArray 0) := Heap.get?_push_size _ rfl
  show wpAny _ _ _ _ _ { s with heap := h'.push (seqObj "list" acc.toList.toArray 0), toks := tk }
  have isP : ∀ v ∈ acc.toList, Srt.IsPair (h'.push (seqObj "list" acc.toList.toArray 0)) v (pairAt H v).1 (pairAt H v).2 := fun v hv => by
    obtain ⟨t, i, j, rfl, ht⟩ := refs' v hv
    rw [pairAt_eq ht]
    obtain ⟨_, its2, r2, o, ho, hc, n, hd⟩ := I1.hok _ _ ht
    obtain ⟨u1, u2, rfl, ri, rj⟩ := vals2 r2
    obtain ⟨t1, rfl⟩ := ri
    obtain ⟨t2, rfl⟩ := rj
    exact ⟨t, o, t1, t2, n, rfl, Heap.get?_push_of_some _ ho, hc, hd⟩
  refine wpAny_bind (wpAny_holding (wpAny_call_entry PyProof.Rows.slot_list_sort ⟨_, hoL, rfl⟩ PyProof.Rows.entry_list_sort
    (SrtO.list_sort_ord (s := { s with heap := h'.push (seqObj "list" acc.toList.toArray 0), toks := tk }) (SrtO.swo_lex (pairAt H)) hoL (by rw [hal]; omega) (fun h2 => ?_) fun out g1 g2 => ⟨_, rfl, ?_⟩) (PyProof.Rows.args_list_sort _)))
  · refine SrtO.pairs_sortableO (by omega) isP fun o e c => ?_
    have e' : some o = some (seqObj "list" acc.toList.toArray 0) := e.symm.trans hoL
    cases e'
    exact absurd (Value.type.inj c) (by decide)
  · obtain ⟨e', he'⟩ := PyProof.Rows.sortedHeap_at (vs := acc.toList) (out := out.toArray) hoL
    have hlo : out.length = acc.toList.length := g2.perm.length_eq
    have hr : ∀ u ∈ out, ∃ t i j, u = Value.ref t ∧ H t = some (.tup [.int i, .int j]) := fun u hu => refs' u (g2.perm.mem_iff.mp hu)
    have hlen : (out.map backV).length ≤ sizeLine := by rw [List.length_map, hlo, hal]; omega
    have hs : out.map (pairAt H) = sortP ps := by
      refine sortP_same (by rw [← hmap]; exact g2.perm.map _) ?_
      rw [List.pairwise_map]
      refine List.Pairwise.imp ?_ g1
      intro x y hxy
      have := SrtO.lexB_no.mp hxy
      unfold leP
      simp only [Bool.or_eq_true, Bool.and_eq_true, decide_eq_true_eq]
      omega
    refine wpAny_pure ⟨_, rfl, .ref h'.objs.size, upd H h'.objs.size (.lst (out.map backV)), I1.laid (t' := tk) (fun b u e => ?_) (Nat.le_refl _)
      (show ObjOk X.prog X.w _ _ _ (.lst (out.map backV)) from ⟨hlen, out, e', vals_back fun u hu => let ⟨t, _, _, e, _⟩ := hr u hu; ⟨t, e⟩, he'⟩), rfl, q _ _ (by rw [← hs]; exact backV_refs hr) (I1.hok.fresh (Nat.le_refl _))⟩
    have hb : b < h'.objs.size := Heap.lt_size e
    rw [PyProof.Rows.sortedHeap_old (Nat.ne_of_lt hb) (by rw [size_push']; exact Nat.lt_succ_of_lt hb)]
    exact Heap.get?_push_of_some _ e
/-- all three -/
def rSortA (K : PySem.W.Frag) : List V → Hp → VK → Prop := fun xs H Q => rSortTP xs H Q ∨ (∃ (a : Addr) (kvs : List (Key × V)) (ks : List Int), xs = [.ref a] ∧ Rd H a (.dK kvs) ∧ kvs.map (·.1) = ks.map Sum.inl ∧ ks.length < 64 ∧
    ∀ (ys : List Int) (p : Addr), ys.Perm ks → ys.Pairwise (· ≤ ·) → H p = none → Q (.ref p) (upd H p (.lst (ys.map V.int)))) ∨ rSortedI K xs H Q
theorem call_sortA (hc : X.calm = true) : CallR X (.builtin "sorted") (rSortA X.K) := CallR.or2 (cr_sortedTP hc) (CallR.or2 (call_sortedDI hc) cr_sortedI)
theorem paired_ws {ys : List V} {qs : List (Int × Int)} (s : p.st F m H S) (h : Paired (fun y (q : Int × Int) => ∃ t, y = V.ref t ∧ H t = some (.tup [.int q.1, .int q.2])) ys qs) : p.ws F m H (qs.map fun q => .d (.tup [.int q.1, .int q.2])) ys := by
  induction h with
  | nil => exact .nil
  | cons r _ ih =>
    obtain ⟨t, rfl, ht⟩ := r
    exact .cons (.d (.tup ht (s.noTup ht) (.cons (.int _) (.cons (.int _) .nil)))) ih
theorem fits_sortD : FitsLF p sortDG (rSortA p.K) := by
  intro F m H S σ Q Wx ws vs s rs h
  unfold sortDG at h
  split at h
  · rename_i x
    cases rs with | cons rx rr =>
    cases rr
    rename_i v
    split at h
    · rename_i ps e
      rcases keys_pairs s rx e with ⟨a, kvs, rfl, hr, hk⟩ | ⟨a, rfl, hr, rfl⟩
      · exact .inl ⟨a, kvs, ps, rfl, hr, hk, fun ys d hp hd => newF s (paired_ws s hp) h hd⟩
      · refine .inr (.inl ⟨a, [], [], rfl, hr, rfl, by simp, fun ys d hp _ hd => ?_⟩)
        have : ys = [] := List.Perm.eq_nil hp
        subst this
        exact newF s .nil h hd
    · split at h
      · rename_i ns e
        split at h
        · rename_i h64
          have h64 := Nat.le_of_ble_eq_true h64
          cases ns with
          | nil =>
            have e0 : (keysW S x).bind pairsD = none := by assumption
            exfalso
            obtain ⟨ds, e1, e2⟩ := Option.bind_eq_some_iff.mp e
            have : ds = [] := by
              cases ds with
              | nil => rfl
              | cons k ds => cases k <;> first | cases e2 | (simp only [intsD] at e2; obtain ⟨_, _, z⟩ := Option.map_eq_some_iff.mp e2; cases z)
            subst this
            rw [e1] at e0
            cases e0
          | cons n ns =>
            obtain ⟨a, kvs, rfl, hr, hk⟩ := keys_ints s rx e (by simp)
            refine .inr (.inl ⟨a, kvs, n :: ns, rfl, hr, hk, h64, fun ys d hp hw hd => ?_⟩)
            rw [sort_same hp hw]
            refine newF s ?_ h hd
            exact ints_ws _
        · exact h.elim
      · exact .inr (.inr (fits_sorted F m H S σ Q Wx [x] [v] s (.cons rx .nil) h))
  · exact h.elim
end
end Pv

end

section
set_option linter.all false
set_option maxRecDepth 100000
set_option Elab.async false
set_option linter.all false
set_option maxRecDepth 100000
/-! Pv16: defs and their calls. -/
namespace Pv
open PySem PySem.Spec PyProof.Rows L2
section
variable {p : Pr} {X : Cx} {Wx : WX} {F m m1 m' F' Z : List Addr} {H H1 H' : Hp} {σ : L2.St} {e : En} {S S' : Store} {kt : List (List D)} {K : PySem.W.Frag}

/-- all is kept -/
def Kp (H H' : Hp) : Prop := ∀ b u, H b = some u → H' b = some u
theorem Kp.ext (k : Kp H H') : Ext H m H' m := ⟨⟨[], by simp⟩, fun b u h _ => k b u h, fun _ h => .inl h, fun b _ n => by
  cases q : H b with
  | none => exact absurd q n
  | some u => rw [k b u q]; simp⟩
theorem Ext.kp (x : Ext H [] H' m') : Kp H H' := fun b u h => x.keep b u h (by simp)
theorem Rst.kp (s : p.st F m H S) (k : Kp H H') : p.st F m H' S := by
  have eq : ∀ q, H q ≠ none → H q = H' q := fun q n => by
    cases h : H q with
    | none => exact absurd h n
    | some u => rw [k q u h]
  refine ⟨s.len, s.nd, s.apart, fun q hq => ?_, fun i q o hi ho => ?_⟩
  · rw [← eq q (s.there q hq).1]; exact s.there q hq
  · exact (s.obj i q o hi ho).go (fun b u hb n => ⟨k b u hb, n⟩) ⟨[], by simp⟩ (eq q (s.thing (List.mem_of_getElem? hi)))

/-! ### read off -/
theorem RepD.less (h : ∀ q ∈ F', q ∈ Z) {d : D} {v : V} (r : RepD kt K H Z d v) : RepD kt K H F' d v := r.go fun b u hb n => ⟨hb, fun z => n (h b z)⟩
theorem RepDs.less (h : ∀ q ∈ F', q ∈ Z) {d : List D} {v : List V} (r : RepDs kt K H Z d v) : RepDs kt K H F' d v := r.go fun b u hb n => ⟨hb, fun z => n (h b z)⟩
theorem RepKW.un : ∀ {ws : List (D × W)} {ds : List (D × D)} {vs : List (Key × V)}, RepKW kt K H Z m ws vs → unKW ws = some ds → RepK kt K H Z ds vs
  | [], _, _, .nil, h => by cases h; exact .nil
  | (k, .d x) :: r, _, _, .cons hk a b, h => by
    cases a with
    | d a =>
      unfold unKW at h
      obtain ⟨ds, e, rfl⟩ := Option.map_eq_some_iff.mp h
      exact .cons hk a (RepKW.un b e)
  | (_, .ref _) :: _, _, _, .cons _ _ _, h => by cases h
theorem RepTW.un {ws : List (D × W)} {vs : List (List Key × V)} (r : RepTW kt K H Z m ws vs) : ∀ {ds : List (D × D)}, unKW ws = some ds → RepT kt K H Z ds vs := by
  induction r with
  | nil => intro ds h; cases h; exact .nil
  | cons hk hz a b ih =>
    intro ds h
    cases a with
    | d a =>
      unfold unKW at h
      obtain ⟨ds, e, rfl⟩ := Option.map_eq_some_iff.mp h
      exact .cons hk hz a (ih e)
    | ref => cases h
theorem RepK.less (h : ∀ q ∈ F', q ∈ Z) : ∀ {d : List (D × D)} {v : List (Key × V)}, RepK kt K H Z d v → RepK kt K H F' d v
  | _, _, .nil => .nil
  | _, _, .cons k a b => .cons k (a.less h) (RepK.less h b)
theorem RepT.less (h : ∀ q ∈ F', q ∈ Z) : ∀ {d : List (D × D)} {v : List (List Key × V)}, RepT kt K H Z d v → RepT kt K H F' d v
  | _, _, .nil => .nil
  | _, _, .cons k z a b => .cons k z (a.less h) (RepT.less h b)
theorem snap_rep {w : W} {x : D} {v : V} (s : p.st F m H S) (r : p.w F m H w v) (h : snap S w = some x) : RepD p.kt p.K H F x v := by
  have sub : ∀ q ∈ F, q ∈ F ++ m := fun q hq => List.mem_append_left _ hq
  cases r with
  | d r => cases h; exact r.less sub
  | ref hi =>
    rename_i i a
    have na : a ∉ F := fun z => s.apart a z (List.mem_of_getElem? hi)
    simp only [snap] at h
    split at h
    · rename_i ws q
      obtain ⟨ds, e, rfl⟩ := Option.map_eq_some_iff.mp h
      obtain ⟨vs, hv, rv⟩ := s.obj _ _ _ hi q
      exact .lst hv na ((rv.un e).less sub)
    · rename_i tk kvs q
      obtain ⟨ds, e, rfl⟩ := Option.map_eq_some_iff.mp h
      have o := s.obj _ _ _ hi q
      cases tk with
      | false =>
        obtain ⟨ks, hv, rk⟩ := o
        exact .dK (.inl hv) na (RepK.less sub (RepKW.un rk e))
      | true =>
        obtain ⟨ks, hv, rk⟩ := o
        exact .dT (.inl hv) na (RepT.less sub (RepTW.un rk e))
    · cases h
theorem snaps_rep (s : p.st F m H S) : ∀ {ws : List W} {ds : List D} {vs : List V}, p.ws F m H ws vs → snaps S ws = some ds → RepDs p.kt p.K H F ds vs
  | [], _, _, .nil, h => by cases h; exact .nil
  | w :: ws, _, _, .cons a b, h => by
    unfold snaps at h
    split at h
    · rename_i x xs h1 h2
      cases h
      exact .cons (snap_rep s a h1) (snaps_rep s b h2)
    · cases h
/-- all data -/
theorem snaps_data : ∀ {ws : List W} {ds : List D} {vs : List V}, p.ws F m H ws vs → snaps S ws = some ds → anyRef ws = false → p.ds F m H ds vs
  | [], _, _, .nil, h, _ => by cases h; exact .nil
  | .d x :: ws, _, _, .cons a b, h, n => by
    unfold snaps at h
    split at h
    · rename_i x' xs h1 h2
      cases h
      cases h1
      cases a with | d a =>
      exact .cons a (snaps_data b h2 n)
    · cases h
  | .ref _ :: ws, _, _, .cons a b, h, n => by cases n
theorem tupOnly_rep (s : p.st F m H S) {x : D} {v : V} (r : RepD p.kt p.K H F x v) (h : tupOnly x = true) : p.d F m H x v := by
  refine RepD.rec (motive_1 := fun d v _ => tupOnly d = true → p.d F m H d v) (motive_2 := fun ds vs _ => tupOnly.tupOnlys ds = true → p.ds F m H ds vs) (motive_3 := fun _ _ _ => True) (motive_4 := fun _ _ _ => True)
    (fun _ => .non) (fun b _ => .bl b) (fun i _ => .int i) (fun x _ => .str x) (fun h n _ i t => .tup h (s.noTup h) (i t)) (fun h z _ i t => .tupK h z (i t)) (fun _ _ _ _ t => nomatch t) (fun _ _ t => nomatch t) (fun _ t => nomatch t)
    (fun _ _ _ _ t => nomatch t) (fun _ _ _ _ t => nomatch t) (fun _ => .nil) (fun _ _ a b t => ?_) trivial (fun _ _ _ _ _ => trivial) trivial (fun _ _ _ _ _ _ => trivial) r h
  simp only [tupOnly.tupOnlys, Bool.and_eq_true] at t
  exact .cons (a t.1) (b t.2)

/-! ### promises -/
/-- a def that leaves the store alone -/
def spP (p : Pr) (np : Nat) (f : List D → P) : Sp := fun vs H Q E => vs.length = np ∧ ∃ (F : List Addr) (ds : List D), p.st F [] H [] ∧ RepDs p.kt p.K H F ds vs ∧ match f ds with
  | .ok x => ∀ v H', Kp H H' → RepD p.kt p.K H' F x v → Q v H'
  | .exc x => ∀ cls dx H', Kp H H' → p.XR x cls dx H' → E cls dx H'
  | .stuck => False
/-- a def that works on the caller's store -/
def spI (p : Pr) (np : Nat) (f : List W → Store → R W) : Sp := fun vs H Q E => vs.length = np ∧ ∃ (F m : List Addr) (S : Store) (ws : List W), p.st F m H S ∧ p.ws F m H ws vs ∧ match f ws S with
  | .ok w S' => ∀ v H' m', Ext H m H' m' → p.w F m' H' w v → p.st F m' H' S' → Q v H'
  | .exc x S' => ∀ cls dx H' m', Ext H m H' m' → p.XR x cls dx H' → p.st F m' H' S' → E cls dx H'
  | .stuck => False
theorem startV_ok {N : List Str} {ws : List W} {vs : List V} (r : p.ws F m H ws vs) (hl : vs.length ≤ N.length) : p.en F m H (startV N.length ws) (L2.start N vs) := by
  have hlen := RepWs.len r
  have gv : ∀ (e : En) (j : Nat), getV e j = (e[j]?).getD none := by
    intro e
    induction e with
    | nil => intro j; rfl
    | cons a r ih => intro j; cases j with
      | zero => rfl
      | succ j => exact ih j
  refine ⟨by unfold startV L2.start; simp [hlen], fun i w g => ?_⟩
  rw [gv] at g
  unfold startV at g
  by_cases hi : i < ws.length
  · rw [List.getElem?_append_left (by simpa using hi), List.getElem?_map, List.getElem?_eq_getElem hi] at g
    cases g
    obtain ⟨v, hv, rv⟩ := RepWs.get r (List.getElem?_eq_getElem hi)
    refine ⟨v, ?_, rv⟩
    unfold L2.start
    rw [List.getElem?_append_left (by rw [List.length_map, ← hlen]; exact hi), List.getElem?_map, hv]; rfl
  · rw [List.getElem?_append_right (by simpa using hi), List.getElem?_replicate] at g
    split at g <;> cases g
theorem fn_pure {P : Program} {w : World} {mg : Str → Option Value} {base : Heap} {x qual : Str} {params : Arguments} {body : List Stmt} {scope : Scope} {dvs : List V} {kws : List (Str × V)} {f : Addr} {fd : FuncData} {N ps : List Str} {k : Nat} {b : SV} (Fn : FunD p.K x qual params body scope dvs kws f fd) (Sc : FnScope N ps scope) (hle : ps.length ≤ N.length)
    (hbody : ∀ (cdv : Value) (A : Around) (outer : List Env) (s : Shared) (H : Hp) (E : XK), Room k (A.deeper (envOfC qual scope s.heap.objs.size f cdv)) →
      SSs p (cxOf (L2.CX P w) P w p.K mg base N qual scope f cdv A outer s H E) (fun cls d _ H => E cls d H) body b) :
    FnOk P w p.K mg base (L2.CX P w) (k + 1) f fd ps (spP p ps.length (runP ps.length N.length b)) := by
  refine Fn.ok (CX := L2.CX P w) Sc (fun vs H Q E h => h.1) fun cdv A outer s H vs Q E hr hsp => ?_
  obtain ⟨hl, F, ds, s0, rd, hp⟩ := hsp
  obtain ⟨t, pt, g⟩ := hbody cdv A outer s H E hr
  refine ⟨t, pt, ?_⟩
  have rw0 : p.ws F [] H (ds.map W.d) vs := by
    have : RepDs p.kt p.K H (F ++ []) ds vs := by rw [List.append_nil]; exact rd
    exact this.ws
  refine g F H [] (startV N.length (ds.map W.d)) [] (L2.start N vs) _ (startV_ok rw0 (by omega)) s0 ?_
  have hdl : (ds.length == ps.length) = true := by
    have := rd.length
    simp; omega
  unfold runP at hp
  rw [hdl] at hp
  simp only [if_true] at hp
  cases q : b (startV N.length (ds.map W.d)) [] with
  | nx e S =>
    rw [q] at hp
    exact fun σ' H' m' x' _ _ => hp .non H' x'.kp .non
  | rt w' S =>
    rw [q] at hp
    intro v H' m' x' rv s'
    simp only at hp
    cases q2 : snap S w' with
    | none => rw [q2] at hp; exact hp.elim
    | some d =>
      rw [q2] at hp
      exact hp v H' x'.kp (snap_rep s' rv q2)
  | exc x' e S =>
    rw [q] at hp
    simp only at hp
    by_cases ht : tupOnly x'.a = true
    · rw [if_pos ht] at hp
      exact fun cls dx σ' H' m' y xr _ => hp cls dx H' y.kp xr
    · rw [if_neg ht] at hp; exact hp.elim
  | bk e S => rw [q] at hp; exact hp.elim
  | ct e S => rw [q] at hp; exact hp.elim
  | stuck => rw [q] at hp; exact hp.elim
theorem fn_imp {P : Program} {w : World} {mg : Str → Option Value} {base : Heap} {x qual : Str} {params : Arguments} {body : List Stmt} {scope : Scope} {dvs : List V} {kws : List (Str × V)} {f : Addr} {fd : FuncData} {N ps : List Str} {k : Nat} {b : SV} (Fn : FunD p.K x qual params body scope dvs kws f fd) (Sc : FnScope N ps scope) (hle : ps.length ≤ N.length)
    (hbody : ∀ (cdv : Value) (A : Around) (outer : List Env) (s : Shared) (H : Hp) (E : XK), Room k (A.deeper (envOfC qual scope s.heap.objs.size f cdv)) →
      SSs p (cxOf (L2.CX P w) P w p.K mg base N qual scope f cdv A outer s H E) (fun cls d _ H => E cls d H) body b) :
    FnOk P w p.K mg base (L2.CX P w) (k + 1) f fd ps (spI p ps.length (runI ps.length N.length b)) := by
  refine Fn.ok (CX := L2.CX P w) Sc (fun vs H Q E h => h.1) fun cdv A outer s H vs Q E hr hsp => ?_
  obtain ⟨hl, F, m, S, ws, s0, rd, hp⟩ := hsp
  obtain ⟨t, pt, g⟩ := hbody cdv A outer s H E hr
  refine ⟨t, pt, ?_⟩
  refine g F H m (startV N.length ws) S (L2.start N vs) _ (startV_ok rd (by omega)) s0 ?_
  have hdl : (ws.length == ps.length) = true := by
    have := RepWs.len rd
    simp; omega
  unfold runI at hp
  rw [hdl] at hp
  simp only [if_true] at hp
  cases q : b (startV N.length ws) S with
  | nx e S =>
    rw [q] at hp
    exact fun σ' H' m' x' _ s' => hp .non H' m' x' (.d .non) s'
  | rt w' S =>
    rw [q] at hp
    exact fun v H' m' x' rv s' => hp v H' m' x' rv s'
  | exc x' e S =>
    rw [q] at hp
    simp only at hp
    by_cases ht : tupOnly x'.a = true
    · rw [if_pos ht] at hp
      exact fun cls dx σ' H' m' y xr s' => hp cls dx H' m' y xr s'
    · rw [if_neg ht] at hp; exact hp.elim
  | bk e S => rw [q] at hp; exact hp.elim
  | ct e S => rw [q] at hp; exact hp.elim
  | stuck => rw [q] at hp; exact hp.elim

/-! ### calls -/
variable {k : Nat} {f : Addr} {fd : FuncData} {ps : List Str} {x : Str} {p0 pos : Pos} {a : Expr} {as : List Expr} {fs : List EV}
theorem se_callP {g : List D → P} (tk : Takes X Wx) (Fn : FnOk X.prog X.w X.K X.mg X.base (L2.CX X.prog X.w) k f fd ps (spP p ps.length g)) (hr : Room k X.A) (hg : Gl X x) (hm : X.mg x = some (.ref f)) (hk : PySem.W.keepIn X.K (.ref f) = true) (hb : Binds X.K fd ps [])
    (hdb : (x == ("__debug__" : Str)) = false) (he : starEach (a :: as) X.env = (false, eval a X.env) :: starEach as X.env) (hpl : (backTo pos (starEach as X.env)).any (·.1) = false) (hn : fs.length = ps.length) (hs : SA p X Wx (a :: as) (argsF fs)) :
    SE p X Wx (.Call (.Name x p0) (a :: as) [] pos) (callP g fs) := by
  obtain ⟨t, pt, gt⟩ := hs
  refine ⟨_, pe_callS (E := WE Wx) Fn hr hg hm hk hb (fun σ => passAt tk σ) pt hdb he hpl, fun F H m e S σ Q r0 s h => ?_⟩
  refine Good.args gt r0 s h fun ws S1 vs H1 m1 hl _ r1 rw' s1 h1 => ?_
  refine ⟨by rw [← RepWs.len rw', hl, hn], ?_⟩
  cases q : snaps S1 ws with
  | none => rw [q] at h1; exact h1.elim
  | some ds =>
    rw [q] at h1
    simp only at h1
    have post : ∀ (r : P), Post p p.w F H1 m1 σ Q Wx (match r with
        | .ok x => if anyRef ws && !tupOnly x then .stuck else .ok (.d x) S1
        | .exc x => if tupOnly x.a then .exc x S1 else .stuck
        | .stuck => .stuck) → ∀ (F' : List Addr), (∀ x v H', Kp H1 H' → RepD p.kt p.K H' F' x v → (anyRef ws && !tupOnly x) = false → p.d F m1 H' x v) → (match r with
        | .ok x => ∀ v H', Kp H1 H' → RepD p.kt p.K H' F' x v → Q v H'
        | .exc x => ∀ cls dx H', Kp H1 H' → p.XR x cls dx H' → Wx cls dx σ H'
        | .stuck => False) := by
      intro r hp F' hF
      cases r with
      | ok x =>
        simp only at hp ⊢
        intro v H' k' rv
        cases hc : (anyRef ws && !tupOnly x) with
        | true => rw [hc, if_pos rfl] at hp; exact hp.elim
        | false =>
          rw [hc, if_neg Bool.false_ne_true] at hp
          exact hp v H' m1 k'.ext (.d (hF x v H' k' rv hc)) (s1.kp k')
      | exc x =>
        simp only at hp ⊢
        intro cls dx H' k' xr
        split at hp
        · exact hp cls dx H' m1 k'.ext xr (s1.kp k')
        · exact hp.elim
      | stuck => exact hp.elim
    cases hr' : anyRef ws with
    | false =>
      refine ⟨F ++ m1, ds, ⟨rfl, .nil, fun _ _ => by simp, fun q hq => ?_, fun i q o hi _ => by simp at hi⟩, snaps_data rw' q hr', ?_⟩
      · rcases List.mem_append.mp hq with z | z
        · exact s1.there q z
        · exact ⟨s1.thing z, fun xs hx => s1.noTup hx (List.mem_append_right _ z)⟩
      · exact post (g ds) h1 (F ++ m1) fun x v H' k' rv _ => rv
    | true =>
      refine ⟨F, ds, ⟨rfl, .nil, fun _ _ => by simp, s1.there, fun i q o hi _ => by simp at hi⟩, snaps_rep s1 rw' q, ?_⟩
      refine post (g ds) h1 F fun x v H' k' rv hc => ?_
      rw [hr', Bool.true_and] at hc
      exact tupOnly_rep (s1.kp k') rv (by simpa using hc)
theorem se_callI {g : List W → Store → R W} (tk : Takes X Wx) (Fn : FnOk X.prog X.w X.K X.mg X.base (L2.CX X.prog X.w) k f fd ps (spI p ps.length g)) (hr : Room k X.A) (hg : Gl X x) (hm : X.mg x = some (.ref f)) (hk : PySem.W.keepIn X.K (.ref f) = true) (hb : Binds X.K fd ps [])
    (hdb : (x == ("__debug__" : Str)) = false) (he : starEach (a :: as) X.env = (false, eval a X.env) :: starEach as X.env) (hpl : (backTo pos (starEach as X.env)).any (·.1) = false) (hn : fs.length = ps.length) (hs : SA p X Wx (a :: as) (argsF fs)) :
    SE p X Wx (.Call (.Name x p0) (a :: as) [] pos) (callI g fs) := by
  obtain ⟨t, pt, gt⟩ := hs
  refine ⟨_, pe_callS (E := WE Wx) Fn hr hg hm hk hb (fun σ => passAt tk σ) pt hdb he hpl, fun F H m e S σ Q r0 s h => ?_⟩
  refine Good.args gt r0 s h fun ws S1 vs H1 m1 hl _ r1 rw' s1 h1 => ?_
  refine ⟨by rw [← RepWs.len rw', hl, hn], F, m1, S1, ws, s1, rw', ?_⟩
  cases q : g ws S1 with
  | ok w S2 => rw [q] at h1; exact h1
  | exc x S2 => rw [q] at h1; exact h1
  | stuck => rw [q] at h1; exact h1
end
end Pv

end

section
set_option linter.all false
set_option maxRecDepth 100000
set_option Elab.async false
set_option linter.all false
set_option maxRecDepth 100000
/-! Pv17: enumerate. -/
namespace PySem
set_option maxHeartbeats 1000000 in
theorem pv_enum_newT (l : Addr) (items : Array Value) (n : Nat) (dct : Option Addr) (sl : Array (Option Value)) :
    Meets (Builtin.«enumerate.__new__» ⟨[.type "enumerate", .ref l], []⟩) (fun _ R s => s.heap.get? l = some { cls := .type "tuple", dict := dct, data := .seq items n, slots := sl } ∧
      R (.ok (.ret (.ref (s.heap.push { cls := .type "tuple_iterator", data := .fields #[.ref l, .int 0 0] }).objs.size)))
        { s with heap := (s.heap.push { cls := .type "tuple_iterator", data := .fields #[.ref l, .int 0 0] }).push { cls := .type "enumerate", data := .fields #[.none, .bool false, .ref s.heap.objs.size, rawInt 0, .none, .none] } }) :=
  .of_wp fun prog w A R s h => by
    obtain ⟨hp, g, d, tk, os⟩ := s; obtain ⟨hl, h⟩ := h
    have hsub := sub_enumerate
    have hL : Heap.IsTuple (Shared.heap ⟨hp, g, d, tk, os⟩) l items := ⟨_, hl, rfl, n, rfl⟩
    wp_walk using AutoSeq1.wpAny_loadPart' hl
    refine wpAny_stack_any fun st => wpAny_pure ?_
    split
    · rename_i c _ _ _ _ _
      cases (c == Value.type "enumerate")
      · wp_walk using AutoSeq1.wpAny_loadPart' hl, wpAny_pyIter_tuple hL
        exact ⟨_, rfl, h⟩
      · wp_walk using AutoSeq1.wpAny_loadPart' hl, wpAny_pyIter_tuple hL
        exact ⟨_, rfl, h⟩
    · wp_walk using AutoSeq1.wpAny_loadPart' hl, wpAny_pyIter_tuple hL
      exact ⟨_, rfl, h⟩
section
variable {prog : Program} {w : World} {A : Around} {E : Value → Shared → Prop} {s : Shared}
theorem pv_call_enumT {l : Addr} {items : Array Value} {Q : Value → Shared → Prop} (hL : s.heap.IsTuple l items)
    (h : ∀ h', IsEnum h' (s.heap.objs.size + 1) s.heap.objs.size 0 .none → h'.IsTupleIter s.heap.objs.size l 0 → h'.objs.size = s.heap.objs.size + 2 →
      (∀ b o, s.heap.get? b = some o → h'.get? b = some o) → Q (.ref (s.heap.objs.size + 1)) { s with heap := h' }) :
    wpAny (model prog w) A (call (.type "enumerate") [.ref l]) Q E s := by
  obtain ⟨⟨c, dct, dt, sl⟩, hl, hc, n, hd⟩ := hL
  replace hc : c = .type "tuple" := hc
  replace hd : dt = .seq items n := hd
  subst hc hd
  refine callType_new F.called_enumerate (by decide) (F.typeCall_enumerate_1 _) (F.newCall_enumerate_1 _) (fun obj => F.args_object_init_2 obj _) F.entry_enumerate_new
    (pv_enum_newT l items n dct sl) ⟨hl, ?_⟩
  have hz : (s.heap.push { cls := .type "tuple_iterator", data := .fields #[.ref l, .int 0 0] }).objs.size = s.heap.objs.size + 1 := Heap.size_push ..
  show _ ∧ _
  rw [hz]
  have he : IsEnum ((s.heap.push { cls := .type "tuple_iterator", data := .fields #[.ref l, .int 0 0] }).push
      { cls := .type "enumerate", data := .fields #[.none, .bool false, .ref s.heap.objs.size, rawInt 0, .none, .none] }) (s.heap.objs.size + 1) s.heap.objs.size 0 .none := by
    have := Heap.get?_push_size (s.heap.push { cls := .type "tuple_iterator", data := .fields #[.ref l, .int 0 0] })
      (o := { cls := .type "enumerate", data := .fields #[.none, .bool false, .ref s.heap.objs.size, rawInt 0, .none, .none] }) rfl
    rw [hz] at this; exact this
  refine ⟨⟨_, he, rfl⟩, h _ he ⟨_, Heap.get?_push_of_some _ (Heap.get?_push_size _ rfl), rfl, rfl⟩ (by rw [Heap.size_push, hz]) fun b o x => Heap.get?_push_of_some _ (Heap.get?_push_of_some _ x)⟩
end
end PySem
namespace Pv
open PySem PySem.Spec PyProof.Rows L2
def IteT (K : PySem.W.Frag) (a : Addr) : L2.It :=
  ⟨fun i H => ∃ (xs : List V) (x : V), SqT K H a xs ∧ xs[i]? = some x, fun i H v H' => ∃ T x, v = .ref T ∧ H T = none ∧ H' = upd H T (.tup [.int (i : Nat), x]) ∧ ∀ xs, SqT K H a xs → xs[i]? = some x, fun i H => ∃ xs : List V, SqT K H a xs ∧ xs.length ≤ i⟩
theorem turn_enumT {P : Program} {w : World} {K : PySem.W.Frag} {elts : List Expr} {kk : Nat} {tpos : Pos} (a e it : Addr) :
    Turn P w K (.Tuple elts kk tpos) (IteT K a) [e, it] e (fun i h => (∃ old, IsEnum h e it ((i : Nat) : Int) old) ∧ h.IsTupleIter it a i ∧ e ≠ it) where
  mem := by simp
  obj := fun i h st b hb => by
    obtain ⟨⟨old, he⟩, ⟨o, ho, hc, hd⟩, _⟩ := st
    have e' : b = e ∨ b = it := by simpa using hb
    rcases e' with z | z
    · rw [z]; exact ⟨_, he, fun v q => nomatch q⟩
    · rw [z]; exact ⟨o, ho, fun v q => by rw [hd] at q; cases q⟩
  keep := fun i h h' st k => let ⟨⟨old, he⟩, hi, hne⟩ := st; ⟨⟨old, k e (by simp) _ he⟩, hi.at fun o q => k it (by simp) o q, hne⟩
  item := by
    intro X hP hw hK hc i pins s σ H E I hf st hg
    subst hP hw hK
    obtain ⟨⟨old, he⟩, hit, hne⟩ := st
    obtain ⟨xs, x, hq, hx⟩ := hg
    obtain ⟨its, rv, p, hz⟩ := I.tuple hq
    obtain ⟨u, hu, ru⟩ := rv.get hx
    have hp : s.heap.IsTuple a its.toArray := p
    have hel : e < s.heap.objs.size := Heap.lt_size he
    have hil : it < s.heap.objs.size := by obtain ⟨_, q, _⟩ := hit; exact Heap.lt_size q
    have ai : a ≠ it := fun z => by
      obtain ⟨o, ho, c, _⟩ := hp
      obtain ⟨o', ho', c', _⟩ := hit
      rw [z, ho'] at ho
      cases ho
      rw [c'] at c
      exact absurd (Value.type.inj c) (by decide)
    have ae : a ≠ e := fun z => by
      obtain ⟨o, ho, c, _⟩ := hp
      rw [z, show s.heap.get? e = some _ from he] at ho
      cases ho
      exact absurd (Value.type.inj c) (by decide)
    have hlt : i < its.toArray.size := by
      have := (List.getElem?_eq_some_iff.mp hu).1
      simpa using this
    refine wpAny_pyNext_enum_itemD (Draws.tuple (A := X.A.in1) (I.ok.hd hc) it a ai its.toArray) he ⟨hit, hp⟩ hlt hne (by simp; exact ⟨hne, fun z => ae z.symm⟩) fun x' h' tk hP ho hit' hT hsz hk => ?_
    have ex : u = x' := by
      have : its.toArray[i]? = some u := by simpa using hu
      rw [this] at hP
      exact Option.some.inj hP
    subst ex
    refine ⟨_, rfl, wpAny_letOwnedTupleGo_enum (s := { s with heap := h', toks := tk + 1 }) ho fun h'' he' sb => ?_⟩
    have hT2 : h''.get? s.heap.objs.size = some { cls := .type "tuple", data := .seq #[.int i tk, u] } := (sb.2 _ (Nat.ne_of_gt hel)).trans hT
    have new : ObjOk X.prog X.w (upd H s.heap.objs.size (.tup [.int (i : Nat), x])) h'' s.heap.objs.size (.tup [.int (i : Nat), x]) :=
      ⟨by show 2 ≤ sizeLine; decide, [.int i tk, u], .cons ⟨_, rfl⟩ (.cons ru .nil), ⟨_, hT2, rfl, _, rfl⟩⟩
    have I1 : Inv X pins σ (upd H s.heap.objs.size (.tup [.int (i : Nat), x])) { s with heap := h'', toks := tk + 1 } :=
      I.turnedNew (ch := [e, it]) (fun b ob hb q => (sb.2 b (fun z => hb (by simp [z]))).trans (hk b ob (fun z => hb (by simp [z])) (fun z => hb (by simp [z])) q)) hf (Nat.le_refl _) new
    refine ⟨.ref s.heap.objs.size, _, I1, rfl, ⟨_, x, rfl, I.hok.fresh (Nat.le_refl _), rfl, fun ys hy => by rw [I.tuple_inj hy hq]; exact hx⟩, ⟨⟨u, ?_⟩, hit'.1.at fun o q => (sb.2 it (Ne.symm hne)).trans q, hne⟩, fun b hb => ?_⟩
    · have e1 : ((i + 1 : Nat) : Int) = (i : Int) + 1 := by omega
      rw [e1]; exact he'
    · have hb' : b < s.heap.objs.size := by
        have e' : b = e ∨ b = it := by simpa using hb
        rcases e' with z | z
        · rw [z]; exact hel
        · rw [z]; exact hil
      rw [upd_ne (Nat.ne_of_lt hb')]
      exact (hf b hb).1
  done := by
    intro X hP hw hK hc i pins s σ H E I hf st hg
    subst hP hw hK
    obtain ⟨⟨old, he⟩, hit, hne⟩ := st
    obtain ⟨xs, hq, hx⟩ := hg
    obtain ⟨its, rv, p, hz⟩ := I.tuple hq
    have hp : s.heap.IsTuple a its.toArray := p
    obtain ⟨f0, f1, f2, f3, f4, f5⟩ := hf it (by simp)
    have hl := rv.length
    have ai : a ≠ it := fun z => by
      obtain ⟨o, ho, c, _⟩ := hp
      obtain ⟨o', ho', c', _⟩ := hit
      rw [z, ho'] at ho
      cases ho
      rw [c'] at c
      exact absurd (Value.type.inj c) (by decide)
    have hT : s.TypeIs (.ref e) "enumerate" := ⟨_, he, rfl⟩
    unfold pyNext
    refine wpAny_bind (wpAny_attempt (wpAny_callSpecial?_slot (name := Str.ofString "__next__") hT F.slot_enumerate_next
      (wpAny_call_entry F.slot_enumerate_next hT F.entry_enumerate_next ?_ (F.args_enumerate_next_1 _))))
    show wpAny _ _ (field (.ref e) 2 >>= _) _ _ _
    refine wpAny_bind (wpAny_field he rfl (x := .ref it) rfl ?_)
    refine wpAny_bind (wpAny_nextOf_tuple_end (I.ok.hd hc) hit hp (by simp; omega) fun h' x he' hx' => ?_)
    obtain ⟨o, ho, hc⟩ := hx'
    refine wpAny_bind (wpAny_isInstance (T := "StopIteration") (b := true) ⟨o, ho, hc⟩ isSubtype_stop ?_)
    exact wpAny_pure ⟨rfl, I.turned (t' := s.toks) (fun b o hb e => he' b o hb e) f0 f1 f3 f4 f5⟩
  self := fun A i s Q E st h => let ⟨⟨_, he⟩, _⟩ := st; wpAny_pyIter_enum he h
def iEnumT (K : PySem.W.Frag) (ta : TA) : TI := fun σ H R => ta σ H fun vs H1 => ∃ a xs, vs = [.ref a] ∧ SqT K H1 a xs ∧ R (IteT K a) H1
theorem pi_enumT {X : Cx} {e : Expr} {ta : TA} {p pos tpos : Pos} {elts : List Expr} {kk : Nat} (hg : Gl X "enumerate") (hm : X.mg "enumerate" = none) (ha : PA X [e] ta) (hs : starEach [e] X.env = [(false, eval e X.env)]) :
    PI X (.Tuple elts kk tpos) (.Call (.Name "enumerate" p) [e] [] pos) (iEnumT X.K ta) := by
  refine ⟨fun pins s σ H R I h => ?_⟩
  refine Call_ (ld_blt I hg hm boot_enumerate (PyProof.Rows.callWith_type1 (thn (ha.run pos pins s σ H _ I h) fun us s1 ⟨vs, H1, I1, r1, q1⟩ => ?_) hs rfl))
  obtain ⟨a, xs, ex, hq, q⟩ := q1
  subst ex
  cases r1 with
  | cons r rr =>
    cases rr
    cases r
    obtain ⟨its, rv, p', hz⟩ := I1.tuple hq
    refine pv_call_enumT (show s1.heap.IsTuple a its.toArray from p') fun h' he hit hsz hk => wpAny_pyIter_enum he ?_
    have I2 : Inv X pins σ H1 { s1 with heap := h' } := I1.kept (t' := s1.toks) hk
    refine ⟨s1.heap.objs.size + 1, [s1.heap.objs.size + 1, s1.heap.objs.size], _, _, H1, rfl, I2, turn_enumT a (s1.heap.objs.size + 1) s1.heap.objs.size, ⟨⟨.none, he⟩, hit, Nat.succ_ne_self _⟩, fun b hb => ?_, q⟩
    have e' : b = s1.heap.objs.size + 1 ∨ b = s1.heap.objs.size := by simpa using hb
    have hle : s1.heap.objs.size ≤ b := by
      rcases e' with z | z
      · rw [z]; exact Nat.le_add_right _ _
      · rw [z]; exact Nat.le_refl _
    exact I1.fpOk hle (I1.hok.fresh hle)
section
variable {p : Pr} {X : Cx} {Wx : WX} {F m m1 m' F' : List Addr} {H H1 H' : Hp} {σ : L2.St} {e : En} {S : Store}
theorem enumD_len (k : Int) (ds : List D) : (enumD k ds).length = ds.length := by
  induction ds generalizing k with
  | nil => rfl
  | cons d ds ih => exact congrArg (· + 1) (ih _)
theorem enumD_get {k : Int} {ds : List D} {i : Nat} {w : W} (h : (enumD k ds)[i]? = some w) : ∃ d, ds[i]? = some d ∧ w = .d (.tup [.int (k + i), d]) := by
  induction ds generalizing k i with
  | nil => simp [enumD] at h
  | cons d ds ih =>
    cases i with
    | zero => cases h; exact ⟨d, rfl, by simp⟩
    | succ i =>
      obtain ⟨d', h1, h2⟩ := ih (k := k + 1) (i := i) h
      refine ⟨d', h1, ?_⟩
      rw [h2]
      congr 4
      omega
theorem enum_pair {d : D} {v : V} {T : Addr} {i : Nat} (s : p.st F m H S) (rv : p.d F m H d v) (hT : H T = none) :
    Ext H m (upd H T (.tup [.int (i : Nat), v])) m ∧ p.w F m (upd H T (.tup [.int (i : Nat), v])) (.d (.tup [.int ((0 : Int) + i), d])) (.ref T) ∧ p.st F m (upd H T (.tup [.int (i : Nat), v])) S := by
  have x : Ext H m (upd H T (.tup [.int (i : Nat), v])) m := Ext.new hT
  refine ⟨x, .d (.tup upd_same (s.ne hT) ?_), s.new hT⟩
  rw [Int.zero_add]
  exact .cons (.int _) (.cons (x.d rv) .nil)
theorem fix_enumL {a : Addr} {ds : List D} {vs : List V} (ha : H a = some (.lst vs)) (na : a ∉ F ++ m) (r : p.ds F m H ds vs) : FixOk p (Ite p.K a) F H m (enumD 0 ds) := by
  intro F' H' m' hF x
  have hk := leansF x hF
  have hq : SqL p.K H' a vs := .inl (.inl (hk a _ ha na).1)
  have r' : p.ds F' m' H' ds vs := r.go hk
  refine ⟨fun i hi => ⟨vs, hq, by rw [← r.length]; simpa [enumD_len] using hi⟩, fun i w hw => ?_⟩
  obtain ⟨d, hd, rfl⟩ := enumD_get hw
  obtain ⟨v, hv, rv⟩ := r'.get hd
  refine ⟨⟨vs, v, hq, hv⟩, fun y H'' hy => ?_⟩
  obtain ⟨T, x', rfl, hT, rfl, hy⟩ := hy
  have e1 := hy vs hq
  rw [hv] at e1
  cases e1
  refine ⟨Ext.new hT, fun S s => ?_⟩
  exact (enum_pair s rv hT).2
theorem fix_enumT {a : Addr} {ds : List D} (rd : p.d F m H (.tup ds) (.ref a)) : FixOk p (IteT p.K a) F H m (enumD 0 ds) := by
  intro F' H' m' hF x
  have rd' : p.d F' m' H' (.tup ds) (.ref a) := rd.go (leansF x hF)
  obtain ⟨a', vs, e, hq, r'⟩ := rd'.tupAt
  cases e
  refine ⟨fun i hi => ⟨vs, hq, by rw [← r'.length]; simpa [enumD_len] using hi⟩, fun i w hw => ?_⟩
  obtain ⟨d, hd, rfl⟩ := enumD_get hw
  obtain ⟨v, hv, rv⟩ := r'.get hd
  refine ⟨⟨vs, v, hq, hv⟩, fun y H'' hy => ?_⟩
  obtain ⟨T, x', rfl, hT, rfl, hy⟩ := hy
  have e1 := hy vs hq
  rw [hv] at e1
  cases e1
  refine ⟨Ext.new hT, fun S s => ?_⟩
  exact (enum_pair s rv hT).2
theorem si_enum {a : Expr} {fa : EV} {p0 pos tpos : Pos} {elts : List Expr} {kk : Nat} (hK : X.K = p.K) (hg : Gl X "enumerate") (hm : X.mg "enumerate" = none) (hs : starEach [a] X.env = [(false, eval a X.env)]) (ha : SA p X Wx [a] (argsF [fa])) :
    SI p X Wx (.Tuple elts kk tpos) (.Call (.Name "enumerate" p0) [a] [] pos) (enumI fa) := by
  obtain ⟨t, pt, g⟩ := ha
  refine ⟨_, PI.or (pi_enum hg hm pt hs) (pi_enumT hg hm pt hs), fun F H m e S σ Q r s h => ?_⟩
  rw [hK]
  have ga := g F H m e S σ
  unfold argsF at ga
  unfold enumI at h
  cases q : fa e S with
  | exc x S1 =>
    rw [q] at h
    exact .inl (ga _ r s (by rw [q]; exact h))
  | stuck => rw [q] at h; exact h.elim
  | ok w S1 =>
    rw [q] at h
    simp only [R.bind] at h
    split at h
    · rename_i xs q2
      unfold dataS at q2
      split at q2
      · cases q2
        refine .inl (ga _ r s ?_)
        rw [q]
        intro vs H1 m1 x rv s1
        cases rv with | cons rv rr =>
        cases rr
        cases rv with | d rv =>
        cases rv with | lst ha na rs =>
        exact ⟨_, _, rfl, .inl (.inl ha), h _ H1 m1 x (fix_enumL ha na rs) s1⟩
      · cases q2
        refine .inr (ga _ r s ?_)
        rw [q]
        intro vs H1 m1 x rv s1
        cases rv with | cons rv rr =>
        cases rr
        cases rv with | d rv =>
        obtain ⟨a, vs, rfl, hq, rs⟩ := rv.tupAt
        exact ⟨a, vs, rfl, hq, h _ H1 m1 x (fix_enumT rv) s1⟩
      · cases q2
    · exact h.elim
end
end Pv

end

section
set_option linter.all false
set_option maxRecDepth 100000
set_option Elab.async false
set_option linter.all false
set_option maxRecDepth 100000
/-! Pv18: the text of a def, read as a meaning. -/
namespace Pv
open PySem PySem.Spec PyProof.Rows L2

/-! ### what is known of a def's text -/
structure FnE where
  name : Str
  np : Nat
  sem : (List D → P) ⊕ (List W → Store → R W)
structure Info where
  N : List Str
  names : List (Str × NameKind)
  fn : Str → Bool
  fns : List FnE
  cons : List (Str × D)
  news : List (Nat × Nat × Nat)
  tks : List (Nat × Nat)
  exs : List (Str × Nat × Str)
  kt : List (List D)
namespace Info
def isNew (I : Info) (q : Pos) : Bool := I.news.any fun z => z.1 == q.line && (z.2.1 == q.col && z.2.2 == q.endCol)
def isTk (I : Info) (q : Pos) : Bool := I.tks.any fun z => z.1 == q.line && z.2 == q.col
def idx : List Str → Str → Option Nat
  | [], _ => none
  | y :: r, x => if y == x then some 0 else (idx r x).map (· + 1)
def kind (I : Info) (x : Str) : Option NameKind := I.names.lookup x
def isLoc (I : Info) (x : Str) : Bool := I.kind x == some .local
def isVis (I : Info) (x : Str) : Bool := I.kind x == some .local || (I.kind x == some .cell || I.kind x == some .free)
def isLc (I : Info) (x : Str) : Bool := I.kind x == some .local || I.kind x == some .cell
def isGl (I : Info) (x : Str) : Bool := I.kind x == some .globalImplicit
def find : List FnE → Str → Option FnE
  | [], _ => none
  | f :: r, x => if f.name == x then some f else find r x
/-- the block of a comprehension -/
def blk (I : Info) (sc : Scope) : Info :=
  { I with names := sc.names.map fun q => if q.2 == .free && I.names.lookup q.1 == some .cell then (q.1, .cell) else q, fn := fun x => sc.names.lookup x == some .cell, exs := [] }
def own (I : Info) (sc : Scope) : List (Str × Nat) := sc.names.filterMap fun q => if q.2 == .local || q.2 == .cell then (idx I.N q.1).map fun i => (q.1, i) else none
def blkOk (I : Info) (sc : Scope) : Bool :=
  sc.kind == .function && (sc.names.all (fun y => sc.names.lookup y.1 == some y.2) && sc.names.all fun y => if y.2 == .free then (I.names.lookup y.1 == some .cell || I.names.lookup y.1 == some .free) else true)
end Info
def okName (x : Str) : Bool := !(x == ("__debug__" : Str)) && !(x == ("__classdict__" : Str))
def notStar : Expr → Bool
  | .Starred _ _ => false
  | _ => true
def notComp : Expr → Bool
  | .ListComp _ _ _ _ => false
  | .SetComp _ _ _ _ => false
  | .DictComp _ _ _ _ _ => false
  | _ => true
def baseOk : Expr → Bool
  | .Name _ _ => true
  | .Constant _ _ _ => true
  | .Subscript _ _ _ => true
  | .Call _ (_ :: _) _ _ => true
  | .Attribute _ _ _ => true
  | _ => false
def plainT : Expr → Bool
  | .Name _ _ => true
  | .Constant _ _ _ => true
  | .Subscript _ _ _ => true
  | .Call _ _ _ _ => true
  | .Attribute _ _ _ => true
  | .BinOp _ _ _ _ => true
  | _ => false
def ixOk : Expr → Bool
  | .Slice _ _ _ _ => false
  | _ => true
def foldOk : Expr → Bool
  | .Set _ _ _ => false
  | _ => true
def swapB (I : Info) (sc : Scope) (t : Str) (pos vpos : Pos) : Bool := I.isLoc t && (pos.line == vpos.line && !(sc.names.any fun (n, k) => n == t && (k == .local || k == .cell)))
section
variable {X : Cx} {a : Expr} {as : List Expr} {env : Env} {pos cpos : Pos}
theorem star_cons (h : notStar a = true) : starEach (a :: as) env = (false, eval a env) :: starEach as env := by
  cases a <;> first | rfl | (simp only [starEach]; done) | cases h
theorem stars_plain : ∀ {as : List Expr}, as.all notStar = true → (backTo pos (starEach as env)).any (·.1) = false
  | [], _ => by simp [starEach, backTo]
  | a :: as, h => by
    rw [List.all_cons, Bool.and_eq_true] at h
    rw [star_cons h.1]
    show (false || (backTo pos (starEach as env)).any (·.1)) = false
    rw [stars_plain h.2]; rfl
theorem stars_few : ∀ {as : List Expr}, as.all notStar = true → (backTo pos (starEach as env)).all (fun x => !x.1) = true
  | [], _ => by simp [starEach, backTo]
  | a :: as, h => by
    rw [List.all_cons, Bool.and_eq_true] at h
    rw [star_cons h.1]
    show (true && (backTo pos (starEach as env)).all (fun x => !x.1)) = true
    rw [stars_few h.2]; rfl
theorem few_ok (h : as.all notStar = true) (hl : as.length < 20) : ((backTo cpos (starEach as env)).all (fun x => !x.1) && (backToKw cpos (keywordEach [] env)).all (fun x => x.1.isSome)
      && decide (as.length + ([] : List Keyword).length + (if ([] : List Keyword).isEmpty then 0 else 1) < 30)) = true := by
  rw [stars_few h]
  simp [keywordEach, backToKw]
  omega
theorem asg_each (h : notStar a = true) : assignEach (a :: as) env = (false, assign a env) :: assignEach as env := by
  cases a <;> first | rfl | (simp only [assignEach]; done) | cases h
theorem asg_one (h : notStar a = true) : (assignEach [a] env).map (·.2) = [assign a env] := by rw [asg_each h]; simp [assignEach]
theorem asg_len : ∀ {as : List Expr}, (assignEach as env).length = as.length
  | [] => by simp [assignEach]
  | a :: as => by
    cases h : notStar a with
    | true => rw [asg_each h]; exact congrArg (· + 1) asg_len
    | false => cases a <;> first | (simp only [assignEach]; exact congrArg (· + 1) asg_len) | cases h
theorem asg_nostar : ∀ {as : List Expr}, as.all notStar = true → (assignEach as env).findIdx? (·.1) = none
  | [], _ => by simp [assignEach]
  | a :: as, h => by
    rw [List.all_cons, Bool.and_eq_true] at h
    rw [asg_each h.1, List.findIdx?_cons]
    simp [asg_nostar h.2]
theorem base_ok {name : Str} (h : baseOk a = true) : attributeBase a name env (eval a env) = eval a env := by
  cases a <;> first | rfl | cases h | skip
  rename_i f as kw p
  cases as with
  | nil => cases h
  | cons b bs => cases f <;> rfl
theorem truth_ok (h : plainT a = true) : ∀ whole, isTrue a env whole = (do let v ← whole; standAt a.pos; holding [v] (truthy v)) := by
  intro whole
  cases a <;> first | rfl | (simp only [isTrue]; done) | (cases h; done)
theorem ix_ok (h : ixOk a = true) : PlainIx a := by
  intro o i
  cases a <;> first | rfl | cases h
theorem fold_ok (h : foldOk a = true) : ∀ x, foldedSetIterable a env x = pure x := by
  intro x
  cases a <;> first | rfl | cases h
theorem swap_no {t : Option Expr} {l : Nat} (h : notComp a = true) : swapsWith a t l env = pure false := by
  cases a <;> first | rfl | cases h
theorem swapW_tup {t : Expr} {l : Nat} (h : notComp a = true) : swapsWithSole [t] a l env = pure false := swap_no h
theorem swap_at {sc : Scope} {y : Str} {py : Pos} {l : Nat} {v : Expr} (hv : (∃ e gs p, v = .ListComp e gs sc p) ∨ ∃ k e gs p, v = .DictComp k e gs sc p) (hk : env.scope.kind = .function) :
    swapsWith v (some (.Name y py)) l env = pure (env.scope.names.lookup y == some .local && (py.line == v.pos.line && !(sc.names.any fun (n, k) => n == y && (k == .local || k == .cell)))) := by
  have hb : env.blockKind = .function := by unfold Env.blockKind; rw [hk]; rfl
  rcases hv with ⟨e, gs, p, rfl⟩ | ⟨k, e, gs, p, rfl⟩
  · unfold swapsWith
    simp only [hb, Env.kindOf]
    simp [Bool.and_assoc]
  · unfold swapsWith
    simp only [hb, Env.kindOf]
    simp [Bool.and_assoc]
end
end Pv

end

section
set_option linter.all false
set_option maxRecDepth 100000
set_option Elab.async false
set_option linter.all false
set_option maxRecDepth 100000
set_option maxHeartbeats 1000000
/-! Pv23: WrongText(n): raised, caught. -/
namespace PySem
namespace WtX
open PySem.W PySem.Calls PyProof.Rows PySem.HandSPX
def iA (p1 p2 : Pos) : Arguments := { posonlyargs := [], args := [{ arg := "self", annotation := none, pos := p1 }, { arg := "place", annotation := none, pos := p2 }], vararg := none, kwonlyargs := [], kw_defaults := [], kwarg := none, defaults := [] }
def iB (msg : Str) (k : Nat) (q : Nat → Pos) : List Stmt :=
  [.Expr (.Call (.Attribute (.Call (.Name "super" (q 0)) [] [] (q 1)) "__init__" (q 2)) [.BinOp (.Constant (.str msg) k (q 3)) .Add (.Call (.Name "str" (q 4)) [.Name "place" (q 5)] [] (q 6)) (q 7)] [] (q 8)) (q 9),
   .Assign [.Attribute (.Name "self" (q 10)) "place" (q 11)] (.Name "place" (q 12)) (q 13)]
def iS : Scope := { kind := .function, names := [(PySem.Str.ofString "self", .local), (PySem.Str.ofString "place", .local), (PySem.Str.ofString "__class__", .free), (PySem.Str.ofString "super", .globalImplicit), (PySem.Str.ofString "str", .globalImplicit)], isGenerator := false, isCoroutine := false, more := [] }
/-- what the written part says of the class, at C, and of its __init__, at fI -/
structure WtTxt (prog : Program) (K : Frag) (mg : Str → Option Value) (C fI cc cda : Addr) : Prop where
  gC : mg "WrongText" = some (.ref C)
  cls : ∃ nm q N bs bm sn sub ab col dd k0 k1 k2 k3 k5, K.lookup C = some (excClassObj nm q C N bs bm true sn sub ab col dd k0 k1 k2 k3 k5 "ValueError.__new__") ∧ refsVE bm = true
  sa : findIn K (.ref C) "__setattr__" = some (some (.builtin "object.__setattr__"))
  ga : findIn K (.ref C) "__getattribute__" = some (some (.builtin "BaseException.__getattribute__"))
  gg : findIn K (.ref C) "__getattr__" = some none
  noN : findIn K (.ref C) "place" = some none
  iC : findIn K (.ref C) "__init__" = some (some (.ref fI))
  tC : typeIn K (.ref fI) = some (.type "function")
  kC : keepIn K (.ref C) = true
  exC : subIn K (.ref C) (.type "BaseException") = some true
  veC : subIn K (.ref C) (.type "ValueError") = some true
  tyC : typeIn K (.ref C) = some (.type "type")
  hdC : hasDictIn K C = true
  te : exmOne K (.ref C) (.ref C) = some true
  sup : ks_superIn K C C "__init__" = some (some (.builtin "ValueError.__init__"))
  tp : nsIn K cStatics "thirdparty.any" = some none
  qq : excInitIn K C [.type "ValueError", .type "Exception", .type "BaseException", .type "object"] "ValueError.__new__" = true
  mro : mroIn K C (.ref C) = some true
  noS : mg "super" = none
  noT : mg "str" = none
  fn : ∃ (oc : Value) (od : Option Addr) (doc pm : Value) (an : Option Addr) (ct : Value) (osl : Array (Option Value)) (p1 p2 : Pos) (msg : Str) (k : Nat) (q : Nat → Pos), (msg.length ≤ 1000 ∧ ((q 2).endLine == (q 8).line) = true) ∧
    K.lookup fI = some ⟨oc, od, .func (ksFn "__init__" "WrongText.__init__" (iA p1 p2) (iB msg k q) iS .none .none doc pm an (.ref cda) ct cc), osl⟩ ∧ codeIn K (.ref cda) "WrongText.__init__" = true
  cell : ∃ cl cld csl, K.lookup cc = some ⟨cl, cld, .cell (some (.ref C)), csl⟩
  code : ∃ ccl cdd vs ccs file tf, K.lookup cda = some ⟨ccl, cdd, .fields vs, ccs⟩ ∧ vs[2]? = some (.str file tf) ∧ ((prog.main.file : Str) == file) = true
  top : (prog.main.scope.names.lookup ("super" : Str)).isSome = false
structure InitEnd (h h' : Heap) (x C dx : Addr) (v : Value) : Prop where
  keep : ∀ b o, b ≠ x → h.get? b = some o → h'.get? b = some o
  obj : ∃ t1 : Addr, h'.get? x = some { cls := .ref C, dict := some dx, data := .fields #[.ref t1, .none, .none, .none, .bool false, .none] }
  dbig : h.objs.size ≤ dx
  dne : dx ≠ x
  ns : h'.Ns1 dx (fun y => if y = "place" then some v else none)
structure OwnMade (h h' : Heap) (e C d : Addr) (v : Value) : Prop where
  keep : ∀ b o, h.get? b = some o → h'.get? b = some o
  new : h.objs.size ≤ e
  obj : ∃ oe vs, h'.get? e = some oe ∧ oe.cls = .ref C ∧ oe.dict = some d ∧ oe.data = .fields vs ∧ vs[1]? = some .none
  dbig : h.objs.size ≤ d
  dne : d ≠ e
  ns : h'.Ns1 d (fun y => if y = "place" then some v else none)
theorem one_size (v : Value) : [v].length ≤ sizeLine := by
  rw [sizeLine_eq]
  exact (by decide : 1 ≤ 16777216)
section
variable {prog : Program} {w : World} {A : Around} {E : Value → Shared → Prop} {R : Result → Shared → Prop} {s : Shared} {K : Frag} {mg : Str → Option Value} {C fI cc cda : Addr} {base : Heap}
theorem mc_at {M : Model} {c : Code} {env : Env} {o : Expr} {name : Str} {apos pos : Pos} {args : List Expr} {Q : Value → Shared → Prop}
    (hfew : ((backTo pos (starEach args env)).all (fun x => !x.1) && (backToKw pos (keywordEach [] env)).all (fun x => x.1.isSome)
      && decide (args.length + ([] : List Keyword).length + (if ([] : List Keyword).isEmpty then 0 else 1) < 30)) = true) (hline : (apos.endLine == pos.line) = true)
    (h : wpAt M A c (attributeBase o name env (eval o env)) (fun ov s₁ => ∀ pl, wpAny M A (getMethod ov name pl) (fun fx s₂ => wpAny M A (callWith pos fx.1 fx.2 (backTo pos (starEach args env)) []) Q E s₂) E s₁) E s) :
    wpAt M A c (eval (.Call (.Attribute o name apos) args [] pos) env) Q E s := by
  rw [arm_eval_Call]
  refine wpAt_bind (wpAt_mono h (fun ov s₁ h₁ => wpAt_of_wpAny (wpAny_bind (wpAny_standAt ?_))) fun _ _ x => x)
  have hform : methodCallForm (args.length + ([] : List Keyword).length) (backTo pos (starEach args env)) (backToKw pos (keywordEach [] env)) = true := hfew
  have hpos : methodCallPos true o env apos pos = pure pos := by unfold methodCallPos; simp [hline]
  unfold methodCall
  rw [hform]
  refine wpAny_bind (wpAny_holding (wpAny_mono (h₁ _) (fun fx s₂ h₂ => ?_) fun _ _ x => x))
  exact wpAny_bind (wpAny_of_eq hpos h₂)
theorem wt_init (T : WtTxt prog K mg C fI cc cda) (Md : L2.Mod K mg base) {x t0 : Addr} {i : Int} {tk0 : Tok} (hb : ∀ b o, base.get? b = some o → s.heap.get? b = some o ∧ b ≠ x) (hx : s.heap.get? x = some (excO C t0)) (hroom : A.depth < recursionLimit) (hi : i.natAbs.log2 < 1920)
    (hlen : (Str.ofString (toString i)).length ≤ 100000)
    (hq : ∀ h' tk dx, InitEnd s.heap h' x C dx (.int i tk0) → R (.ok (.ret .none)) { s with heap := h', toks := tk }) :
    codeAny (model prog w) A (.call (.ref fI) ⟨[.ref x, .int i tk0], []⟩) R s := by
  obtain ⟨oc, od, doc, pm, an, ct, osl, p1, p2, msg, k, q, ⟨hmsg, hline⟩, ho, hcd⟩ := T.fn
  obtain ⟨nm, qn, N, bs, bm, sn, sub, ab, col, dd, k0, k1, k2, k3, k5, hC, hbm⟩ := T.cls
  obtain ⟨cl, cld, csl, hcell⟩ := T.cell
  obtain ⟨ccl, cdd, vs, ccs, file, tf, hcda, hvs, hfile⟩ := T.code
  have hcl : clsIn K C = some { name := nm, bases := bs, mro := .ref C :: bm, ns := N, qualname := qn, hasDict := true, slotNames := sn, subclasses := sub, abstract := ab, collection := col, hasDel := false } := by unfold clsIn; rw [hC] <;> rfl
  have bs0 : ∀ b o, base.get? b = some o → s.heap.get? b = some o := fun b o e => (hb b o e).1
  have X : K.In s.heap := Md.kin.keeps bs0
  refine ks_codeAny_call_defAt (fd := ksFn "__init__" "WrongText.__init__" (iA p1 p2) (iB msg k q) iS .none .none doc pm an (.ref cda) ct cc) (body := iB msg k q) (binds := [("self", .ref x), ("place", .int i tk0)]) hroom (X _ _ ho) rfl (Md.nolimit.keeps bs0) (codeRec_of X hcd) rfl
    (BindsTo.of_eq (by first | rfl | with_unfolding_all rfl)) (show ∀ y ∈ iS.names, y.2 ≠ .cell by decide) (fun y hy => by
      rcases List.mem_cons.mp hy with e | hy
      · rw [e]; rfl
      · rw [List.mem_singleton.mp hy]; rfl) (fun h₁ hns hk₁ => ?_)
  generalize hL : s.heap.objs.size = L at hns ⊢
  generalize h0 : hideAll s.heap [x] = h₀
  have sz0 : h₀.objs.size = s.heap.objs.size := by rw [← h0]; exact hideAll_size _ _
  have of0 : ∀ b o, h₀.get? b = some o → s.heap.get? b = some o := fun b o e => of_hideAll _ (by rw [h0]; exact e)
  have to0 : ∀ b o, b ≠ x → s.heap.get? b = some o → h₀.get? b = some o := fun b o n e => by rw [← h0]; exact hideAll_get _ e (by simpa using n)
  have no0 : h₀.get? x = none := by rw [← h0]; exact hideAll_none _ (by simp)
  have base0 : ∀ b o, base.get? b = some o → h₀.get? b = some o := fun b o e => to0 b o (hb b o e).2 (hb b o e).1
  have X₀ : K.In h₀ := Md.kin.keeps base0
  have F1 : Fr h₀ L h₁ (fun y => [(("self" : Str), Value.ref x), ("place", .int i tk0)].reverse.lookup y) := ⟨hns, fun b o e => hk₁ b o (of0 b o e), by rw [sz0, hL]; exact Nat.le_refl _⟩
  have xL : x ≠ L := by rw [← hL]; exact Nat.ne_of_lt (Heap.lt_size hx)
  have N1 : News h₀ L h₁ [(x, excObj C t0 none .none)] := fun p hp => by
    rw [List.mem_singleton.mp hp]
    exact ⟨hk₁ _ _ hx, xL, no0⟩
  obtain ⟨mb, hmb, hmb2⟩ := Md.blt
  have bootS : bootBuiltins "super" = some (.type "super") := by decide +kernel
  have I1 : ∀ {h : Heap} {t : Addr}, h.get? x = some (excObj C t none .none) → InstAt h x (excObj C t none .none) C none := fun {h t} e => ⟨e, rfl, rfl, trivial⟩
  have hD1 := hk₁ _ _ (X _ _ hC)
  refine ks_wpAt_execs_cons (ks_wpAt_Expr_any (mc_at (Pv.few_ok rfl (Nat.lt_of_sub_pos (by decide) : 1 < 20)) hline ?_))
  refine ks_wpAt_super_base (env := ksEnv "WrongText.__init__" iS L fI (.ref cda) cc) rfl rfl (by decide) rfl (hk₁ _ _ (X _ _ ho)) rfl rfl rfl (hk₁ _ _ (X _ _ hcda)) rfl hvs hfile T.top ?_
  refine ks_loadName_global rfl rfl (loadGlobal_builtin (env := ksEnv "WrongText.__init__" iS L fI (.ref cda) cc) (Md.glob.keeps fun b o e => hk₁ b o (bs0 b o e)) T.noS (hmb.keeps fun b o e => hk₁ b o (bs0 b o e)) ((hmb2 _ (by decide)).trans bootS) ⟨rfl, ?_⟩)
  refine wpAny_loadName_free rfl rfl rfl ⟨_, hk₁ _ _ (X _ _ hcell), rfl⟩ ?_
  refine wpAny_loadName_local rfl rfl F1.ns (v := .ref x) rfl ?_
  refine ks_wpAny_isType_cls hD1 rfl ⟨rfl, ?_⟩
  refine ks_wpAny_call_super hD1 rfl (hk₁ _ _ hx) rfl (fun c e => by cases e) (looks_mroIn (X₀.keeps F1.keep) T.mro) (fun h2 e2 k2 => ?_)
  obtain ⟨F2, N2, l2⟩ := ks_newsPush (s := ⟨h₁, s.gens, s.drawn, s.toks, s.os⟩) F1 N1 rfl e2 k2
  have ux : x < h₁.objs.size := Heap.lt_size (hk₁ _ _ hx)
  refine fun pl => kxs_method kxs_ValueError F2 X₀ N2 List.mem_cons_self (I1 (N2 (x, excObj C t0 none .none) (List.mem_cons_of_mem _ List.mem_cons_self)).1) T.tp T.sup T.veC (by decide) (fun u h3 F3 N3 l3 => ?_)
  refine kxs_callWith1 N3 List.mem_cons_self ?_
  refine spliced_more (wpAny_BinOp (wpAny_Constant_str (wpAny_Call_Name_kw ?_)))
  refine Calls.Name_function_global rfl rfl (loadGlobal_builtin (env := ksEnv "WrongText.__init__" iS L fI (.ref cda) cc) (Md.glob.keeps fun b o e => F3.keep b o (base0 b o e)) T.noT (hmb.keeps fun b o e => F3.keep b o (base0 b o e)) ((hmb2 _ (by decide)).trans boot_str) ?_)
  refine PyProof.Rows.callWith_type1 (spliced_more (wpAny_Name (wpAny_loadName_local rfl rfl F3.ns (v := .int i tk0) rfl (spliced_none ?_)) (by decide)))
  refine PySem.P.str_of_int hi ?_
  refine add_str (fun t' tk => ?_) ?_
  · refine spliced_none ?_
    have ne3 : u ≠ x := fun z => absurd (l3 (x, excObj C t0 none .none) (List.mem_cons_of_mem _ List.mem_cons_self)) (by show ¬ x < u; rw [z]; exact Nat.lt_irrefl _)
    have ne2 : h₁.objs.size ≠ x := Nat.ne_of_gt ux
    refine ⟨kxs_at N3 List.mem_cons_self, kxs_call (x := x) (t := t0) (dv := none) (c2 := .none) (news := [(u, kxs_mw "ValueError.__init__" x), (h₁.objs.size, ks_superObj C x C), (x, excObj C t0 none .none)]) (nw := fun o' => (u, kxs_mw "ValueError.__init__" x) :: (h₁.objs.size, ks_superObj C x C) :: [(x, o')]) F3 X₀ N3 F.excBase_ValueError T.qq List.mem_cons_self (UpdF.tail ne3 (UpdF.tail ne2 (UpdF.head (by simp)))) (one_size _) (fun t1 h4 F4 N4 l4 => ?_)⟩
    have hx4 : h4.get? x = some (excObj C t1 none .none) := (N4 (x, excObj C t1 none .none) (by simp)).1
    have X4 : K.In h4 := X₀.keeps F4.keep
    refine ks_wpAt_execs_cons (ks_wpAt_Assign_Attr (wpAt_of_wpAny ?_))
    refine wpAny_Name (wpAny_loadName_local rfl rfl F4.ns (v := .int i tk0) rfl ?_) (by decide)
    refine wpAny_Name (wpAny_loadName_local rfl rfl F4.ns (v := .ref x) rfl ?_) (by decide)
    refine set_plain X4 (ox := excO C t1) (od := none) ⟨hx4, rfl, rfl, trivial⟩ T.sa ?_
    refine exc_osa X4 hx4 hcl (show refsVE (.ref C :: bm) = true from hbm) rfl T.noN (fun h5 tk5 dx k5 dn dne hx5 hn5 => ?_)
    refine wpAt_of_wpAny (wpAny_execs_nil ?_)
    have Lh : L < h4.objs.size := F4.ns.lt
    exact hq h5 tk5 dx ⟨fun b o n e => k5 b o n (F4.keep b o (to0 b o n e)), ⟨t1, hx5⟩, by have dn' : h4.objs.size ≤ dx := dn; rw [hL]; exact Nat.le_of_lt (Nat.lt_of_lt_of_le Lh dn'), dne, hn5⟩
  · rw [sizeLine_eq]
    have h2 : (Str.ofString (toString i)).length ≤ 100000 := hlen
    show msg.length + (Str.ofString (toString i)).length ≤ 16777216
    omega
theorem wt_made (T : WtTxt prog K mg C fI cc cda) (Md : L2.Mod K mg base) {i : Int} {tk0 : Tok} (hb : ∀ b o, base.get? b = some o → s.heap.get? b = some o) (hroom : A.depth + 1 < recursionLimit) (hi : i.natAbs.log2 < 1920) (hlen : (Str.ofString (toString i)).length ≤ 100000)
    (hq : ∀ h' tk e d, OwnMade s.heap h' e C d (.int i tk0) → R (.ok (.ret (.ref e))) { s with heap := h', toks := tk }) :
    codeAny (model prog w) A (.call (.ref C) ⟨[.int i tk0], []⟩) R s := by
  obtain ⟨nm, q, N, bs, bm, sn, sub, ab, col, dd, k0, k1, k2, k3, k5, hC, hbm⟩ := T.cls
  obtain ⟨hp, g, dr, tk, os⟩ := s
  have X : K.In hp := Md.kin.keeps hb
  have k : ∀ b o, hp.get? b = some o → ((hp.push (kdv_tup [Value.int i tk0])).push (HandSPX.excO C hp.objs.size)).get? b = some o := fun b o e => Heap.get?_push_of_some _ (Heap.get?_push_of_some _ e)
  have hget : ((hp.push (kdv_tup [Value.int i tk0])).push (HandSPX.excO C hp.objs.size)).get? (hp.objs.size + 1) = some (HandSPX.excO C hp.objs.size) := by heap_get
  refine HandSPX.call_own F.excBase_ValueError (fun X => refsVE_contains X bm hbm) (X _ _ hC) (looks_findIn X T.iC) (fun self => bind_fn X self T.tC) (one_size _) ?_
  refine wt_init (s := ⟨(hp.push (kdv_tup [Value.int i tk0])).push (HandSPX.excO C hp.objs.size), g, dr, tk, os⟩) T Md (fun b o e => ⟨k b o (hb b o e), fun z => ?_⟩) hget ?_ hi hlen fun h' tk' dx M => ?_
  · have := Heap.lt_size (hb b o e)
    rw [z] at this
    exact absurd (Nat.lt_of_succ_lt this) (Nat.lt_irrefl _)
  · show A.depth + 1 < recursionLimit
    exact hroom
  · obtain ⟨k', ⟨t1, hx⟩, dn, dne, hns⟩ := M
    have old : ∀ b o, hp.get? b = some o → h'.get? b = some o := fun b o e => k' b o (Nat.ne_of_lt (Nat.lt_succ_of_lt (Heap.lt_size e))) (k b o e)
    have z : hp.objs.size + 1 + 1 ≤ dx := by
      first
        | (simpa only [Heap.size_push] using dn)
        | exact dn
        | (have q := dn; rw [Heap.size_push, Heap.size_push] at q; exact q)
    exact ⟨rfl, hq h' tk' (hp.objs.size + 1) dx ⟨old, Nat.le_succ _, ⟨_, _, hx, rfl, rfl, rfl, rfl⟩, Nat.le_trans (Nat.le_trans (Nat.le_succ _) (Nat.le_succ _)) z, dne, hns⟩⟩
end
end WtX
end PySem

end

section
set_option linter.all false
set_option maxRecDepth 100000
set_option Elab.async false
set_option linter.all false
set_option maxRecDepth 100000
/-! Pv24: raise WrongText(n); try: .. except WrongText as e: return (text, e.place). -/
namespace Pv
open PySem PySem.Spec PyProof.Rows L2
open PySem.WtX (WtTxt OwnMade wt_made)
/-- which exceptions are told: 0 is WrongText with its place -/
def xrWt (K : PySem.W.Frag) (x : Xc) (cls : Value) (dx : Option Addr) (H : Hp) : Prop :=
  x.c = 0 ∧ ∃ (C d : Addr) (j : Int), PySem.W.nsIn K mainGlobals "WrongText" = some (some (.ref C)) ∧ cls = .ref C ∧ dx = some d ∧ x.a = .int j ∧ H d = some (.xd [(("place" : Str), .int j)])
theorem relO_place {v : V} {v' : Value} (r : RelV v v') (f : Str) : RelO (List.lookup f [(("place" : Str), v)]) (if f = "place" then some v' else none) := by
  by_cases hw : f = "place"
  · subst hw
    rw [if_pos rfl]
    have q : List.lookup ("place" : Str) [(("place" : Str), v)] = some v := by simp [List.lookup]
    rw [q]
    exact r
  · rw [if_neg hw]
    have qw : (f == ("place" : Str)) = false := by simpa using hw
    have q2 : List.lookup f [(("place" : Str), v)] = none := by simp [List.lookup, qw]
    rw [q2]
    trivial
section
variable {p : Pr} {X : Cx} {Wx : WX} {C fI cc cda : Addr}
def tMkWt (C : Addr) (ta : TA) : L2.St → Hp → XK → Prop := fun σ H Q => ta σ H fun vs H1 => ∃ i : Int, vs = [.int i] ∧ i.natAbs < 90000 ∧ ∀ d, H1 d = none → Q (.ref C) (some d) (upd H1 d (.xd [(("place" : Str), .int i)]))
theorem small_log {n : Nat} (h : n < 90000) : n.log2 < 1920 := by
  by_cases z : n = 0
  · subst z; decide
  · have : n.log2 < 17 := (Nat.log2_lt z).mpr (Nat.lt_of_lt_of_le h (by decide))
    omega
theorem pmk_wt {a : Expr} {ta : TA} {q pos : Pos} (T : WtTxt X.prog X.K X.mg C fI cc cda) (hr : X.A.depth + 2 < recursionLimit) (ha : PA X [a] ta) (hg : Gl X "WrongText")
    (he : starEach (a :: []) X.env = (false, eval a X.env) :: starEach [] X.env) (hpl : (backTo pos (starEach [] X.env)).any (·.1) = false) :
    PMk X (.Call (.Name "WrongText" q) [a] [] pos) (tMkWt C ta) := by
  intro pins s σ H Q I h
  refine wpAny_Call_Name_kw (ld_glob I hg T.gC ?_)
  refine PySem.W.callWith_K (h₀ := X.base) I.ok.mod.kin T.kC (thn (ha.run pos pins s σ H _ I h) fun us s1 hh => ?_) he hpl
  obtain ⟨vs, H1, I1, r1, i, ev, hi, q1⟩ := hh
  subst ev
  refine ⟨I1.kIn, ?_⟩
  cases r1 with
  | cons rv rn =>
    rename_i v' us'
    cases rn
    obtain ⟨tk0, rfl⟩ := rv
    show wpAny _ _ (call (.ref C) [.int i tk0]) _ _ _
    have hbs : ∀ b o, X.base.get? b = some o → s1.heap.get? b = some o := fun b o e => (I1.bs b o e).1
    obtain ⟨hp, g, dr, tk, os⟩ := s1
    refine wpAny_call (wt_made T I1.ok.mod hbs (by omega) (small_log hi) (by have := len_str_of_int i; omega) fun h' tk' e d M => ?_)
    show MkP X pins σ Q (.ref e) ⟨h', g, dr, tk', os⟩
    obtain ⟨oe, fv, hoe, hc, hd, hdat, h1⟩ := M.obj
    have hns := M.ns
    obtain ⟨G', g1, g2⟩ := restrict h' fun b => decide (b ≠ e)
    have gk : ∀ b, b ≠ e → G'.get? b = h'.get? b := fun b hb => g1 b (decide_eq_true hb)
    have ge : G'.get? e = none := g2 e (by simp)
    have old : ∀ b o, hp.get? b = some o → G'.get? b = some o := fun b o q => (gk b (Nat.ne_of_lt (Nat.lt_of_lt_of_le (Heap.lt_size q) M.new))).trans (M.keep b o q)
    have ob : ObjOk X.prog X.w (upd H1 d (.xd [(("place" : Str), .int i)])) G' d (.xd [(("place" : Str), .int i)]) :=
      ⟨_, hns.at (fun o q => (gk d M.dne).trans q), fun f => relO_place (v := .int i) ⟨tk0, rfl⟩ f⟩
    have J : Inv X pins σ (upd H1 d (.xd [(("place" : Str), .int i)])) ⟨G', g, dr, tk', os⟩ := I1.laid (t' := tk') old M.dbig ob
    refine ⟨e, oe, fv, ⟨G', g, dr, tk', os⟩, _, .ref C, some d, rfl, J, fun b o q => ?_, ge, hoe, ⟨hc, hd⟩, hdat, h1, ?_, rfl, I1.bare, raises_own T.exC T.tyC, q1 d (I1.hok.fresh M.dbig)⟩
    · by_cases hb : b = e
      · have q' : G'.get? b = some o := q
        rw [hb, ge] at q'; cases q'
      · exact (gk b hb).symm.trans q
    · rw [upd_ne (Ne.symm M.dne)]
      exact I1.hok.fresh M.new
/-- place of the exception that the suite holds -/
def tPlace (C : Addr) (a : Addr) (cls : Value) (d : Option Addr) (te : TE) : TE := fun σ H Q => te σ H fun x H1 => x = .ref a ∧ cls = .ref C ∧ ∃ (dd : Addr) (v : V), d = some dd ∧ H1 dd = some (.xd [(("place" : Str), v)]) ∧ Q v H1
theorem pe_place {a : Addr} {oe : Obj} {cls : Value} {d : Option Addr} {pn : List (Addr × Obj)} {e : Expr} {te : TE} {pos : Pos} (T : WtTxt X.prog X.K X.mg C fI cc cda) (hz : Zc cls d oe) (hf : ∃ vs, oe.data = .fields vs) (he : PE (X.suite a ((a, oe) :: pn)) e te)
    (hb : attributeBase e "place" X.env (eval e X.env) = eval e X.env) :
    PE (X.suite a ((a, oe) :: pn)) (.Attribute e "place" pos) (tPlace C a cls d te) := by
  refine ⟨fun pins s σ H Q I h => ?_⟩
  refine attr_of hb (thn (he.run pins s σ H _ I h) fun u s1 hh => ?_)
  obtain ⟨x, H1, I1, rx, ex, ec, dd, v, ed, ea, q⟩ := hh
  subst ex
  obtain rfl : u = Value.ref a := rx
  subst ec
  subst ed
  obtain ⟨ha, _⟩ := I1.pin (a, oe) (List.mem_append_left _ List.mem_cons_self)
  obtain ⟨vs, hd⟩ := hf
  have hx : ObjOk X.prog X.w H1 s1.heap dd (.xd [(("place" : Str), v)]) := I1.hok dd _ ea
  obtain ⟨mA, hns, hr⟩ := hx
  obtain ⟨od, ho, hl⟩ := lookIn_ns hns
  have l : List.lookup ("place" : Str) [(("place" : Str), v)] = some v := by simp [List.lookup]
  obtain ⟨u, hu, ru⟩ := RelO.some_of (v := v) (o := mA "place") (by rw [← l]; exact hr "place")
  have J : PySem.W.InstAt s1.heap a oe C (some od) := ⟨ha, hz.1, by unfold PySem.W.notCls; rw [hd] <;> rfl, by rw [hz.2]; exact ho⟩
  exact HandSPX.exc_get I1.kIn J T.ga T.gg T.exC (PySem.W.findObj_own T.hdC T.noN rfl (by rw [hl, hu])) (handed_of ru) ⟨v, H1, I1.tok _, ru, q⟩

theorem okName_dbg {x : Str} (h : okName x = true) : (x == ("__debug__" : Str)) = false ∧ (x == ("__classdict__" : Str)) = false := by
  unfold okName at h
  simp only [Bool.and_eq_true, Bool.not_eq_true'] at h
  exact h
/-- what raising and catching ask of a context -/
structure WtOk (p : Pr) (X : Cx) : Prop where
  xr : p.XR = xrWt p.K
  cl : ∃ C fI cc cda, WtTxt X.prog X.K X.mg C fI cc cda ∧ PySem.W.nsIn p.K mainGlobals "WrongText" = some (some (.ref C))
  stk : X.stack = X.env :: X.outer
  frm : X.env.frame = some X.env.locals
  dep : X.A.depth + 2 < recursionLimit

theorem ss_raise {a : Expr} {fa : EV} {q pos pos2 : Pos} (hc : X.calm = true) (W : WtOk p X) (tk : Takes X Wx) (hg : Gl X "WrongText") (hs : notStar a = true) (ha : SE p X Wx a fa) :
    SS p X Wx (.Raise (some (.Call (.Name "WrongText" q) [a] [] pos)) none pos2) (raiseS 0 fa) := by
  obtain ⟨t, pt, g⟩ := ha
  obtain ⟨C, fI, cc, cda, T, hn⟩ := W.cl
  refine ⟨_, ps_raise hc tk (pmk_wt T W.dep (pa_cons pt pa_nil (star_cons hs)) hg (star_cons hs) (stars_plain (as := []) rfl)), fun F H m e S σ D r s h => ?_⟩
  show t σ H fun v H1 => ∃ i : Int, [v] = [V.int i] ∧ i.natAbs < 90000 ∧ ∀ d, H1 d = none → Wx (.ref C) (some d) σ (upd H1 d (.xd [(("place" : Str), .int i)]))
  refine g.seqS (e0 := e) (k := fun w S => match w with | .d (.int i) => if decide (i.natAbs < 90000) then .exc ⟨0, .int i⟩ e S else .stuck | _ => .stuck) r s h fun w S1 v H1 m1 _ r1 rw' s1 h1 => ?_
  split at h1
  · rename_i i
    split at h1
    · rename_i hi
      cases rw' with
      | d rd =>
        cases rd
        refine ⟨i, rfl, of_decide_eq_true hi, fun d hd => ?_⟩
        have k : Kp H1 (upd H1 d (.xd [(("place" : Str), .int i)])) := fun b u hb => by
          by_cases e : b = d
          · rw [e, hd] at hb; cases hb
          · rw [upd_ne e]; exact hb
        refine h1 _ _ _ _ m1 k.ext ?_ (s1.kp k)
        rw [W.xr]
        exact ⟨rfl, C, d, i, hn, rfl, rfl, rfl, upd_same⟩
    · exact h1.elim
  · exact h1.elim

/-! ### caught -/
theorem SSs.can {st : List Stmt} {f : SV} (h : SSs p X Wx st f) : PSs X st (sOf p Wx f) :=
  let ⟨_, pt, g⟩ := h
  ⟨fun pins s σ H D I hw => let ⟨F, m, e, S, r, s', q⟩ := hw; pt.run pins s σ H D I (g F H m e S σ D r s' q)⟩
/-- slots there are as many as names -/
theorem Takes.len (t : Takes X Wx) : Takes X (fun c d σ H => σ.length = X.N.length → Wx c d σ H) :=
  fun u s' ⟨a, B, sI, pins, σ, H, cls, d, e, I, nb, up, sky, na, os, ag, w⟩ => t u s' ⟨a, B, sI, pins, σ, H, cls, d, e, I, nb, up, sky, na, os, ag, w I.len⟩
theorem ss_try {body : List Stmt} {fb : SV} {i k : Nat} {n txt' : Str} {j : Nat} {q1 q2 q3 q4 q5 q6 pos pos' : Pos} (W : WtOk p X) (hN : X.N.Nodup) (hi : X.N[i]? = some n) (hln : X.env.scope.names.lookup n = some .local) (hg : Gl X "WrongText") (hd : okName n = true)
    (hb : ∀ (W : WX) (pn : List (Addr × Obj)) (xe : Value → Shared → Prop), Takes (X.tr pn xe) W → PassesOwn (model X.prog X.w) X.A X.env xe → SSs p (X.tr pn xe) W body fb) :
    SS p X Wx (.Try body [.ExceptHandler (some (.Name "WrongText" q1)) (some n) [.Return (some (.Tuple [.Constant (.str txt') j q2, .Attribute (.Name n q3) "place" q4] k q5)) q6] pos'] [] [] pos) (tryS fb 0 i txt'.cps.toList) := by
  obtain ⟨C, fI, cc, cda, T, hn⟩ := W.cl
  have hv : Vis X.env.scope n := .inl hln
  have hbs := ps_try_as (X := X) (x := "WrongText") (n := n) (c := .ref C) (i := i) (body := body) (suite := []) (b₀ := .Return (some (.Tuple [.Constant (.str txt') j q2, .Attribute (.Name n q3) "place" q4] k q5)) q6) (np := q1) (pos := pos) (pos' := pos')
    (tb := fun W => sOf p (fun c d σ H => σ.length = X.N.length → W c d σ H) fb) (ts := fun a cls d => tRet (tTup (tCons (tC (.str txt')) (tCons (tPlace C a cls d (tVar i)) tNil)))) (Wout := fun _ _ _ _ => False)
    W.stk W.frm hN hi hln ⟨hg, by decide, .inl T.gC⟩ takes0
    (fun W' pn xe tk po => SSs.can (hb _ pn xe (Takes.len tk) po))
    (fun a oe cls d pn hz hf => pss_one (ps_ret (pe_tup (pa_cons pe_str (pa_cons (pe_place T hz hf (pe_var hi hv (okName_dbg hd).1 (okName_dbg hd).2) rfl) pa_nil rfl) rfl))))
  refine ⟨_, hbs, fun F H m e S σ D r s h => ?_⟩
  refine ⟨F, m, e, S, r, s, ?_⟩
  unfold tryS at h
  cases q : fb e S with
  | nx e1 S1 => rw [q] at h; exact h
  | bk e1 S1 => rw [q] at h; exact h
  | ct e1 S1 => rw [q] at h; exact h
  | rt w S1 => rw [q] at h; exact h
  | stuck => rw [q] at h; exact h
  | exc x e1 S1 =>
    rw [q] at h
    intro cls dx σ' H' m' y xr s1 hlen
    simp only at h
    split at h
    · rename_i hx
      rw [W.xr] at xr
      obtain ⟨_, C', d, jj, hn', rfl, rfl, hxa, hH⟩ := xr
      rw [hn] at hn'
      cases hn'
      refine ⟨true, T.te, fun _ a ha => ?_, fun z => by cases z⟩
      have hlt : i < σ'.length := by rw [hlen]; exact (List.getElem?_eq_some_iff.mp hi).1
      refine ⟨.ref a, by rw [List.getElem?_set_self hlt], rfl, rfl, d, .int jj, rfl, hH, by show 2 ≤ sizeLine; decide, fun pt hp => ?_⟩
      rw [hxa] at h
      exact new_tup s1 (σ := σ') (Wx := Wx) (ds := [.str txt'.cps.toList, .int jj]) (.cons (by have := RepD.str (kt := p.kt) (K := p.K) (H := H') (Z := F ++ m') txt'.cps.toList; exact this) (.cons (.int jj) .nil)) (fun v H2 m2 y2 r2 s2 => h v H2 m2 (y.trans y2) r2 s2) hp
    · exact h.elim
end
end Pv

end

section
set_option linter.all false
set_option maxRecDepth 100000
set_option Elab.async false
set_option linter.all false
set_option maxRecDepth 100000
/-! Pv19: reading a text as a meaning is sound: expressions. -/
namespace Pv
open PySem PySem.Spec PyProof.Rows L2

def ck (b : Bool) : Option Unit := if b then some () else none
theorem ck_some {b : Bool} {u : Unit} : ck b = some u ↔ b = true := by unfold ck; cases b <;> simp
structure Cmp where
  e : Info → Expr → Option EV
  f : Info → Expr → Option FV
  lc : Info → Expr → Option FV
  dc : Info → Expr → Option EV
  cp : Info → Expr → Option TV
  t : Info → Expr → Option TV
  w : Info → Expr → Option TV
  a : Info → List Expr → Option (List EV)
  b : Info → Option Expr → Option (Option EV)
  g : Info → Expr → Option (List Nat × GV)
  gs : Info → List Expr → Option (List Nat × List GV)
  i : Info → Expr → Expr → Option IV
  s : Info → Stmt → Option SV
  ss : Info → List Stmt → Option SV
def binF : Operator → Option (W → W → Store → R W)
  | .Add => some addF
  | .Sub => some subF
  | .Mult => some mulF
  | .FloorDiv => some divF
  | .Mod => some modF
  | .Pow => some powF
  | _ => none
def augO : Operator → Option (W → W → Store → R W)
  | .Add => some iaddF
  | .Sub => some subF
  | _ => none
def cmpO (kt : List (List D)) : CmpOp → Option (W → W → Store → R Bool)
  | .Eq => some eqF
  | .NotEq => some neF
  | .Lt => some ltF
  | .LtE => some leF
  | .Gt => some gtF
  | .GtE => some geF
  | .In => some (inF kt)
  | .NotIn => some (notInF kt)
  | _ => none
def bnames : List Str := ["len", "sum", "any", "all", "max", "min", "abs", "str", "int", "tuple", "sorted", "list", "range", "enumerate"]
def biF (x : Str) (n : Nat) : Option (List W → Store → R W) :=
  if n == 1 then
    if x == ("len" : Str) then some (arg1 lenF) else if x == ("sum" : Str) then some (arg1 sumF) else if x == ("any" : Str) then some (arg1 anyF) else if x == ("all" : Str) then some (arg1 allF)
    else if x == ("max" : Str) then some (arg1 maxDF) else if x == ("min" : Str) then some (arg1 minDF) else if x == ("abs" : Str) then some (arg1 absF) else if x == ("str" : Str) then some (arg1 strF)
    else if x == ("int" : Str) then some (arg1 intF) else if x == ("tuple" : Str) then some tupleG else none
  else if n == 2 then
    if x == ("max" : Str) then some (arg2 max2F) else if x == ("min" : Str) then some (arg2 min2F) else none
  else none
def bfF (x : Str) (n : Nat) : Option (List W → Store → R (List W)) :=
  if n == 1 then if x == ("sorted" : Str) then some sortDG else if x == ("list" : Str) then some listG else none else none
def mtF (kt : List (List D)) (x : Str) (n : Nat) : Option (List Nat × (W → List W → Store → R W)) :=
  if n == 1 then
    if x == ("append" : Str) then some ([2], appendG) else if x == ("extend" : Str) then some ([2], extendG) else if x == ("join" : Str) then some ([1], joinG)
    else if x == ("startswith" : Str) then some ([1], startsG) else if x == ("index" : Str) then some ([1], indexG) else none
  else if n == 0 then if x == ("pop" : Str) then some ([2], popG) else none
  else if n == 2 then if x == ("get" : Str) then some ([3], getG kt) else none
  else none
def mfF (x : Str) (n : Nat) : Option (List Nat × (W → List W → Store → R (List W))) :=
  if n == 1 then if x == ("split" : Str) then some ([1], splitG) else none else none
def fE (I : Info) (q : Pos) (f : FV) : EV := if I.isNew q then newE f else frzE f
def callE (I : Info) (c : Cmp) (x : Str) (args : List Expr) (pos : Pos) (ex : Expr) : Option EV := do
  ck (okName x && I.isGl x && args.all notStar)
  match Info.find I.fns x with
  | some fn => do
    let fs ← c.a I args
    ck (fs.length == fn.np && 0 < args.length)
    match fn.sem with
    | .inl g => some (callP g fs)
    | .inr g => some (callI g fs)
  | none => do
    ck (bnames.contains x)
    match bfF x args.length with
    | some _ => (c.f I ex).map (fE I pos)
    | none => do
      let g ← biF x args.length
      let fs ← c.a I args
      some (callB g fs)
def mthE (I : Info) (c : Cmp) (o : Expr) (m : Str) (apos : Pos) (args : List Expr) (pos : Pos) (ex : Expr) : Option EV := do
  ck (baseOk o && (apos.endLine == pos.line) && args.all notStar)
  match mfF m args.length with
  | some _ => (c.f I ex).map (fE I pos)
  | none => do
    let fo ← c.e I o
    let q ← mtF I.kt m args.length
    match args with
    | [] => some (methE q.1 q.2 fo [])
    | a :: as => do
      let fs ← c.a I (a :: as)
      some (methE q.1 q.2 fo fs)
def eC (c : Cmp) (I : Info) (ex : Expr) : Option EV :=
  match ex with
  | .Name x _ => do
    ck (okName x)
    if I.isVis x then do
      let i ← Info.idx I.N x
      some (varE i)
    else do
      ck (I.isGl x)
      let d ← I.cons.lookup x
      some (conE d)
  | .Constant (.int i) _ _ => some (conE (.int i))
  | .Constant (.bool i) _ _ => some (conE (.bl i))
  | .Constant .none _ _ => some (conE .non)
  | .Constant (.str x) _ _ => some (conE (.str x.cps.toList))
  | .BinOp a op b pos => if I.isNew pos then (c.f I ex).map newE else do
    let fa ← c.e I a
    let fb ← c.e I b
    let g ← binF op
    some (op2 g fa fb)
  | .UnaryOp .USub a _ => do
    let fa ← c.e I a
    some (op1 negF fa)
  | .UnaryOp .Not a _ => do
    let fa ← c.e I a
    some (notE fa)
  | .BoolOp _ [a] _ => c.e I a
  | .BoolOp .And (a :: b :: r) pos => do
    let fa ← c.e I a
    let fb ← c.e I (.BoolOp .And (b :: r) pos)
    some (andE fa fb)
  | .BoolOp .Or (a :: b :: r) pos => do
    let fa ← c.e I a
    let fb ← c.e I (.BoolOp .Or (b :: r) pos)
    some (orE fa fb)
  | .Compare _ _ _ _ => do
    let t ← c.cp I ex
    some (valE t)
  | .IfExp t a b _ => do
    let ft ← c.t I t
    let fa ← c.e I a
    let fb ← c.e I b
    some (ifE ft fa fb)
  | .Subscript a (.Slice lo hi none _) pos => if I.isNew pos then (c.f I ex).map newE else do
    let fa ← c.e I a
    let fl ← c.b I lo
    let fh ← c.b I hi
    some (slE fa fl fh)
  | .Subscript a i _ => do
    ck (ixOk i)
    let fa ← c.e I a
    let fi ← c.e I i
    some (op2 (ixF I.kt) fa fi)
  | .Tuple es _ _ => do
    let fs ← c.a I es
    ck (Nat.ble fs.length 1000)
    some (tupE fs)
  | .List _ pos => (c.f I ex).map (fE I pos)
  | .ListComp _ _ _ pos => (c.f I ex).map (fE I pos)
  | .Dict [] [] pos => some (dictE (I.isTk pos))
  | .DictComp _ _ _ _ _ => c.dc I ex
  | .Call (.Name x _) args [] pos => callE I c x args pos ex
  | .Call (.Attribute o m apos) args [] pos => mthE I c o m apos args pos ex
  | _ => none
def fC (c : Cmp) (I : Info) (ex : Expr) : Option FV :=
  match ex with
  | .List es _ => do
    let fs ← c.a I es
    ck (Nat.ble fs.length 1000)
    some (lstF fs)
  | .ListComp _ _ _ _ => c.lc I ex
  | .BinOp a .Add b _ => do
    let fa ← c.e I a
    let fb ← c.e I b
    some (catF fa fb)
  | .BinOp a .Mult b _ => do
    let fa ← c.e I a
    let fb ← c.e I b
    some (repF fa fb)
  | .Subscript a (.Slice lo hi none _) _ => do
    let fa ← c.e I a
    let fl ← c.b I lo
    let fh ← c.b I hi
    some (slF fa fl fh)
  | .Call (.Name x _) args [] _ => do
    ck (okName x && I.isGl x && bnames.contains x && args.all notStar)
    let g ← bfF x args.length
    let fs ← c.a I args
    some (callF g fs)
  | .Call (.Attribute o m apos) args [] pos => do
    ck (baseOk o && (apos.endLine == pos.line) && args.all notStar)
    let fo ← c.e I o
    let q ← mfF m args.length
    let fs ← c.a I args
    some (methF q.1 q.2 fo fs)
  | _ => none
def cpC (c : Cmp) (I : Info) (ex : Expr) : Option TV :=
  match ex with
  | .Compare a [.Is] [.Constant .none _ _] _ => do
    let fa ← c.e I a
    some (t1 isNF fa)
  | .Compare a [.IsNot] [.Constant .none _ _] _ => do
    let fa ← c.e I a
    some (t1 notNF fa)
  | .Compare a [.Eq] [.Dict [] [] _] _ => do
    let fa ← c.e I a
    some (t1 noneF fa)
  | .Compare a [op] [b] _ => do
    ck (!behindInMarks op b)
    let fa ← c.e I a
    let fb ← c.e I b
    let g ← cmpO I.kt op
    some (t2 g fa fb)
  | .Compare a [op, op'] [b, d] _ => do
    ck (!lastMarks [op, op'] [b, d])
    let fa ← c.e I a
    let fb ← c.e I b
    let fd ← c.e I d
    let g ← cmpO I.kt op
    let g' ← cmpO I.kt op'
    some (chT g g' fa fb fd)
  | _ => none
def tC' (c : Cmp) (I : Info) (ex : Expr) : Option TV :=
  match ex with
  | .Compare _ _ _ _ => c.cp I ex
  | .UnaryOp .Not a _ => do
    let t ← c.t I a
    some (notT t)
  | .BoolOp _ _ _ => c.w I ex
  | e => do
    ck (plainT e)
    let fa ← c.e I e
    some (truT fa)
def wC (c : Cmp) (I : Info) (ex : Expr) : Option TV :=
  match ex with
  | .BoolOp _ [a] _ => c.t I a
  | .BoolOp .And (a :: b :: r) pos => do
    let fa ← c.t I a
    let fb ← c.w I (.BoolOp .And (b :: r) pos)
    some (andT fa fb)
  | .BoolOp .Or (a :: b :: r) pos => do
    let fa ← c.t I a
    let fb ← c.w I (.BoolOp .Or (b :: r) pos)
    some (orT fa fb)
  | _ => none
def aC (c : Cmp) (I : Info) (es : List Expr) : Option (List EV) :=
  match es with
  | [] => some []
  | a :: as => do
    ck (notStar a)
    let fa ← c.e I a
    let fs ← c.a I as
    some (fa :: fs)
def bC (c : Cmp) (I : Info) (o : Option Expr) : Option (Option EV) :=
  match o with
  | none => some none
  | some a => (c.e I a).map some
def gC (c : Cmp) (I : Info) (ex : Expr) : Option (List Nat × GV) :=
  match ex with
  | .Name x _ => do
    ck (I.isLc x && (I.fn x || I.isLoc x))
    let i ← Info.idx I.N x
    some ([i], nameG i)
  | .Tuple ts _ _ => do
    ck (ts.all notStar)
    let q ← c.gs I ts
    ck (q.2.length == ts.length)
    some (q.1, tupG q.2)
  | .Subscript o i _ => do
    ck (ixOk i)
    let fo ← c.e I o
    let fi ← c.e I i
    some ([], subG I.kt fo fi)
  | _ => none
def gsC (c : Cmp) (I : Info) (es : List Expr) : Option (List Nat × List GV) :=
  match es with
  | [] => some ([], [])
  | t :: ts => do
    ck (notStar t)
    let q ← c.g I t
    let qs ← c.gs I ts
    some (q.1 ++ qs.1, q.2 :: qs.2)
def iC (c : Cmp) (I : Info) (tg ex : Expr) : Option IV :=
  match ex with
  | .Call (.Name x _) [a] [] _ =>
    if x == ("range" : Str) then do
      ck (I.isGl x && notStar a)
      let fs ← c.a I [a]
      match fs with
      | [fa] => some (rng1 fa)
      | _ => none
    else if x == ("enumerate" : Str) then do
      ck (I.isGl x && notStar a)
      let fs ← c.a I [a]
      match tg, fs with
      | .Tuple _ _ _, [fa] => some (enumI fa)
      | _, _ => none
    else do
      let fa ← c.e I ex
      some (seqI fa)
  | .Call (.Name x _) [a, b] [] _ =>
    if x == ("range" : Str) then do
      ck (I.isGl x && notStar a && notStar b)
      let fs ← c.a I [a, b]
      match fs with
      | [fa, fb] => some (rng2 fa fb)
      | _ => none
    else do
      let fa ← c.e I ex
      some (seqI fa)
  | _ => do
    let fa ← c.e I ex
    some (seqI fa)
/-- a comprehension's tests -/
def ifsC (c : Cmp) (I : Info) : List Expr → Option TV
  | [] => some yesT
  | [t] => c.t I t
  | _ => none
def allIn (vs us : List Nat) : Bool := vs.all fun v => us.contains v
def lcC (c : Cmp) (I : Info) (ex : Expr) : Option FV :=
  match ex with
  | .ListComp elt [⟨tg, it, ifs, n⟩] sc _ => do
    ck (n == 0 && I.blkOk sc && foldOk it)
    let fi ← c.i I tg it
    let q ← c.g (I.blk sc) tg
    let t ← ifsC c (I.blk sc) ifs
    let fe ← c.e (I.blk sc) elt
    ck (allIn q.1 ((I.own sc).map (·.2)))
    match it with
    | .Name x _ => do
      ck (okName x && I.isVis x)
      let i ← Info.idx I.N x
      some (compN ((I.own sc).map (·.2)) i fi q.2 t fe)
    | _ => some (compF ((I.own sc).map (·.2)) fi q.2 t fe)
  | _ => none
def dcC (c : Cmp) (I : Info) (ex : Expr) : Option EV :=
  match ex with
  | .DictComp kx vx [⟨tg, it, ifs, n⟩] sc pos => do
    ck (n == 0 && I.blkOk sc && foldOk it)
    let fi ← c.i I tg it
    let q ← c.g (I.blk sc) tg
    let t ← ifsC c (I.blk sc) ifs
    let fk ← c.e (I.blk sc) kx
    let fv ← c.e (I.blk sc) vx
    ck (allIn q.1 ((I.own sc).map (·.2)))
    some (compD I.kt (I.isTk pos) ((I.own sc).map (·.2)) fi q.2 t fk fv)
  | _ => none

/-! ### what a context is to keep -/
def FnX (p : Pr) (X : Cx) (f : FnE) : Prop := ∃ (k : Nat) (a : Addr) (fd : FuncData) (ps : List Str), ps.length = f.np ∧ Room k X.A ∧ X.mg f.name = some (.ref a) ∧ PySem.W.keepIn X.K (.ref a) = true ∧ Binds X.K fd ps [] ∧
  match f.sem with
  | .inl g => FnOk X.prog X.w X.K X.mg X.base (L2.CX X.prog X.w) k a fd ps (spP p ps.length g)
  | .inr g => FnOk X.prog X.w X.K X.mg X.base (L2.CX X.prog X.w) k a fd ps (spI p ps.length g)
structure OkX (p : Pr) (I : Info) (X : Cx) (Wx : WX) : Prop where
  hK : X.K = p.K
  kt : I.kt = p.kt
  calm : X.calm = true
  hN : X.N = I.N
  nd : I.N.Nodup
  hu : X.A.units + 64 < cLine
  tk : Takes X Wx
  po : PassesOwn (model X.prog X.w) X.A X.env X.xe
  nm : X.env.scope.names = I.names
  kd : X.env.scope.kind = .function
  hfn : X.fn = I.fn
  blt : ∀ x, bnames.contains x = true → X.mg x = none
  fns : ∀ f ∈ I.fns, FnX p X f
  cns : ∀ x d, I.cons.lookup x = some d → ∃ v u, X.mg x = some u ∧ RelV v u ∧ ∀ H Z, RepD p.kt p.K H Z d v
  wt : I.exs.isEmpty = false → WtOk p X
section
variable {p : Pr} {I : Info} {X : Cx} {Wx : WX}
namespace OkX
theorem wx0 (ok : OkX p I X Wx) : OkX p I X W0 := { ok with tk := takes0 }
theorem idx_ok : ∀ {N : List Str} {x : Str} {i : Nat}, Info.idx N x = some i → N[i]? = some x
  | [], _, _, h => by cases h
  | y :: r, x, i, h => by
    unfold Info.idx at h
    split at h
    · rename_i e
      cases h
      rw [eq_of_beq e]; rfl
    · obtain ⟨j, hj, rfl⟩ := Option.map_eq_some_iff.mp h
      show r[j]? = some x
      exact idx_ok hj
theorem at_ (ok : OkX p I X Wx) {x : Str} {i : Nat} (h : Info.idx I.N x = some i) : X.N[i]? = some x := by rw [ok.hN]; exact idx_ok h
theorem vis (ok : OkX p I X Wx) {x : Str} (h : I.isVis x = true) : Vis X.env.scope x := by
  unfold Vis
  rw [ok.nm]
  simp only [Info.isVis, Info.kind, Bool.or_eq_true, beq_iff_eq] at h
  exact h
theorem loc (ok : OkX p I X Wx) {x : Str} (h : I.isLc x = true) : L2.Loc X.env.scope x := by
  unfold L2.Loc
  rw [ok.nm]
  simp only [Info.isLc, Info.kind, Bool.or_eq_true, beq_iff_eq] at h
  exact h
theorem lcl (ok : OkX p I X Wx) {x : Str} (h : I.isLoc x = true) : X.env.scope.names.lookup x = some .local := by
  rw [ok.nm]
  simp only [Info.isLoc, Info.kind, beq_iff_eq] at h
  exact h
theorem gl (ok : OkX p I X Wx) {x : Str} (h : I.isGl x = true) : Gl X x := by
  show X.env.scope.names.lookup x = _
  rw [ok.nm]
  simp only [Info.isGl, Info.kind, beq_iff_eq] at h
  exact h
theorem hfl (ok : OkX p I X Wx) {x : Str} (h : (I.fn x || I.isLoc x) = true) : X.fn x = true ∨ X.env.scope.names.lookup x = some .local := by
  rw [Bool.or_eq_true] at h
  rcases h with h | h
  · exact .inl (by rw [ok.hfn]; exact h)
  · exact .inr (ok.lcl h)
theorem dbg {x : Str} (h : okName x = true) : (x == ("__debug__" : Str)) = false ∧ (x == ("__classdict__" : Str)) = false := by
  unfold okName at h
  simp only [Bool.and_eq_true, Bool.not_eq_true'] at h
  exact h
theorem ndX (ok : OkX p I X Wx) : X.N.Nodup := by rw [ok.hN]; exact ok.nd
theorem hu1 (ok : OkX p I X Wx) : X.A.units + 1 < cLine := by have := ok.hu; omega
theorem hu0 (ok : OkX p I X Wx) : X.A.units < cLine := by have := ok.hu; omega
theorem find_ok : ∀ {l : List FnE} {x : Str} {f : FnE}, Info.find l x = some f → f ∈ l ∧ f.name = x
  | [], _, _, h => by cases h
  | g :: r, x, f, h => by
    unfold Info.find at h
    split at h
    · rename_i e
      cases h
      exact ⟨List.mem_cons_self, eq_of_beq e⟩
    · obtain ⟨h1, h2⟩ := find_ok h
      exact ⟨List.mem_cons_of_mem _ h1, h2⟩
end OkX
theorem pe_cons {x : Str} {u : Value} {v : V} {pos : Pos} (hg : Gl X x) (hm : X.mg x = some u) (hr : RelV v u) (hd : (x == ("__debug__" : Str)) = false) : PE X (.Name x pos) (tC v) :=
  ⟨fun pins s σ H Q I h => ld_glob I hg hm ⟨v, H, I, hr, h⟩ hd⟩
structure Snd (p : Pr) (c : Cmp) : Prop where
  e : ∀ I ex f, c.e I ex = some f → ∀ X Wx, OkX p I X Wx → SE p X Wx ex f
  f : ∀ I ex f, c.f I ex = some f → ∀ X Wx, OkX p I X Wx → SF p X Wx ex f
  lc : ∀ I ex f, c.lc I ex = some f → ∀ X Wx, OkX p I X Wx → SFC p X Wx ex f
  dc : ∀ I ex f, c.dc I ex = some f → ∀ X Wx, OkX p I X Wx → SEC p X Wx ex f
  cp : ∀ I ex f, c.cp I ex = some f → ∀ X Wx, OkX p I X Wx → ST p X Wx ex f ∧ SE p X Wx ex (valE f)
  t : ∀ I ex f, c.t I ex = some f → ∀ X Wx, OkX p I X Wx → ST p X Wx ex f
  w : ∀ I ex f, c.w I ex = some f → ∀ X Wx, OkX p I X Wx → SW p X Wx ex f
  a : ∀ I es fs, c.a I es = some fs → ∀ X Wx, OkX p I X Wx → SA p X Wx es (argsF fs)
  b : ∀ I o f, c.b I o = some f → ∀ X Wx, OkX p I X Wx → SB p X Wx o f
  g : ∀ I ex q, c.g I ex = some q → ∀ X Wx, OkX p I X Wx → SG p X Wx q.1 ex q.2
  gs : ∀ I es q, c.gs I es = some q → ∀ X Wx, OkX p I X Wx → SGs p X Wx q.1 es q.2
  i : ∀ I tg ex f, c.i I tg ex = some f → ∀ X Wx, OkX p I X Wx → SI p X Wx tg ex f
  s : ∀ I st f, c.s I st = some f → ∀ X Wx, OkX p I X Wx → SS p X Wx st f
  ss : ∀ I st f, c.ss I st = some f → ∀ X Wx, OkX p I X Wx → SSs p X Wx st f
theorem bin_ok (hK : X.K = p.K) {op : Operator} {g : W → W → Store → R W} (h : binF op = some g) : ∃ r, OpR X (binaryOp op) r ∧ Fits2 p g r := by
  cases op with
  | Add => cases h; exact ⟨_, op_addA, hK ▸ fits_add⟩
  | Sub => cases h; exact ⟨_, L2.op_sub, fits_sub⟩
  | Mult => cases h; exact ⟨_, op_mulA, fits_mul⟩
  | FloorDiv => cases h; exact ⟨_, op_divA, fits_div⟩
  | Mod => cases h; exact ⟨_, op_modA, fits_mod⟩
  | Pow => cases h; exact ⟨_, L2.op_pow, fits_pow⟩
  | _ => cases h
theorem fits_iadd : Fits2 p iaddF (fun x y H Q => rI0 (fun i j => V.int (i + j)) x y H Q ∨ ∃ i j, x = .str i ∧ y = .str j ∧ i.length + j.length ≤ sizeLine ∧ Q (.str (i ++ j)) H) := by
  intro F m H S σ Q Wx x y v u s rx ry h
  unfold iaddF at h
  split at h
  · cases rx with | d rx =>
    cases ry with | d ry =>
    cases rx
    cases ry
    exact .inl ⟨_, _, rfl, rfl, h _ _ _ (Ext.refl _ _) (.d (.int _)) s⟩
  · cases rx with | d rx =>
    cases ry with | d ry =>
    cases rx
    cases ry
    split at h
    · rename_i hs
      refine .inr ⟨_, _, rfl, rfl, by rw [txt_len, txt_len]; exact smallN_ok hs, ?_⟩
      rw [← txt_app]
      exact h _ _ _ (Ext.refl _ _) (.d (.str _)) s
    · exact h.elim
  · exact h.elim
theorem OpR.or2 {f : Value → Value → Sem Value} {r r' : R2} (h : OpR X f r) (h' : OpR X f r') : OpR X f (fun x y H Q => r x y H Q ∨ r' x y H Q) := OpR.or h h'
theorem aug_ok {op : Operator} {g : W → W → Store → R W} (h : augO op = some g) : ∃ r, OpR X (inplaceOp op) r ∧ Fits2 p g r := by
  cases op with
  | Add => cases h; exact ⟨_, OpR.or iop_add iop_add_str, fits_iadd⟩
  | Sub => cases h; exact ⟨_, iop_sub, fits_sub⟩
  | _ => cases h
theorem cmp_ok (hK : X.K = p.K) (hu : X.A.units + 64 < cLine) {op : CmpOp} {g : W → W → Store → R Bool} (h : cmpO p.kt op = some g) : ∃ r, OpR X (compareOp op) r ∧ Fits2B p g r := by
  have hu1 : X.A.units + 1 < cLine := by omega
  cases op with
  | Eq => cases h; exact ⟨_, op_eqA hu, hK ▸ fits_eq⟩
  | NotEq => cases h; exact ⟨_, op_neA hu, hK ▸ fits_ne⟩
  | Lt => cases h; exact ⟨_, L2.op_lt, fits_cmp⟩
  | LtE => cases h; exact ⟨_, L2.op_le, fits_cmp⟩
  | Gt => cases h; exact ⟨_, L2.op_gt, fits_cmp⟩
  | GtE => cases h; exact ⟨_, L2.op_ge, fits_cmp⟩
  | In => cases h; exact ⟨_, op_inA hu1, hK ▸ fits_in⟩
  | NotIn => cases h; exact ⟨_, op_notInA hu1, hK ▸ fits_notIn⟩
  | _ => cases h
/-- a built-in by its name -/
structure BiX (p : Pr) (X : Cx) (x : Str) (g : List W → Store → R W) : Prop where
  ex : ∃ (f : Value) (r : List V → Hp → VK → Prop), ((∃ id, f = .builtin id) ∨ ∃ T, f = .type T) ∧ CallR X f r ∧ FitsL p g r ∧ bootBuiltins x = some f ∧ x ≠ "__name__"
theorem bi_ok (hK : X.K = p.K) (hc : X.calm = true) {x : Str} {n : Nat} {g : List W → Store → R W} (h : biF x n = some g) : BiX p X x g := by
  unfold biF at h
  split at h
  · split at h
    · rename_i e; rw [eq_of_beq e]; cases h; exact ⟨_, _, .inl ⟨_, rfl⟩, call_lenA, hK ▸ fits_len, by decide +kernel, by decide⟩
    · split at h
      · rename_i e; rw [eq_of_beq e]; cases h; exact ⟨_, _, .inl ⟨_, rfl⟩, cr_sum hc, hK ▸ fits_sum, by decide +kernel, by decide⟩
      · split at h
        · rename_i e; rw [eq_of_beq e]; cases h; exact ⟨_, _, .inl ⟨_, rfl⟩, cr_any hc, hK ▸ fits_any, by decide +kernel, by decide⟩
        · split at h
          · rename_i e; rw [eq_of_beq e]; cases h; exact ⟨_, _, .inl ⟨_, rfl⟩, cr_all hc, hK ▸ fits_all, by decide +kernel, by decide⟩
          · split at h
            · rename_i e; rw [eq_of_beq e]; cases h; exact ⟨_, _, .inl ⟨_, rfl⟩, call_maxA hc, hK ▸ fits_maxD, by decide +kernel, by decide⟩
            · split at h
              · rename_i e; rw [eq_of_beq e]; cases h; exact ⟨_, _, .inl ⟨_, rfl⟩, call_minA hc, hK ▸ fits_minD, by decide +kernel, by decide⟩
              · split at h
                · rename_i e; rw [eq_of_beq e]; cases h; exact ⟨_, _, .inl ⟨_, rfl⟩, call_abs, fits_abs, by decide +kernel, by decide⟩
                · split at h
                  · rename_i e; rw [eq_of_beq e]; cases h; exact ⟨_, _, .inr ⟨_, rfl⟩, call_str_int, fits_str, by decide +kernel, by decide⟩
                  · split at h
                    · rename_i e; rw [eq_of_beq e]; cases h; exact ⟨_, _, .inr ⟨_, rfl⟩, call_intA, fits_int, by decide +kernel, by decide⟩
                    · split at h
                      · rename_i e; rw [eq_of_beq e]; cases h; exact ⟨_, _, .inr ⟨_, rfl⟩, call_tuple_of, hK ▸ fits_tuple, by decide +kernel, by decide⟩
                      · cases h
  · split at h
    · split at h
      · rename_i e; rw [eq_of_beq e]; cases h; exact ⟨_, _, .inl ⟨_, rfl⟩, call_max2 hc, fits_max2, by decide +kernel, by decide⟩
      · split at h
        · rename_i e; rw [eq_of_beq e]; cases h; exact ⟨_, _, .inl ⟨_, rfl⟩, call_min2 hc, fits_min2, by decide +kernel, by decide⟩
        · cases h
    · cases h
theorem bf_ok (hK : X.K = p.K) (hc : X.calm = true) {x : Str} {n : Nat} {g : List W → Store → R (List W)} (h : bfF x n = some g) :
    ∃ (f : Value) (r : List V → Hp → VK → Prop), ((∃ id, f = .builtin id) ∨ ∃ T, f = .type T) ∧ CallR X f r ∧ FitsLF p g r ∧ bootBuiltins x = some f ∧ x ≠ "__name__" := by
  unfold bfF at h
  split at h
  · split at h
    · rename_i e; rw [eq_of_beq e]; cases h; exact ⟨_, _, .inl ⟨_, rfl⟩, call_sortA hc, hK ▸ fits_sortD, by decide +kernel, by decide⟩
    · split at h
      · rename_i e; rw [eq_of_beq e]; cases h; exact ⟨_, _, .inr ⟨_, rfl⟩, call_list_of, hK ▸ fits_list, by decide +kernel, by decide⟩
      · cases h
  · cases h
theorem mt_ok (hK : X.K = p.K) (hu : X.A.units + 1 < cLine) {x : Str} {n : Nat} {q : List Nat × (W → List W → Store → R W)} (h : mtF p.kt x n = some q) : FitsM p X x q.1 q.2 ∧ n ≤ 2 := by
  unfold mtF at h
  split at h
  · rename_i hn
    have hn := eq_of_beq hn
    split at h
    · rename_i e; rw [eq_of_beq e]; cases h; exact ⟨fits_append hK, by omega⟩
    · split at h
      · rename_i e; rw [eq_of_beq e]; cases h; exact ⟨fits_extend hK, by omega⟩
      · split at h
        · rename_i e; rw [eq_of_beq e]; cases h; exact ⟨fits_join hK, by omega⟩
        · split at h
          · rename_i e; rw [eq_of_beq e]; cases h; exact ⟨fits_starts, by omega⟩
          · split at h
            · rename_i e; rw [eq_of_beq e]; cases h; exact ⟨fits_index, by omega⟩
            · cases h
  · split at h
    · rename_i hn
      have hn := eq_of_beq hn
      split at h
      · rename_i e; rw [eq_of_beq e]; cases h; exact ⟨fits_pop hK, by omega⟩
      · cases h
    · split at h
      · rename_i hn
        have hn := eq_of_beq hn
        split at h
        · rename_i e; rw [eq_of_beq e]; cases h; exact ⟨fits_get hK hu, by omega⟩
        · cases h
      · cases h
theorem mf_ok {x : Str} {n : Nat} {q : List Nat × (W → List W → Store → R (List W))} (h : mfF x n = some q) : FitsMF p X x q.1 q.2 ∧ n = 1 := by
  unfold mfF at h
  split at h
  · rename_i hn
    split at h
    · rename_i e; rw [eq_of_beq e]; cases h; exact ⟨fits_split, eq_of_beq hn⟩
    · cases h
  · cases h
end
end Pv

end

section
set_option linter.all false
set_option maxRecDepth 100000
set_option Elab.async false
set_option linter.all false
set_option maxRecDepth 100000
/-! Pv20: the readings of expressions are sound. -/
namespace Pv
open PySem PySem.Spec PyProof.Rows L2
section
variable {p : Pr} {I : Info} {X : Cx} {Wx : WX} {c : Cmp}
theorem fE_snd {ex : Expr} {f : FV} {q : Pos} (h : SF p X Wx ex f) : SE p X Wx ex (fE I q f) := by
  unfold fE
  split
  · exact se_new h
  · exact se_frz h
theorem a_len (hc : Snd p c) {es : List Expr} {fs : List EV} : aC c I es = some fs → True := fun _ => trivial
theorem call_snd (hc : Snd p c) {x : Str} {p0 pos : Pos} {args : List Expr} {f : EV} (h : callE I c x args pos (.Call (.Name x p0) args [] pos) = some f) (ok : OkX p I X Wx) : SE p X Wx (.Call (.Name x p0) args [] pos) f := by
  unfold callE at h
  simp only [bind, Option.bind_eq_some_iff, ck_some, Bool.and_eq_true] at h
  obtain ⟨_, ⟨⟨h1, h2⟩, h3⟩, h⟩ := h
  have hd := OkX.dbg h1
  have hg := ok.gl h2
  cases args with
  | nil =>
    split at h
    · simp [ck] at h
    · split at h
      · rename_i q
        simp [bfF] at q
      · simp [biF] at h
  | cons a as =>
  have hns := h3
  rw [List.all_cons, Bool.and_eq_true] at h3
  have he := star_cons (env := X.env) (as := as) h3.1
  have hpl := stars_plain (env := X.env) (pos := pos) h3.2
  split at h
  · rename_i fn hf
    simp only [Option.bind_eq_some_iff, ck_some, Bool.and_eq_true] at h
    obtain ⟨fs, hfs, _, ⟨hn, _⟩, h⟩ := h
    have hn := eq_of_beq hn
    obtain ⟨hm, rfl⟩ := OkX.find_ok hf
    have sa := hc.a _ _ _ hfs _ _ ok
    obtain ⟨k, b, fd, ps, e1, hr, hmg, hkp, hb, hFn⟩ := ok.fns fn hm
    cases hs : fn.sem with
    | inl g =>
      rw [hs] at h hFn
      cases h
      exact se_callP ok.tk hFn hr hg hmg hkp hb hd.1 he hpl (by rw [hn, e1]) sa
    | inr g =>
      rw [hs] at h hFn
      cases h
      exact se_callI ok.tk hFn hr hg hmg hkp hb hd.1 he hpl (by rw [hn, e1]) sa
  · simp only [Option.bind_eq_some_iff, ck_some] at h
    obtain ⟨_, hbn, h⟩ := h
    have hm := ok.blt _ hbn
    split at h
    · obtain ⟨f0, hf0, rfl⟩ := Option.map_eq_some_iff.mp h
      exact fE_snd (hc.f _ _ _ hf0 _ _ ok)
    · simp only [Option.bind_eq_some_iff] at h
      obtain ⟨g, hgg, fs, hfs, h⟩ := h
      cases h
      obtain ⟨fv, r, hf, hcr, hfit, hv, hn⟩ := (bi_ok ok.hK ok.calm hgg).ex
      exact se_callB hf hcr hfit hg hm hv hn hd.1 he hpl (hc.a _ _ _ hfs _ _ ok)
theorem mth_snd (hc : Snd p c) {o : Expr} {m : Str} {apos pos : Pos} {args : List Expr} {f : EV} (h : mthE I c o m apos args pos (.Call (.Attribute o m apos) args [] pos) = some f) (ok : OkX p I X Wx) : SE p X Wx (.Call (.Attribute o m apos) args [] pos) f := by
  unfold mthE at h
  simp only [bind, Option.bind_eq_some_iff, ck_some, Bool.and_eq_true] at h
  obtain ⟨_, ⟨⟨h1, h2⟩, h3⟩, h⟩ := h
  split at h
  · obtain ⟨f0, hf0, rfl⟩ := Option.map_eq_some_iff.mp h
    exact fE_snd (hc.f _ _ _ hf0 _ _ ok)
  · simp only [Option.bind_eq_some_iff] at h
    obtain ⟨fo, hfo, q, hq, h⟩ := h
    rw [ok.kt] at hq
    obtain ⟨hfit, hn⟩ := mt_ok ok.hK ok.hu1 hq
    cases args with
    | nil =>
      cases h
      exact se_meth0 hfit (base_ok h1) h2 (hc.e _ _ _ hfo _ _ ok)
    | cons a as =>
      simp only [Option.bind_eq_some_iff] at h
      obtain ⟨fs, hfs, h⟩ := h
      cases h
      have hns := h3
      rw [List.all_cons, Bool.and_eq_true] at h3
      exact se_meth hfit (base_ok h1) (few_ok hns (by omega)) h2 (star_cons h3.1) (stars_plain h3.2) (hc.e _ _ _ hfo _ _ ok) (hc.a _ _ _ hfs _ _ ok)
theorem e_snd (hc : Snd p c) {ex : Expr} {f : EV} (h : eC c I ex = some f) (ok : OkX p I X Wx) : SE p X Wx ex f := by
  unfold eC at h
  split at h
  · simp only [bind, Option.bind_eq_some_iff, ck_some] at h
    obtain ⟨_, h1, h⟩ := h
    have hd := OkX.dbg h1
    split at h
    · rename_i hv
      simp only [Option.bind_eq_some_iff] at h
      obtain ⟨i, hi, h⟩ := h
      cases h
      exact se_var (ok.at_ hi) (ok.vis hv) hd.1 hd.2
    · simp only [Option.bind_eq_some_iff, ck_some] at h
      obtain ⟨_, hg, d, hl, h⟩ := h
      cases h
      obtain ⟨v, u, hm, hr, hrep⟩ := ok.cns _ _ hl
      exact se_con (pe_cons (ok.gl hg) hm hr hd.1) hrep
  · cases h; exact se_int
  · cases h; exact se_bl
  · cases h; exact se_non
  · cases h; exact se_str
  · split at h
    · obtain ⟨f0, hf0, rfl⟩ := Option.map_eq_some_iff.mp h
      exact se_new (hc.f _ _ _ hf0 _ _ ok)
    · simp only [bind, Option.bind_eq_some_iff] at h
      obtain ⟨fa, ha, fb, hb, g, hg, h⟩ := h
      cases h
      obtain ⟨r, ho, hf⟩ := bin_ok ok.hK hg
      exact se_op2 ho hf (hc.e _ _ _ ha _ _ ok) (hc.e _ _ _ hb _ _ ok)
  · simp only [bind, Option.bind_eq_some_iff] at h
    obtain ⟨fa, ha, h⟩ := h
    cases h
    exact se_un un_neg fits_neg (hc.e _ _ _ ha _ _ ok)
  · simp only [bind, Option.bind_eq_some_iff] at h
    obtain ⟨fa, ha, h⟩ := h
    cases h
    exact se_not ok.hK (hc.e _ _ _ ha _ _ ok)
  · exact se_one (hc.e _ _ _ h _ _ ok)
  · simp only [bind, Option.bind_eq_some_iff] at h
    obtain ⟨fa, ha, fb, hb, h⟩ := h
    cases h
    exact se_and ok.hK (hc.e _ _ _ ha _ _ ok) (hc.e _ _ _ hb _ _ ok)
  · simp only [bind, Option.bind_eq_some_iff] at h
    obtain ⟨fa, ha, fb, hb, h⟩ := h
    cases h
    exact se_or ok.hK (hc.e _ _ _ ha _ _ ok) (hc.e _ _ _ hb _ _ ok)
  · simp only [bind, Option.bind_eq_some_iff] at h
    obtain ⟨t, ht, h⟩ := h
    cases h
    exact (hc.cp _ _ _ ht _ _ ok).2
  · simp only [bind, Option.bind_eq_some_iff] at h
    obtain ⟨ft, ht, fa, ha, fb, hb, h⟩ := h
    cases h
    exact se_if (hc.t _ _ _ ht _ _ ok) (hc.e _ _ _ ha _ _ ok) (hc.e _ _ _ hb _ _ ok)
  · split at h
    · obtain ⟨f0, hf0, rfl⟩ := Option.map_eq_some_iff.mp h
      exact se_new (hc.f _ _ _ hf0 _ _ ok)
    · simp only [bind, Option.bind_eq_some_iff] at h
      obtain ⟨fa, ha, fl, hl, fh, hh, h⟩ := h
      cases h
      exact se_sl ok.hK (hc.e _ _ _ ha _ _ ok) (hc.b _ _ _ hl _ _ ok) (hc.b _ _ _ hh _ _ ok)
  · simp only [bind, Option.bind_eq_some_iff, ck_some] at h
    obtain ⟨_, hi, fa, ha, fi, hfi, h⟩ := h
    cases h
    rw [ok.kt]
    exact se_ix ok.hK ok.hu1 (ix_ok hi) (hc.e _ _ _ ha _ _ ok) (hc.e _ _ _ hfi _ _ ok)
  · simp only [bind, Option.bind_eq_some_iff, ck_some] at h
    obtain ⟨fs, hfs, _, hl, h⟩ := h
    cases h
    exact se_tup (Nat.le_of_ble_eq_true hl) (hc.a _ _ _ hfs _ _ ok)
  · obtain ⟨f0, hf0, rfl⟩ := Option.map_eq_some_iff.mp h
    exact fE_snd (hc.f _ _ _ hf0 _ _ ok)
  · obtain ⟨f0, hf0, rfl⟩ := Option.map_eq_some_iff.mp h
    exact fE_snd (hc.f _ _ _ hf0 _ _ ok)
  · cases h; exact se_dnew
  · exact (hc.dc _ _ _ h _ _ ok).se
  · exact call_snd hc h ok
  · exact mth_snd hc h ok
  · cases h
theorem cp_snd (hc : Snd p c) {ex : Expr} {f : TV} (h : cpC c I ex = some f) (ok : OkX p I X Wx) : ST p X Wx ex f ∧ SE p X Wx ex (valE f) := by
  unfold cpC at h
  split at h
  · simp only [bind, Option.bind_eq_some_iff] at h
    obtain ⟨fa, ha, h⟩ := h
    cases h
    exact ⟨st_isN (hc.e _ _ _ ha _ _ ok), se_isN (hc.e _ _ _ ha _ _ ok)⟩
  · simp only [bind, Option.bind_eq_some_iff] at h
    obtain ⟨fa, ha, h⟩ := h
    cases h
    exact ⟨st_notN (hc.e _ _ _ ha _ _ ok), se_notN (hc.e _ _ _ ha _ _ ok)⟩
  · simp only [bind, Option.bind_eq_some_iff] at h
    obtain ⟨fa, ha, h⟩ := h
    cases h
    exact ⟨st_none ok.hu0 (hc.e _ _ _ ha _ _ ok), se_none ok.hu0 (hc.e _ _ _ ha _ _ ok)⟩
  · simp only [bind, Option.bind_eq_some_iff, ck_some, Bool.not_eq_true'] at h
    obtain ⟨_, hm, fa, ha, fb, hb, g, hg, h⟩ := h
    cases h
    rw [ok.kt] at hg
    obtain ⟨r, ho, hf⟩ := cmp_ok ok.hK ok.hu hg
    exact ⟨st_cmp ho hf hm (hc.e _ _ _ ha _ _ ok) (hc.e _ _ _ hb _ _ ok), se_cmp ho hf hm (hc.e _ _ _ ha _ _ ok) (hc.e _ _ _ hb _ _ ok)⟩
  · simp only [bind, Option.bind_eq_some_iff, ck_some, Bool.not_eq_true'] at h
    obtain ⟨_, hm, fa, ha, fb, hb, fd, hd, g, hg, g', hg', h⟩ := h
    cases h
    rw [ok.kt] at hg hg'
    obtain ⟨r, ho, hf⟩ := cmp_ok ok.hK ok.hu hg
    obtain ⟨r', ho', hf'⟩ := cmp_ok ok.hK ok.hu hg'
    exact ⟨st_ch ho ho' hf hf' hm (hc.e _ _ _ ha _ _ ok) (hc.e _ _ _ hb _ _ ok) (hc.e _ _ _ hd _ _ ok), se_ch ho ho' hf hf' hm (hc.e _ _ _ ha _ _ ok) (hc.e _ _ _ hb _ _ ok) (hc.e _ _ _ hd _ _ ok)⟩
  · cases h
theorem t_snd (hc : Snd p c) {ex : Expr} {f : TV} (h : tC' c I ex = some f) (ok : OkX p I X Wx) : ST p X Wx ex f := by
  unfold tC' at h
  split at h
  · exact (hc.cp _ _ _ h _ _ ok).1
  · simp only [bind, Option.bind_eq_some_iff] at h
    obtain ⟨t, ht, h⟩ := h
    cases h
    exact st_not (hc.t _ _ _ ht _ _ ok)
  · exact (hc.w _ _ _ h _ _ ok).st
  · simp only [bind, Option.bind_eq_some_iff, ck_some] at h
    obtain ⟨_, hp, fa, ha, h⟩ := h
    cases h
    exact st_tru ok.hK (truth_ok hp) (hc.e _ _ _ ha _ _ ok)
theorem w_snd (hc : Snd p c) {ex : Expr} {f : TV} (h : wC c I ex = some f) (ok : OkX p I X Wx) : SW p X Wx ex f := by
  unfold wC at h
  split at h
  · rename_i op a pos
    cases op with
    | And => exact sw_and1 (hc.t _ _ _ h _ _ ok)
    | Or => exact sw_or1 (hc.t _ _ _ h _ _ ok)
  · simp only [bind, Option.bind_eq_some_iff] at h
    obtain ⟨fa, ha, fb, hb, h⟩ := h
    cases h
    exact sw_and (hc.t _ _ _ ha _ _ ok) (hc.w _ _ _ hb _ _ ok)
  · simp only [bind, Option.bind_eq_some_iff] at h
    obtain ⟨fa, ha, fb, hb, h⟩ := h
    cases h
    exact sw_or (hc.t _ _ _ ha _ _ ok) (hc.w _ _ _ hb _ _ ok)
  · cases h
theorem a_snd (hc : Snd p c) {es : List Expr} {fs : List EV} (h : aC c I es = some fs) (ok : OkX p I X Wx) : SA p X Wx es (argsF fs) := by
  unfold aC at h
  split at h
  · cases h; exact sa_nil
  · simp only [bind, Option.bind_eq_some_iff, ck_some] at h
    obtain ⟨_, hs, fa, ha, fs, hfs, h⟩ := h
    cases h
    exact sa_cons (hc.e _ _ _ ha _ _ ok) (hc.a _ _ _ hfs _ _ ok) (star_cons hs)
theorem b_snd (hc : Snd p c) {o : Option Expr} {f : Option EV} (h : bC c I o = some f) (ok : OkX p I X Wx) : SB p X Wx o f := by
  unfold bC at h
  split at h
  · cases h; exact so_none
  · obtain ⟨f0, hf0, rfl⟩ := Option.map_eq_some_iff.mp h
    exact so_some (hc.e _ _ _ hf0 _ _ ok)
theorem f_snd (hc : Snd p c) {ex : Expr} {f : FV} (h : fC c I ex = some f) (ok : OkX p I X Wx) : SF p X Wx ex f := by
  unfold fC at h
  split at h
  · simp only [bind, Option.bind_eq_some_iff, ck_some] at h
    obtain ⟨fs, hfs, _, hl, h⟩ := h
    cases h
    exact sf_lst (Nat.le_of_ble_eq_true hl) (hc.a _ _ _ hfs _ _ ok)
  · exact (hc.lc _ _ _ h _ _ ok).sf
  · simp only [bind, Option.bind_eq_some_iff] at h
    obtain ⟨fa, ha, fb, hb, h⟩ := h
    cases h
    exact sf_cat (hc.e _ _ _ ha _ _ ok) (hc.e _ _ _ hb _ _ ok)
  · simp only [bind, Option.bind_eq_some_iff] at h
    obtain ⟨fa, ha, fb, hb, h⟩ := h
    cases h
    exact sf_rep (hc.e _ _ _ ha _ _ ok) (hc.e _ _ _ hb _ _ ok)
  · simp only [bind, Option.bind_eq_some_iff] at h
    obtain ⟨fa, ha, fl, hl, fh, hh, h⟩ := h
    cases h
    exact sf_sl ok.hK (hc.e _ _ _ ha _ _ ok) (hc.b _ _ _ hl _ _ ok) (hc.b _ _ _ hh _ _ ok)
  · rename_i x _ args pos
    simp only [bind, Option.bind_eq_some_iff, ck_some, Bool.and_eq_true] at h
    obtain ⟨_, ⟨⟨⟨h1, h2⟩, h3⟩, h4⟩, g, hg, fs, hfs, h⟩ := h
    cases h
    cases args with
    | nil => simp [bfF] at hg
    | cons a as =>
      rw [List.all_cons, Bool.and_eq_true] at h4
      obtain ⟨fv, r, hf, hcr, hfit, hv, hn⟩ := bf_ok ok.hK ok.calm hg
      exact sf_callB hf hcr hfit (ok.gl h2) (ok.blt _ h3) hv hn (OkX.dbg h1).1 (star_cons h4.1) (stars_plain h4.2) (hc.a _ _ _ hfs _ _ ok)
  · rename_i o m apos args pos
    simp only [bind, Option.bind_eq_some_iff, ck_some, Bool.and_eq_true] at h
    obtain ⟨_, ⟨⟨h1, h2⟩, h3⟩, fo, hfo, q, hq, fs, hfs, h⟩ := h
    cases h
    obtain ⟨hfit, hn⟩ := mf_ok hq (p := p) (X := X)
    cases args with
    | nil => cases hn
    | cons a as =>
      have hns := h3
      rw [List.all_cons, Bool.and_eq_true] at h3
      exact sf_meth hfit (base_ok h1) (few_ok hns (by omega)) h2 (star_cons h3.1) (stars_plain h3.2) (hc.e _ _ _ hfo _ _ ok) (hc.a _ _ _ hfs _ _ ok)
  · cases h
theorem assign_sub {o i : Expr} {pos : Pos} {env : Env} (h : ixOk i = true) : ∀ v, assign (.Subscript o i pos) env v = (do
      let ov ← holding [v] (eval o env)
      let iv ← holding [v, ov] (eval i env)
      standAt pos
      holding [v, ov, iv] (setItem ov iv v)
      release [v, ov, iv] []) := by
  intro v
  cases i <;> first | rfl | (simp only [assign]; done) | (cases h; done)
theorem g_snd (hc : Snd p c) {ex : Expr} {q : List Nat × GV} (h : gC c I ex = some q) (ok : OkX p I X Wx) : SG p X Wx q.1 ex q.2 := by
  unfold gC at h
  split at h
  · simp only [bind, Option.bind_eq_some_iff, ck_some, Bool.and_eq_true] at h
    obtain ⟨_, ⟨h1, h2⟩, i, hi, h⟩ := h
    cases h
    exact sg_name ok.ndX (ok.at_ hi) (ok.loc h1) (ok.hfl h2)
  · simp only [bind, Option.bind_eq_some_iff, ck_some] at h
    obtain ⟨_, hs, q', hq, _, hl, h⟩ := h
    cases h
    exact sg_tup ok.hK ok.calm (hc.gs _ _ _ hq _ _ ok) (eq_of_beq hl) asg_len (asg_nostar hs)
  · simp only [bind, Option.bind_eq_some_iff, ck_some] at h
    obtain ⟨_, hi, fo, hfo, fi, hfi, h⟩ := h
    cases h
    rw [ok.kt]
    exact sg_sub ok.hu1 (hc.e _ _ _ hfo _ _ ok) (hc.e _ _ _ hfi _ _ ok) (assign_sub hi)
  · cases h
theorem gs_snd (hc : Snd p c) {es : List Expr} {q : List Nat × List GV} (h : gsC c I es = some q) (ok : OkX p I X Wx) : SGs p X Wx q.1 es q.2 := by
  unfold gsC at h
  split at h
  · cases h; exact sgs_nil
  · simp only [bind, Option.bind_eq_some_iff, ck_some] at h
    obtain ⟨_, hs, q1, h1, q2, h2, h⟩ := h
    cases h
    exact sgs_cons (hc.g _ _ _ h1 _ _ ok) (hc.gs _ _ _ h2 _ _ ok) (by rw [asg_each hs]; rfl)
theorem star_one {a : Expr} {env : Env} (h : notStar a = true) : starEach [a] env = [(false, eval a env)] := by rw [star_cons h]; simp [starEach]
theorem i_snd (hc : Snd p c) {tg ex : Expr} {f : IV} (h : iC c I tg ex = some f) (ok : OkX p I X Wx) : SI p X Wx tg ex f := by
  unfold iC at h
  split at h
  · split at h
    · rename_i e
      have e := eq_of_beq e
      subst e
      simp only [bind, Option.bind_eq_some_iff, ck_some, Bool.and_eq_true] at h
      obtain ⟨_, ⟨h1, h2⟩, fs, hfs, h⟩ := h
      split at h
      · cases h
        exact si_rng1 (ok.gl h1) (ok.blt _ (by decide)) (star_one h2) (hc.a _ _ _ hfs _ _ ok)
      · cases h
    · split at h
      · rename_i e
        have e := eq_of_beq e
        subst e
        simp only [bind, Option.bind_eq_some_iff, ck_some, Bool.and_eq_true] at h
        obtain ⟨_, ⟨h1, h2⟩, fs, hfs, h⟩ := h
        split at h
        · cases h
          exact si_enum ok.hK (ok.gl h1) (ok.blt _ (by decide)) (star_one h2) (hc.a _ _ _ hfs _ _ ok)
        · cases h
      · simp only [bind, Option.bind_eq_some_iff] at h
        obtain ⟨fa, ha, h⟩ := h
        cases h
        exact si_seq ok.hK (hc.e _ _ _ ha _ _ ok)
  · split at h
    · rename_i e
      have e := eq_of_beq e
      subst e
      simp only [bind, Option.bind_eq_some_iff, ck_some, Bool.and_eq_true] at h
      obtain ⟨_, ⟨⟨h1, h2⟩, h3⟩, fs, hfs, h⟩ := h
      split at h
      · cases h
        exact si_rng2 (ok.gl h1) (ok.blt _ (by decide)) (by rw [star_cons h2, star_one h3]) (star_one h3) (hc.a _ _ _ hfs _ _ ok)
      · cases h
    · simp only [bind, Option.bind_eq_some_iff] at h
      obtain ⟨fa, ha, h⟩ := h
      cases h
      exact si_seq ok.hK (hc.e _ _ _ ha _ _ ok)
  · simp only [bind, Option.bind_eq_some_iff] at h
    obtain ⟨fa, ha, h⟩ := h
    cases h
    exact si_seq ok.hK (hc.e _ _ _ ha _ _ ok)
/-! ### comprehensions -/
theorem own_mem {sc : Scope} {y : Str} {i : Nat} (h : (y, i) ∈ I.own sc) : Info.idx I.N y = some i := by
  unfold Info.own at h
  obtain ⟨q, _, hq⟩ := List.mem_filterMap.mp h
  split at hq
  · obtain ⟨j, hj, e⟩ := Option.map_eq_some_iff.mp hq
    cases e
    exact hj
  · cases hq
theorem idx_none : ∀ {N : List Str} {x : Str}, Info.idx N x = none → x ∉ N
  | [], _, _ => by simp
  | y :: r, x, h => by
    unfold Info.idx at h
    split at h
    · cases h
    · rename_i e
      have := idx_none (Option.map_eq_none_iff.mp h)
      simp only [List.mem_cons, not_or]
      exact ⟨fun z => e (by rw [z]; simp), this⟩
theorem blk_ok (ok : OkX p I X Wx) {sc : Scope} (h : I.blkOk sc = true) : BlkOk X.N X.env.scope sc (I.own sc) := by
  unfold Info.blkOk at h
  simp only [Bool.and_eq_true, beq_iff_eq, List.all_eq_true] at h
  obtain ⟨h1, h2, h3⟩ := h
  refine ⟨h1, fun y hy => h2 y hy, fun q hq => ok.at_ (own_mem hq), fun y hy hf => ?_, fun y hy hk => ?_⟩
  · have := h3 y hy
    rw [hf] at this
    simp only [BEq.rfl, if_true, Bool.or_eq_true, beq_iff_eq] at this
    rw [ok.nm]
    exact this
  · cases q : Info.idx I.N y.1 with
    | none => exact .inr (by rw [ok.hN]; exact idx_none q)
    | some i =>
      refine .inl (List.mem_map.mpr ⟨(y.1, i), ?_, rfl⟩)
      unfold Info.own
      refine List.mem_filterMap.mpr ⟨y, hy, ?_⟩
      have : (y.2 == NameKind.local || y.2 == NameKind.cell) = true := by
        rcases hk with e | e <;> rw [e] <;> rfl
      rw [if_pos this, q]; rfl
theorem ok_blk (ok : OkX p I X Wx) {sc : Scope} (h : I.blkOk sc = true) (s : Shared) (H : Hp) (C : Addr) (cl : List (Str × Addr)) (fp : List Addr) : OkX p (I.blk sc) (X.blk s H sc (compEnvC sc cl C X.env) fp) W0 where
  hK := ok.hK
  kt := ok.kt
  calm := ok.calm
  hN := ok.hN
  nd := ok.nd
  hu := ok.hu
  tk := takes0
  po := .never
  nm := by
    show (relabel sc X.env).names = _
    unfold Info.blk relabel
    simp only [Env.kindOf, ok.nm, ok.kd]
    apply List.map_congr_left
    intro q hq
    obtain ⟨n, k⟩ := q
    simp
  kd := by
    unfold Info.blkOk at h
    simp only [Bool.and_eq_true, beq_iff_eq] at h
    exact h.1
  hfn := rfl
  blt := ok.blt
  fns := ok.fns
  cns := ok.cns
  wt := fun h => by cases h
theorem ifs_snd (hc : Snd p c) {ifs : List Expr} {t : TV} (h : ifsC c I ifs = some t) (ok : OkX p I X W0) : PTs X ifs (tOf p relB W0 t) := by
  unfold ifsC at h
  split at h
  · cases h; exact pts_yes
  · exact pts_if (hc.t _ _ _ h _ _ ok)
  · cases h
theorem allIn_ok {vs us : List Nat} (h : allIn vs us = true) : ∀ j ∈ vs, j ∈ us := by
  unfold allIn at h
  rw [List.all_eq_true] at h
  intro j hj
  simpa using h j hj
theorem lc_snd (hc : Snd p c) {ex : Expr} {f : FV} (h : lcC c I ex = some f) (ok : OkX p I X Wx) : SFC p X Wx ex f := by
  unfold lcC at h
  split at h
  · rename_i elt tg it ifs n sc pos
    simp only [bind, Option.bind_eq_some_iff, ck_some, Bool.and_eq_true] at h
    obtain ⟨_, ⟨⟨h1, h2⟩, h3⟩, fi, hfi, q, hq, t, ht, fe, hfe, _, hin, h⟩ := h
    have h1 : n = 0 := by simpa using h1
    subst h1
    have bk := blk_ok ok h2
    have B : Blk p X sc tg q.1 q.2 ifs t [elt] [fe] := ⟨fun s H C cl fp => hc.g _ _ _ hq _ _ (ok_blk ok h2 s H C cl fp), fun s H C cl fp => ifs_snd hc ht (ok_blk ok h2 s H C cl fp), fun s H C cl fp => .cons (hc.e _ _ _ hfe _ _ (ok_blk ok h2 s H C cl fp)) .nil⟩
    have si := hc.i _ _ _ _ hfi _ _ ok
    split at h
    · simp only [Option.bind_eq_some_iff, ck_some, Bool.and_eq_true] at h
      obtain ⟨_, ⟨h4, h5⟩, i, hi, h⟩ := h
      cases h
      exact sfc_compN ok.hK ok.calm ok.ndX (ok.at_ hi) (ok.vis h5) (OkX.dbg h4).1 (OkX.dbg h4).2 si bk (allIn_ok hin) B (fold_ok h3)
    · cases h
      exact sfc_comp ok.hK ok.calm ok.ndX si bk (allIn_ok hin) B (fold_ok h3)
  · cases h
theorem dc_snd (hc : Snd p c) {ex : Expr} {f : EV} (h : dcC c I ex = some f) (ok : OkX p I X Wx) : SEC p X Wx ex f := by
  unfold dcC at h
  split at h
  · rename_i kx vx tg it ifs n sc pos
    simp only [bind, Option.bind_eq_some_iff, ck_some, Bool.and_eq_true] at h
    obtain ⟨_, ⟨⟨h1, h2⟩, h3⟩, fi, hfi, q, hq, t, ht, fk, hfk, fv, hfv, _, hin, h⟩ := h
    have h1 : n = 0 := by simpa using h1
    subst h1
    cases h
    have B : Blk p X sc tg q.1 q.2 ifs t [kx, vx] [fk, fv] := ⟨fun s H C cl fp => hc.g _ _ _ hq _ _ (ok_blk ok h2 s H C cl fp), fun s H C cl fp => ifs_snd hc ht (ok_blk ok h2 s H C cl fp), fun s H C cl fp => .cons (hc.e _ _ _ hfk _ _ (ok_blk ok h2 s H C cl fp)) (.cons (hc.e _ _ _ hfv _ _ (ok_blk ok h2 s H C cl fp)) .nil)⟩
    rw [ok.kt]
    exact sec_compD ok.hu0 ok.calm ok.ndX (hc.i _ _ _ _ hfi _ _ ok) (blk_ok ok h2) (allIn_ok hin) B (fold_ok h3)
  · cases h
end
end Pv

end

section
set_option linter.all false
set_option maxRecDepth 100000
set_option Elab.async false
set_option linter.all false
set_option maxRecDepth 100000
/-! Pv21: the readings of statements are sound; the reader. -/
namespace Pv
open PySem PySem.Spec PyProof.Rows L2

def isStar : Expr → Bool
  | .Starred _ _ => true
  | _ => false
/-- which names a parallel assignment stores the other way round (none: not told) -/
def swNames (I : Info) (line : Nat) (ts : List Expr) : List Str := ts.filterMap fun
  | .Name id pos => if I.kind id == some .local && pos.line == line then some id else none
  | _ => none
def swS (I : Info) (ts as : List Expr) : Option (Option (List Str)) :=
  if !(ts.length == 2 || ts.length == 3) || as.length != ts.length then some none
  else if as.any isStar then some none
  else
    let line := (ts.head?.map (·.pos.line)).getD 0
    let names := swNames I line ts
    if names.length != ts.length || names.eraseDups.length != names.length then some none
    else if as.all (foldedForSure 8) then some none
    else if as.all (constantsAlone 8) then none
    else some (some names)
def parC (c : Cmp) (I : Info) (ts as : List Expr) : Option SV := do
  let o ← swS I ts as
  let fs ← c.a I as
  ck (Nat.ble fs.length 1000)
  match o with
  | none => do
    ck (ts.all notStar && fs.length == ts.length)
    let q ← c.gs I ts
    some (asgTT q.2 fs)
  | some ns => match ts, as, fs, ns with
    | [.Name x _, .Name y _], [_, _], [fa, fb], [x', y'] => do
      ck (x == x' && y == y' && I.isLoc x && I.isLoc y)
      let i ← Info.idx I.N x
      let j ← Info.idx I.N y
      ck (!(i == j))
      some (asgTT [nameG i, nameG j] [fa, fb])
    | [.Name x _, .Name y _, .Name z _], [_, _, _], [fa, fb, fc], [x', y', z'] => do
      ck (x == x' && y == y' && z == z' && I.isLoc x && I.isLoc y && I.isLoc z)
      let i ← Info.idx I.N x
      let j ← Info.idx I.N y
      let l ← Info.idx I.N z
      ck (!(i == j) && !(i == l) && !(j == l))
      some (asgTT [nameG i, nameG j, nameG l] [fa, fb, fc])
    | _, _, _, _ => none
def setC (c : Cmp) (I : Info) (y : Str) (py : Pos) (a : Expr) : Option SV :=
  match a with
  | .ListComp _ _ sc vpos =>
    if swapB I sc y py vpos then do
      let i ← Info.idx I.N y
      let f ← c.lc I a
      some (asgS (nameG i) (fE I vpos f))
    else do
      ck (I.isLc y && (I.fn y || I.isLoc y))
      let i ← Info.idx I.N y
      let fa ← c.e I a
      some (asgS (nameG i) fa)
  | .DictComp _ _ _ sc vpos =>
    if swapB I sc y py vpos then do
      let i ← Info.idx I.N y
      let f ← c.dc I a
      some (asgS (nameG i) f)
    else do
      ck (I.isLc y && (I.fn y || I.isLoc y))
      let i ← Info.idx I.N y
      let fa ← c.e I a
      some (asgS (nameG i) fa)
  | _ => do
    ck (notComp a && I.isLc y && (I.fn y || I.isLoc y))
    let i ← Info.idx I.N y
    let fa ← c.e I a
    some (asgS (nameG i) fa)
def sC (c : Cmp) (I : Info) (st : Stmt) : Option SV :=
  match st with
  | .Pass _ => some nxS
  | .Break _ => some brkS
  | .Continue _ => some cntS
  | .Expr e _ => do
    ck (notComp e)
    let fa ← c.e I e
    some (dropS fa)
  | .Return (some a) _ => do
    let fa ← c.e I a
    some (retS fa)
  | .Return none _ => some retN
  | .Assign [.Name y py] a _ => setC c I y py a
  | .Assign [.Tuple ts _ _] (.Tuple as _ _) _ => parC c I ts as
  | .Assign [.Tuple ts k pt] a _ => do
    ck (notComp a)
    let q ← c.g I (.Tuple ts k pt)
    let fa ← c.e I a
    some (asgS q.2 fa)
  | .Assign [.Subscript o i pt] a _ => do
    ck (notComp a)
    let q ← c.g I (.Subscript o i pt)
    let fa ← c.e I a
    some (asgS q.2 fa)
  | .AugAssign (.Name x _) op a _ => do
    ck (I.isLc x && (I.fn x || I.isLoc x))
    let i ← Info.idx I.N x
    let g ← augO op
    let fa ← c.e I a
    some (augS i g fa)
  | .If t a b _ => do
    let ft ← c.t I t
    let fa ← c.ss I a
    let fb ← c.ss I b
    some (ifS ft fa fb)
  | .While t b [] _ => do
    let ft ← c.t I t
    let fb ← c.ss I b
    some (whileN ft fb 1000000)
  | .For tg it b [] _ => do
    ck (foldOk it)
    let fi ← c.i I tg it
    let q ← c.g I tg
    let fb ← c.ss I b
    match it with
    | .Name x _ => do
      ck (okName x && I.isVis x)
      let i ← Info.idx I.N x
      some (forN i fi q.2 fb)
    | _ => some (forS fi q.2 fb)
  | .Raise (some (.Call (.Name x _) [a] [] _)) none _ => do
    ck (!I.exs.isEmpty && x == "WrongText" && I.isGl x && notStar a)
    let fa ← c.e I a
    some (raiseS 0 fa)
  | .Try b [.ExceptHandler (some (.Name x _)) (some n) [.Return (some (.Tuple [.Constant (.str t) _ _, .Attribute (.Name n' _) at' _] _ _)) _] _] [] [] _ => do
    ck (!I.exs.isEmpty && x == "WrongText" && I.isGl x && I.isLoc n && okName n && n' == n && at' == "place")
    let i ← Info.idx I.N n
    let fb ← c.ss I b
    some (tryS fb 0 i t.cps.toList)
  | _ => none
def ssC (c : Cmp) (I : Info) (st : List Stmt) : Option SV :=
  match st with
  | [] => some nxS
  | [s] => c.s I s
  | s :: r => do
    let f ← c.s I s
    let g ← c.ss I r
    some (seqS f g)
section
variable {p : Pr} {I : Info} {X : Cx} {Wx : WX} {c : Cmp}
theorem ss_stuck {st : Stmt} : SS p X Wx st stuckS := ⟨fun _ _ _ => False, ⟨fun pins s σ H D _ h => h.elim⟩, fun F H m e S σ D r s h => h⟩
/-- the same, by an environment -/
def swNamesE (env : Env) (line : Nat) (ts : List Expr) : List Str := ts.filterMap fun
  | .Name id pos => if env.kindOf id == some .local && pos.line == line then some id else none
  | _ => none
theorem sw_shape {ts as : List Expr} {k k2 : Nat} {pt pt2 : Pos} {env : Env} : swappedStores [.Tuple ts k pt] (.Tuple as k2 pt2) env =
    (if (!(ts.length == 2 || ts.length == 3) || as.length != ts.length || env.blockKind != .function) = true then pure none
     else if as.any isStar = true then pure none
     else if ((swNamesE env ((ts.head?.map (·.pos.line)).getD 0) ts).length != ts.length || (swNamesE env ((ts.head?.map (·.pos.line)).getD 0) ts).eraseDups.length != (swNamesE env ((ts.head?.map (·.pos.line)).getD 0) ts).length) = true then pure none
     else if as.all (foldedForSure 8) = true then pure none
     else if as.all (constantsAlone 8) = true then do
       unsupported "assign.tuple-of-constant-expressions:order-of-the-stores"
       pure (some (swNamesE env ((ts.head?.map (·.pos.line)).getD 0) ts))
     else pure (some (swNamesE env ((ts.head?.map (·.pos.line)).getD 0) ts))) := rfl
theorem sw_ok (ok : OkX p I X Wx) {ts as : List Expr} {o : Option (List Str)} {k k2 : Nat} {pt pt2 : Pos} (h : swS I ts as = some o) : swappedStores [.Tuple ts k pt] (.Tuple as k2 pt2) X.env = pure o := by
  have hb : X.env.blockKind = .function := by unfold Env.blockKind; rw [ok.kd]; rfl
  have hn : ∀ line : Nat, swNamesE X.env line ts = swNames I line ts := fun line => by
    unfold swNames swNamesE Info.kind
    have : X.env.kindOf = fun n => I.names.lookup n := by
      funext n
      show X.env.scope.names.lookup n = _
      rw [ok.nm]
    rw [this]
  have e0 : (!(ts.length == 2 || ts.length == 3) || as.length != ts.length || X.env.blockKind != .function) = (!(ts.length == 2 || ts.length == 3) || as.length != ts.length) := by
    rw [hb]; simp
  rw [sw_shape, e0, hn]
  unfold swS at h
  simp only at h
  by_cases c1 : (!(ts.length == 2 || ts.length == 3) || as.length != ts.length) = true
  · rw [if_pos c1] at h ⊢
    cases h; rfl
  · rw [if_neg c1] at h ⊢
    by_cases c2 : as.any isStar = true
    · rw [if_pos c2] at h ⊢
      cases h; rfl
    · rw [if_neg c2] at h ⊢
      by_cases c3 : ((swNames I ((ts.head?.map (·.pos.line)).getD 0) ts).length != ts.length || (swNames I ((ts.head?.map (·.pos.line)).getD 0) ts).eraseDups.length != (swNames I ((ts.head?.map (·.pos.line)).getD 0) ts).length) = true
      · rw [if_pos c3] at h ⊢
        cases h; rfl
      · rw [if_neg c3] at h ⊢
        by_cases c4 : as.all (foldedForSure 8) = true
        · rw [if_pos c4] at h ⊢
          cases h; rfl
        · rw [if_neg c4] at h ⊢
          by_cases c5 : as.all (constantsAlone 8) = true
          · rw [if_pos c5] at h
            cases h
          · rw [if_neg c5] at h ⊢
            cases h; rfl
theorem par_snd (hc : Snd p c) {ts as : List Expr} {k k2 : Nat} {pt pt2 pos : Pos} {f : SV} (h : parC c I ts as = some f) (ok : OkX p I X Wx) : SS p X Wx (.Assign [.Tuple ts k pt] (.Tuple as k2 pt2) pos) f := by
  unfold parC at h
  simp only [bind, Option.bind_eq_some_iff, ck_some] at h
  obtain ⟨o, ho, fs, hfs, _, hl, h⟩ := h
  have hw := sw_ok ok ho (k := k) (k2 := k2) (pt := pt) (pt2 := pt2)
  have hs : swapsWithSole [.Tuple ts k pt] (.Tuple as k2 pt2) pos.line X.env = pure false := rfl
  have sa := hc.a _ _ _ hfs _ _ ok
  cases o with
  | none =>
    simp only [Option.bind_eq_some_iff, ck_some, Bool.and_eq_true] at h
    obtain ⟨_, ⟨hst, hfl⟩, q, hq, h⟩ := h
    cases h
    exact ss_tt ok.calm (Nat.le_of_ble_eq_true hl) (eq_of_beq hfl) hs hw (asg_one rfl) asg_len (asg_nostar hst) (hc.gs _ _ _ hq _ _ ok) sa
  | some ns =>
    simp only at h
    split at h
    · simp only [Option.bind_eq_some_iff, ck_some, Bool.and_eq_true, Bool.not_eq_true', beq_eq_false_iff_ne] at h
      obtain ⟨_, ⟨⟨⟨h1, h2⟩, h3⟩, h4⟩, i, hi, j, hj, _, hij, h⟩ := h
      cases h
      have h1 := eq_of_beq h1
      have h2 := eq_of_beq h2
      subst h1 h2
      exact ss_par ok.calm ok.ndX (ok.at_ hi) (ok.at_ hj) hij (ok.lcl h3) (ok.lcl h4) hw hs sa
    · simp only [Option.bind_eq_some_iff, ck_some, Bool.and_eq_true, Bool.not_eq_true', beq_eq_false_iff_ne] at h
      obtain ⟨_, ⟨⟨⟨⟨⟨h1, h2⟩, h3⟩, h4⟩, h5⟩, h6⟩, i, hi, j, hj, l, hl', _, ⟨⟨hij, hil⟩, hjl⟩, h⟩ := h
      cases h
      have h1 := eq_of_beq h1
      have h2 := eq_of_beq h2
      have h3 := eq_of_beq h3
      subst h1 h2 h3
      exact ss_par3 ok.calm ok.ndX (ok.at_ hi) (ok.at_ hj) (ok.at_ hl') hij hil hjl (ok.lcl h4) (ok.lcl h5) (ok.lcl h6) hw hs sa
    · cases h
theorem set_gen (hc : Snd p c) {y : Str} {py pos : Pos} {a : Expr} {i : Nat} {fa : EV} (hs : swapsWith a (some (.Name y py)) pos.line X.env = pure false) (h1 : I.isLc y = true) (h2 : (I.fn y || I.isLoc y) = true) (hi : Info.idx I.N y = some i) (ha : c.e I a = some fa) (ok : OkX p I X Wx) :
    SS p X Wx (.Assign [.Name y py] a pos) (asgS (nameG i) fa) := ss_set ok.ndX (ok.at_ hi) (ok.loc h1) hs (ok.hfl h2) (hc.e _ _ _ ha _ _ ok)
theorem swapB_eq (ok : OkX p I X Wx) {sc : Scope} {y : Str} {py : Pos} {l : Nat} {v : Expr} (hv : (∃ e gs p, v = .ListComp e gs sc p) ∨ ∃ k e gs p, v = .DictComp k e gs sc p) : swapsWith v (some (.Name y py)) l X.env = pure (swapB I sc y py v.pos) := by
  rw [swap_at hv ok.kd, ok.nm]
  rfl
theorem set_snd (hc : Snd p c) {y : Str} {py pos : Pos} {a : Expr} {f : SV} (h : setC c I y py a = some f) (ok : OkX p I X Wx) : SS p X Wx (.Assign [.Name y py] a pos) f := by
  unfold setC at h
  split at h
  · rename_i e gs sc vpos
    have hw := swapB_eq ok (sc := sc) (v := .ListComp e gs sc vpos) (y := y) (py := py) (l := pos.line) (.inl ⟨e, gs, vpos, rfl⟩)
    split at h
    · rename_i hb
      simp only [bind, Option.bind_eq_some_iff] at h
      obtain ⟨i, hi, f0, hf, h⟩ := h
      cases h
      have hb' : swapB I sc y py (Expr.ListComp e gs sc vpos).pos = true := hb
      rw [hb'] at hw
      have hl : I.isLoc y = true := by
        unfold swapB at hb
        simp only [Bool.and_eq_true] at hb
        exact hb.1
      have q := ss_setC (ok.at_ hi) (ok.lcl hl) hw (hc.lc _ _ _ hf _ _ ok)
      unfold fE
      split
      · exact q.2
      · exact q.1
    · rename_i hb
      simp only [bind, Option.bind_eq_some_iff, ck_some, Bool.and_eq_true] at h
      obtain ⟨_, ⟨h1, h2⟩, i, hi, fa, ha, h⟩ := h
      cases h
      have hb' : swapB I sc y py (Expr.ListComp e gs sc vpos).pos = false := Bool.not_eq_true _ ▸ hb
      rw [hb'] at hw
      exact set_gen hc hw h1 h2 hi ha ok
  · rename_i k e gs sc vpos
    have hw := swapB_eq ok (sc := sc) (v := .DictComp k e gs sc vpos) (y := y) (py := py) (l := pos.line) (.inr ⟨k, e, gs, vpos, rfl⟩)
    split at h
    · rename_i hb
      simp only [bind, Option.bind_eq_some_iff] at h
      obtain ⟨i, hi, f0, hf, h⟩ := h
      cases h
      have hb' : swapB I sc y py (Expr.DictComp k e gs sc vpos).pos = true := hb
      rw [hb'] at hw
      have hl : I.isLoc y = true := by
        unfold swapB at hb
        simp only [Bool.and_eq_true] at hb
        exact hb.1
      exact ss_setE (ok.at_ hi) (ok.lcl hl) hw (hc.dc _ _ _ hf _ _ ok)
    · rename_i hb
      simp only [bind, Option.bind_eq_some_iff, ck_some, Bool.and_eq_true] at h
      obtain ⟨_, ⟨h1, h2⟩, i, hi, fa, ha, h⟩ := h
      cases h
      have hb' : swapB I sc y py (Expr.DictComp k e gs sc vpos).pos = false := Bool.not_eq_true _ ▸ hb
      rw [hb'] at hw
      exact set_gen hc hw h1 h2 hi ha ok
  · simp only [bind, Option.bind_eq_some_iff, ck_some, Bool.and_eq_true] at h
    obtain ⟨_, ⟨⟨h0, h1⟩, h2⟩, i, hi, fa, ha, h⟩ := h
    cases h
    exact set_gen hc (swap_no h0) h1 h2 hi ha ok
theorem OkX.tr (ok : OkX p I X Wx) {W' : WX} {pn : List (Addr × Obj)} {xe : Value → Shared → Prop} (tk : Takes (X.tr pn xe) W') (po : PassesOwn (model X.prog X.w) X.A X.env xe) : OkX p I (X.tr pn xe) W' where
  hK := ok.hK
  kt := ok.kt
  calm := ok.calm
  hN := ok.hN
  nd := ok.nd
  hu := ok.hu
  tk := tk
  po := po
  nm := ok.nm
  kd := ok.kd
  hfn := ok.hfn
  blt := ok.blt
  fns := ok.fns
  cns := ok.cns
  wt := fun h => let w := ok.wt h; ⟨w.xr, w.cl, w.stk, w.frm, w.dep⟩
theorem s_snd (hc : Snd p c) {st : Stmt} {f : SV} (h : sC c I st = some f) (ok : OkX p I X Wx) : SS p X Wx st f := by
  unfold sC at h
  split at h
  · cases h; exact ss_pass
  · cases h; exact ss_break
  · cases h; exact ss_continue
  · simp only [bind, Option.bind_eq_some_iff, ck_some] at h
    obtain ⟨_, h1, fa, ha, h⟩ := h
    cases h
    exact ss_expr (swap_no h1) (hc.e _ _ _ ha _ _ ok)
  · simp only [bind, Option.bind_eq_some_iff] at h
    obtain ⟨fa, ha, h⟩ := h
    cases h
    exact ss_ret (hc.e _ _ _ ha _ _ ok)
  · cases h; exact ss_retN
  · exact set_snd hc h ok
  · exact par_snd hc h ok
  · rename_i ts k pt a pos hne
    simp only [bind, Option.bind_eq_some_iff, ck_some] at h
    obtain ⟨_, h1, q, hq, fa, ha, h⟩ := h
    cases h
    have hw : swappedStores [.Tuple ts k pt] a X.env = pure none := by
      unfold swappedStores
      cases a <;> first | rfl | exact absurd rfl (hne _ _ _)
    exact ss_asg (swapW_tup h1) hw (asg_one rfl) (hc.g _ _ _ hq _ _ ok) (hc.e _ _ _ ha _ _ ok)
  · simp only [bind, Option.bind_eq_some_iff, ck_some] at h
    obtain ⟨_, h1, q, hq, fa, ha, h⟩ := h
    cases h
    exact ss_asg (swapW_tup h1) rfl (asg_one rfl) (hc.g _ _ _ hq _ _ ok) (hc.e _ _ _ ha _ _ ok)
  · simp only [bind, Option.bind_eq_some_iff, ck_some, Bool.and_eq_true] at h
    obtain ⟨_, ⟨h1, h2⟩, i, hi, g, hg, fa, ha, h⟩ := h
    cases h
    obtain ⟨r, ho, hf⟩ := aug_ok hg (X := X) (p := p)
    exact ss_aug ok.ndX (ok.at_ hi) (ok.loc h1) (ok.hfl h2) ho hf (hc.e _ _ _ ha _ _ ok)
  · simp only [bind, Option.bind_eq_some_iff] at h
    obtain ⟨ft, ht, fa, ha, fb, hb, h⟩ := h
    cases h
    exact ss_if (hc.t _ _ _ ht _ _ ok) (hc.ss _ _ _ ha _ _ ok) (hc.ss _ _ _ hb _ _ ok)
  · simp only [bind, Option.bind_eq_some_iff] at h
    obtain ⟨ft, ht, fb, hb, h⟩ := h
    cases h
    exact ss_while _ ok.po (hc.t _ _ _ ht _ _ ok) (hc.ss _ _ _ hb _ _ ok)
  · simp only [bind, Option.bind_eq_some_iff, ck_some] at h
    obtain ⟨_, h1, fi, hfi, q, hq, fb, hb, h⟩ := h
    split at h
    · simp only [Option.bind_eq_some_iff, ck_some, Bool.and_eq_true] at h
      obtain ⟨_, ⟨h4, h5⟩, i, hi, h⟩ := h
      cases h
      exact ss_forN ok.hK ok.po ok.calm (ok.at_ hi) (ok.vis h5) (OkX.dbg h4).1 (OkX.dbg h4).2 (fold_ok h1) (hc.i _ _ _ _ hfi _ _ ok) (hc.g _ _ _ hq _ _ ok) (hc.ss _ _ _ hb _ _ ok) (hc.g _ _ _ hq _ _ ok.wx0) (hc.ss _ _ _ hb _ _ ok.wx0)
    · cases h
      exact ss_for ok.hK ok.po ok.calm (fold_ok h1) (hc.i _ _ _ _ hfi _ _ ok) (hc.g _ _ _ hq _ _ ok) (hc.ss _ _ _ hb _ _ ok)
  · simp only [bind, Option.bind_eq_some_iff, ck_some, Bool.and_eq_true, Bool.not_eq_true'] at h
    obtain ⟨_, ⟨⟨⟨h1, h2⟩, h3⟩, h4⟩, fa, ha, h⟩ := h
    cases h
    have h2 := eq_of_beq h2
    subst h2
    exact ss_raise ok.calm (ok.wt h1) ok.tk (ok.gl h3) h4 (hc.e _ _ _ ha _ _ ok)
  · simp only [bind, Option.bind_eq_some_iff, ck_some, Bool.and_eq_true, Bool.not_eq_true'] at h
    obtain ⟨_, ⟨⟨⟨⟨⟨⟨h1, h2⟩, h3⟩, h4⟩, h5⟩, h6⟩, h7⟩, i, hi, fb, hb, h⟩ := h
    cases h
    have h2 := eq_of_beq h2
    have h6 := eq_of_beq h6
    have h7 := eq_of_beq h7
    subst h2 h6 h7
    exact ss_try (ok.wt h1) ok.ndX (ok.at_ hi) (ok.lcl h4) (ok.gl h3) h5 fun W' pn xe tk po => hc.ss _ _ _ hb _ _ (ok.tr tk po)
  · cases h
theorem seq_snd (hc : Snd p c) {st : List Stmt} {f : SV} (h : ssC c I st = some f) (ok : OkX p I X Wx) : SSs p X Wx st f := by
  unfold ssC at h
  split at h
  · cases h; exact sss_nil
  · exact sss_one (hc.s _ _ _ h _ _ ok)
  · simp only [bind, Option.bind_eq_some_iff] at h
    obtain ⟨f, hf, g, hg, h⟩ := h
    cases h
    exact sss_cons (hc.s _ _ _ hf _ _ ok) (hc.ss _ _ _ hg _ _ ok)
end
/-! ### the reader -/
def stepC (c : Cmp) : Cmp where
  e I ex := eC c I ex
  f I ex := fC c I ex
  lc I ex := lcC c I ex
  dc I ex := dcC c I ex
  cp I ex := cpC c I ex
  t I ex := tC' c I ex
  w I ex := wC c I ex
  a I es := aC c I es
  b I o := bC c I o
  g I ex := gC c I ex
  gs I es := gsC c I es
  i I tg ex := iC c I tg ex
  s I st := sC c I st
  ss I st := ssC c I st
def noC : Cmp := ⟨fun _ _ => none, fun _ _ => none, fun _ _ => none, fun _ _ => none, fun _ _ => none, fun _ _ => none, fun _ _ => none, fun _ _ => none, fun _ _ => none, fun _ _ => none, fun _ _ => none, fun _ _ _ => none, fun _ _ => none, fun _ _ => none⟩
def reader : Nat → Cmp
  | 0 => noC
  | n + 1 => stepC (reader n)
theorem reader_snd (p : Pr) : ∀ n, Snd p (reader n)
  | 0 => by constructor <;> (intros; rename_i h _ _ _; cases h)
  | n + 1 =>
    have ih := reader_snd p n
    ⟨fun _ _ _ h _ _ ok => e_snd ih h ok, fun _ _ _ h _ _ ok => f_snd ih h ok, fun _ _ _ h _ _ ok => lc_snd ih h ok, fun _ _ _ h _ _ ok => dc_snd ih h ok, fun _ _ _ h _ _ ok => cp_snd ih h ok, fun _ _ _ h _ _ ok => t_snd ih h ok, fun _ _ _ h _ _ ok => w_snd ih h ok,
     fun _ _ _ h _ _ ok => a_snd ih h ok, fun _ _ _ h _ _ ok => b_snd ih h ok, fun _ _ _ h _ _ ok => g_snd ih h ok, fun _ _ _ h _ _ ok => gs_snd ih h ok, fun _ _ _ _ h _ _ ok => i_snd ih h ok, fun _ _ _ h _ _ ok => s_snd ih h ok, fun _ _ _ h _ _ ok => seq_snd ih h ok⟩
end Pv

end

section
set_option linter.all false
set_option maxRecDepth 100000
set_option Elab.async false
set_option linter.all false
set_option maxRecDepth 100000
/-! Pv22: defs by their readings; constants of the module; the law's end. -/
namespace Pv
open PySem PySem.Spec PyProof.Rows L2
section
variable {p : Pr} {P : Program} {w : World} {mg : Str → Option Value} {base : Heap}
/-- a def that may be called: at its level -/
def FnY (p : Pr) (P : Program) (w : World) (mg : Str → Option Value) (base : Heap) (k : Nat) (g : FnE) : Prop := ∃ (a : Addr) (fd : FuncData) (ps : List Str), ps.length = g.np ∧ mg g.name = some (.ref a) ∧ PySem.W.keepIn p.K (.ref a) = true ∧ Binds p.K fd ps [] ∧
  match g.sem with
  | .inl h => FnOk P w p.K mg base (L2.CX P w) k a fd ps (spP p ps.length h)
  | .inr h => FnOk P w p.K mg base (L2.CX P w) k a fd ps (spI p ps.length h)
theorem FnY.mono {j k : Nat} {g : FnE} (h : FnY p P w mg base j g) (hl : j ≤ k) : FnY p P w mg base k g := by
  obtain ⟨a, fd, ps, h1, h2, h3, h4, h5⟩ := h
  refine ⟨a, fd, ps, h1, h2, h3, h4, ?_⟩
  cases q : g.sem with
  | inl f => rw [q] at h5; exact h5.mono hl
  | inr f => rw [q] at h5; exact h5.mono hl
/-- the module's names, as they stand -/
structure Tp (p : Pr) (P : Program) (mg : Str → Option Value) (cons : List (Str × D)) (we : Bool) : Prop where
  blt : ∀ x, bnames.contains x = true → mg x = none
  cns : ∀ x d, cons.lookup x = some d → ∃ v u, mg x = some u ∧ RelV v u ∧ ∀ H Z, RepD p.kt p.K H Z d v
  wt : we = false → p.XR = xrWt p.K ∧ ∃ C fI cc cda, WtX.WtTxt P p.K mg C fI cc cda ∧ PySem.W.nsIn p.K mainGlobals "WrongText" = some (some (.ref C))
theorem okx_of {I : Info} {qual : Str} {scope : Scope} {f : Addr} {cdv : Value} {A : Around} {outer : List Env} {s : Shared} {H : Hp} {E : XK} {k : Nat} (T : Tp p P mg I.cons I.exs.isEmpty) (hr : Room k (A.deeper (envOfC qual scope s.heap.objs.size f cdv)))
    (nd : I.N.Nodup) (hk : scope.kind = .function) (hkt : I.kt = p.kt) (hnm : scope.names = I.names) (hfn : I.fn = fun _ => true) (hf : ∀ g ∈ I.fns, FnY p P w mg base k g) :
    OkX p I (cxOf (L2.CX P w) P w p.K mg base I.N qual scope f cdv A outer s H E) (fun cls d _ H => E cls d H) where
  hK := rfl
  kt := hkt
  calm := rfl
  hN := rfl
  nd := nd
  hu := by
    show (A.deeper (envOfC qual scope s.heap.objs.size f cdv)).units + 64 < cLine
    have := hr.un
    omega
  tk := takes_of rfl rfl rfl rfl
  po := passes_of rfl
  nm := hnm
  kd := hk
  hfn := hfn.symm
  blt := T.blt
  fns := fun g hg => by
    obtain ⟨a, fd, ps, h1, h2, h3, h4, h5⟩ := hf g hg
    exact ⟨k, a, fd, ps, h1, hr, h2, h3, h4, h5⟩
  cns := T.cns
  wt := fun h => ⟨(T.wt h).1, (T.wt h).2, rfl, rfl, by
    show (A.deeper (envOfC qual scope s.heap.objs.size f cdv)).depth + 2 < recursionLimit
    have := hr.dp
    omega⟩
variable {x qual : Str} {params : Arguments} {body : List Stmt} {scope : Scope} {a : Addr} {fd : FuncData} {ps : List Str} {k n : Nat} {b : SV} {I : Info}
/-- what is asked of a def's text -/
structure DefT (I : Info) (ps : List Str) (scope : Scope) (params : Arguments) (body : List Stmt) (x qual : Str) (n : Nat) (b : SV) : Prop where
  sc : FnScope I.N ps scope
  nm : scope.names = I.names
  fn : I.fn = fun _ => true
  rd : (reader n).ss I body = some b
  bd : ∀ (kV doc pm : Value) (an : Option Addr) (cdv ct : Value) (us : List Value), us.length = ps.length → bindArgs (PySem.W.fnOf x qual params body scope .none kV doc pm an cdv ct) ⟨us, []⟩ = pure (ps.zip us)
theorem le_of {N ps : List Str} (h : FnScope N ps scope) : ps.length ≤ N.length := by have := congrArg List.length h.pre; rw [List.length_take] at this; omega
theorem fn_y (F : FunD p.K x qual params body scope [] [] a fd) (hm : mg x = some (.ref a)) (Tx : DefT I ps scope params body x qual n b) (T : Tp p P mg I.cons I.exs.isEmpty) (hkt : I.kt = p.kt) (hf : ∀ g ∈ I.fns, FnY p P w mg base k g) :
    FnY p P w mg base (k + 1) ⟨x, ps.length, .inl (runP ps.length I.N.length b)⟩ ∧ FnY p P w mg base (k + 1) ⟨x, ps.length, .inr (runI ps.length I.N.length b)⟩ := by
  have hb := FunD.bindsN F Tx.bd
  have body_ok : ∀ (cdv : Value) (A : Around) (outer : List Env) (s : Shared) (H : Hp) (E : XK), Room k (A.deeper (envOfC qual scope s.heap.objs.size a cdv)) →
      SSs p (cxOf (L2.CX P w) P w p.K mg base I.N qual scope a cdv A outer s H E) (fun cls d _ H => E cls d H) body b := fun cdv A outer s H E hr =>
    (reader_snd p n).ss _ _ _ Tx.rd _ _ (okx_of T hr Tx.sc.nd Tx.sc.kind hkt Tx.nm Tx.fn hf)
  exact ⟨⟨a, fd, ps, rfl, hm, F.kp, hb, fn_pure F Tx.sc (le_of Tx.sc) body_ok⟩, ⟨a, fd, ps, rfl, hm, F.kp, hb, fn_imp F Tx.sc (le_of Tx.sc) body_ok⟩⟩

/-! ### constants -/
mutual
def repB (kt : List (List D)) (K : PySem.W.Frag) : D → Value → Bool
  | .non, .none => true
  | .bl b, .bool c => b == c
  | .int i, .int j _ => i == j
  | .str x, .str s _ => s == txt x
  | .tup ds, .ref q => (match K.lookup q with
    | some ⟨.type c, _, .seq its _, _⟩ => decide (c = "tuple") && (decide (its.size ≤ sizeLine) && ((kt.any fun ys => eqDs ds ys) && repBs kt K ds its.toList))
    | _ => false)
  | _, _ => false
def repBs (kt : List (List D)) (K : PySem.W.Frag) : List D → List Value → Bool
  | [], [] => true
  | d :: ds, u :: us => repB kt K d u && repBs kt K ds us
  | _, _ => false
end
mutual
theorem repB_ok {kt : List (List D)} {K : PySem.W.Frag} : ∀ (d : D) (u : Value), repB kt K d u = true → ∃ v, RelV v u ∧ ∀ H Z, RepD kt K H Z d v
  | .non, u, h => by
    cases u <;> first | exact ⟨.non, rfl, fun _ _ => .non⟩ | (simp [repB] at h; done)
  | .bl b, u, h => by
    cases u <;> first | (simp [repB] at h; done) | skip
    simp only [repB, beq_iff_eq] at h
    subst h
    exact ⟨.bl b, rfl, fun _ _ => .bl b⟩
  | .int i, u, h => by
    cases u <;> first | (simp [repB] at h; done) | skip
    simp only [repB, beq_iff_eq] at h
    subst h
    exact ⟨.int i, ⟨_, rfl⟩, fun _ _ => .int i⟩
  | .str x, u, h => by
    cases u <;> first | (simp [repB] at h; done) | skip
    simp only [repB, beq_iff_eq] at h
    subst h
    exact ⟨.str (txt x), ⟨_, rfl⟩, fun _ _ => .str x⟩
  | .tup ds, u, h => by
    cases u <;> first | (simp [repB] at h; done) | skip
    rename_i q
    unfold repB at h
    split at h
    · rename_i c od its n sl hl
      simp only [Bool.and_eq_true, decide_eq_true_eq] at h
      obtain ⟨h1, h2, h3, h4⟩ := h
      obtain ⟨vs, hv, hr⟩ := repBs_ok ds its.toList h4
      exact ⟨.ref q, rfl, fun H Z => .tupK ⟨_, its, n, hl, by rw [h1], rfl, h2, hv⟩ h3 (hr H Z)⟩
    · cases h
  | .lst ds, u, h => by cases u <;> (simp [repB] at h; done)
  | .scr ds, u, h => by cases u <;> (simp [repB] at h; done)
  | .dct _ _, u, h => by cases u <;> (simp [repB] at h; done)
theorem repBs_ok {kt : List (List D)} {K : PySem.W.Frag} : ∀ (ds : List D) (us : List Value), repBs kt K ds us = true → ∃ vs, Vals vs us ∧ ∀ H Z, RepDs kt K H Z ds vs
  | [], us, h => by
    cases us with
    | nil => exact ⟨[], .nil, fun _ _ => .nil⟩
    | cons => simp [repBs] at h
  | d :: ds, us, h => by
    cases us with
    | nil => simp [repBs] at h
    | cons u us =>
      simp only [repBs, Bool.and_eq_true] at h
      obtain ⟨v, h1, h2⟩ := repB_ok d u h.1
      obtain ⟨vs, h3, h4⟩ := repBs_ok ds us h.2
      exact ⟨v :: vs, .cons h1 h3, fun H Z => .cons (h2 H Z) (h4 H Z)⟩
end
/-- the constants, held against the written part -/
def consB (kt : List (List D)) (cons : List (Str × D)) (K : PySem.W.Frag) : Bool := cons.all fun q => match PySem.W.nsIn K mainGlobals q.1 with
  | some (some u) => repB kt K q.2 u
  | _ => false
def freesB (K : PySem.W.Frag) : Bool := bnames.all fun x => decide (PySem.W.nsIn K mainGlobals x = some none)
theorem lookup_mem : ∀ {l : List (Str × D)} {x : Str} {d : D}, l.lookup x = some d → (x, d) ∈ l
  | (y, e) :: r, x, d, h => by
    rw [List.lookup_cons] at h
    cases q : x == y with
    | true =>
      rw [q] at h
      cases h
      rw [eq_of_beq q]
      exact List.mem_cons_self
    | false =>
      rw [q] at h
      exact List.mem_cons_of_mem _ (lookup_mem h)
theorem tp_of {h : Heap} {cons : List (Str × D)} (X : p.K.In h) (G : h.Ns mainGlobals mg) (hc : consB p.kt cons p.K = true) (hf : freesB p.K = true) {we : Bool} (hw : we = false → p.XR = xrWt p.K ∧ ∃ C fI cc cda, WtX.WtTxt P p.K mg C fI cc cda ∧ PySem.W.nsIn p.K mainGlobals "WrongText" = some (some (.ref C))) : Tp p P mg cons we where
  wt := hw
  blt := fun x hx => by
    unfold freesB at hf
    rw [List.all_eq_true] at hf
    exact PySem.W.mg_none_of X G (of_decide_eq_true (hf x (by simpa using hx)))
  cns := fun x d hl => by
    unfold consB at hc
    rw [List.all_eq_true] at hc
    have q := hc _ (lookup_mem hl)
    simp only at q
    split at q
    · rename_i u hu
      obtain ⟨v, h1, h2⟩ := repB_ok d u q
      exact ⟨v, u, PySem.W.mg_of X G hu, h1, h2⟩
    · cases q
/-- the law's promise is what the walk asks -/
theorem law_sp {f : List D → Pv.P} {H : Hp} {b : Addr} {ns : List Int} (hO : Only H) (hS : SqL p.K H b (ns.map V.int)) (hf : f [.scr (ns.map .int)] = Pv.P.ok (.bl true)) : spP p 1 f [.ref b] H (fun v _ => v = .bl true) (fun _ _ _ => False) := by
  refine ⟨rfl, [], [.scr (ns.map .int)], ⟨rfl, .nil, fun _ h => (by cases h), fun _ h => (by cases h), fun i q o hi _ => by simp at hi⟩, .cons ?_ .nil, ?_⟩
  · rcases hS with h | h
    · rcases h with h | ⟨o, h⟩
      · rcases hO b with z | ⟨o, xs, z⟩
        · rw [z] at h; cases h
        · rw [z] at h; cases h
      · exact .scr h (by simp)
    · exact .scrK h
  · rw [hf]
    intro v H' _ r
    cases r
    rfl
end
end Pv

end

section
set_option linter.all false
set_option maxRecDepth 100000
set_option Elab.async false
set_option linter.all false
set_option maxRecDepth 100000
set_option maxHeartbeats 1000000
/-! Pv25: WrongText's text, held against the written part. -/
namespace Pv
open PySem PySem.W PySem.Calls PyProof.Rows PySem.HandSPX
open PySem.WtX
def initPat : FuncBody → Option (Str × Nat × (Nat → Pos))
  | .stmts [.Expr (.Call (.Attribute (.Call (.Name s0 q0) [] [] q1) a0 q2) [.BinOp (.Constant (.str msg) k q3) .Add (.Call (.Name s1 q4) [.Name s2 q5] [] q6) q7] [] q8) q9, .Assign [.Attribute (.Name s3 q10) a1 q11] (.Name s4 q12) q13] =>
    if decide (s0 = "super") && (decide (a0 = "__init__") && (decide (s1 = "str") && (decide (s2 = "place") && (decide (s3 = "self") && (decide (a1 = "place") && decide (s4 = "place")))))) then
      some (msg, k, fun n => [q0, q1, q2, q3, q4, q5, q6, q7, q8, q9, q10, q11, q12, q13].getD n q0) else none
  | _ => none
theorem initPat_ok {b : FuncBody} {msg : Str} {k : Nat} {q : Nat → Pos} (h : initPat b = some (msg, k, q)) : b = .stmts (iB msg k q) := by
  unfold initPat at h
  split at h
  · split at h
    · rename_i s0 q0 q1 a0 q2 msg' k' q3 s1 q4 s2 q5 q6 q7 q8 q9 s3 q10 a1 q11 s4 q12 q13 hc
      simp only [Bool.and_eq_true, decide_eq_true_eq] at hc
      obtain ⟨h1, h2, h3, h4, h5, h6, h7⟩ := hc
      simp only [Option.some.injEq, Prod.mk.injEq] at h
      obtain ⟨e1, e2, e3⟩ := h
      subst e1 e2 e3 h1 h2 h3 h4 h5 h6 h7
      rfl
    · cases h
  · cases h
def argsPat : Arguments → Option (Pos × Pos)
  | ⟨[], [⟨a, none, p1⟩, ⟨b, none, p2⟩], none, [], [], none, []⟩ => if decide (a = "self") && decide (b = "place") then some (p1, p2) else none
  | _ => none
theorem argsPat_ok {a : Arguments} {p1 p2 : Pos} (h : argsPat a = some (p1, p2)) : a = iA p1 p2 := by
  unfold argsPat at h
  split at h
  · split at h
    · rename_i hc
      simp only [Bool.and_eq_true, decide_eq_true_eq] at hc
      obtain ⟨h1, h2⟩ := hc
      simp only [Option.some.injEq, Prod.mk.injEq] at h
      obtain ⟨e1, e2⟩ := h
      subst e1 e2 h1 h2
      rfl
    · cases h
  · cases h
/-- the function __init__: its code's address, its closure's cell -/
def fnPat (P : Program) (K : Frag) (C : Addr) : Data → Option (Addr × Addr)
  | .func ⟨nm, qn, pr, b, sc, g, [(cn, cc)], .none, .none, doc, pm, an, .ref cda, ct, bl⟩ =>
    (match initPat b, argsPat pr, K.lookup cc, K.lookup cda with
      | some (msg, k, q), some _, some ⟨_, _, .cell (some (.ref C')), _⟩, some ⟨_, _, .fields vs, _⟩ =>
        if decide (nm = "__init__") && (decide (qn = "WrongText.__init__") && (decide (sc = iS) && (decide (g = mainGlobals) && (decide (bl = builtinsNs) && (decide (cn = "__class__") && (decide (msg.length ≤ 1000) && (((q 2).endLine == (q 8).line) && (codeIn K (.ref cda) "WrongText.__init__" && (decide (C' = C) &&
          (match (vs[2]? : Option Value) with | some (.str file _) => (P.main.file : Str) == file | _ => false)))))))))) then some (cda, cc) else none
      | _, _, _, _ => none)
  | _ => none
def clsPat (C : Addr) : Obj → Bool
  | ⟨.type t, _, .cls ⟨_, _, .ref C' :: bm, _, _, hd, _, _, _, _, dl⟩, ⟨[_, _, _, _, some (.builtin n), _]⟩⟩ => decide (t = "type") && (decide (C' = C) && (decide (n = "ValueError.__new__") && (hd && (!dl && refsVE bm))))
  | _ => false
def cAt (K : Frag) : Addr := He.ga K "WrongText"
def iAt (K : Frag) : Addr := He.ma K (cAt K) "__init__"
def wtB (P : Program) (K : Frag) : Bool :=
  decide (nsIn K mainGlobals "WrongText" = some (some (.ref (cAt K)))) && (
  (match K.lookup (cAt K) with | some o => clsPat (cAt K) o | none => false) && (
  decide (findIn K (.ref (cAt K)) "__setattr__" = some (some (.builtin "object.__setattr__"))) && (
  decide (findIn K (.ref (cAt K)) "__getattribute__" = some (some (.builtin "BaseException.__getattribute__"))) && (
  decide (findIn K (.ref (cAt K)) "__getattr__" = some none) && (
  decide (findIn K (.ref (cAt K)) "place" = some none) && (
  decide (findIn K (.ref (cAt K)) "__init__" = some (some (.ref (iAt K)))) && (
  decide (typeIn K (.ref (iAt K)) = some (.type "function")) && (
  keepIn K (.ref (cAt K)) && (
  decide (subIn K (.ref (cAt K)) (.type "BaseException") = some true) && (
  decide (subIn K (.ref (cAt K)) (.type "ValueError") = some true) && (
  decide (typeIn K (.ref (cAt K)) = some (.type "type")) && (
  hasDictIn K (cAt K) && (
  decide (exmOne K (.ref (cAt K)) (.ref (cAt K)) = some true) && (
  decide (ks_superIn K (cAt K) (cAt K) "__init__" = some (some (.builtin "ValueError.__init__"))) && (
  decide (nsIn K cStatics "thirdparty.any" = some none) && (
  excInitIn K (cAt K) [.type "ValueError", .type "Exception", .type "BaseException", .type "object"] "ValueError.__new__" && (
  decide (mroIn K (cAt K) (.ref (cAt K)) = some true) && (
  decide (nsIn K mainGlobals "super" = some none) && (
  decide (nsIn K mainGlobals "str" = some none) && (
  (match K.lookup (iAt K) with | some o => (fnPat P K (cAt K) o.data).isSome | none => false) &&
  !(P.main.scope.names.lookup ("super" : Str)).isSome))))))))))))))))))))
theorem wtB_ok {P : Program} {K : Frag} {h : Heap} {mg : Str → Option Value} (X : K.In h) (G : h.Ns mainGlobals mg) (hw : wtB P K = true) : ∃ C fI cc cda, WtTxt P K mg C fI cc cda ∧ nsIn K mainGlobals "WrongText" = some (some (.ref C)) := by
  unfold wtB at hw
  generalize cAt K = C at hw
  generalize iAt K = fI at hw
  simp only [Bool.and_eq_true, decide_eq_true_eq, Bool.not_eq_true'] at hw
  obtain ⟨h1, h2, h3, h4, h5, h6, h7, h8, h9, h10, h11, h12, h13, h14, h15, h16, h17, h18, h19, h20, h21, h22⟩ := hw
  split at h21
  · rename_i o ho
    cases hf : fnPat P K C o.data with
    | none => rw [hf] at h21; cases h21
    | some z =>
      obtain ⟨cda, cc⟩ := z
      clear h21
      obtain ⟨ocl, od, dt, osl⟩ := o
      simp only at hf
      unfold fnPat at hf
      split at hf
      · rename_i nm qn pr b sc g cn cc' doc pm an cda' ct bl
        split at hf
        · rename_i msg k q p12 c1 c2 C' c3 c4 c5 vs c6 hi ha hcc hcd
          · obtain ⟨hb, hf⟩ := Option.ite_none_right_eq_some.mp hf
            simp only [Bool.and_eq_true, decide_eq_true_eq] at hb
            obtain ⟨b1, b2, b3, b4, b5, b6, b7, b8, b9, b10, b11⟩ := hb
            cases hf
            subst b1 b2 b3 b4 b5 b6 b10
            split at b11
            · rename_i file tf hvs
              obtain ⟨p1, p2⟩ := p12
              have eb := initPat_ok hi
              have ea := argsPat_ok ha
              subst eb ea
              refine ⟨C', fI, cc, cda, ⟨PySem.W.mg_of X G h1, ?_, h3, h4, h5, h6, h7, h8, h9, h10, h11, h12, h13, h14, h15, h16, h17, h18, PySem.W.mg_none_of X G h19, PySem.W.mg_none_of X G h20, ?_, ?_, ?_, h22⟩, h1⟩
              · split at h2
                · rename_i oC hoC
                  unfold clsPat at h2
                  split at h2
                  · simp only [Bool.and_eq_true, decide_eq_true_eq, Bool.not_eq_true'] at h2
                    obtain ⟨d1, d2, d3, d4, d5, d6⟩ := h2
                    subst d1 d2 d3 d4 d5
                    exact ⟨_, _, _, _, _, _, _, _, _, _, _, _, _, _, _, hoC, d6⟩
                  · cases h2
                · cases h2
              · exact ⟨_, _, doc, pm, an, ct, _, p1, p2, msg, k, q, ⟨b7, b8⟩, ho, b9⟩
              · exact ⟨_, _, _, hcc⟩
              · exact ⟨_, _, vs, _, file, tf, hcd, hvs, b11⟩
            · cases b11
        · cases hf
      · cases hf
  · cases h21
end Pv

end

section
set_option linter.all false
set_option maxRecDepth 100000
set_option Elab.async false
set_option linter.all false
set_option maxRecDepth 100000
/-! Pv26: the head's Hook; the end. -/
namespace Pv
open PySem PySem.Spec PyProof.Rows L2
/-- the written part: what the module reaches, and the room of the kinds -/
def frZ (g : Addr → Option Obj) (n : Nat) : PySem.W.Frag := He.frG g (cStatics :: He.asD g n)
def obsZ (n : Nat) (fa : List He.Fa) (fn : List He.DefD) (ex : PySem.W.Frag → Bool) (g : Addr → Option Obj) : He.AlD × Bool := (He.obsD fa fn (frZ g n), ex (frZ g n))
def hookZ (n : Nat) (fa : List He.Fa) (fn : List He.DefD) (ex : PySem.W.Frag → Bool) : PySem.W.Hook where
  α := He.AlD × Bool
  obs := fun s => obsZ n fa fn ex s.heap.get?
  val := fun _ => (He.valD fn, true)
  says := fun _ h => ∃ K : PySem.W.Frag, K.In h ∧ He.SaysD fa fn K ∧ ex K = true
  of := fun _ _ e => ⟨_, He.frG_in, congrArg (fun z : He.AlD × Bool => z.1) e, congrArg (fun z : He.AlD × Bool => z.2) e⟩
  keeps := fun _ _ _ ⟨K, hK, c⟩ k => ⟨K, PySem.W.Frag.In.keeps hK k, c⟩
theorem obsZ_eq {n : Nat} {fa : List He.Fa} {fn : List He.DefD} {ex : PySem.W.Frag → Bool} {g : Addr → Option Obj} {s : Shared} (h : ∀ a, g a = s.heap.get? a) : obsZ n fa fn ex g = (hookZ n fa fn ex).obs s := by
  have e : g = s.heap.get? := funext h
  rw [e] <;> rfl
section
variable {P : Program} {w : World} {K : PySem.W.Frag} {mg : Str → Option Value} {base : Heap} {k : Nat} {f : Addr} {fd : FuncData} {ps : List Str} {sp : Sp}
theorem to0 (F : FnOk P w K mg base (L2.CX P w) k f fd ps sp) : FnOk P w K mg base CX0 k f fd ps (fun vs H Q _ => sp vs H Q fun _ _ _ => False) :=
  ⟨fun vs H Q E q => F.len _ _ _ _ q, fun A outer s H args us vs Q E hr he hb hv hs => codeAny_mono (F.run A outer s H args us vs Q (fun _ _ _ => False) hr he hb hv hs) fun r s' h => by
    cases r with
    | ok v => cases v <;> exact h
    | error e =>
      obtain ⟨a, B, H', cls, d, _, _, _, _, _, _, _, z⟩ := h
      exact z.elim⟩
variable {p : Pr} {x qual : Str} {params : Arguments} {body : List Stmt} {scope : Scope} {a : Addr} {n : Nat} {b : SV} {I : Info}
/-- the law's function -/
theorem fn_law (F : FunD p.K x qual params body scope [] [] a fd) (Tx : DefT I ps scope params body x qual n b) (T : Tp p P mg I.cons I.exs.isEmpty) (hkt : I.kt = p.kt) (hf : ∀ g ∈ I.fns, FnY p P w mg base k g) :
    FnOk P w p.K mg base CX0 (k + 1) a fd ps (fun vs H Q _ => spP p ps.length (runP ps.length I.N.length b) vs H Q fun _ _ _ => False) := by
  have body_ok : ∀ (cdv : Value) (A : Around) (outer : List Env) (s : Shared) (H : Hp) (E : XK), Room k (A.deeper (envOfC qual scope s.heap.objs.size a cdv)) →
      SSs p (cxOf (L2.CX P w) P w p.K mg base I.N qual scope a cdv A outer s H E) (fun cls d _ H => E cls d H) body b := fun cdv A outer s H E hr =>
    (reader_snd p n).ss _ _ _ Tx.rd _ _ (okx_of T hr Tx.sc.nd Tx.sc.kind hkt Tx.nm Tx.fn hf)
  exact to0 (fn_pure F Tx.sc (le_of Tx.sc) body_ok)
end
end Pv

end

section
set_option linter.all false
set_option maxRecDepth 100000
namespace K54
open PySem PySem.Spec PyProof.Rows L2 Pv
def cons : List (Str × D) := [("ZERO", .tup [.int 0, .tup []]), ("MOST_DIGITS", .int 40)]
def top (i : Nat) : Stmt := PySem.Challenge.pw_knotsooth_k54_texts_of_polynomials.main.body.getD i (.Pass ⟨0, 0, 0, 0⟩)
abbrev s_normal : Stmt := top 5
def I_normal : Info := { N := ["least", "numbers", "first", "last"], names := (defScope s_normal).names, fn := fun _ => true, fns := [], cons := cons, news := [], tks := [], exs := [("WrongText", 0, "place")], kt := kt }
theorem rd_normal : DefT I_normal ["least", "numbers"] (defScope s_normal) (defArgs s_normal) (defBody s_normal) "normal" "normal" 60 b_normal :=
  ⟨⟨rfl, rfl, rfl, by decide +kernel, rfl, by decide +kernel, by decide +kernel⟩, rfl, rfl, by kernel_rfl, fun _ _ _ _ _ _ us hl => match us, hl with | [_, _], _ => rfl⟩
def d_normal : He.DefD := ⟨("normal", none), "normal", "normal", defArgs s_normal, defBody s_normal, defScope s_normal, [], []⟩
abbrev s_from_terms : Stmt := top 6
def I_from_terms : Info := { N := ["terms", "least", "place"], names := (defScope s_from_terms).names, fn := fun _ => true, fns := [⟨"normal", 2, .inl normal_⟩], cons := cons, news := [], tks := [], exs := [("WrongText", 0, "place")], kt := kt }
theorem rd_from_terms : DefT I_from_terms ["terms"] (defScope s_from_terms) (defArgs s_from_terms) (defBody s_from_terms) "from_terms" "from_terms" 60 b_from_terms :=
  ⟨⟨rfl, rfl, rfl, by decide +kernel, rfl, by decide +kernel, by decide +kernel⟩, rfl, rfl, by kernel_rfl, fun _ _ _ _ _ _ us hl => match us, hl with | [_], _ => rfl⟩
def d_from_terms : He.DefD := ⟨("from_terms", none), "from_terms", "from_terms", defArgs s_from_terms, defBody s_from_terms, defScope s_from_terms, [], []⟩
abbrev s_two_from_terms : Stmt := top 8
def I_two_from_terms : Info := { N := ["terms", "pair"], names := (defScope s_two_from_terms).names, fn := fun _ => true, fns := [], cons := cons, news := [], tks := [], exs := [("WrongText", 0, "place")], kt := kt }
theorem rd_two_from_terms : DefT I_two_from_terms ["terms"] (defScope s_two_from_terms) (defArgs s_two_from_terms) (defBody s_two_from_terms) "two_from_terms" "two_from_terms" 60 b_two_from_terms :=
  ⟨⟨rfl, rfl, rfl, by decide +kernel, rfl, by decide +kernel, by decide +kernel⟩, rfl, rfl, by kernel_rfl, fun _ _ _ _ _ _ us hl => match us, hl with | [_], _ => rfl⟩
def d_two_from_terms : He.DefD := ⟨("two_from_terms", none), "two_from_terms", "two_from_terms", defArgs s_two_from_terms, defBody s_two_from_terms, defScope s_two_from_terms, [], []⟩
abbrev s_integer_of : Stmt := top 11
def I_integer_of : Info := { N := ["word", "figures", "sign"], names := (defScope s_integer_of).names, fn := fun _ => true, fns := [], cons := cons, news := [], tks := [], exs := [("WrongText", 0, "place")], kt := kt }
theorem rd_integer_of : DefT I_integer_of ["word"] (defScope s_integer_of) (defArgs s_integer_of) (defBody s_integer_of) "integer_of" "integer_of" 60 b_integer_of :=
  ⟨⟨rfl, rfl, rfl, by decide +kernel, rfl, by decide +kernel, by decide +kernel⟩, rfl, rfl, by kernel_rfl, fun _ _ _ _ _ _ us hl => match us, hl with | [_], _ => rfl⟩
def d_integer_of : He.DefD := ⟨("integer_of", none), "integer_of", "integer_of", defArgs s_integer_of, defBody s_integer_of, defScope s_integer_of, [], []⟩
abbrev s__power_text : Stmt := top 12
def I__power_text : Info := { N := ["letter", "exponent"], names := (defScope s__power_text).names, fn := fun _ => true, fns := [], cons := cons, news := [], tks := [], exs := [("WrongText", 0, "place")], kt := kt }
theorem rd__power_text : DefT I__power_text ["letter", "exponent"] (defScope s__power_text) (defArgs s__power_text) (defBody s__power_text) "_power_text" "_power_text" 60 b__power_text :=
  ⟨⟨rfl, rfl, rfl, by decide +kernel, rfl, by decide +kernel, by decide +kernel⟩, rfl, rfl, by kernel_rfl, fun _ _ _ _ _ _ us hl => match us, hl with | [_, _], _ => rfl⟩
def d__power_text : He.DefD := ⟨("_power_text", none), "_power_text", "_power_text", defArgs s__power_text, defBody s__power_text, defScope s__power_text, [], []⟩
abbrev s__term_text : Stmt := top 13
def I__term_text : Info := { N := ["number", "powers", "parts", "part"], names := (defScope s__term_text).names, fn := fun _ => true, fns := [], cons := cons, news := [], tks := [], exs := [("WrongText", 0, "place")], kt := kt }
theorem rd__term_text : DefT I__term_text ["number", "powers"] (defScope s__term_text) (defArgs s__term_text) (defBody s__term_text) "_term_text" "_term_text" 60 b__term_text :=
  ⟨⟨rfl, rfl, rfl, by decide +kernel, rfl, by decide +kernel, by decide +kernel⟩, rfl, rfl, by kernel_rfl, fun _ _ _ _ _ _ us hl => match us, hl with | [_, _], _ => rfl⟩
def d__term_text : He.DefD := ⟨("_term_text", none), "_term_text", "_term_text", defArgs s__term_text, defBody s__term_text, defScope s__term_text, [], []⟩
abbrev s__sum_text : Stmt := top 14
def I__sum_text : Info := { N := ["terms", "found", "number", "powers", "term"], names := (defScope s__sum_text).names, fn := fun _ => true, fns := [⟨"_term_text", 2, .inl _term_text_⟩], cons := cons, news := [], tks := [], exs := [("WrongText", 0, "place")], kt := kt }
theorem rd__sum_text : DefT I__sum_text ["terms"] (defScope s__sum_text) (defArgs s__sum_text) (defBody s__sum_text) "_sum_text" "_sum_text" 60 b__sum_text :=
  ⟨⟨rfl, rfl, rfl, by decide +kernel, rfl, by decide +kernel, by decide +kernel⟩, rfl, rfl, by kernel_rfl, fun _ _ _ _ _ _ us hl => match us, hl with | [_], _ => rfl⟩
def d__sum_text : He.DefD := ⟨("_sum_text", none), "_sum_text", "_sum_text", defArgs s__sum_text, defBody s__sum_text, defScope s__sum_text, [], []⟩
abbrev s_format_polynomial : Stmt := top 15
def I_format_polynomial : Info := { N := ["one", "letter", "terms", "place", "number"], names := (defScope s_format_polynomial).names, fn := fun _ => true, fns := [⟨"_sum_text", 1, .inl _sum_text_⟩, ⟨"_power_text", 2, .inl _power_text_⟩], cons := cons, news := [(57, 12, 14)], tks := [], exs := [("WrongText", 0, "place")], kt := kt }
theorem rd_format_polynomial : DefT I_format_polynomial ["one", "letter"] (defScope s_format_polynomial) (defArgs s_format_polynomial) (defBody s_format_polynomial) "format_polynomial" "format_polynomial" 60 b_format_polynomial :=
  ⟨⟨rfl, rfl, rfl, by decide +kernel, rfl, by decide +kernel, by decide +kernel⟩, rfl, rfl, by kernel_rfl, fun _ _ _ _ _ _ us hl => match us, hl with | [_, _], _ => rfl⟩
def d_format_polynomial : He.DefD := ⟨("format_polynomial", none), "format_polynomial", "format_polynomial", defArgs s_format_polynomial, defBody s_format_polynomial, defScope s_format_polynomial, [], []⟩
abbrev s_format_two : Stmt := top 16
def I_format_two : Info := { N := ["one", "a", "b", "number"], names := (defScope s_format_two).names, fn := fun _ => true, fns := [⟨"_sum_text", 1, .inl _sum_text_⟩, ⟨"_power_text", 2, .inl _power_text_⟩], cons := cons, news := [], tks := [], exs := [("WrongText", 0, "place")], kt := kt }
theorem rd_format_two : DefT I_format_two ["one"] (defScope s_format_two) (defArgs s_format_two) (defBody s_format_two) "format_two" "format_two" 60 b_format_two :=
  ⟨⟨rfl, rfl, rfl, by decide +kernel, rfl, by decide +kernel, by decide +kernel⟩, rfl, rfl, by kernel_rfl, fun _ _ _ _ _ _ us hl => match us, hl with | [_], _ => rfl⟩
def d_format_two : He.DefD := ⟨("format_two", none), "format_two", "format_two", defArgs s_format_two, defBody s_format_two, defScope s_format_two, [], []⟩
abbrev s__exponent_of : Stmt := top 17
def I__exponent_of : Info := { N := ["word", "letter", "exponent"], names := (defScope s__exponent_of).names, fn := fun _ => true, fns := [⟨"integer_of", 1, .inl integer_of_⟩], cons := cons, news := [], tks := [], exs := [("WrongText", 0, "place")], kt := kt }
theorem rd__exponent_of : DefT I__exponent_of ["word", "letter"] (defScope s__exponent_of) (defArgs s__exponent_of) (defBody s__exponent_of) "_exponent_of" "_exponent_of" 60 b__exponent_of :=
  ⟨⟨rfl, rfl, rfl, by decide +kernel, rfl, by decide +kernel, by decide +kernel⟩, rfl, rfl, by kernel_rfl, fun _ _ _ _ _ _ us hl => match us, hl with | [_, _], _ => rfl⟩
def d__exponent_of : He.DefD := ⟨("_exponent_of", none), "_exponent_of", "_exponent_of", defArgs s__exponent_of, defBody s__exponent_of, defScope s__exponent_of, [], []⟩
abbrev s__term_of : Stmt := top 18
def I__term_of : Info := { N := ["words", "letters", "number", "left", "exponents", "letter", "exponent"], names := (defScope s__term_of).names, fn := fun _ => true, fns := [⟨"integer_of", 1, .inl integer_of_⟩, ⟨"_exponent_of", 2, .inl _exponent_of_⟩], cons := cons, news := [(81, 16, 18)], tks := [], exs := [("WrongText", 0, "place")], kt := kt }
theorem rd__term_of : DefT I__term_of ["words", "letters"] (defScope s__term_of) (defArgs s__term_of) (defBody s__term_of) "_term_of" "_term_of" 60 b__term_of :=
  ⟨⟨rfl, rfl, rfl, by decide +kernel, rfl, by decide +kernel, by decide +kernel⟩, rfl, rfl, by kernel_rfl, fun _ _ _ _ _ _ us hl => match us, hl with | [_, _], _ => rfl⟩
def d__term_of : He.DefD := ⟨("_term_of", none), "_term_of", "_term_of", defArgs s__term_of, defBody s__term_of, defScope s__term_of, [], []⟩
abbrev s__terms_of : Stmt := top 19
def I__terms_of : Info := { N := ["text", "letters", "sign", "found", "words", "word", "term"], names := (defScope s__terms_of).names, fn := fun _ => true, fns := [⟨"_term_of", 2, .inl _term_of_⟩], cons := cons, news := [(95, 12, 14), (96, 12, 14), (104, 20, 22)], tks := [], exs := [("WrongText", 0, "place")], kt := kt }
theorem rd__terms_of : DefT I__terms_of ["text", "letters"] (defScope s__terms_of) (defArgs s__terms_of) (defBody s__terms_of) "_terms_of" "_terms_of" 60 b__terms_of :=
  ⟨⟨rfl, rfl, rfl, by decide +kernel, rfl, by decide +kernel, by decide +kernel⟩, rfl, rfl, by kernel_rfl, fun _ _ _ _ _ _ us hl => match us, hl with | [_, _], _ => rfl⟩
def d__terms_of : He.DefD := ⟨("_terms_of", none), "_terms_of", "_terms_of", defArgs s__terms_of, defBody s__terms_of, defScope s__terms_of, [], []⟩
abbrev s_parse_polynomial : Stmt := top 20
def I_parse_polynomial : Info := { N := ["text", "letter", "terms", "found", "number", "exponents"], names := (defScope s_parse_polynomial).names, fn := fun _ => true, fns := [⟨"_terms_of", 2, .inl _terms_of_⟩, ⟨"from_terms", 1, .inl from_terms_⟩, ⟨"format_polynomial", 2, .inl format_polynomial_⟩], cons := cons, news := [], tks := [], exs := [("WrongText", 0, "place")], kt := kt }
theorem rd_parse_polynomial : DefT I_parse_polynomial ["text", "letter"] (defScope s_parse_polynomial) (defArgs s_parse_polynomial) (defBody s_parse_polynomial) "parse_polynomial" "parse_polynomial" 60 b_parse_polynomial :=
  ⟨⟨rfl, rfl, rfl, by decide +kernel, rfl, by decide +kernel, by decide +kernel⟩, rfl, rfl, by kernel_rfl, fun _ _ _ _ _ _ us hl => match us, hl with | [_, _], _ => rfl⟩
def d_parse_polynomial : He.DefD := ⟨("parse_polynomial", none), "parse_polynomial", "parse_polynomial", defArgs s_parse_polynomial, defBody s_parse_polynomial, defScope s_parse_polynomial, [], []⟩
abbrev s_parse_two : Stmt := top 21
def I_parse_two : Info := { N := ["text", "terms", "found", "number", "exponents"], names := (defScope s_parse_two).names, fn := fun _ => true, fns := [⟨"_terms_of", 2, .inl _terms_of_⟩, ⟨"two_from_terms", 1, .inl two_from_terms_⟩, ⟨"format_two", 1, .inl format_two_⟩], cons := cons, news := [], tks := [(120, 27)], exs := [("WrongText", 0, "place")], kt := kt }
theorem rd_parse_two : DefT I_parse_two ["text"] (defScope s_parse_two) (defArgs s_parse_two) (defBody s_parse_two) "parse_two" "parse_two" 60 b_parse_two :=
  ⟨⟨rfl, rfl, rfl, by decide +kernel, rfl, by decide +kernel, by decide +kernel⟩, rfl, rfl, by kernel_rfl, fun _ _ _ _ _ _ us hl => match us, hl with | [_], _ => rfl⟩
def d_parse_two : He.DefD := ⟨("parse_two", none), "parse_two", "parse_two", defArgs s_parse_two, defBody s_parse_two, defScope s_parse_two, [], []⟩
abbrev s__law_state : Stmt := top 23
def I__law_state : Info := { N := ["script"], names := (defScope s__law_state).names, fn := fun _ => true, fns := [], cons := cons, news := [(126, 11, 46)], tks := [], exs := [("WrongText", 0, "place")], kt := kt }
theorem rd__law_state : DefT I__law_state ["script"] (defScope s__law_state) (defArgs s__law_state) (defBody s__law_state) "_law_state" "_law_state" 60 b__law_state :=
  ⟨⟨rfl, rfl, rfl, by decide +kernel, rfl, by decide +kernel, by decide +kernel⟩, rfl, rfl, by kernel_rfl, fun _ _ _ _ _ _ us hl => match us, hl with | [_], _ => rfl⟩
def d__law_state : He.DefD := ⟨("_law_state", none), "_law_state", "_law_state", defArgs s__law_state, defBody s__law_state, defScope s__law_state, [], []⟩
abbrev s__law_draw : Stmt := top 24
def I__law_draw : Info := { N := ["state", "limit", "mixed", "cell", "digit"], names := (defScope s__law_draw).names, fn := fun _ => true, fns := [], cons := cons, news := [], tks := [], exs := [("WrongText", 0, "place")], kt := kt }
theorem rd__law_draw : DefT I__law_draw ["state", "limit"] (defScope s__law_draw) (defArgs s__law_draw) (defBody s__law_draw) "_law_draw" "_law_draw" 60 b__law_draw :=
  ⟨⟨rfl, rfl, rfl, by decide +kernel, rfl, by decide +kernel, by decide +kernel⟩, rfl, rfl, by kernel_rfl, fun _ _ _ _ _ _ us hl => match us, hl with | [_, _], _ => rfl⟩
def d__law_draw : He.DefD := ⟨("_law_draw", none), "_law_draw", "_law_draw", defArgs s__law_draw, defBody s__law_draw, defScope s__law_draw, [], []⟩
abbrev s__law_poly : Stmt := top 25
def I__law_poly : Info := { N := ["terms", "kept", "least", "place"], names := (defScope s__law_poly).names, fn := fun _ => true, fns := [], cons := cons, news := [], tks := [], exs := [("WrongText", 0, "place")], kt := kt }
theorem rd__law_poly : DefT I__law_poly ["terms"] (defScope s__law_poly) (defArgs s__law_poly) (defBody s__law_poly) "_law_poly" "_law_poly" 60 b__law_poly :=
  ⟨⟨rfl, rfl, rfl, by decide +kernel, rfl, by decide +kernel, by decide +kernel⟩, rfl, rfl, by kernel_rfl, fun _ _ _ _ _ _ us hl => match us, hl with | [_], _ => rfl⟩
def d__law_poly : He.DefD := ⟨("_law_poly", none), "_law_poly", "_law_poly", defArgs s__law_poly, defBody s__law_poly, defScope s__law_poly, [], []⟩
abbrev s__law_drawn_poly : Stmt := top 26
def I__law_drawn_poly : Info := { N := ["state", "most", "terms", "low", "k", "number"], names := (defScope s__law_drawn_poly).names, fn := fun _ => true, fns := [⟨"_law_poly", 1, .inl _law_poly_⟩, ⟨"_law_draw", 2, .inr _law_draw_⟩], cons := cons, news := [], tks := [], exs := [("WrongText", 0, "place")], kt := kt }
theorem rd__law_drawn_poly : DefT I__law_drawn_poly ["state", "most"] (defScope s__law_drawn_poly) (defArgs s__law_drawn_poly) (defBody s__law_drawn_poly) "_law_drawn_poly" "_law_drawn_poly" 60 b__law_drawn_poly :=
  ⟨⟨rfl, rfl, rfl, by decide +kernel, rfl, by decide +kernel, by decide +kernel⟩, rfl, rfl, by kernel_rfl, fun _ _ _ _ _ _ us hl => match us, hl with | [_, _], _ => rfl⟩
def d__law_drawn_poly : He.DefD := ⟨("_law_drawn_poly", none), "_law_drawn_poly", "_law_drawn_poly", defArgs s__law_drawn_poly, defBody s__law_drawn_poly, defScope s__law_drawn_poly, [], []⟩
abbrev s__law_integer : Stmt := top 27
def I__law_integer : Info := { N := ["word", "figures", "number", "sign"], names := (defScope s__law_integer).names, fn := fun _ => true, fns := [], cons := cons, news := [], tks := [], exs := [("WrongText", 0, "place")], kt := kt }
theorem rd__law_integer : DefT I__law_integer ["word"] (defScope s__law_integer) (defArgs s__law_integer) (defBody s__law_integer) "_law_integer" "_law_integer" 60 b__law_integer :=
  ⟨⟨rfl, rfl, rfl, by decide +kernel, rfl, by decide +kernel, by decide +kernel⟩, rfl, rfl, by kernel_rfl, fun _ _ _ _ _ _ us hl => match us, hl with | [_], _ => rfl⟩
def d__law_integer : He.DefD := ⟨("_law_integer", none), "_law_integer", "_law_integer", defArgs s__law_integer, defBody s__law_integer, defScope s__law_integer, [], []⟩
abbrev s__law_power : Stmt := top 28
def I__law_power : Info := { N := ["letter", "exponent"], names := (defScope s__law_power).names, fn := fun _ => true, fns := [], cons := cons, news := [], tks := [], exs := [("WrongText", 0, "place")], kt := kt }
theorem rd__law_power : DefT I__law_power ["letter", "exponent"] (defScope s__law_power) (defArgs s__law_power) (defBody s__law_power) "_law_power" "_law_power" 60 b__law_power :=
  ⟨⟨rfl, rfl, rfl, by decide +kernel, rfl, by decide +kernel, by decide +kernel⟩, rfl, rfl, by kernel_rfl, fun _ _ _ _ _ _ us hl => match us, hl with | [_, _], _ => rfl⟩
def d__law_power : He.DefD := ⟨("_law_power", none), "_law_power", "_law_power", defArgs s__law_power, defBody s__law_power, defScope s__law_power, [], []⟩
abbrev s__law_sum : Stmt := top 29
def I__law_sum : Info := { N := ["terms", "text", "number", "powers", "words", "mark"], names := (defScope s__law_sum).names, fn := fun _ => true, fns := [], cons := cons, news := [], tks := [], exs := [("WrongText", 0, "place")], kt := kt }
theorem rd__law_sum : DefT I__law_sum ["terms"] (defScope s__law_sum) (defArgs s__law_sum) (defBody s__law_sum) "_law_sum" "_law_sum" 60 b__law_sum :=
  ⟨⟨rfl, rfl, rfl, by decide +kernel, rfl, by decide +kernel, by decide +kernel⟩, rfl, rfl, by kernel_rfl, fun _ _ _ _ _ _ us hl => match us, hl with | [_], _ => rfl⟩
def d__law_sum : He.DefD := ⟨("_law_sum", none), "_law_sum", "_law_sum", defArgs s__law_sum, defBody s__law_sum, defScope s__law_sum, [], []⟩
abbrev s__law_one : Stmt := top 30
def I__law_one : Info := { N := ["poly", "letter", "terms", "k"], names := (defScope s__law_one).names, fn := fun _ => true, fns := [⟨"_law_sum", 1, .inl _law_sum_⟩, ⟨"_law_power", 2, .inl _law_power_⟩], cons := cons, news := [(195, 12, 14)], tks := [], exs := [("WrongText", 0, "place")], kt := kt }
theorem rd__law_one : DefT I__law_one ["poly", "letter"] (defScope s__law_one) (defArgs s__law_one) (defBody s__law_one) "_law_one" "_law_one" 60 b__law_one :=
  ⟨⟨rfl, rfl, rfl, by decide +kernel, rfl, by decide +kernel, by decide +kernel⟩, rfl, rfl, by kernel_rfl, fun _ _ _ _ _ _ us hl => match us, hl with | [_, _], _ => rfl⟩
def d__law_one : He.DefD := ⟨("_law_one", none), "_law_one", "_law_one", defArgs s__law_one, defBody s__law_one, defScope s__law_one, [], []⟩
abbrev s__law_two : Stmt := top 31
def I__law_two : Info := { N := ["poly", "a", "b", "number"], names := (defScope s__law_two).names, fn := fun _ => true, fns := [⟨"_law_sum", 1, .inl _law_sum_⟩, ⟨"_law_power", 2, .inl _law_power_⟩], cons := cons, news := [], tks := [], exs := [("WrongText", 0, "place")], kt := kt }
theorem rd__law_two : DefT I__law_two ["poly"] (defScope s__law_two) (defArgs s__law_two) (defBody s__law_two) "_law_two" "_law_two" 60 b__law_two :=
  ⟨⟨rfl, rfl, rfl, by decide +kernel, rfl, by decide +kernel, by decide +kernel⟩, rfl, rfl, by kernel_rfl, fun _ _ _ _ _ _ us hl => match us, hl with | [_], _ => rfl⟩
def d__law_two : He.DefD := ⟨("_law_two", none), "_law_two", "_law_two", defArgs s__law_two, defBody s__law_two, defScope s__law_two, [], []⟩
abbrev s__law_exponent : Stmt := top 32
def I__law_exponent : Info := { N := ["word", "letter"], names := (defScope s__law_exponent).names, fn := fun _ => true, fns := [⟨"_law_integer", 1, .inl _law_integer_⟩], cons := cons, news := [], tks := [], exs := [("WrongText", 0, "place")], kt := kt }
theorem rd__law_exponent : DefT I__law_exponent ["word", "letter"] (defScope s__law_exponent) (defArgs s__law_exponent) (defBody s__law_exponent) "_law_exponent" "_law_exponent" 60 b__law_exponent :=
  ⟨⟨rfl, rfl, rfl, by decide +kernel, rfl, by decide +kernel, by decide +kernel⟩, rfl, rfl, by kernel_rfl, fun _ _ _ _ _ _ us hl => match us, hl with | [_, _], _ => rfl⟩
def d__law_exponent : He.DefD := ⟨("_law_exponent", none), "_law_exponent", "_law_exponent", defArgs s__law_exponent, defBody s__law_exponent, defScope s__law_exponent, [], []⟩
abbrev s__law_terms_of : Stmt := top 33
def I__law_terms_of : Info := { N := ["text", "letters", "sign", "terms", "words", "word", "number", "place", "letter", "exponent"], names := (defScope s__law_terms_of).names, fn := fun _ => true, fns := [⟨"_law_integer", 1, .inl _law_integer_⟩, ⟨"_law_exponent", 2, .inl _law_exponent_⟩], cons := cons, news := [(216, 12, 14), (226, 20, 29), (227, 16, 18), (232, 24, 33)], tks := [(210, 15), (215, 12)], exs := [("WrongText", 0, "place")], kt := kt }
theorem rd__law_terms_of : DefT I__law_terms_of ["text", "letters"] (defScope s__law_terms_of) (defArgs s__law_terms_of) (defBody s__law_terms_of) "_law_terms_of" "_law_terms_of" 60 b__law_terms_of :=
  ⟨⟨rfl, rfl, rfl, by decide +kernel, rfl, by decide +kernel, by decide +kernel⟩, rfl, rfl, by kernel_rfl, fun _ _ _ _ _ _ us hl => match us, hl with | [_, _], _ => rfl⟩
def d__law_terms_of : He.DefD := ⟨("_law_terms_of", none), "_law_terms_of", "_law_terms_of", defArgs s__law_terms_of, defBody s__law_terms_of, defScope s__law_terms_of, [], []⟩
abbrev s__law_turned : Stmt := top 34
def I__law_turned : Info := { N := ["state", "text", "parts", "at", "wrong", "kind"], names := (defScope s__law_turned).names, fn := fun _ => true, fns := [⟨"_law_draw", 2, .inr _law_draw_⟩], cons := cons, news := [], tks := [], exs := [("WrongText", 0, "place")], kt := kt }
theorem rd__law_turned : DefT I__law_turned ["state", "text"] (defScope s__law_turned) (defArgs s__law_turned) (defBody s__law_turned) "_law_turned" "_law_turned" 60 b__law_turned :=
  ⟨⟨rfl, rfl, rfl, by decide +kernel, rfl, by decide +kernel, by decide +kernel⟩, rfl, rfl, by kernel_rfl, fun _ _ _ _ _ _ us hl => match us, hl with | [_, _], _ => rfl⟩
def d__law_turned : He.DefD := ⟨("_law_turned", none), "_law_turned", "_law_turned", defArgs s__law_turned, defBody s__law_turned, defScope s__law_turned, [], []⟩
abbrev s__law_read : Stmt := top 35
def I__law_read : Info := { N := ["text", "letter", "e"], names := (defScope s__law_read).names, fn := fun _ => true, fns := [⟨"parse_polynomial", 2, .inl parse_polynomial_⟩, ⟨"parse_two", 1, .inl parse_two_⟩], cons := cons, news := [], tks := [], exs := [("WrongText", 0, "place")], kt := kt }
theorem rd__law_read : DefT I__law_read ["text", "letter"] (defScope s__law_read) (defArgs s__law_read) (defBody s__law_read) "_law_read" "_law_read" 60 b__law_read :=
  ⟨⟨rfl, rfl, rfl, by decide +kernel, rfl, by decide +kernel, by decide +kernel⟩, rfl, rfl, by kernel_rfl, fun _ _ _ _ _ _ us hl => match us, hl with | [_, _], _ => rfl⟩
def d__law_read : He.DefD := ⟨("_law_read", none), "_law_read", "_law_read", defArgs s__law_read, defBody s__law_read, defScope s__law_read, [], []⟩
abbrev s__law_due : Stmt := top 36
def I__law_due : Info := { N := ["text", "letter", "terms", "flat", "place", "poly"], names := (defScope s__law_due).names, fn := fun _ => true, fns := [⟨"_law_terms_of", 2, .inl _law_terms_of_⟩, ⟨"_law_poly", 1, .inl _law_poly_⟩, ⟨"_law_one", 2, .inl _law_one_⟩, ⟨"_law_two", 1, .inl _law_two_⟩], cons := cons, news := [], tks := [], exs := [("WrongText", 0, "place")], kt := kt }
theorem rd__law_due : DefT I__law_due ["text", "letter"] (defScope s__law_due) (defArgs s__law_due) (defBody s__law_due) "_law_due" "_law_due" 60 b__law_due :=
  ⟨⟨rfl, rfl, rfl, by decide +kernel, rfl, by decide +kernel, by decide +kernel⟩, rfl, rfl, by kernel_rfl, fun _ _ _ _ _ _ us hl => match us, hl with | [_, _], _ => rfl⟩
def d__law_due : He.DefD := ⟨("_law_due", none), "_law_due", "_law_due", defArgs s__law_due, defBody s__law_due, defScope s__law_due, [], []⟩
abbrev s_law : Stmt := top 37
def I_law : Info := { N := ["script", "state", "k", "letter", "one", "text", "terms", "j", "two", "other", "turned", "pair"], names := (defScope s_law).names, fn := fun _ => true, fns := [⟨"_law_state", 1, .inr _law_state_⟩, ⟨"_law_drawn_poly", 2, .inr _law_drawn_poly_⟩, ⟨"_law_one", 2, .inl _law_one_⟩, ⟨"_law_two", 1, .inl _law_two_⟩, ⟨"_law_draw", 2, .inr _law_draw_⟩, ⟨"_law_turned", 2, .inr _law_turned_⟩, ⟨"_law_read", 2, .inl _law_read_⟩, ⟨"format_polynomial", 2, .inl format_polynomial_⟩, ⟨"format_two", 1, .inl format_two_⟩, ⟨"_law_due", 2, .inl _law_due_⟩], cons := cons, news := [], tks := [(283, 16)], exs := [("WrongText", 0, "place")], kt := kt }
theorem rd_law : DefT I_law ["script"] (defScope s_law) (defArgs s_law) (defBody s_law) "law" "law" 60 b_law :=
  ⟨⟨rfl, rfl, rfl, by decide +kernel, rfl, by decide +kernel, by decide +kernel⟩, rfl, rfl, by kernel_rfl, fun _ _ _ _ _ _ us hl => match us, hl with | [_], _ => rfl⟩
def d_law : He.DefD := ⟨("law", none), "law", "law", defArgs s_law, defBody s_law, defScope s_law, [], []⟩

abbrev RW := PySem.Challenge.rw_knotsooth_k54_texts_of_polynomials
def fns : List He.DefD := ([d_normal, d_from_terms, d_two_from_terms, d_integer_of, d__power_text, d__term_text, d__sum_text, d_format_polynomial, d_format_two, d__exponent_of, d__term_of, d__terms_of, d_parse_polynomial, d_parse_two, d__law_state, d__law_draw, d__law_poly, d__law_drawn_poly, d__law_integer, d__law_power] : List He.DefD) ++ ([d__law_sum, d__law_one, d__law_two, d__law_exponent, d__law_terms_of, d__law_turned, d__law_read, d__law_due, d_law] : List He.DefD)
def fa : List He.Fa := ([.glo "normal", .glo "from_terms", .glo "two_from_terms", .glo "integer_of", .glo "_power_text", .glo "_term_text", .glo "_sum_text", .glo "format_polynomial", .glo "format_two", .glo "_exponent_of", .glo "_term_of", .glo "_terms_of", .glo "parse_polynomial", .glo "parse_two", .glo "_law_state", .glo "_law_draw", .glo "_law_poly", .glo "_law_drawn_poly", .glo "_law_integer", .glo "_law_power"] : List He.Fa) ++ ([.glo "_law_sum", .glo "_law_one", .glo "_law_two", .glo "_law_exponent", .glo "_law_terms_of", .glo "_law_turned", .glo "_law_read", .glo "_law_due", .glo "law"] : List He.Fa)
abbrev R : PySem.W.OpenRow := PySem.W.OpenLaw.row RW
def ex (K : PySem.W.Frag) : Bool := Pv.consB kt cons K && (Pv.freesB K && Pv.wtB R.prog K)
abbrev hk : PySem.W.Hook := Pv.hookZ 7 fa fns ex
def ob (s : PySem.W.SharedT) : He.AlD × Bool := Pv.obsZ 7 fa fns ex (HandSHeadRun.getT s)
theorem ob_eq (s : PySem.W.SharedT) : ob s = hk.obs s.abs := Pv.obsZ_eq (HandSHeadRun.getT_eq s)
def loose : List PySem.Str := (["__name__", "KnotError", "WrongText", "ZERO", "normal", "from_terms", "two_from_terms", "MOST_DIGITS", "integer_of", "_power_text", "_term_text", "_sum_text", "format_polynomial", "format_two", "_exponent_of", "_term_of", "_terms_of", "parse_polynomial", "parse_two", "_law_state"] : List PySem.Str) ++ (["_law_draw", "_law_poly", "_law_drawn_poly", "_law_integer", "_law_power", "_law_sum", "_law_one", "_law_two", "_law_exponent", "_law_terms_of", "_law_turned", "_law_read", "_law_due"] : List PySem.Str)
theorem run (w : World) : HandSHeadRun.RunEq R (PySem.W.view R.prog [37]) hk ob 4000 loose w := by
  intro os
  kernel_rfl
section
variable {w : World} {K : PySem.W.Frag} {h : Heap} {mg : Str → Option Value}
abbrev pr (K : PySem.W.Frag) : Pr := ⟨kt, K, xrWt K⟩
theorem facts (X : K.In h) (G : h.Ns mainGlobals mg) (c : He.SaysD fa fns K) (hx : ex K = true) : ∃ fd : FuncData, (∀ (s : Shared) (v : Value), BindsTo s fd ⟨[v], []⟩ [("script", v)]) ∧ ∀ base : Heap, FnOk R.prog w K mg base CX0 7 (He.ga K "law") fd ["script"] (fun vs H Q _ => spP (pr K) 1 law_ vs H Q fun _ _ _ => False) := by
  unfold ex at hx
  simp only [Bool.and_eq_true] at hx
  obtain ⟨hc, hf, hw⟩ := hx
  have T : Tp (pr K) R.prog mg cons false := tp_of X G hc hf fun _ => ⟨rfl, wtB_ok X G hw⟩
  obtain ⟨fdL, FL⟩ := c.def_ 28 (d := d_law) rfl
  refine ⟨fdL, fun s v => FunD.bindsA FL rd_law.bd s [v] rfl, fun base => ?_⟩
  have y_normal : FnY (pr K) R.prog w mg base 1 ⟨"normal", 2, .inl normal_⟩ := by
    obtain ⟨fd, F⟩ := c.def_ 0 (d := d_normal) rfl
    exact (fn_y F (He.glo_ok X G (c.fact 0 (f := .glo "normal") rfl)) rd_normal T rfl (List.forall_mem_nil _)).1
  have y_from_terms : FnY (pr K) R.prog w mg base 2 ⟨"from_terms", 1, .inl from_terms_⟩ := by
    obtain ⟨fd, F⟩ := c.def_ 1 (d := d_from_terms) rfl
    exact (fn_y F (He.glo_ok X G (c.fact 1 (f := .glo "from_terms") rfl)) rd_from_terms T rfl (List.forall_mem_cons.mpr ⟨y_normal.mono (by decide), List.forall_mem_nil _⟩)).1
  have y_two_from_terms : FnY (pr K) R.prog w mg base 1 ⟨"two_from_terms", 1, .inl two_from_terms_⟩ := by
    obtain ⟨fd, F⟩ := c.def_ 2 (d := d_two_from_terms) rfl
    exact (fn_y F (He.glo_ok X G (c.fact 2 (f := .glo "two_from_terms") rfl)) rd_two_from_terms T rfl (List.forall_mem_nil _)).1
  have y_integer_of : FnY (pr K) R.prog w mg base 1 ⟨"integer_of", 1, .inl integer_of_⟩ := by
    obtain ⟨fd, F⟩ := c.def_ 3 (d := d_integer_of) rfl
    exact (fn_y F (He.glo_ok X G (c.fact 3 (f := .glo "integer_of") rfl)) rd_integer_of T rfl (List.forall_mem_nil _)).1
  have y__power_text : FnY (pr K) R.prog w mg base 1 ⟨"_power_text", 2, .inl _power_text_⟩ := by
    obtain ⟨fd, F⟩ := c.def_ 4 (d := d__power_text) rfl
    exact (fn_y F (He.glo_ok X G (c.fact 4 (f := .glo "_power_text") rfl)) rd__power_text T rfl (List.forall_mem_nil _)).1
  have y__term_text : FnY (pr K) R.prog w mg base 1 ⟨"_term_text", 2, .inl _term_text_⟩ := by
    obtain ⟨fd, F⟩ := c.def_ 5 (d := d__term_text) rfl
    exact (fn_y F (He.glo_ok X G (c.fact 5 (f := .glo "_term_text") rfl)) rd__term_text T rfl (List.forall_mem_nil _)).1
  have y__sum_text : FnY (pr K) R.prog w mg base 2 ⟨"_sum_text", 1, .inl _sum_text_⟩ := by
    obtain ⟨fd, F⟩ := c.def_ 6 (d := d__sum_text) rfl
    exact (fn_y F (He.glo_ok X G (c.fact 6 (f := .glo "_sum_text") rfl)) rd__sum_text T rfl (List.forall_mem_cons.mpr ⟨y__term_text.mono (by decide), List.forall_mem_nil _⟩)).1
  have y_format_polynomial : FnY (pr K) R.prog w mg base 3 ⟨"format_polynomial", 2, .inl format_polynomial_⟩ := by
    obtain ⟨fd, F⟩ := c.def_ 7 (d := d_format_polynomial) rfl
    exact (fn_y F (He.glo_ok X G (c.fact 7 (f := .glo "format_polynomial") rfl)) rd_format_polynomial T rfl (List.forall_mem_cons.mpr ⟨y__sum_text.mono (by decide), List.forall_mem_cons.mpr ⟨y__power_text.mono (by decide), List.forall_mem_nil _⟩⟩)).1
  have y_format_two : FnY (pr K) R.prog w mg base 3 ⟨"format_two", 1, .inl format_two_⟩ := by
    obtain ⟨fd, F⟩ := c.def_ 8 (d := d_format_two) rfl
    exact (fn_y F (He.glo_ok X G (c.fact 8 (f := .glo "format_two") rfl)) rd_format_two T rfl (List.forall_mem_cons.mpr ⟨y__sum_text.mono (by decide), List.forall_mem_cons.mpr ⟨y__power_text.mono (by decide), List.forall_mem_nil _⟩⟩)).1
  have y__exponent_of : FnY (pr K) R.prog w mg base 2 ⟨"_exponent_of", 2, .inl _exponent_of_⟩ := by
    obtain ⟨fd, F⟩ := c.def_ 9 (d := d__exponent_of) rfl
    exact (fn_y F (He.glo_ok X G (c.fact 9 (f := .glo "_exponent_of") rfl)) rd__exponent_of T rfl (List.forall_mem_cons.mpr ⟨y_integer_of.mono (by decide), List.forall_mem_nil _⟩)).1
  have y__term_of : FnY (pr K) R.prog w mg base 3 ⟨"_term_of", 2, .inl _term_of_⟩ := by
    obtain ⟨fd, F⟩ := c.def_ 10 (d := d__term_of) rfl
    exact (fn_y F (He.glo_ok X G (c.fact 10 (f := .glo "_term_of") rfl)) rd__term_of T rfl (List.forall_mem_cons.mpr ⟨y_integer_of.mono (by decide), List.forall_mem_cons.mpr ⟨y__exponent_of.mono (by decide), List.forall_mem_nil _⟩⟩)).1
  have y__terms_of : FnY (pr K) R.prog w mg base 4 ⟨"_terms_of", 2, .inl _terms_of_⟩ := by
    obtain ⟨fd, F⟩ := c.def_ 11 (d := d__terms_of) rfl
    exact (fn_y F (He.glo_ok X G (c.fact 11 (f := .glo "_terms_of") rfl)) rd__terms_of T rfl (List.forall_mem_cons.mpr ⟨y__term_of.mono (by decide), List.forall_mem_nil _⟩)).1
  have y_parse_polynomial : FnY (pr K) R.prog w mg base 5 ⟨"parse_polynomial", 2, .inl parse_polynomial_⟩ := by
    obtain ⟨fd, F⟩ := c.def_ 12 (d := d_parse_polynomial) rfl
    exact (fn_y F (He.glo_ok X G (c.fact 12 (f := .glo "parse_polynomial") rfl)) rd_parse_polynomial T rfl (List.forall_mem_cons.mpr ⟨y__terms_of.mono (by decide), List.forall_mem_cons.mpr ⟨y_from_terms.mono (by decide), List.forall_mem_cons.mpr ⟨y_format_polynomial.mono (by decide), List.forall_mem_nil _⟩⟩⟩)).1
  have y_parse_two : FnY (pr K) R.prog w mg base 5 ⟨"parse_two", 1, .inl parse_two_⟩ := by
    obtain ⟨fd, F⟩ := c.def_ 13 (d := d_parse_two) rfl
    exact (fn_y F (He.glo_ok X G (c.fact 13 (f := .glo "parse_two") rfl)) rd_parse_two T rfl (List.forall_mem_cons.mpr ⟨y__terms_of.mono (by decide), List.forall_mem_cons.mpr ⟨y_two_from_terms.mono (by decide), List.forall_mem_cons.mpr ⟨y_format_two.mono (by decide), List.forall_mem_nil _⟩⟩⟩)).1
  have y__law_state : FnY (pr K) R.prog w mg base 1 ⟨"_law_state", 1, .inr _law_state_⟩ := by
    obtain ⟨fd, F⟩ := c.def_ 14 (d := d__law_state) rfl
    exact (fn_y F (He.glo_ok X G (c.fact 14 (f := .glo "_law_state") rfl)) rd__law_state T rfl (List.forall_mem_nil _)).2
  have y__law_draw : FnY (pr K) R.prog w mg base 1 ⟨"_law_draw", 2, .inr _law_draw_⟩ := by
    obtain ⟨fd, F⟩ := c.def_ 15 (d := d__law_draw) rfl
    exact (fn_y F (He.glo_ok X G (c.fact 15 (f := .glo "_law_draw") rfl)) rd__law_draw T rfl (List.forall_mem_nil _)).2
  have y__law_poly : FnY (pr K) R.prog w mg base 1 ⟨"_law_poly", 1, .inl _law_poly_⟩ := by
    obtain ⟨fd, F⟩ := c.def_ 16 (d := d__law_poly) rfl
    exact (fn_y F (He.glo_ok X G (c.fact 16 (f := .glo "_law_poly") rfl)) rd__law_poly T rfl (List.forall_mem_nil _)).1
  have y__law_drawn_poly : FnY (pr K) R.prog w mg base 2 ⟨"_law_drawn_poly", 2, .inr _law_drawn_poly_⟩ := by
    obtain ⟨fd, F⟩ := c.def_ 17 (d := d__law_drawn_poly) rfl
    exact (fn_y F (He.glo_ok X G (c.fact 17 (f := .glo "_law_drawn_poly") rfl)) rd__law_drawn_poly T rfl (List.forall_mem_cons.mpr ⟨y__law_poly.mono (by decide), List.forall_mem_cons.mpr ⟨y__law_draw.mono (by decide), List.forall_mem_nil _⟩⟩)).2
  have y__law_integer : FnY (pr K) R.prog w mg base 1 ⟨"_law_integer", 1, .inl _law_integer_⟩ := by
    obtain ⟨fd, F⟩ := c.def_ 18 (d := d__law_integer) rfl
    exact (fn_y F (He.glo_ok X G (c.fact 18 (f := .glo "_law_integer") rfl)) rd__law_integer T rfl (List.forall_mem_nil _)).1
  have y__law_power : FnY (pr K) R.prog w mg base 1 ⟨"_law_power", 2, .inl _law_power_⟩ := by
    obtain ⟨fd, F⟩ := c.def_ 19 (d := d__law_power) rfl
    exact (fn_y F (He.glo_ok X G (c.fact 19 (f := .glo "_law_power") rfl)) rd__law_power T rfl (List.forall_mem_nil _)).1
  have y__law_sum : FnY (pr K) R.prog w mg base 1 ⟨"_law_sum", 1, .inl _law_sum_⟩ := by
    obtain ⟨fd, F⟩ := c.def_ 20 (d := d__law_sum) rfl
    exact (fn_y F (He.glo_ok X G (c.fact 20 (f := .glo "_law_sum") rfl)) rd__law_sum T rfl (List.forall_mem_nil _)).1
  have y__law_one : FnY (pr K) R.prog w mg base 2 ⟨"_law_one", 2, .inl _law_one_⟩ := by
    obtain ⟨fd, F⟩ := c.def_ 21 (d := d__law_one) rfl
    exact (fn_y F (He.glo_ok X G (c.fact 21 (f := .glo "_law_one") rfl)) rd__law_one T rfl (List.forall_mem_cons.mpr ⟨y__law_sum.mono (by decide), List.forall_mem_cons.mpr ⟨y__law_power.mono (by decide), List.forall_mem_nil _⟩⟩)).1
  have y__law_two : FnY (pr K) R.prog w mg base 2 ⟨"_law_two", 1, .inl _law_two_⟩ := by
    obtain ⟨fd, F⟩ := c.def_ 22 (d := d__law_two) rfl
    exact (fn_y F (He.glo_ok X G (c.fact 22 (f := .glo "_law_two") rfl)) rd__law_two T rfl (List.forall_mem_cons.mpr ⟨y__law_sum.mono (by decide), List.forall_mem_cons.mpr ⟨y__law_power.mono (by decide), List.forall_mem_nil _⟩⟩)).1
  have y__law_exponent : FnY (pr K) R.prog w mg base 2 ⟨"_law_exponent", 2, .inl _law_exponent_⟩ := by
    obtain ⟨fd, F⟩ := c.def_ 23 (d := d__law_exponent) rfl
    exact (fn_y F (He.glo_ok X G (c.fact 23 (f := .glo "_law_exponent") rfl)) rd__law_exponent T rfl (List.forall_mem_cons.mpr ⟨y__law_integer.mono (by decide), List.forall_mem_nil _⟩)).1
  have y__law_terms_of : FnY (pr K) R.prog w mg base 3 ⟨"_law_terms_of", 2, .inl _law_terms_of_⟩ := by
    obtain ⟨fd, F⟩ := c.def_ 24 (d := d__law_terms_of) rfl
    exact (fn_y F (He.glo_ok X G (c.fact 24 (f := .glo "_law_terms_of") rfl)) rd__law_terms_of T rfl (List.forall_mem_cons.mpr ⟨y__law_integer.mono (by decide), List.forall_mem_cons.mpr ⟨y__law_exponent.mono (by decide), List.forall_mem_nil _⟩⟩)).1
  have y__law_turned : FnY (pr K) R.prog w mg base 2 ⟨"_law_turned", 2, .inr _law_turned_⟩ := by
    obtain ⟨fd, F⟩ := c.def_ 25 (d := d__law_turned) rfl
    exact (fn_y F (He.glo_ok X G (c.fact 25 (f := .glo "_law_turned") rfl)) rd__law_turned T rfl (List.forall_mem_cons.mpr ⟨y__law_draw.mono (by decide), List.forall_mem_nil _⟩)).2
  have y__law_read : FnY (pr K) R.prog w mg base 6 ⟨"_law_read", 2, .inl _law_read_⟩ := by
    obtain ⟨fd, F⟩ := c.def_ 26 (d := d__law_read) rfl
    exact (fn_y F (He.glo_ok X G (c.fact 26 (f := .glo "_law_read") rfl)) rd__law_read T rfl (List.forall_mem_cons.mpr ⟨y_parse_polynomial.mono (by decide), List.forall_mem_cons.mpr ⟨y_parse_two.mono (by decide), List.forall_mem_nil _⟩⟩)).1
  have y__law_due : FnY (pr K) R.prog w mg base 4 ⟨"_law_due", 2, .inl _law_due_⟩ := by
    obtain ⟨fd, F⟩ := c.def_ 27 (d := d__law_due) rfl
    exact (fn_y F (He.glo_ok X G (c.fact 27 (f := .glo "_law_due") rfl)) rd__law_due T rfl (List.forall_mem_cons.mpr ⟨y__law_terms_of.mono (by decide), List.forall_mem_cons.mpr ⟨y__law_poly.mono (by decide), List.forall_mem_cons.mpr ⟨y__law_one.mono (by decide), List.forall_mem_cons.mpr ⟨y__law_two.mono (by decide), List.forall_mem_nil _⟩⟩⟩⟩)).1
  exact fn_law FL rd_law T rfl (List.forall_mem_cons.mpr ⟨y__law_state.mono (by decide), List.forall_mem_cons.mpr ⟨y__law_drawn_poly.mono (by decide), List.forall_mem_cons.mpr ⟨y__law_one.mono (by decide), List.forall_mem_cons.mpr ⟨y__law_two.mono (by decide), List.forall_mem_cons.mpr ⟨y__law_draw.mono (by decide), List.forall_mem_cons.mpr ⟨y__law_turned.mono (by decide), List.forall_mem_cons.mpr ⟨y__law_read.mono (by decide), List.forall_mem_cons.mpr ⟨y_format_polynomial.mono (by decide), List.forall_mem_cons.mpr ⟨y_format_two.mono (by decide), List.forall_mem_cons.mpr ⟨y__law_due.mono (by decide), List.forall_mem_nil _⟩⟩⟩⟩⟩⟩⟩⟩⟩⟩)
end
theorem holds_of (H : ∀ ns : List Int, ns.length ≤ 63 → law_ [.scr (ns.map .int)] = Pv.P.ok (.bl true)) (hw : RW.row.toRowW.promised) : RW.row.Holds := by
  refine HandSHeadRun.head_any (r := R) (q := PySem.W.view R.prog [37]) (H := hk) (ob := ob) (M := 4000) (loose := loose) (d := HandSHeadRun.topDef R.prog 37) (kwd := []) ob_eq
    (by kernel_rfl) (fun s => by kernel_rfl) run (by kernel_rfl) (by kernel_rfl) (by kernel_rfl) (by rfl) (by first | assumption | decide +kernel) (by decide +kernel) ⟨rfl, rfl, rfl, rfl, rfl, by decide +kernel⟩ hw ?hc
  refine L2.walk_ofE (l := RW) (n := 63) (k := 7) (x := "script") (CX := L2.CX0) rfl (by decide) (by kernel_rfl) ⟨rfl, by decide, by decide⟩ ?F (fun _ _ _ _ z => z)
  intro w mg fa' h Y G hmg0
  obtain ⟨K, KX, c, hx⟩ := Y
  have hmg : mg ("law" : PySem.Str) = some (.ref fa') := by
    have e : (HandSHeadRun.topDef R.prog 37).name = ("law" : PySem.Str) := by kernel_rfl
    rw [← e]
    exact hmg0
  obtain ⟨fd, hb, hF⟩ := facts (w := w) KX G c hx
  cases hmg.symm.trans (He.glo_ok KX G (c.fact 28 (f := .glo "law") rfl))
  exact ⟨K, fd, fun vs H Q _ => spP (pr K) 1 law_ vs H Q fun _ _ _ => False, KX, hb, fun H' a ns hl hO hS => law_sp (p := pr K) hO hS (H ns hl), fun base _ _ => hF base⟩

end K54
end

open PySem PySem.W PySem.Calls PyProof.Rows
set_option maxRecDepth 100000 in
set_option maxHeartbeats 0 in
theorem PySem.Challenge.cw_knotsooth_k54_texts_of_polynomials_holds : PySem.Challenge.rw_knotsooth_k54_texts_of_polynomials.Holds := by
  w_on; o_law
  refine K54.holds_of K54.law_ok ?hw
  case hw => w_witness2
